import Derived.Test.YtpojdjgcpgnaeaaGreatDoorMPC
import Derived.Test.YtpojdjgcpgnaeaaGreatDoorMPD
import Derived.Test.YtpojdjgcpgnaeaaGreatDoorMPE
import Derived.Test.YtpojdjgcpgnaeaaGreatDoorMPF
import Derived.Test.YtpojdjgcpgnaeaaGreatDoorMPG
import Derived.Test.YtpojdjgcpgnaeaaGreatDoorMPH
import Derived.Test.YtpojdjgcpgnaeaaGreatDoorCards
import Derived.Test.YtpojdjgcpgnaeaaGreatDoorTie
import Derived.Seven
/-
 The law AimMeets returns true for all arguments whose bulk is at most 1048576,and the arguments read as before.
-/
set_option maxRecDepth 100000
set_option linter.unusedSimpArgs false
set_option linter.unusedVariables false
set_option linter.unusedSectionVars false
namespace Go.Proofs.YtpojdjgcpgnaeaaGreatDoor.aimMeets
open Go.az
theorem params:Tryz.f3.params.toList=[29,32]:=k_
theorem Cg{H:Type}{W:World}{a:List (DataW H)}(d:a.length=2)(c:Rows.uptoSmall H (a++[])=true)(h:∀p∈Tryz.f3.params.toList.zip a,∃cs,aX Tryz.prog W (fun k=>k<W.heap.size) (bM Tryz.prog 8 p.1 p.2) cs):
 aq Tryz.prog 3 (tg Tryz.prog 8 Tryz.f3.params.toList a) (.bool true):=by
 rw[params]at h⊢
 match a,d with
 |[d1,d2],_=>
  have c:=rA.bound c
  simp only[List.append_nil,Rows.uptoBulkAll]at c
  obtain⟨x1,e1,e,y1⟩:=UB (h (29,d1) (.head _)) (show Rows.uptoBulk d1<=1048576 by omega)
  obtain⟨x2,e2,f,y2⟩:=ZG (h (32,d2) (.tail _ (.head _))) (show Rows.uptoBulk d2<=1048576 by omega)
  simp only[tg,e1,e2]
  exact UL Zm x1.t x1.b x1.aU x1.bI x2 y1.t y1.b y2
theorem Oh:Rows.aimMeetsUptoRow.laid=Rows.aimMeetsUptoRow.laid:=k_
theorem reads(os:Os){H:Type}(a:TypeId×Value->H):∃b,DataW.whole a Tryz.prog ((Ad os).forCall (fun _ _=>0) ⟨#[],#[Value.agg #[.slice none 0 0,.int .i64 0,.slice none 0 0,.slice none 0 0,.slice none 0 0,Value.string ⟨#[]⟩,Value.string ⟨#[]⟩],Value.agg #[Value.string ⟨#[]⟩,Value.string ⟨#[]⟩]],[]⟩).memory Tryz.f3.params.toList Rows.aimMeetsSpec.vars false #[Value.agg #[.slice none 0 0,.int .i64 0,.slice none 0 0,.slice none 0 0,.slice none 0 0,Value.string ⟨#[]⟩,Value.string ⟨#[]⟩],Value.agg #[Value.string ⟨#[]⟩,Value.string ⟨#[]⟩]].toList 8=some ([.agg [.agg [.nil,.lit (.int .i64 0),.nil,.nil],.nil,.lit (.string []),.lit (.string [])],.agg [.lit (.string []),.lit (.string [])]],[],b):=
 ⟨[],k_⟩
theorem Ep(H:Type)(i:TypeId×Value->H)(W:World)(f:Nat)(args:Array Value)(a b:List (DataW H))(o:List MemPlace)
 (l:∀(j:Nat) t v,Tryz.f3.params[j]?=some t->args[j]?=some v->Value.okWide Tryz.prog W .any f t v)
 (c:DataW.Whole i Tryz.prog Tryz.f3.params.toList Rows.aimMeetsSpec.vars false W args.toList a b o)(hk:Rows.uptoSmall H (a++b)=true)(k:laidMetH Tryz.prog Rows.aimMeetsUptoRow.laid W):
 Calls Tryz.prog 3 args W fun e m=>∃v,e= .returned v/\Rows.aimMeetsSpec.post i Tryz.prog Tryz.f3 false true false false W args v m:=by
 rw[Oh]at k
 have w:b=[]:=by
  obtain⟨p,q,_,u,_⟩:=c
  cases b with
  |nil=>rfl
  |cons g b=>exact u.elim
 have x:a.length=2:=by
  obtain⟨p,q,s,_⟩:=c
  have:=(D2 (n:=8) (base:=f) (r:= .any) (by rw[params];decide+kernel) s (fun j t v y z=>l j t v (by simpa using y) (by simpa using z))).2
  rw[this,params];rfl
 subst w
 exact Vu (n:=8) (T:=(·<Tryz.prog.types.size)) (tb:=4) rfl
  (fun H a d=>by
   have d:a.length=2:=d.trans k_
   match a,d with
   |[d1,d2],_=>exact⟨rfl,rfl,rfl⟩)
  azw aow (by rw[params];decide+kernel) (by rw[params];decide+kernel) k_ Tryz.underlying4 (i_ Tryz.func3).enters (apS k) (fun h=>Cg x hk h) l c
theorem WL(os:Os)(j:os.Started)(H:Type)(a:TypeId×Value->H)(F:Stop.Interp):
 ReturnsInHanded {} Tryz.checked os 3 .any ((Rows.OpenSpec.upto Rows.aimMeetsSpec).preRow a Tryz.prog Tryz.f3 Rows.aimMeetsUptoRow.domain false Rows.aimMeetsUptoRow.laid) (((Rows.OpenSpec.upto Rows.aimMeetsSpec).at F).post a Tryz.prog Tryz.f3 false true false false):=by
 obtain⟨places,hx⟩:=reads os a
 refine XX zO aDb j k_ Tryz.func3
  (WV zO (Ad os) #[Value.agg #[.slice none 0 0,.int .i64 0,.slice none 0 0,.slice none 0 0,.slice none 0 0,Value.string ⟨#[]⟩,Value.string ⟨#[]⟩],Value.agg #[Value.string ⟨#[]⟩,Value.string ⟨#[]⟩]] rfl k_ k_ k_
   (OpenSpec.preRow_of_cond 8 hx k_ (fun k hk=>by cases hk;kernel_rfl) k_ (by rw[Oh];exact Y0 os _))) ?_
 intro W b args d e c i g h f
 exact Ep H a W b args d e c i g (h _ rfl) f
theorem k0:(Rows.aimMeetsUptoRow.wf (OpenSpec.ofChange (Rows.OpenSpec.upto Rows.aimMeetsSpec).bare))=true:=k_
theorem k1:(laidOutB Tryz.prog)=true:=aCs
theorem k2:(mapsRowed Tryz.prog)=true:=aCX
theorem k3:(Tryz.f3.params.all (Tryz.prog.readableRec ·))=true:=k_
theorem k4:(namedTie Tryz.prog Rows.aimMeetsUptoRow.named (Rows.OpenSpec.upto Rows.aimMeetsSpec).bare.vars)=true:=k_
theorem k5:((Rows.aimMeetsUptoRow.stops==[]))=true:=k_
theorem k6:((Tryz.prog.stops==[]))=true:=by rw[aDn];rfl
theorem k7:((Rows.aimMeetsUptoRow.knobs==[]))=true:=k_
theorem k8:((Tryz.prog.stopKnobs==[]))=true:=by rw[Wh];rfl
theorem k9:((Rows.aimMeetsUptoRow.inPlace==Tryz.prog.inPlace 3))=true:=k_
theorem vY:((Rows.aimMeetsUptoRow.unfollowed==Tryz.prog.unfollowed 3))=true:=k_
theorem Cl:((Rows.aimMeetsUptoRow.recurses==Tryz.prog.recurses 3))=true:=k_
theorem k12:((Rows.aimMeetsUptoRow.named==Tryz.prog.varsNamed 3))=true:=k_
theorem k13:((Rows.aimMeetsUptoRow.maps==(Tryz.f3.params.toList++(Rows.OpenSpec.upto Rows.aimMeetsSpec).bare.plain.varTypes Tryz.prog).any (Tryz.prog.mapsRec ·)))=true:=k_
theorem k14:((Rows.aimMeetsUptoRow.ifaces==(Tryz.f3.params.toList++(Rows.OpenSpec.upto Rows.aimMeetsSpec).bare.plain.varTypes Tryz.prog).any (Tryz.prog.ifacesRec ·)))=true:=k_
theorem k15:((Rows.aimMeetsUptoRow.mapsOut==Tryz.prog.mapsAmong Tryz.f3.resultTypes.toList))=true:=k_
theorem k16:((Rows.aimMeetsUptoRow.loops==(Tryz.f3.params.toList++(Rows.OpenSpec.upto Rows.aimMeetsSpec).bare.plain.varTypes Tryz.prog).any (Tryz.prog.loopsFrom ·)))=true:=k_
theorem k17:((Rows.aimMeetsUptoRow.wideKeys==(Tryz.f3.params.toList++(Rows.OpenSpec.upto Rows.aimMeetsSpec).bare.plain.varTypes Tryz.prog++Tryz.f3.resultTypes.toList).any (Tryz.prog.wideKeysFrom ·)))=true:=k_
theorem k18:((Rows.OpenSpec.upto Rows.aimMeetsSpec).bare.vars.all (Tryz.prog.varReadable ·))=true:=k_
theorem k19:(Tryz.f3.resultTypes.all (fun t=>Tryz.prog.readableRec t&&decide (t<Tryz.prog.types.size)))=true:=k_
theorem k20:((Rows.aimMeetsUptoRow.ifacesOut==Tryz.f3.resultTypes.toList.any (Tryz.prog.ifacesRec ·)))=true:=k_
theorem k21:((Rows.aimMeetsUptoRow.loopsOut==Tryz.f3.resultTypes.toList.any (Tryz.prog.loopsFrom ·)))=true:=k_
theorem k22:((Rows.aimMeetsUptoRow.plainKeys==Tryz.prog.plainKeys))=true:=by rw[Wi];rfl
theorem k23:(Rows.aimMeetsUptoRow.shortTexts.isNone)=true:=k_
theorem k24:(Tryz.prog.stopsHeard)=true:=VH
theorem k25:(Tryz.prog.mayEnter)=true:=WA
theorem k26:((Rows.aimMeetsUptoRow.lifted==Tryz.prog.liftsFinal))=true:=by rw[aCu];rfl
theorem k27:((Tryz.prog.make==some Rows.aimMeetsUptoRow.make))=true:=by rw[aCW];rfl
theorem k28:((Rows.aimMeetsUptoRow.kinds==(if Rows.aimMeetsUptoRow.domain.isEmpty then[]else Tryz.f3.params.toList.map fun t=>match Tryz.prog.underlying t with|some (.int k)=>some k|_=>none)))=true:=k_
theorem k29:((Rows.aimMeetsUptoRow.pinned==Rows.aimMeetsUptoRow.pinnedBy))=true:=k_
theorem k30:((Rows.aimMeetsUptoRow.veiled==(Tryz.f3.params.toList++(Rows.OpenSpec.upto Rows.aimMeetsSpec).bare.plain.varTypes Tryz.prog++Tryz.f3.resultTypes.toList).any (Tryz.prog.veiledRec ·)))=true:=k_
theorem k31:(Rows.aimMeetsUptoRow.veiledFits Tryz.prog Tryz.f3.params.toList (Tryz.f3.params.toList++(Rows.OpenSpec.upto Rows.aimMeetsSpec).bare.plain.varTypes Tryz.prog++Tryz.f3.resultTypes.toList))=true:=k_
theorem fC{a b:Bool}(h:a=true)(k:b=true):(a&&b)=true:=by rw[h,k];rfl
theorem closed:joinedFacts Tryz.prog 3 Tryz.f3 (Rows.OpenSpec.upto Rows.aimMeetsSpec).bare Rows.aimMeetsUptoRow=true:=
 fC (fC (fC (fC (fC (fC (fC (fC (fC (fC (fC (fC (fC (fC (fC (fC (fC (fC (fC (fC (fC (fC (fC (fC (fC (fC (fC (fC (fC (fC (fC (k0) k1) k2) k3) k4) k5) k6) k7) k8) k9) vY) Cl) k12) k13) k14) k15) k16) k17) k18) k19) k20) k21) k22) k23) k24) k25) k26) k27) k28) k29) k30) k31
theorem named:Tryz.prog.funcNamed Rows.aimMeetsUptoRow.func=some 3:=k_
theorem inst:Tryz.f3.isInstance Tryz.prog Rows.aimMeetsUptoRow.origin Rows.aimMeetsUptoRow.targs:=of_decide_eq_true k_
theorem wrap:Tryz.f3.isWrapper Tryz.prog Rows.aimMeetsUptoRow.wrapper Rows.aimMeetsUptoRow.mainSum:=by
 unfold Func.isWrapper;first|(rw[if_pos (by decide+kernel)];kernel_rfl)|(rw[if_neg (by decide+kernel)];exact⟨rfl,rfl⟩)
theorem Yf:Rows.AimMeetsUptoSaid:=
 aFU Kw zO 3 Tryz.f3 rfl rfl rfl rfl rfl rfl rfl ⟨rfl,rfl,rfl,rfl,rfl⟩ rfl rfl rfl rfl rfl named Tryz.func3 closed inst wrap
  (fun os b H a F=>WL os b H a F)
theorem stands:∀t∈Tryz.f3.params.toList,Tryz.prog.wantsStandIn t=false:=by rw[params];decide+kernel
theorem ZQ:Rows.aimMeetsUptoRow.wfByText (Rows.OpenSpec.upto Rows.aimMeetsSpec)=true:=k_
theorem mainIs:Tryz.prog.mainIs=some (Rows.aimMeetsUptoCard.stood.harness.1,Rows.aimMeetsUptoCard.stood.harness.2.toList):=k_
theorem goes:false=Rows.aimMeetsUptoRow.goesBy Tryz.prog:=k_
theorem cardUpto:Rows.AimMeetsUptoCardSaid:=
 aiA Kw zO .later _ _ _ _ Yf ZQ aimMeetsUpto_row_tie rfl ⟨rfl,rfl⟩ mainIs rfl named Tryz.func3 aCw stands goes
end Go.Proofs.YtpojdjgcpgnaeaaGreatDoor.aimMeets
