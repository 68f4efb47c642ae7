import Derived.Test.YtfdgnogcckoalaaGreatDoorXPC
import Derived.Test.YtfdgnogcckoalaaGreatDoorXPD
import Derived.Test.YtfdgnogcckoalaaGreatDoorXPE
import Derived.Test.YtfdgnogcckoalaaGreatDoorXPG
import Derived.Test.YtfdgnogcckoalaaGreatDoorXPH
import Derived.Test.YtfdgnogcckoalaaGreatDoorCards
import Derived.Test.YtfdgnogcckoalaaGreatDoorTie
import Derived.Seven
/-
 The law TableTexts returns true for all arguments whose bulk is at most 1048576,and the arguments read as before.
-/
set_option maxRecDepth 100000
set_option linter.unusedSimpArgs false
set_option linter.unusedVariables false
set_option linter.unusedSectionVars false
namespace Go.Proofs.YtfdgnogcckoalaaGreatDoor.tableTexts
open Go.aw
theorem params:Tryz.f3.params.toList=[26,9]:=k_
theorem zl{H:Type}{W:World}{a:List (DataW H)}(hl:a.length=2)(b:Rows.uptoSmall H (a++[])=true)(h:∀p∈Tryz.f3.params.toList.zip a,∃cs,aV Tryz.prog W (fun k=>k<W.heap.size) (bD Tryz.prog 8 p.1 p.2) cs):
 az Tryz.prog 3 (qH Tryz.prog 8 Tryz.f3.params.toList a) (.bool true):=by
 rw[params]at h⊢
 match a,hl with
 |[d1,d2],_=>
  have b:=th.bound b
  simp only[List.append_nil,Rows.uptoBulkAll]at b
  obtain⟨c,e1,g,e⟩:=aD1 (h (26,d1) (.head _)) (show Rows.uptoBulk d1<=1048576 by omega)
  obtain⟨d,e2,i,f⟩:=aDO (h (9,d2) (.tail _ (.head _))) (show Rows.uptoBulk d2<=1048576 by omega)
  simp only[qH,e1,e2]
  exact QQ QH c d e f
theorem Ls:Rows.tableTextsUptoRow.laid=Rows.tableKeepsUptoRow.laid:=k_
theorem reads(os:Os){H:Type}(a:TypeId×Value->H):∃b,DataW.whole a Tryz.prog ((xj os).forCall (fun _ _=>0) ⟨#[],#[Value.agg #[.slice none 0 0,.int .i64 0,.slice none 0 0,.slice none 0 0],Value.string ⟨#[]⟩],[]⟩).memory Tryz.f3.params.toList Rows.tableTextsSpec.vars false #[Value.agg #[.slice none 0 0,.int .i64 0,.slice none 0 0,.slice none 0 0],Value.string ⟨#[]⟩].toList 8=some ([.agg [.nil,.lit (.int .i64 0),.nil,.nil],.lit (.string [])],[],b):=
 ⟨[],k_⟩
theorem Bz(H:Type)(i:TypeId×Value->H)(W:World)(f:Nat)(args:Array Value)(a b:List (DataW H))(o:List MemPlace)
 (l:∀(j:Nat) t v,Tryz.f3.params[j]?=some t->args[j]?=some v->Value.okWide Tryz.prog W .any f t v)
 (c:DataW.Whole i Tryz.prog Tryz.f3.params.toList Rows.tableTextsSpec.vars false W args.toList a b o)(hk:Rows.uptoSmall H (a++b)=true)(k:laidMetH Tryz.prog Rows.tableTextsUptoRow.laid W):
 Calls Tryz.prog 3 args W fun e m=>∃v,e= .returned v/\Rows.tableTextsSpec.post i Tryz.prog Tryz.f3 false true false false W args v m:=by
 rw[Ls]at k
 have w:b=[]:=by
  obtain⟨p,q,_,u,_⟩:=c
  cases b with
  |nil=>rfl
  |cons g b=>exact u.elim
 have x:a.length=2:=by
  obtain⟨p,q,s,_⟩:=c
  have:=(Be (n:=8) (base:=f) (r:= .any) (by rw[params];decide+kernel) s (fun j t v y z=>l j t v (by simpa using y) (by simpa using z))).2
  rw[this,params];rfl
 subst w
 exact RQ (n:=8) (T:=(·<Tryz.prog.types.size)) (tb:=4) rfl
  (fun H a d=>by
   have d:a.length=2:=d.trans k_
   match a,d with
   |[d1,d2],_=>exact⟨rfl,rfl,rfl⟩)
  azK Yu (by rw[params];decide+kernel) (by rw[params];decide+kernel) k_ Tryz.underlying4 (i_ Tryz.func3).enters (YJ k) (fun h=>zl x hk h) l c
theorem Tu(os:Os)(j:os.Started)(H:Type)(a:TypeId×Value->H)(F:Stop.Interp):
 ReturnsInHanded {} Tryz.checked os 3 .any ((Rows.OpenSpec.upto Rows.tableTextsSpec).preRow a Tryz.prog Tryz.f3 Rows.tableTextsUptoRow.domain false Rows.tableTextsUptoRow.laid) (((Rows.OpenSpec.upto Rows.tableTextsSpec).at F).post a Tryz.prog Tryz.f3 false true false false):=by
 obtain⟨places,hx⟩:=reads os a
 refine UP wR aAT j k_ Tryz.func3
  (TD wR (xj os) #[Value.agg #[.slice none 0 0,.int .i64 0,.slice none 0 0,.slice none 0 0],Value.string ⟨#[]⟩] rfl k_ k_ k_
   (OpenSpec.preRow_of_cond 8 hx k_ (fun k hk=>by cases hk;kernel_rfl) k_ (by rw[Ls];exact VR os _))) ?_
 intro W b args d e c i g h f
 exact Bz H a W b args d e c i g (h _ rfl) f
theorem k0:(Rows.tableTextsUptoRow.wf (OpenSpec.ofChange (Rows.OpenSpec.upto Rows.tableTextsSpec).bare))=true:=k_
theorem k1:(laidOutB Tryz.prog)=true:=aAF
theorem k2:(mapsRowed Tryz.prog)=true:=aAO
theorem k3:(Tryz.f3.params.all (Tryz.prog.readableRec ·))=true:=k_
theorem k4:(namedTie Tryz.prog Rows.tableTextsUptoRow.named (Rows.OpenSpec.upto Rows.tableTextsSpec).bare.vars)=true:=k_
theorem k5:((Rows.tableTextsUptoRow.stops==[]))=true:=k_
theorem k6:((Tryz.prog.stops==[]))=true:=by rw[aAV];rfl
theorem k7:((Rows.tableTextsUptoRow.knobs==[]))=true:=k_
theorem k8:((Tryz.prog.stopKnobs==[]))=true:=by rw[SU];rfl
theorem k9:((Rows.tableTextsUptoRow.inPlace==Tryz.prog.inPlace 3))=true:=k_
theorem k10:((Rows.tableTextsUptoRow.unfollowed==Tryz.prog.unfollowed 3))=true:=k_
theorem k11:((Rows.tableTextsUptoRow.recurses==Tryz.prog.recurses 3))=true:=k_
theorem k12:((Rows.tableTextsUptoRow.named==Tryz.prog.varsNamed 3))=true:=k_
theorem k13:((Rows.tableTextsUptoRow.maps==(Tryz.f3.params.toList++(Rows.OpenSpec.upto Rows.tableTextsSpec).bare.plain.varTypes Tryz.prog).any (Tryz.prog.mapsRec ·)))=true:=k_
theorem k14:((Rows.tableTextsUptoRow.ifaces==(Tryz.f3.params.toList++(Rows.OpenSpec.upto Rows.tableTextsSpec).bare.plain.varTypes Tryz.prog).any (Tryz.prog.ifacesRec ·)))=true:=k_
theorem k15:((Rows.tableTextsUptoRow.mapsOut==Tryz.prog.mapsAmong Tryz.f3.resultTypes.toList))=true:=k_
theorem k16:((Rows.tableTextsUptoRow.loops==(Tryz.f3.params.toList++(Rows.OpenSpec.upto Rows.tableTextsSpec).bare.plain.varTypes Tryz.prog).any (Tryz.prog.loopsFrom ·)))=true:=k_
theorem k17:((Rows.tableTextsUptoRow.wideKeys==(Tryz.f3.params.toList++(Rows.OpenSpec.upto Rows.tableTextsSpec).bare.plain.varTypes Tryz.prog++Tryz.f3.resultTypes.toList).any (Tryz.prog.wideKeysFrom ·)))=true:=k_
theorem k18:((Rows.OpenSpec.upto Rows.tableTextsSpec).bare.vars.all (Tryz.prog.varReadable ·))=true:=k_
theorem k19:(Tryz.f3.resultTypes.all (fun t=>Tryz.prog.readableRec t&&decide (t<Tryz.prog.types.size)))=true:=k_
theorem k20:((Rows.tableTextsUptoRow.ifacesOut==Tryz.f3.resultTypes.toList.any (Tryz.prog.ifacesRec ·)))=true:=k_
theorem k21:((Rows.tableTextsUptoRow.loopsOut==Tryz.f3.resultTypes.toList.any (Tryz.prog.loopsFrom ·)))=true:=k_
theorem k22:((Rows.tableTextsUptoRow.plainKeys==Tryz.prog.plainKeys))=true:=by rw[SV];rfl
theorem k23:(Rows.tableTextsUptoRow.shortTexts.isNone)=true:=k_
theorem k24:(Tryz.prog.stopsHeard)=true:=R8
theorem k25:(Tryz.prog.mayEnter)=true:=Tf
theorem k26:((Rows.tableTextsUptoRow.lifted==Tryz.prog.liftsFinal))=true:=by rw[aAK];rfl
theorem k27:((Tryz.prog.make==some Rows.tableTextsUptoRow.make))=true:=by rw[aAN];rfl
theorem k28:((Rows.tableTextsUptoRow.kinds==(if Rows.tableTextsUptoRow.domain.isEmpty then[]else Tryz.f3.params.toList.map fun t=>match Tryz.prog.underlying t with|some (.int k)=>some k|_=>none)))=true:=k_
theorem k29:((Rows.tableTextsUptoRow.pinned==Rows.tableTextsUptoRow.pinnedBy))=true:=k_
theorem k30:((Rows.tableTextsUptoRow.veiled==(Tryz.f3.params.toList++(Rows.OpenSpec.upto Rows.tableTextsSpec).bare.plain.varTypes Tryz.prog++Tryz.f3.resultTypes.toList).any (Tryz.prog.veiledRec ·)))=true:=k_
theorem k31:(Rows.tableTextsUptoRow.veiledFits Tryz.prog Tryz.f3.params.toList (Tryz.f3.params.toList++(Rows.OpenSpec.upto Rows.tableTextsSpec).bare.plain.varTypes Tryz.prog++Tryz.f3.resultTypes.toList))=true:=k_
theorem eP{a b:Bool}(h:a=true)(k:b=true):(a&&b)=true:=by rw[h,k];rfl
theorem closed:joinedFacts Tryz.prog 3 Tryz.f3 (Rows.OpenSpec.upto Rows.tableTextsSpec).bare Rows.tableTextsUptoRow=true:=
 eP (eP (eP (eP (eP (eP (eP (eP (eP (eP (eP (eP (eP (eP (eP (eP (eP (eP (eP (eP (eP (eP (eP (eP (eP (eP (eP (eP (eP (eP (eP (k0) k1) k2) k3) k4) k5) k6) k7) k8) k9) k10) k11) k12) k13) k14) k15) k16) k17) k18) k19) k20) k21) k22) k23) k24) k25) k26) k27) k28) k29) k30) k31
theorem named:Tryz.prog.funcNamed Rows.tableTextsUptoRow.func=some 3:=k_
theorem inst:Tryz.f3.isInstance Tryz.prog Rows.tableTextsUptoRow.origin Rows.tableTextsUptoRow.targs:=of_decide_eq_true k_
theorem wrap:Tryz.f3.isWrapper Tryz.prog Rows.tableTextsUptoRow.wrapper Rows.tableTextsUptoRow.mainSum:=by
 unfold Func.isWrapper;first|(rw[if_pos (by decide+kernel)];kernel_rfl)|(rw[if_neg (by decide+kernel)];exact⟨rfl,rfl⟩)
theorem U7:Rows.TableTextsUptoSaid:=
 aC4 G2 wR 3 Tryz.f3 rfl rfl rfl rfl rfl rfl rfl ⟨rfl,rfl,rfl,rfl,rfl⟩ rfl rfl rfl rfl rfl named Tryz.func3 closed inst wrap
  (fun os b H a F=>Tu os b H a F)
theorem stands:∀t∈Tryz.f3.params.toList,Tryz.prog.wantsStandIn t=false:=by rw[params];decide+kernel
theorem WT:Rows.tableTextsUptoRow.wfByText (Rows.OpenSpec.upto Rows.tableTextsSpec)=true:=k_
theorem mainIs:Tryz.prog.mainIs=some (Rows.tableTextsUptoCard.stood.harness.1,Rows.tableTextsUptoCard.stood.harness.2.toList):=k_
theorem goes:false=Rows.tableTextsUptoRow.goesBy Tryz.prog:=k_
theorem cardUpto:Rows.TableTextsUptoCardSaid:=
 Xu G2 wR .later _ _ _ _ U7 WT tableTextsUpto_row_tie rfl ⟨rfl,rfl⟩ mainIs rfl named Tryz.func3 aAM stands goes
end Go.Proofs.YtfdgnogcckoalaaGreatDoor.tableTexts
