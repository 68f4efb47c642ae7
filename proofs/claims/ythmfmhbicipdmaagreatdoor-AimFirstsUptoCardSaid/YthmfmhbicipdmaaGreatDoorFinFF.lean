import Derived.Test.YthmfmhbicipdmaaGreatDoorPC
import Derived.Test.YthmfmhbicipdmaaGreatDoorPD
import Derived.Test.YthmfmhbicipdmaaGreatDoorPE
import Derived.Test.YthmfmhbicipdmaaGreatDoorPH
import Derived.Test.YthmfmhbicipdmaaGreatDoorPM
import Derived.Test.YthmfmhbicipdmaaGreatDoorPR
import Derived.Test.YthmfmhbicipdmaaGreatDoorPS
import Derived.Test.YthmfmhbicipdmaaGreatDoorCards
import Derived.Test.YthmfmhbicipdmaaGreatDoorTie
import Derived.Seven
/-
 The law AimFirsts returns true for all arguments whose bulk is at most 1048576,and the arguments read as before.
-/
set_option linter.unusedSimpArgs false
set_option linter.unusedVariables false
set_option linter.unusedSectionVars false
namespace Go.Proofs.YthmfmhbicipdmaaGreatDoor.aimFirsts
open Go.ak
set_option maxRecDepth 100000
theorem params:Tryz.f3.params.toList=[29,32]:=by kernel_rfl
theorem Bi{H:Type}{W:World}{a:List (DataW H)}(e:a.length=2)(d:Rows.uptoSmall H (a++[])=true)(h:∀p∈Tryz.f3.params.toList.zip a,∃cs,aU Tryz.prog W (fun k=>k<W.heap.size) (bJ Tryz.prog 8 p.1 p.2) cs):
 au Tryz.prog 3 (sD Tryz.prog 8 Tryz.f3.params.toList a) (.bool true):=by
 rw[params]at h⊢
 match a,e with
 |[d1,d2],_=>
  have d:=qE.bound d
  simp only[List.append_nil,Rows.uptoBulkAll]at d
  obtain⟨c,e1,g,y1⟩:=TO (h (29,d1) (.head _)) (show Rows.uptoBulk d1<=1048576 by omega)
  obtain⟨f,e2,i,y2⟩:=ZH (h (32,d2) (.tail _ (.head _))) (show Rows.uptoBulk d2<=1048576 by omega)
  simp only[sD,e1,e2]
  exact T5 Zg c.t c.b c.aV c.dD f y1.t y1.b y2
theorem NZ:Rows.aimFirstsUptoRow.laid=Rows.aimFirstsUptoRow.laid:=by kernel_rfl
theorem reads(os:Os){H:Type}(a:TypeId×Value->H):∃b,DataW.whole a Tryz.prog ((zb os).forCall (fun _ _=>0) ⟨#[],#[Value.agg #[.slice none 0 0,.int .i64 0,.slice none 0 0,.slice none 0 0,.slice none 0 0,Value.string ⟨#[]⟩,Value.string ⟨#[]⟩],Value.agg #[Value.string ⟨#[]⟩,Value.string ⟨#[]⟩]],[]⟩).memory Tryz.f3.params.toList Rows.aimFirstsSpec.vars false #[Value.agg #[.slice none 0 0,.int .i64 0,.slice none 0 0,.slice none 0 0,.slice none 0 0,Value.string ⟨#[]⟩,Value.string ⟨#[]⟩],Value.agg #[Value.string ⟨#[]⟩,Value.string ⟨#[]⟩]].toList 8=some ([.agg [.agg [.nil,.lit (.int .i64 0),.nil,.nil],.nil,.lit (.string []),.lit (.string [])],.agg [.lit (.string []),.lit (.string [])]],[],b):=
 ⟨[],by kernel_rfl⟩
theorem Dk(H:Type)(i:TypeId×Value->H)(W:World)(f:Nat)(args:Array Value)(a b:List (DataW H))(o:List MemPlace)
 (l:∀(j:Nat) t v,Tryz.f3.params[j]?=some t->args[j]?=some v->Value.okWide Tryz.prog W .any f t v)
 (c:DataW.Whole i Tryz.prog Tryz.f3.params.toList Rows.aimFirstsSpec.vars false W args.toList a b o)(hk:Rows.uptoSmall H (a++b)=true)(k:laidMetH Tryz.prog Rows.aimFirstsUptoRow.laid W):
 Calls Tryz.prog 3 args W fun e m=>∃v,e= .returned v/\Rows.aimFirstsSpec.post i Tryz.prog Tryz.f3 false true false false W args v m:=by
 rw[NZ]at k
 have w:b=[]:=by
  obtain⟨p,q,_,u,_⟩:=c
  cases b with
  |nil=>rfl
  |cons g b=>exact u.elim
 have x:a.length=2:=by
  obtain⟨p,q,s,_⟩:=c
  have:=(CV (n:=8) (base:=f) (r:= .any) (by rw[params];decide+kernel) s (fun j t v y z=>l j t v (by simpa using y) (by simpa using z))).2
  rw[this,params];rfl
 subst w
 exact UI (n:=8) (T:=(·<Tryz.prog.types.size)) (tb:=4) rfl
  (fun H a d=>by
   have d:a.length=2:=d.trans (by kernel_rfl)
   match a,d with
   |[d1,d2],_=>exact⟨rfl,rfl,rfl⟩)
  aJG aAi (by rw[params];decide+kernel) (by rw[params];decide+kernel) (by kernel_rfl) Tryz.underlying4 vg.enters (aAw k) (fun h=>Bi x hk h) l c
theorem Wg(os:Os)(j:os.Started)(H:Type)(a:TypeId×Value->H)(F:Stop.Interp):
 ReturnsInHanded {} Tryz.checked os 3 .any ((Rows.OpenSpec.upto Rows.aimFirstsSpec).preRow a Tryz.prog Tryz.f3 Rows.aimFirstsUptoRow.domain false Rows.aimFirstsUptoRow.laid) (((Rows.OpenSpec.upto Rows.aimFirstsSpec).at F).post a Tryz.prog Tryz.f3 false true false false):=by
 obtain⟨places,hx⟩:=reads os a
 refine XJ yJ aKy j (by kernel_rfl) Tryz.func3
  (Wp yJ (zb os) #[Value.agg #[.slice none 0 0,.int .i64 0,.slice none 0 0,.slice none 0 0,.slice none 0 0,Value.string ⟨#[]⟩,Value.string ⟨#[]⟩],Value.agg #[Value.string ⟨#[]⟩,Value.string ⟨#[]⟩]] rfl (by kernel_rfl) (by kernel_rfl) (by kernel_rfl)
   (OpenSpec.preRow_of_cond 8 hx (by kernel_rfl) (fun k hk=>by cases hk;kernel_rfl) (by kernel_rfl) (by rw[NZ];exact YN os _))) ?_
 intro W b args d e c i g h f
 exact Dk H a W b args d e c i g (h _ rfl) f
theorem k0:(Rows.aimFirstsUptoRow.wf (OpenSpec.ofChange (Rows.OpenSpec.upto Rows.aimFirstsSpec).bare))=true:=by kernel_rfl
theorem k1:(laidOutB Tryz.prog)=true:=aKn
theorem k2:(mapsRowed Tryz.prog)=true:=aKt
theorem k3:(Tryz.f3.params.all (Tryz.prog.readableRec ·))=true:=by kernel_rfl
theorem k4:(namedTie Tryz.prog Rows.aimFirstsUptoRow.named (Rows.OpenSpec.upto Rows.aimFirstsSpec).bare.vars)=true:=by kernel_rfl
theorem k5:((Rows.aimFirstsUptoRow.stops==[]))=true:=by kernel_rfl
theorem k6:((Tryz.prog.stops==[]))=true:=by rw[aKA];rfl
theorem k7:((Rows.aimFirstsUptoRow.knobs==[]))=true:=by kernel_rfl
theorem k8:((Tryz.prog.stopKnobs==[]))=true:=by rw[VI];rfl
theorem k9:((Rows.aimFirstsUptoRow.inPlace==Tryz.prog.inPlace 3))=true:=by kernel_rfl
theorem vh:((Rows.aimFirstsUptoRow.unfollowed==Tryz.prog.unfollowed 3))=true:=by kernel_rfl
theorem Bm:((Rows.aimFirstsUptoRow.recurses==Tryz.prog.recurses 3))=true:=by kernel_rfl
theorem k12:((Rows.aimFirstsUptoRow.named==Tryz.prog.varsNamed 3))=true:=by kernel_rfl
theorem k13:((Rows.aimFirstsUptoRow.maps==(Tryz.f3.params.toList++(Rows.OpenSpec.upto Rows.aimFirstsSpec).bare.plain.varTypes Tryz.prog).any (Tryz.prog.mapsRec ·)))=true:=by kernel_rfl
theorem k14:((Rows.aimFirstsUptoRow.ifaces==(Tryz.f3.params.toList++(Rows.OpenSpec.upto Rows.aimFirstsSpec).bare.plain.varTypes Tryz.prog).any (Tryz.prog.ifacesRec ·)))=true:=by kernel_rfl
theorem k15:((Rows.aimFirstsUptoRow.mapsOut==Tryz.prog.mapsAmong Tryz.f3.resultTypes.toList))=true:=by kernel_rfl
theorem k16:((Rows.aimFirstsUptoRow.loops==(Tryz.f3.params.toList++(Rows.OpenSpec.upto Rows.aimFirstsSpec).bare.plain.varTypes Tryz.prog).any (Tryz.prog.loopsFrom ·)))=true:=by kernel_rfl
theorem k17:((Rows.aimFirstsUptoRow.wideKeys==(Tryz.f3.params.toList++(Rows.OpenSpec.upto Rows.aimFirstsSpec).bare.plain.varTypes Tryz.prog++Tryz.f3.resultTypes.toList).any (Tryz.prog.wideKeysFrom ·)))=true:=by kernel_rfl
theorem k18:((Rows.OpenSpec.upto Rows.aimFirstsSpec).bare.vars.all (Tryz.prog.varReadable ·))=true:=by kernel_rfl
theorem k19:(Tryz.f3.resultTypes.all (fun t=>Tryz.prog.readableRec t&&decide (t<Tryz.prog.types.size)))=true:=by kernel_rfl
theorem k20:((Rows.aimFirstsUptoRow.ifacesOut==Tryz.f3.resultTypes.toList.any (Tryz.prog.ifacesRec ·)))=true:=by kernel_rfl
theorem k21:((Rows.aimFirstsUptoRow.loopsOut==Tryz.f3.resultTypes.toList.any (Tryz.prog.loopsFrom ·)))=true:=by kernel_rfl
theorem k22:((Rows.aimFirstsUptoRow.plainKeys==Tryz.prog.plainKeys))=true:=by rw[VJ];rfl
theorem k23:(Rows.aimFirstsUptoRow.shortTexts.isNone)=true:=by kernel_rfl
theorem k24:(Tryz.prog.stopsHeard)=true:=UY
theorem k25:(Tryz.prog.mayEnter)=true:=V4
theorem k26:((Rows.aimFirstsUptoRow.lifted==Tryz.prog.liftsFinal))=true:=by rw[aKp];rfl
theorem k27:((Tryz.prog.make==some Rows.aimFirstsUptoRow.make))=true:=by rw[aKs];rfl
theorem k28:((Rows.aimFirstsUptoRow.kinds==(if Rows.aimFirstsUptoRow.domain.isEmpty then[]else Tryz.f3.params.toList.map fun t=>match Tryz.prog.underlying t with|some (.int k)=>some k|_=>none)))=true:=by kernel_rfl
theorem k29:((Rows.aimFirstsUptoRow.pinned==Rows.aimFirstsUptoRow.pinnedBy))=true:=by kernel_rfl
theorem k30:((Rows.aimFirstsUptoRow.veiled==(Tryz.f3.params.toList++(Rows.OpenSpec.upto Rows.aimFirstsSpec).bare.plain.varTypes Tryz.prog++Tryz.f3.resultTypes.toList).any (Tryz.prog.veiledRec ·)))=true:=by kernel_rfl
theorem k31:(Rows.aimFirstsUptoRow.veiledFits Tryz.prog Tryz.f3.params.toList (Tryz.f3.params.toList++(Rows.OpenSpec.upto Rows.aimFirstsSpec).bare.plain.varTypes Tryz.prog++Tryz.f3.resultTypes.toList))=true:=by kernel_rfl
theorem fx{a b:Bool}(h:a=true)(k:b=true):(a&&b)=true:=by rw[h,k];rfl
theorem closed:joinedFacts Tryz.prog 3 Tryz.f3 (Rows.OpenSpec.upto Rows.aimFirstsSpec).bare Rows.aimFirstsUptoRow=true:=
 fx (fx (fx (fx (fx (fx (fx (fx (fx (fx (fx (fx (fx (fx (fx (fx (fx (fx (fx (fx (fx (fx (fx (fx (fx (fx (fx (fx (fx (fx (fx (k0) k1) k2) k3) k4) k5) k6) k7) k8) k9) vh) Bm) k12) k13) k14) k15) k16) k17) k18) k19) k20) k21) k22) k23) k24) k25) k26) k27) k28) k29) k30) k31
theorem named:Tryz.prog.funcNamed Rows.aimFirstsUptoRow.func=some 3:=by kernel_rfl
theorem inst:Tryz.f3.isInstance Tryz.prog Rows.aimFirstsUptoRow.origin Rows.aimFirstsUptoRow.targs:=of_decide_eq_true (by kernel_rfl)
theorem wrap:Tryz.f3.isWrapper Tryz.prog Rows.aimFirstsUptoRow.wrapper Rows.aimFirstsUptoRow.mainSum:=by
 unfold Func.isWrapper;first|(rw[if_pos (by decide+kernel)];kernel_rfl)|(rw[if_neg (by decide+kernel)];exact⟨rfl,rfl⟩)
theorem X0:Rows.AimFirstsUptoSaid:=
 aK4 Jr yJ 3 Tryz.f3 rfl rfl rfl rfl rfl rfl rfl ⟨rfl,rfl,rfl,rfl,rfl⟩ rfl rfl rfl rfl rfl named Tryz.func3 closed inst wrap
  (fun os b H a F=>Wg os b H a F)
theorem stands:∀t∈Tryz.f3.params.toList,Tryz.prog.wantsStandIn t=false:=by rw[params];decide+kernel
theorem ZR:Rows.aimFirstsUptoRow.wfByText (Rows.OpenSpec.upto Rows.aimFirstsSpec)=true:=by kernel_rfl
theorem mainIs:Tryz.prog.mainIs=some (Rows.aimFirstsUptoCard.stood.harness.1,Rows.aimFirstsUptoCard.stood.harness.2.toList):=by kernel_rfl
theorem goes:false=Rows.aimFirstsUptoRow.goesBy Tryz.prog:=by kernel_rfl
theorem cardUpto:Rows.AimFirstsUptoCardSaid:=
 axo Jr yJ .later _ _ _ _ X0 ZR aimFirstsUpto_row_tie rfl ⟨rfl,rfl⟩ mainIs rfl named Tryz.func3 aKr stands goes
end Go.Proofs.YthmfmhbicipdmaaGreatDoor.aimFirsts
