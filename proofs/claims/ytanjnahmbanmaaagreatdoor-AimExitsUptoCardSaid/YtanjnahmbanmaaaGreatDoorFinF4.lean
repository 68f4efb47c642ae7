import Derived.Test.YtanjnahmbanmaaaGreatDoorPC
import Derived.Test.YtanjnahmbanmaaaGreatDoorPD
import Derived.Test.YtanjnahmbanmaaaGreatDoorPE
import Derived.Test.YtanjnahmbanmaaaGreatDoorPH
import Derived.Test.YtanjnahmbanmaaaGreatDoorPK
import Derived.Test.YtanjnahmbanmaaaGreatDoorPP
import Derived.Test.YtanjnahmbanmaaaGreatDoorPR
import Derived.Test.YtanjnahmbanmaaaGreatDoorCards
import Derived.Test.YtanjnahmbanmaaaGreatDoorTie
import Derived.Seven
/-
 The law AimExits returns true for all arguments whose bulk is at most 1048576,and the arguments read as before.
-/
set_option linter.unusedSimpArgs false
set_option linter.unusedVariables false
set_option linter.unusedSectionVars false
namespace Go.Proofs.YtanjnahmbanmaaaGreatDoor.aimExits
open Go.az
set_option maxRecDepth 100000
theorem params:Tryz.f4.params.toList=[48,24,24]:=by kernel_rfl
theorem yR{H:Type}{W:World}{a:List (DataW H)}(c:a.length=3)(b:Rows.uptoSmall H (a++[])=true)(h:∀p∈Tryz.f4.params.toList.zip a,∃cs,aV Tryz.prog W (fun k=>k<W.heap.size) (bH Tryz.prog 8 p.1 p.2) cs):
 au Tryz.prog 4 (ql Tryz.prog 8 Tryz.f4.params.toList a) (.bool true):=by
 rw[params]at h⊢
 match a,c with
 |[d1,d2,d3],_=>
  have b:=sN.bound b
  simp only[List.append_nil,Rows.uptoBulkAll]at b
  obtain⟨d,e1,g,y1⟩:=aGw (h (48,d1) (.head _)) (show Rows.uptoBulk d1<=1048576 by omega)
  obtain⟨e,e2,i,y2⟩:=M0 (h (24,d2) (.tail _ (.head _))) (show Rows.uptoBulk d2<=1048576 by omega)
  obtain⟨f,e3,j,y3⟩:=M0 (h (24,d3) (.tail _ (.tail _ (.head _)))) (show Rows.uptoBulk d3<=1048576 by omega)
  simp only[ql,e1,e2,e3]
  exact WH VG d e f y1 y2 y3
theorem Ki:Rows.aimExitsUptoRow.laid=Rows.aimContactsUptoRow.laid:=by kernel_rfl
theorem reads(os:Os){H:Type}(a:TypeId×Value->H):∃b,DataW.whole a Tryz.prog ((wO os).forCall (fun _ _=>0) ⟨#[],#[Value.agg #[.slice none 0 0,.int .i64 0,.slice none 0 0,.slice none 0 0],Value.agg #[Value.string ⟨#[]⟩,Value.string ⟨#[]⟩],Value.agg #[Value.string ⟨#[]⟩,Value.string ⟨#[]⟩]],[]⟩).memory Tryz.f4.params.toList Rows.aimExitsSpec.vars false #[Value.agg #[.slice none 0 0,.int .i64 0,.slice none 0 0,.slice none 0 0],Value.agg #[Value.string ⟨#[]⟩,Value.string ⟨#[]⟩],Value.agg #[Value.string ⟨#[]⟩,Value.string ⟨#[]⟩]].toList 8=some ([.agg [.nil,.lit (.int .i64 0),.nil,.nil],.agg [.lit (.string []),.lit (.string [])],.agg [.lit (.string []),.lit (.string [])]],[],b):=
 ⟨[],by kernel_rfl⟩
theorem Bl(H:Type)(i:TypeId×Value->H)(W:World)(f:Nat)(args:Array Value)(a b:List (DataW H))(o:List MemPlace)
 (l:∀(j:Nat) t v,Tryz.f4.params[j]?=some t->args[j]?=some v->Value.okWide Tryz.prog W .any f t v)
 (c:DataW.Whole i Tryz.prog Tryz.f4.params.toList Rows.aimExitsSpec.vars false W args.toList a b o)(hk:Rows.uptoSmall H (a++b)=true)(k:laidMetH Tryz.prog Rows.aimExitsUptoRow.laid W):
 Calls Tryz.prog 4 args W fun e m=>∃v,e= .returned v/\Rows.aimExitsSpec.post i Tryz.prog Tryz.f4 false true false false W args v m:=by
 rw[Ki]at k
 have w:b=[]:=by
  obtain⟨p,q,_,u,_⟩:=c
  cases b with
  |nil=>rfl
  |cons g b=>exact u.elim
 have x:a.length=3:=by
  obtain⟨p,q,s,_⟩:=c
  have:=(AU (n:=8) (base:=f) (r:= .any) (by rw[params];decide+kernel) s (fun j t v y z=>l j t v (by simpa using y) (by simpa using z))).2
  rw[this,params];rfl
 subst w
 exact Q1 (n:=8) (T:=(·<Tryz.prog.types.size)) (tb:=4) rfl
  (fun H a d=>by
   have d:a.length=3:=d.trans (by kernel_rfl)
   match a,d with
   |[d1,d2,d3],_=>exact⟨rfl,rfl,rfl⟩)
  aEN Yd (by rw[params];decide+kernel) (by rw[params];decide+kernel) (by kernel_rfl) Tryz.underlying4 C4.enters (Ym k) (fun h=>yR x hk h) l c
theorem SF(os:Os)(j:os.Started)(H:Type)(a:TypeId×Value->H)(F:Stop.Interp):
 ReturnsInHanded {} Tryz.checked os 4 .any ((Rows.OpenSpec.upto Rows.aimExitsSpec).preRow a Tryz.prog Tryz.f4 Rows.aimExitsUptoRow.domain false Rows.aimExitsUptoRow.laid) (((Rows.OpenSpec.upto Rows.aimExitsSpec).at F).post a Tryz.prog Tryz.f4 false true false false):=by
 obtain⟨places,hx⟩:=reads os a
 refine T9 wo aFF j (by kernel_rfl) Tryz.func4
  (SN wo (wO os) #[Value.agg #[.slice none 0 0,.int .i64 0,.slice none 0 0,.slice none 0 0],Value.agg #[Value.string ⟨#[]⟩,Value.string ⟨#[]⟩],Value.agg #[Value.string ⟨#[]⟩,Value.string ⟨#[]⟩]] rfl (by kernel_rfl) (by kernel_rfl) (by kernel_rfl)
   (OpenSpec.preRow_of_cond 8 hx (by kernel_rfl) (fun k hk=>by cases hk;kernel_rfl) (by kernel_rfl) (by rw[Ki];exact Vd os _))) ?_
 intro W b args d e c i g h f
 exact Bl H a W b args d e c i g (h _ rfl) f
theorem k0:(Rows.aimExitsUptoRow.wf (OpenSpec.ofChange (Rows.OpenSpec.upto Rows.aimExitsSpec).bare))=true:=by kernel_rfl
theorem k1:(laidOutB Tryz.prog)=true:=aFu
theorem k2:(mapsRowed Tryz.prog)=true:=aFA
theorem k3:(Tryz.f4.params.all (Tryz.prog.readableRec ·))=true:=by kernel_rfl
theorem k4:(namedTie Tryz.prog Rows.aimExitsUptoRow.named (Rows.OpenSpec.upto Rows.aimExitsSpec).bare.vars)=true:=by kernel_rfl
theorem k5:((Rows.aimExitsUptoRow.stops==[]))=true:=by kernel_rfl
theorem k6:((Tryz.prog.stops==[]))=true:=by rw[aFH];rfl
theorem k7:((Rows.aimExitsUptoRow.knobs==[]))=true:=by kernel_rfl
theorem k8:((Tryz.prog.stopKnobs==[]))=true:=by rw[R6];rfl
theorem k9:((Rows.aimExitsUptoRow.inPlace==Tryz.prog.inPlace 4))=true:=by kernel_rfl
theorem k10:((Rows.aimExitsUptoRow.unfollowed==Tryz.prog.unfollowed 4))=true:=by kernel_rfl
theorem k11:((Rows.aimExitsUptoRow.recurses==Tryz.prog.recurses 4))=true:=by kernel_rfl
theorem k12:((Rows.aimExitsUptoRow.named==Tryz.prog.varsNamed 4))=true:=by kernel_rfl
theorem k13:((Rows.aimExitsUptoRow.maps==(Tryz.f4.params.toList++(Rows.OpenSpec.upto Rows.aimExitsSpec).bare.plain.varTypes Tryz.prog).any (Tryz.prog.mapsRec ·)))=true:=by kernel_rfl
theorem k14:((Rows.aimExitsUptoRow.ifaces==(Tryz.f4.params.toList++(Rows.OpenSpec.upto Rows.aimExitsSpec).bare.plain.varTypes Tryz.prog).any (Tryz.prog.ifacesRec ·)))=true:=by kernel_rfl
theorem k15:((Rows.aimExitsUptoRow.mapsOut==Tryz.prog.mapsAmong Tryz.f4.resultTypes.toList))=true:=by kernel_rfl
theorem k16:((Rows.aimExitsUptoRow.loops==(Tryz.f4.params.toList++(Rows.OpenSpec.upto Rows.aimExitsSpec).bare.plain.varTypes Tryz.prog).any (Tryz.prog.loopsFrom ·)))=true:=by kernel_rfl
theorem k17:((Rows.aimExitsUptoRow.wideKeys==(Tryz.f4.params.toList++(Rows.OpenSpec.upto Rows.aimExitsSpec).bare.plain.varTypes Tryz.prog++Tryz.f4.resultTypes.toList).any (Tryz.prog.wideKeysFrom ·)))=true:=by kernel_rfl
theorem k18:((Rows.OpenSpec.upto Rows.aimExitsSpec).bare.vars.all (Tryz.prog.varReadable ·))=true:=by kernel_rfl
theorem k19:(Tryz.f4.resultTypes.all (fun t=>Tryz.prog.readableRec t&&decide (t<Tryz.prog.types.size)))=true:=by kernel_rfl
theorem k20:((Rows.aimExitsUptoRow.ifacesOut==Tryz.f4.resultTypes.toList.any (Tryz.prog.ifacesRec ·)))=true:=by kernel_rfl
theorem k21:((Rows.aimExitsUptoRow.loopsOut==Tryz.f4.resultTypes.toList.any (Tryz.prog.loopsFrom ·)))=true:=by kernel_rfl
theorem k22:((Rows.aimExitsUptoRow.plainKeys==Tryz.prog.plainKeys))=true:=by rw[R7];rfl
theorem k23:(Rows.aimExitsUptoRow.shortTexts.isNone)=true:=by kernel_rfl
theorem k24:(Tryz.prog.stopsHeard)=true:=Rh
theorem k25:(Tryz.prog.mayEnter)=true:=Ss
theorem k26:((Rows.aimExitsUptoRow.lifted==Tryz.prog.liftsFinal))=true:=by rw[aFw];rfl
theorem k27:((Tryz.prog.make==some Rows.aimExitsUptoRow.make))=true:=by rw[aFz];rfl
theorem k28:((Rows.aimExitsUptoRow.kinds==(if Rows.aimExitsUptoRow.domain.isEmpty then[]else Tryz.f4.params.toList.map fun t=>match Tryz.prog.underlying t with|some (.int k)=>some k|_=>none)))=true:=by kernel_rfl
theorem k29:((Rows.aimExitsUptoRow.pinned==Rows.aimExitsUptoRow.pinnedBy))=true:=by kernel_rfl
theorem k30:((Rows.aimExitsUptoRow.veiled==(Tryz.f4.params.toList++(Rows.OpenSpec.upto Rows.aimExitsSpec).bare.plain.varTypes Tryz.prog++Tryz.f4.resultTypes.toList).any (Tryz.prog.veiledRec ·)))=true:=by kernel_rfl
theorem k31:(Rows.aimExitsUptoRow.veiledFits Tryz.prog Tryz.f4.params.toList (Tryz.f4.params.toList++(Rows.OpenSpec.upto Rows.aimExitsSpec).bare.plain.varTypes Tryz.prog++Tryz.f4.resultTypes.toList))=true:=by kernel_rfl
theorem eO{a b:Bool}(h:a=true)(k:b=true):(a&&b)=true:=by rw[h,k];rfl
theorem closed:joinedFacts Tryz.prog 4 Tryz.f4 (Rows.OpenSpec.upto Rows.aimExitsSpec).bare Rows.aimExitsUptoRow=true:=
 eO (eO (eO (eO (eO (eO (eO (eO (eO (eO (eO (eO (eO (eO (eO (eO (eO (eO (eO (eO (eO (eO (eO (eO (eO (eO (eO (eO (eO (eO (eO (k0) k1) k2) k3) k4) k5) k6) k7) k8) k9) k10) k11) k12) k13) k14) k15) k16) k17) k18) k19) k20) k21) k22) k23) k24) k25) k26) k27) k28) k29) k30) k31
theorem named:Tryz.prog.funcNamed Rows.aimExitsUptoRow.func=some 4:=by kernel_rfl
theorem inst:Tryz.f4.isInstance Tryz.prog Rows.aimExitsUptoRow.origin Rows.aimExitsUptoRow.targs:=of_decide_eq_true (by kernel_rfl)
theorem wrap:Tryz.f4.isWrapper Tryz.prog Rows.aimExitsUptoRow.wrapper Rows.aimExitsUptoRow.mainSum:=by
 unfold Func.isWrapper;first|(rw[if_pos (by decide+kernel)];kernel_rfl)|(rw[if_neg (by decide+kernel)];exact⟨rfl,rfl⟩)
theorem Uq:Rows.AimExitsUptoSaid:=
 aF9 FF wo 4 Tryz.f4 rfl rfl rfl rfl rfl rfl rfl ⟨rfl,rfl,rfl,rfl,rfl⟩ rfl rfl rfl rfl rfl named Tryz.func4 closed inst wrap
  (fun os b H a F=>SF os b H a F)
theorem stands:∀t∈Tryz.f4.params.toList,Tryz.prog.wantsStandIn t=false:=by rw[params];decide+kernel
theorem Wh:Rows.aimExitsUptoRow.wfByText (Rows.OpenSpec.upto Rows.aimExitsSpec)=true:=by kernel_rfl
theorem mainIs:Tryz.prog.mainIs=some (Rows.aimExitsUptoCard.stood.harness.1,Rows.aimExitsUptoCard.stood.harness.2.toList):=by kernel_rfl
theorem goes:false=Rows.aimExitsUptoRow.goesBy Tryz.prog:=by kernel_rfl
theorem cardUpto:Rows.AimExitsUptoCardSaid:=
 W4 FF wo .later _ _ _ _ Uq Wh aimExitsUpto_row_tie rfl ⟨rfl,rfl⟩ mainIs rfl named Tryz.func4 aFy stands goes
end Go.Proofs.YtanjnahmbanmaaaGreatDoor.aimExits
