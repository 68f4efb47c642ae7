import Derived.Test.YtanjnahmbanmaaaGreatDoorPC
import Derived.Test.YtanjnahmbanmaaaGreatDoorPD
import Derived.Test.YtanjnahmbanmaaaGreatDoorPE
import Derived.Test.YtanjnahmbanmaaaGreatDoorPH
import Derived.Test.YtanjnahmbanmaaaGreatDoorPM
import Derived.Test.YtanjnahmbanmaaaGreatDoorPS
import Derived.Test.YtanjnahmbanmaaaGreatDoorCards
import Derived.Test.YtanjnahmbanmaaaGreatDoorTie
import Derived.Seven
/-
 The law AimOpens returns true for all arguments whose bulk is at most 1048576,and the arguments read as before.
-/
set_option linter.unusedSimpArgs false
set_option linter.unusedVariables false
set_option linter.unusedSectionVars false
namespace Go.Proofs.YtanjnahmbanmaaaGreatDoor.aimOpens
open Go.ak
set_option maxRecDepth 100000
theorem params:Tryz.f6.params.toList=[74,3]:=by kernel_rfl
theorem zI{H:Type}{W:World}{a:List (DataW H)}(e:a.length=2)(d:Rows.uptoSmall H (a++[])=true)(h:∀p∈Tryz.f6.params.toList.zip a,∃cs,aY Tryz.prog W (fun k=>k<W.heap.size) (bG Tryz.prog 8 p.1 p.2) cs):
 au Tryz.prog 6 (qS Tryz.prog 8 Tryz.f6.params.toList a) (.bool true):=by
 rw[params]at h⊢
 match a,e with
 |[d1,d2],_=>
  have d:=pz.bound d
  simp only[List.append_nil,Rows.uptoBulkAll]at d
  obtain⟨c,e1,g,y1⟩:=RI (h (74,d1) (.head _)) (show Rows.uptoBulk d1<=1048576 by omega)
  obtain⟨f,e2,i⟩:=agt (h (3,d2) (.tail _ (.head _))) (show Rows.uptoBulk d2<=1048576 by omega)
  simp only[qS,e1,e2]
  exact Yw Xn c.t c.b c.aG c.aH f y1.t y1.b
theorem Lu:Rows.aimOpensUptoRow.laid=Rows.aimContactsUptoRow.laid:=by kernel_rfl
theorem reads(os:Os){H:Type}(a:TypeId×Value->H):∃b,DataW.whole a Tryz.prog ((xu os).forCall (fun _ _=>0) ⟨#[],#[Value.agg #[.slice none 0 0,.int .i64 0,.slice none 0 0,.slice none 0 0,.slice none 0 0,Value.string ⟨#[]⟩,Value.string ⟨#[]⟩],Value.int .i64 0],[]⟩).memory Tryz.f6.params.toList Rows.aimOpensSpec.vars false #[Value.agg #[.slice none 0 0,.int .i64 0,.slice none 0 0,.slice none 0 0,.slice none 0 0,Value.string ⟨#[]⟩,Value.string ⟨#[]⟩],Value.int .i64 0].toList 8=some ([.agg [.agg [.nil,.lit (.int .i64 0),.nil,.nil],.nil,.lit (.string []),.lit (.string [])],.lit (.int .i64 0)],[],b):=
 ⟨[],by kernel_rfl⟩
theorem BX(H:Type)(i:TypeId×Value->H)(W:World)(f:Nat)(args:Array Value)(a b:List (DataW H))(o:List MemPlace)
 (l:∀(j:Nat) t v,Tryz.f6.params[j]?=some t->args[j]?=some v->Value.okWide Tryz.prog W .any f t v)
 (c:DataW.Whole i Tryz.prog Tryz.f6.params.toList Rows.aimOpensSpec.vars false W args.toList a b o)(hk:Rows.uptoSmall H (a++b)=true)(k:laidMetH Tryz.prog Rows.aimOpensUptoRow.laid W):
 Calls Tryz.prog 6 args W fun e m=>∃v,e= .returned v/\Rows.aimOpensSpec.post i Tryz.prog Tryz.f6 false true false false W args v m:=by
 rw[Lu]at k
 have w:b=[]:=by
  obtain⟨p,q,_,u,_⟩:=c
  cases b with
  |nil=>rfl
  |cons g b=>exact u.elim
 have x:a.length=2:=by
  obtain⟨p,q,s,_⟩:=c
  have:=(Bz (n:=8) (base:=f) (r:= .any) (by rw[params];decide+kernel) s (fun j t v y z=>l j t v (by simpa using y) (by simpa using z))).2
  rw[this,params];rfl
 subst w
 exact SL (n:=8) (T:=(·<Tryz.prog.types.size)) (tb:=4) rfl
  (fun H a d=>by
   have d:a.length=2:=d.trans (by kernel_rfl)
   match a,d with
   |[d1,d2],_=>exact⟨rfl,rfl,rfl⟩)
  aGV ZQ (by rw[params];decide+kernel) (by rw[params];decide+kernel) (by kernel_rfl) Tryz.underlying4 vU.enters (Z5 k) (fun h=>zI x hk h) l c
theorem Up(os:Os)(j:os.Started)(H:Type)(a:TypeId×Value->H)(F:Stop.Interp):
 ReturnsInHanded {} Tryz.checked os 6 .any ((Rows.OpenSpec.upto Rows.aimOpensSpec).preRow a Tryz.prog Tryz.f6 Rows.aimOpensUptoRow.domain false Rows.aimOpensUptoRow.laid) (((Rows.OpenSpec.upto Rows.aimOpensSpec).at F).post a Tryz.prog Tryz.f6 false true false false):=by
 obtain⟨places,hx⟩:=reads os a
 refine VM wY aHN j (by kernel_rfl) Tryz.func6
  (Ux wY (xu os) #[Value.agg #[.slice none 0 0,.int .i64 0,.slice none 0 0,.slice none 0 0,.slice none 0 0,Value.string ⟨#[]⟩,Value.string ⟨#[]⟩],Value.int .i64 0] rfl (by kernel_rfl) (by kernel_rfl) (by kernel_rfl)
   (OpenSpec.preRow_of_cond 8 hx (by kernel_rfl) (fun k hk=>by cases hk;kernel_rfl) (by kernel_rfl) (by rw[Lu];exact WU os _))) ?_
 intro W b args d e c i g h f
 exact BX H a W b args d e c i g (h _ rfl) f
theorem k0:(Rows.aimOpensUptoRow.wf (OpenSpec.ofChange (Rows.OpenSpec.upto Rows.aimOpensSpec).bare))=true:=by kernel_rfl
theorem k1:(laidOutB Tryz.prog)=true:=aHC
theorem k2:(mapsRowed Tryz.prog)=true:=aHI
theorem k3:(Tryz.f6.params.all (Tryz.prog.readableRec ·))=true:=by kernel_rfl
theorem k4:(namedTie Tryz.prog Rows.aimOpensUptoRow.named (Rows.OpenSpec.upto Rows.aimOpensSpec).bare.vars)=true:=by kernel_rfl
theorem k5:((Rows.aimOpensUptoRow.stops==[]))=true:=by kernel_rfl
theorem k6:((Tryz.prog.stops==[]))=true:=by rw[aHP];rfl
theorem k7:((Rows.aimOpensUptoRow.knobs==[]))=true:=by kernel_rfl
theorem k8:((Tryz.prog.stopKnobs==[]))=true:=by rw[TQ];rfl
theorem k9:((Rows.aimOpensUptoRow.inPlace==Tryz.prog.inPlace 6))=true:=by kernel_rfl
theorem pE:((Rows.aimOpensUptoRow.unfollowed==Tryz.prog.unfollowed 6))=true:=by kernel_rfl
theorem zM:((Rows.aimOpensUptoRow.recurses==Tryz.prog.recurses 6))=true:=by kernel_rfl
theorem vV:((Rows.aimOpensUptoRow.named==Tryz.prog.varsNamed 6))=true:=by kernel_rfl
theorem vW:((Rows.aimOpensUptoRow.maps==(Tryz.f6.params.toList++(Rows.OpenSpec.upto Rows.aimOpensSpec).bare.plain.varTypes Tryz.prog).any (Tryz.prog.mapsRec ·)))=true:=by kernel_rfl
theorem vX:((Rows.aimOpensUptoRow.ifaces==(Tryz.f6.params.toList++(Rows.OpenSpec.upto Rows.aimOpensSpec).bare.plain.varTypes Tryz.prog).any (Tryz.prog.ifacesRec ·)))=true:=by kernel_rfl
theorem zN:((Rows.aimOpensUptoRow.mapsOut==Tryz.prog.mapsAmong Tryz.f6.resultTypes.toList))=true:=by kernel_rfl
theorem k16:((Rows.aimOpensUptoRow.loops==(Tryz.f6.params.toList++(Rows.OpenSpec.upto Rows.aimOpensSpec).bare.plain.varTypes Tryz.prog).any (Tryz.prog.loopsFrom ·)))=true:=by kernel_rfl
theorem k17:((Rows.aimOpensUptoRow.wideKeys==(Tryz.f6.params.toList++(Rows.OpenSpec.upto Rows.aimOpensSpec).bare.plain.varTypes Tryz.prog++Tryz.f6.resultTypes.toList).any (Tryz.prog.wideKeysFrom ·)))=true:=by kernel_rfl
theorem k18:((Rows.OpenSpec.upto Rows.aimOpensSpec).bare.vars.all (Tryz.prog.varReadable ·))=true:=by kernel_rfl
theorem k19:(Tryz.f6.resultTypes.all (fun t=>Tryz.prog.readableRec t&&decide (t<Tryz.prog.types.size)))=true:=by kernel_rfl
theorem k20:((Rows.aimOpensUptoRow.ifacesOut==Tryz.f6.resultTypes.toList.any (Tryz.prog.ifacesRec ·)))=true:=by kernel_rfl
theorem k21:((Rows.aimOpensUptoRow.loopsOut==Tryz.f6.resultTypes.toList.any (Tryz.prog.loopsFrom ·)))=true:=by kernel_rfl
theorem k22:((Rows.aimOpensUptoRow.plainKeys==Tryz.prog.plainKeys))=true:=by rw[TR];rfl
theorem k23:(Rows.aimOpensUptoRow.shortTexts.isNone)=true:=by kernel_rfl
theorem k24:(Tryz.prog.stopsHeard)=true:=S1
theorem k25:(Tryz.prog.mayEnter)=true:=Ud
theorem k26:((Rows.aimOpensUptoRow.lifted==Tryz.prog.liftsFinal))=true:=by rw[aHE];rfl
theorem k27:((Tryz.prog.make==some Rows.aimOpensUptoRow.make))=true:=by rw[aHH];rfl
theorem k28:((Rows.aimOpensUptoRow.kinds==(if Rows.aimOpensUptoRow.domain.isEmpty then[]else Tryz.f6.params.toList.map fun t=>match Tryz.prog.underlying t with|some (.int k)=>some k|_=>none)))=true:=by kernel_rfl
theorem k29:((Rows.aimOpensUptoRow.pinned==Rows.aimOpensUptoRow.pinnedBy))=true:=by kernel_rfl
theorem k30:((Rows.aimOpensUptoRow.veiled==(Tryz.f6.params.toList++(Rows.OpenSpec.upto Rows.aimOpensSpec).bare.plain.varTypes Tryz.prog++Tryz.f6.resultTypes.toList).any (Tryz.prog.veiledRec ·)))=true:=by kernel_rfl
theorem k31:(Rows.aimOpensUptoRow.veiledFits Tryz.prog Tryz.f6.params.toList (Tryz.f6.params.toList++(Rows.OpenSpec.upto Rows.aimOpensSpec).bare.plain.varTypes Tryz.prog++Tryz.f6.resultTypes.toList))=true:=by kernel_rfl
theorem eO{a b:Bool}(h:a=true)(k:b=true):(a&&b)=true:=by rw[h,k];rfl
theorem closed:joinedFacts Tryz.prog 6 Tryz.f6 (Rows.OpenSpec.upto Rows.aimOpensSpec).bare Rows.aimOpensUptoRow=true:=
 eO (eO (eO (eO (eO (eO (eO (eO (eO (eO (eO (eO (eO (eO (eO (eO (eO (eO (eO (eO (eO (eO (eO (eO (eO (eO (eO (eO (eO (eO (eO (k0) k1) k2) k3) k4) k5) k6) k7) k8) k9) pE) zM) vV) vW) vX) zN) k16) k17) k18) k19) k20) k21) k22) k23) k24) k25) k26) k27) k28) k29) k30) k31
theorem named:Tryz.prog.funcNamed Rows.aimOpensUptoRow.func=some 6:=by kernel_rfl
theorem inst:Tryz.f6.isInstance Tryz.prog Rows.aimOpensUptoRow.origin Rows.aimOpensUptoRow.targs:=of_decide_eq_true (by kernel_rfl)
theorem wrap:Tryz.f6.isWrapper Tryz.prog Rows.aimOpensUptoRow.wrapper Rows.aimOpensUptoRow.mainSum:=by
 unfold Func.isWrapper;first|(rw[if_pos (by decide+kernel)];kernel_rfl)|(rw[if_neg (by decide+kernel)];exact⟨rfl,rfl⟩)
theorem V4:Rows.AimOpensUptoSaid:=
 aIj GV wY 6 Tryz.f6 rfl rfl rfl rfl rfl rfl rfl ⟨rfl,rfl,rfl,rfl,rfl⟩ rfl rfl rfl rfl rfl named Tryz.func6 closed inst wrap
  (fun os b H a F=>Up os b H a F)
theorem stands:∀t∈Tryz.f6.params.toList,Tryz.prog.wantsStandIn t=false:=by rw[params];decide+kernel
theorem XV:Rows.aimOpensUptoRow.wfByText (Rows.OpenSpec.upto Rows.aimOpensSpec)=true:=by kernel_rfl
theorem mainIs:Tryz.prog.mainIs=some (Rows.aimOpensUptoCard.stood.harness.1,Rows.aimOpensUptoCard.stood.harness.2.toList):=by kernel_rfl
theorem goes:false=Rows.aimOpensUptoRow.goesBy Tryz.prog:=by kernel_rfl
theorem cardUpto:Rows.AimOpensUptoCardSaid:=
 YR GV wY .later _ _ _ _ V4 XV aimOpensUpto_row_tie rfl ⟨rfl,rfl⟩ mainIs rfl named Tryz.func6 aHG stands goes
end Go.Proofs.YtanjnahmbanmaaaGreatDoor.aimOpens
