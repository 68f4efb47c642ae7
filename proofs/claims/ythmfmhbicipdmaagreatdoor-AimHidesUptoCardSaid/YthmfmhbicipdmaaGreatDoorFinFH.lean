import Derived.Test.YthmfmhbicipdmaaGreatDoorPC
import Derived.Test.YthmfmhbicipdmaaGreatDoorPD
import Derived.Test.YthmfmhbicipdmaaGreatDoorPE
import Derived.Test.YthmfmhbicipdmaaGreatDoorPH
import Derived.Test.YthmfmhbicipdmaaGreatDoorPM
import Derived.Test.YthmfmhbicipdmaaGreatDoorPR
import Derived.Test.YthmfmhbicipdmaaGreatDoorPS
import Derived.Test.YthmfmhbicipdmaaGreatDoorCards
import Derived.Test.YthmfmhbicipdmaaGreatDoorTie
import Derived.Seven
/-
 The law AimHides returns true for all arguments whose bulk is at most 1048576,and the arguments read as before.
-/
set_option linter.unusedSimpArgs false
set_option linter.unusedVariables false
set_option linter.unusedSectionVars false
namespace Go.Proofs.YthmfmhbicipdmaaGreatDoor.aimHides
open Go.ah
set_option maxRecDepth 100000
theorem params:Tryz.f6.params.toList=[29,68]:=by kernel_rfl
theorem uH{H:Type}{W:World}{a:List (DataW H)}(e:a.length=2)(d:Rows.uptoSmall H (a++[])=true)(h:∀p∈Tryz.f6.params.toList.zip a,∃cs,aW Tryz.prog W (fun k=>k<W.heap.size) (bu Tryz.prog 8 p.1 p.2) cs):
 ar Tryz.prog 6 (oR Tryz.prog 8 Tryz.f6.params.toList a) (.bool true):=by
 rw[params]at h⊢
 match a,e with
 |[d1,d2],_=>
  have d:=oV.bound d
  simp only[List.append_nil,Rows.uptoBulkAll]at d
  obtain⟨c,e1,b1,y1⟩:=Hl (h (29,d1) (.head _)) (show Rows.uptoBulk d1<=1048576 by omega)
  obtain⟨f,e2,g⟩:=Uq (h (68,d2) (.tail _ (.head _))) (show Rows.uptoBulk d2<=1048576 by omega)
  simp only[oR,e1,e2]
  exact Ud OR c.t c.b c.ak c.al f y1.t y1.b
theorem xg:Rows.aimHidesUptoRow.laid=Rows.aimHidesUptoRow.laid:=by kernel_rfl
theorem reads(os:Os){H:Type}(a:TypeId×Value->H):∃b,DataW.whole a Tryz.prog ((tR os).forCall (fun _ _=>0) ⟨#[],#[Value.agg #[.slice none 0 0,.int .i64 0,.slice none 0 0,.slice none 0 0,.slice none 0 0,Value.string ⟨#[]⟩,Value.string ⟨#[]⟩],Value.slice none 0 0],[]⟩).memory Tryz.f6.params.toList Rows.aimHidesSpec.vars false #[Value.agg #[.slice none 0 0,.int .i64 0,.slice none 0 0,.slice none 0 0,.slice none 0 0,Value.string ⟨#[]⟩,Value.string ⟨#[]⟩],Value.slice none 0 0].toList 8=some ([.agg [.agg [.nil,.lit (.int .i64 0),.nil,.nil],.nil,.lit (.string []),.lit (.string [])],.nil],[],b):=
 ⟨[],by kernel_rfl⟩
theorem wF(H:Type)(i:TypeId×Value->H)(W:World)(f:Nat)(args:Array Value)(a b:List (DataW H))(o:List MemPlace)
 (l:∀(j:Nat) t v,Tryz.f6.params[j]?=some t->args[j]?=some v->Value.okWide Tryz.prog W .any f t v)
 (c:DataW.Whole i Tryz.prog Tryz.f6.params.toList Rows.aimHidesSpec.vars false W args.toList a b o)(hk:Rows.uptoSmall H (a++b)=true)(k:laidMetH Tryz.prog Rows.aimHidesUptoRow.laid W):
 Calls Tryz.prog 6 args W fun e m=>∃v,e= .returned v/\Rows.aimHidesSpec.post i Tryz.prog Tryz.f6 false true false false W args v m:=by
 rw[xg]at k
 have w:b=[]:=by
  obtain⟨p,q,_,u,_⟩:=c
  cases b with
  |nil=>rfl
  |cons g b=>exact u.elim
 have x:a.length=2:=by
  obtain⟨p,q,s,_⟩:=c
  have:=(zl (n:=8) (base:=f) (r:= .any) (by rw[params];decide+kernel) s (fun j t v y z=>l j t v (by simpa using y) (by simpa using z))).2
  rw[this,params];rfl
 subst w
 exact KD (n:=8) (T:=(·<Tryz.prog.types.size)) (tb:=4) rfl
  (fun H a d=>by
   have d:a.length=2:=d.trans (by kernel_rfl)
   match a,d with
   |[d1,d2],_=>exact⟨rfl,rfl,rfl⟩)
  R4 Q9 (by rw[params];decide+kernel) (by rw[params];decide+kernel) (by kernel_rfl) Tryz.underlying4 xu.enters (FM k) (fun h=>uH x hk h) l c
theorem DP(os:Os)(j:os.Started)(H:Type)(a:TypeId×Value->H)(F:Stop.Interp):
 ReturnsInHanded {} Tryz.checked os 6 .any ((Rows.OpenSpec.upto Rows.aimHidesSpec).preRow a Tryz.prog Tryz.f6 Rows.aimHidesUptoRow.domain false Rows.aimHidesUptoRow.laid) (((Rows.OpenSpec.upto Rows.aimHidesSpec).at F).post a Tryz.prog Tryz.f6 false true false false):=by
 obtain⟨places,hx⟩:=reads os a
 refine Od pA Sj j (by kernel_rfl) Tryz.func6
  (Nf pA (tR os) #[Value.agg #[.slice none 0 0,.int .i64 0,.slice none 0 0,.slice none 0 0,.slice none 0 0,Value.string ⟨#[]⟩,Value.string ⟨#[]⟩],Value.slice none 0 0] rfl (by kernel_rfl) (by kernel_rfl) (by kernel_rfl)
   (OpenSpec.preRow_of_cond 8 hx (by kernel_rfl) (fun k hk=>by cases hk;kernel_rfl) (by kernel_rfl) (by rw[xg];exact OI os _))) ?_
 intro W b args d e c i g h f
 exact wF H a W b args d e c i g (h _ rfl) f
theorem k0:(Rows.aimHidesUptoRow.wf (OpenSpec.ofChange (Rows.OpenSpec.upto Rows.aimHidesSpec).bare))=true:=by kernel_rfl
theorem k1:(laidOutB Tryz.prog)=true:=FQ
theorem k2:(mapsRowed Tryz.prog)=true:=FO
theorem k3:(Tryz.f6.params.all (Tryz.prog.readableRec ·))=true:=by kernel_rfl
theorem k4:(namedTie Tryz.prog Rows.aimHidesUptoRow.named (Rows.OpenSpec.upto Rows.aimHidesSpec).bare.vars)=true:=by kernel_rfl
theorem k5:((Rows.aimHidesUptoRow.stops==[]))=true:=by kernel_rfl
theorem k6:((Tryz.prog.stops==[]))=true:=by rw[FJ];rfl
theorem k7:((Rows.aimHidesUptoRow.knobs==[]))=true:=by kernel_rfl
theorem k8:((Tryz.prog.stopKnobs==[]))=true:=by rw[LD];rfl
theorem k9:((Rows.aimHidesUptoRow.inPlace==Tryz.prog.inPlace 6))=true:=by kernel_rfl
theorem nF:((Rows.aimHidesUptoRow.unfollowed==Tryz.prog.unfollowed 6))=true:=by kernel_rfl
theorem uM:((Rows.aimHidesUptoRow.recurses==Tryz.prog.recurses 6))=true:=by kernel_rfl
theorem sH:((Rows.aimHidesUptoRow.named==Tryz.prog.varsNamed 6))=true:=by kernel_rfl
theorem sJ:((Rows.aimHidesUptoRow.maps==(Tryz.f6.params.toList++(Rows.OpenSpec.upto Rows.aimHidesSpec).bare.plain.varTypes Tryz.prog).any (Tryz.prog.mapsRec ·)))=true:=by kernel_rfl
theorem sK:((Rows.aimHidesUptoRow.ifaces==(Tryz.f6.params.toList++(Rows.OpenSpec.upto Rows.aimHidesSpec).bare.plain.varTypes Tryz.prog).any (Tryz.prog.ifacesRec ·)))=true:=by kernel_rfl
theorem uN:((Rows.aimHidesUptoRow.mapsOut==Tryz.prog.mapsAmong Tryz.f6.resultTypes.toList))=true:=by kernel_rfl
theorem ES:((Rows.aimHidesUptoRow.loops==(Tryz.f6.params.toList++(Rows.OpenSpec.upto Rows.aimHidesSpec).bare.plain.varTypes Tryz.prog).any (Tryz.prog.loopsFrom ·)))=true:=by kernel_rfl
theorem ET:((Rows.aimHidesUptoRow.wideKeys==(Tryz.f6.params.toList++(Rows.OpenSpec.upto Rows.aimHidesSpec).bare.plain.varTypes Tryz.prog++Tryz.f6.resultTypes.toList).any (Tryz.prog.wideKeysFrom ·)))=true:=by kernel_rfl
theorem EU:((Rows.OpenSpec.upto Rows.aimHidesSpec).bare.vars.all (Tryz.prog.varReadable ·))=true:=by kernel_rfl
theorem EV:(Tryz.f6.resultTypes.all (fun t=>Tryz.prog.readableRec t&&decide (t<Tryz.prog.types.size)))=true:=by kernel_rfl
theorem EW:((Rows.aimHidesUptoRow.ifacesOut==Tryz.f6.resultTypes.toList.any (Tryz.prog.ifacesRec ·)))=true:=by kernel_rfl
theorem EX:((Rows.aimHidesUptoRow.loopsOut==Tryz.f6.resultTypes.toList.any (Tryz.prog.loopsFrom ·)))=true:=by kernel_rfl
theorem EY:((Rows.aimHidesUptoRow.plainKeys==Tryz.prog.plainKeys))=true:=by rw[LF];rfl
theorem EZ:(Rows.aimHidesUptoRow.shortTexts.isNone)=true:=by kernel_rfl
theorem E0:(Tryz.prog.stopsHeard)=true:=Li
theorem E3:(Tryz.prog.mayEnter)=true:=M5
theorem E4:((Rows.aimHidesUptoRow.lifted==Tryz.prog.liftsFinal))=true:=by rw[FL];rfl
theorem E5:((Tryz.prog.make==some Rows.aimHidesUptoRow.make))=true:=by rw[FP];rfl
theorem E6:((Rows.aimHidesUptoRow.kinds==(if Rows.aimHidesUptoRow.domain.isEmpty then[]else Tryz.f6.params.toList.map fun t=>match Tryz.prog.underlying t with|some (.int k)=>some k|_=>none)))=true:=by kernel_rfl
theorem E7:((Rows.aimHidesUptoRow.pinned==Rows.aimHidesUptoRow.pinnedBy))=true:=by kernel_rfl
theorem E8:((Rows.aimHidesUptoRow.veiled==(Tryz.f6.params.toList++(Rows.OpenSpec.upto Rows.aimHidesSpec).bare.plain.varTypes Tryz.prog++Tryz.f6.resultTypes.toList).any (Tryz.prog.veiledRec ·)))=true:=by kernel_rfl
theorem E9:(Rows.aimHidesUptoRow.veiledFits Tryz.prog Tryz.f6.params.toList (Tryz.f6.params.toList++(Rows.OpenSpec.upto Rows.aimHidesSpec).bare.plain.varTypes Tryz.prog++Tryz.f6.resultTypes.toList))=true:=by kernel_rfl
theorem cw{a b:Bool}(h:a=true)(k:b=true):(a&&b)=true:=by rw[h,k];rfl
theorem closed:joinedFacts Tryz.prog 6 Tryz.f6 (Rows.OpenSpec.upto Rows.aimHidesSpec).bare Rows.aimHidesUptoRow=true:=
 cw (cw (cw (cw (cw (cw (cw (cw (cw (cw (cw (cw (cw (cw (cw (cw (cw (cw (cw (cw (cw (cw (cw (cw (cw (cw (cw (cw (cw (cw (cw (k0) k1) k2) k3) k4) k5) k6) k7) k8) k9) nF) uM) sH) sJ) sK) uN) ES) ET) EU) EV) EW) EX) EY) EZ) E0) E3) E4) E5) E6) E7) E8) E9
theorem named:Tryz.prog.funcNamed Rows.aimHidesUptoRow.func=some 6:=by kernel_rfl
theorem inst:Tryz.f6.isInstance Tryz.prog Rows.aimHidesUptoRow.origin Rows.aimHidesUptoRow.targs:=of_decide_eq_true (by kernel_rfl)
theorem wrap:Tryz.f6.isWrapper Tryz.prog Rows.aimHidesUptoRow.wrapper Rows.aimHidesUptoRow.mainSum:=by
 unfold Func.isWrapper;first|(rw[if_pos (by decide+kernel)];kernel_rfl)|(rw[if_neg (by decide+kernel)];exact⟨rfl,rfl⟩)
theorem Ec:Rows.AimHidesUptoSaid:=
 FI ze pA 6 Tryz.f6 rfl rfl rfl rfl rfl rfl rfl ⟨rfl,rfl,rfl,rfl,rfl⟩ rfl rfl rfl rfl rfl named Tryz.func6 closed inst wrap
  (fun os b H a F=>DP os b H a F)
theorem Bg:∀t∈Tryz.f6.params.toList,Tryz.prog.wantsStandIn t=false:=by rw[params];decide+kernel
theorem Bh:Rows.aimHidesUptoRow.wfByText (Rows.OpenSpec.upto Rows.aimHidesSpec)=true:=by kernel_rfl
theorem mainIs:Tryz.prog.mainIs=some (Rows.aimHidesUptoCard.stood.harness.1,Rows.aimHidesUptoCard.stood.harness.2.toList):=by kernel_rfl
theorem goes:false=Rows.aimHidesUptoRow.goesBy Tryz.prog:=by kernel_rfl
theorem cardUpto:Rows.AimHidesUptoCardSaid:=
 FN ze pA .later _ _ _ _ Ec Bh aimHidesUpto_row_tie rfl ⟨rfl,rfl⟩ mainIs rfl named Tryz.func6 FK Bg goes
end Go.Proofs.YthmfmhbicipdmaaGreatDoor.aimHides
