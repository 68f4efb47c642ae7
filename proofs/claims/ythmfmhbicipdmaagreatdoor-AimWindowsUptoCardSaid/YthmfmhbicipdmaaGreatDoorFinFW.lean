import Derived.Test.YthmfmhbicipdmaaGreatDoorPC
import Derived.Test.YthmfmhbicipdmaaGreatDoorPD
import Derived.Test.YthmfmhbicipdmaaGreatDoorPE
import Derived.Test.YthmfmhbicipdmaaGreatDoorPH
import Derived.Test.YthmfmhbicipdmaaGreatDoorPM
import Derived.Test.YthmfmhbicipdmaaGreatDoorPR
import Derived.Test.YthmfmhbicipdmaaGreatDoorPS
import Derived.Test.YthmfmhbicipdmaaGreatDoorCards
import Derived.Test.YthmfmhbicipdmaaGreatDoorTie
import Derived.Seven
/-
 The law AimWindows returns true for all arguments whose bulk is at most 1048576,and the arguments read as before.
-/
set_option linter.unusedSimpArgs false
set_option linter.unusedVariables false
set_option linter.unusedSectionVars false
namespace Go.Proofs.YthmfmhbicipdmaaGreatDoor.aimWindows
open Go.ah
set_option maxRecDepth 100000
theorem params:Tryz.f4.params.toList=[29,9]:=by kernel_rfl
theorem uH{H:Type}{W:World}{a:List (DataW H)}(e:a.length=2)(d:Rows.uptoSmall H (a++[])=true)(h:∀p∈Tryz.f4.params.toList.zip a,∃cs,aW Tryz.prog W (fun k=>k<W.heap.size) (bu Tryz.prog 8 p.1 p.2) cs):
 ar Tryz.prog 4 (oR Tryz.prog 8 Tryz.f4.params.toList a) (.bool true):=by
 rw[params]at h⊢
 match a,e with
 |[d1,d2],_=>
  have d:=oV.bound d
  simp only[List.append_nil,Rows.uptoBulkAll]at d
  obtain⟨c,e1,b1,y1⟩:=Hl (h (29,d1) (.head _)) (show Rows.uptoBulk d1<=1048576 by omega)
  obtain⟨f,e2,g,y2⟩:=aKU (h (9,d2) (.tail _ (.head _))) (show Rows.uptoBulk d2<=1048576 by omega)
  simp only[oR,e1,e2]
  exact Ub OR c.t c.b c.ak c.al f y1.t y1.b
theorem xg:Rows.aimWindowsUptoRow.laid=Rows.aimHidesUptoRow.laid:=by kernel_rfl
theorem reads(os:Os){H:Type}(a:TypeId×Value->H):∃b,DataW.whole a Tryz.prog ((tR os).forCall (fun _ _=>0) ⟨#[],#[Value.agg #[.slice none 0 0,.int .i64 0,.slice none 0 0,.slice none 0 0,.slice none 0 0,Value.string ⟨#[]⟩,Value.string ⟨#[]⟩],Value.string ⟨#[]⟩],[]⟩).memory Tryz.f4.params.toList Rows.aimWindowsSpec.vars false #[Value.agg #[.slice none 0 0,.int .i64 0,.slice none 0 0,.slice none 0 0,.slice none 0 0,Value.string ⟨#[]⟩,Value.string ⟨#[]⟩],Value.string ⟨#[]⟩].toList 8=some ([.agg [.agg [.nil,.lit (.int .i64 0),.nil,.nil],.nil,.lit (.string []),.lit (.string [])],.lit (.string [])],[],b):=
 ⟨[],by kernel_rfl⟩
theorem wF(H:Type)(i:TypeId×Value->H)(W:World)(f:Nat)(args:Array Value)(a b:List (DataW H))(o:List MemPlace)
 (l:∀(j:Nat) t v,Tryz.f4.params[j]?=some t->args[j]?=some v->Value.okWide Tryz.prog W .any f t v)
 (c:DataW.Whole i Tryz.prog Tryz.f4.params.toList Rows.aimWindowsSpec.vars false W args.toList a b o)(hk:Rows.uptoSmall H (a++b)=true)(k:laidMetH Tryz.prog Rows.aimWindowsUptoRow.laid W):
 Calls Tryz.prog 4 args W fun e m=>∃v,e= .returned v/\Rows.aimWindowsSpec.post i Tryz.prog Tryz.f4 false true false false W args v m:=by
 rw[xg]at k
 have w:b=[]:=by
  obtain⟨p,q,_,u,_⟩:=c
  cases b with
  |nil=>rfl
  |cons g b=>exact u.elim
 have x:a.length=2:=by
  obtain⟨p,q,s,_⟩:=c
  have:=(zl (n:=8) (base:=f) (r:= .any) (by rw[params];decide+kernel) s (fun j t v y z=>l j t v (by simpa using y) (by simpa using z))).2
  rw[this,params];rfl
 subst w
 exact KD (n:=8) (T:=(·<Tryz.prog.types.size)) (tb:=4) rfl
  (fun H a d=>by
   have d:a.length=2:=d.trans (by kernel_rfl)
   match a,d with
   |[d1,d2],_=>exact⟨rfl,rfl,rfl⟩)
  R4 Q9 (by rw[params];decide+kernel) (by rw[params];decide+kernel) (by kernel_rfl) Tryz.underlying4 uL.enters (FM k) (fun h=>uH x hk h) l c
theorem DP(os:Os)(j:os.Started)(H:Type)(a:TypeId×Value->H)(F:Stop.Interp):
 ReturnsInHanded {} Tryz.checked os 4 .any ((Rows.OpenSpec.upto Rows.aimWindowsSpec).preRow a Tryz.prog Tryz.f4 Rows.aimWindowsUptoRow.domain false Rows.aimWindowsUptoRow.laid) (((Rows.OpenSpec.upto Rows.aimWindowsSpec).at F).post a Tryz.prog Tryz.f4 false true false false):=by
 obtain⟨places,hx⟩:=reads os a
 refine Od pA Sj j (by kernel_rfl) Tryz.func4
  (Nf pA (tR os) #[Value.agg #[.slice none 0 0,.int .i64 0,.slice none 0 0,.slice none 0 0,.slice none 0 0,Value.string ⟨#[]⟩,Value.string ⟨#[]⟩],Value.string ⟨#[]⟩] rfl (by kernel_rfl) (by kernel_rfl) (by kernel_rfl)
   (OpenSpec.preRow_of_cond 8 hx (by kernel_rfl) (fun k hk=>by cases hk;kernel_rfl) (by kernel_rfl) (by rw[xg];exact OI os _))) ?_
 intro W b args d e c i g h f
 exact wF H a W b args d e c i g (h _ rfl) f
theorem k0:(Rows.aimWindowsUptoRow.wf (OpenSpec.ofChange (Rows.OpenSpec.upto Rows.aimWindowsSpec).bare))=true:=by kernel_rfl
theorem k1:(laidOutB Tryz.prog)=true:=FQ
theorem k2:(mapsRowed Tryz.prog)=true:=FO
theorem k3:(Tryz.f4.params.all (Tryz.prog.readableRec ·))=true:=by kernel_rfl
theorem k4:(namedTie Tryz.prog Rows.aimWindowsUptoRow.named (Rows.OpenSpec.upto Rows.aimWindowsSpec).bare.vars)=true:=by kernel_rfl
theorem k5:((Rows.aimWindowsUptoRow.stops==[]))=true:=by kernel_rfl
theorem k6:((Tryz.prog.stops==[]))=true:=by rw[FJ];rfl
theorem k7:((Rows.aimWindowsUptoRow.knobs==[]))=true:=by kernel_rfl
theorem k8:((Tryz.prog.stopKnobs==[]))=true:=by rw[LD];rfl
theorem k9:((Rows.aimWindowsUptoRow.inPlace==Tryz.prog.inPlace 4))=true:=by kernel_rfl
theorem nF:((Rows.aimWindowsUptoRow.unfollowed==Tryz.prog.unfollowed 4))=true:=by kernel_rfl
theorem uM:((Rows.aimWindowsUptoRow.recurses==Tryz.prog.recurses 4))=true:=by kernel_rfl
theorem sH:((Rows.aimWindowsUptoRow.named==Tryz.prog.varsNamed 4))=true:=by kernel_rfl
theorem sJ:((Rows.aimWindowsUptoRow.maps==(Tryz.f4.params.toList++(Rows.OpenSpec.upto Rows.aimWindowsSpec).bare.plain.varTypes Tryz.prog).any (Tryz.prog.mapsRec ·)))=true:=by kernel_rfl
theorem sK:((Rows.aimWindowsUptoRow.ifaces==(Tryz.f4.params.toList++(Rows.OpenSpec.upto Rows.aimWindowsSpec).bare.plain.varTypes Tryz.prog).any (Tryz.prog.ifacesRec ·)))=true:=by kernel_rfl
theorem uN:((Rows.aimWindowsUptoRow.mapsOut==Tryz.prog.mapsAmong Tryz.f4.resultTypes.toList))=true:=by kernel_rfl
theorem ES:((Rows.aimWindowsUptoRow.loops==(Tryz.f4.params.toList++(Rows.OpenSpec.upto Rows.aimWindowsSpec).bare.plain.varTypes Tryz.prog).any (Tryz.prog.loopsFrom ·)))=true:=by kernel_rfl
theorem ET:((Rows.aimWindowsUptoRow.wideKeys==(Tryz.f4.params.toList++(Rows.OpenSpec.upto Rows.aimWindowsSpec).bare.plain.varTypes Tryz.prog++Tryz.f4.resultTypes.toList).any (Tryz.prog.wideKeysFrom ·)))=true:=by kernel_rfl
theorem EU:((Rows.OpenSpec.upto Rows.aimWindowsSpec).bare.vars.all (Tryz.prog.varReadable ·))=true:=by kernel_rfl
theorem EV:(Tryz.f4.resultTypes.all (fun t=>Tryz.prog.readableRec t&&decide (t<Tryz.prog.types.size)))=true:=by kernel_rfl
theorem EW:((Rows.aimWindowsUptoRow.ifacesOut==Tryz.f4.resultTypes.toList.any (Tryz.prog.ifacesRec ·)))=true:=by kernel_rfl
theorem EX:((Rows.aimWindowsUptoRow.loopsOut==Tryz.f4.resultTypes.toList.any (Tryz.prog.loopsFrom ·)))=true:=by kernel_rfl
theorem EY:((Rows.aimWindowsUptoRow.plainKeys==Tryz.prog.plainKeys))=true:=by rw[LF];rfl
theorem EZ:(Rows.aimWindowsUptoRow.shortTexts.isNone)=true:=by kernel_rfl
theorem E0:(Tryz.prog.stopsHeard)=true:=Li
theorem E3:(Tryz.prog.mayEnter)=true:=M5
theorem E4:((Rows.aimWindowsUptoRow.lifted==Tryz.prog.liftsFinal))=true:=by rw[FL];rfl
theorem E5:((Tryz.prog.make==some Rows.aimWindowsUptoRow.make))=true:=by rw[FP];rfl
theorem E6:((Rows.aimWindowsUptoRow.kinds==(if Rows.aimWindowsUptoRow.domain.isEmpty then[]else Tryz.f4.params.toList.map fun t=>match Tryz.prog.underlying t with|some (.int k)=>some k|_=>none)))=true:=by kernel_rfl
theorem E7:((Rows.aimWindowsUptoRow.pinned==Rows.aimWindowsUptoRow.pinnedBy))=true:=by kernel_rfl
theorem E8:((Rows.aimWindowsUptoRow.veiled==(Tryz.f4.params.toList++(Rows.OpenSpec.upto Rows.aimWindowsSpec).bare.plain.varTypes Tryz.prog++Tryz.f4.resultTypes.toList).any (Tryz.prog.veiledRec ·)))=true:=by kernel_rfl
theorem E9:(Rows.aimWindowsUptoRow.veiledFits Tryz.prog Tryz.f4.params.toList (Tryz.f4.params.toList++(Rows.OpenSpec.upto Rows.aimWindowsSpec).bare.plain.varTypes Tryz.prog++Tryz.f4.resultTypes.toList))=true:=by kernel_rfl
theorem cw{a b:Bool}(h:a=true)(k:b=true):(a&&b)=true:=by rw[h,k];rfl
theorem closed:joinedFacts Tryz.prog 4 Tryz.f4 (Rows.OpenSpec.upto Rows.aimWindowsSpec).bare Rows.aimWindowsUptoRow=true:=
 cw (cw (cw (cw (cw (cw (cw (cw (cw (cw (cw (cw (cw (cw (cw (cw (cw (cw (cw (cw (cw (cw (cw (cw (cw (cw (cw (cw (cw (cw (cw (k0) k1) k2) k3) k4) k5) k6) k7) k8) k9) nF) uM) sH) sJ) sK) uN) ES) ET) EU) EV) EW) EX) EY) EZ) E0) E3) E4) E5) E6) E7) E8) E9
theorem named:Tryz.prog.funcNamed Rows.aimWindowsUptoRow.func=some 4:=by kernel_rfl
theorem inst:Tryz.f4.isInstance Tryz.prog Rows.aimWindowsUptoRow.origin Rows.aimWindowsUptoRow.targs:=of_decide_eq_true (by kernel_rfl)
theorem wrap:Tryz.f4.isWrapper Tryz.prog Rows.aimWindowsUptoRow.wrapper Rows.aimWindowsUptoRow.mainSum:=by
 unfold Func.isWrapper;first|(rw[if_pos (by decide+kernel)];kernel_rfl)|(rw[if_neg (by decide+kernel)];exact⟨rfl,rfl⟩)
theorem Ec:Rows.AimWindowsUptoSaid:=
 FI ze pA 4 Tryz.f4 rfl rfl rfl rfl rfl rfl rfl ⟨rfl,rfl,rfl,rfl,rfl⟩ rfl rfl rfl rfl rfl named Tryz.func4 closed inst wrap
  (fun os b H a F=>DP os b H a F)
theorem Bg:∀t∈Tryz.f4.params.toList,Tryz.prog.wantsStandIn t=false:=by rw[params];decide+kernel
theorem Bh:Rows.aimWindowsUptoRow.wfByText (Rows.OpenSpec.upto Rows.aimWindowsSpec)=true:=by kernel_rfl
theorem mainIs:Tryz.prog.mainIs=some (Rows.aimWindowsUptoCard.stood.harness.1,Rows.aimWindowsUptoCard.stood.harness.2.toList):=by kernel_rfl
theorem goes:false=Rows.aimWindowsUptoRow.goesBy Tryz.prog:=by kernel_rfl
theorem cardUpto:Rows.AimWindowsUptoCardSaid:=
 FN ze pA .later _ _ _ _ Ec Bh aimWindowsUpto_row_tie rfl ⟨rfl,rfl⟩ mainIs rfl named Tryz.func4 FK Bg goes
end Go.Proofs.YthmfmhbicipdmaaGreatDoor.aimWindows
