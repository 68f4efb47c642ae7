import Derived.Test.YtdjojlnnobkliaaGreatDoorSPC
import Derived.Test.YtdjojlnnobkliaaGreatDoorSPD
import Derived.Test.YtdjojlnnobkliaaGreatDoorSPE
import Derived.Test.YtdjojlnnobkliaaGreatDoorSPG
import Derived.Test.YtdjojlnnobkliaaGreatDoorSPH
import Derived.Test.YtdjojlnnobkliaaGreatDoorCards
import Derived.Test.YtdjojlnnobkliaaGreatDoorTie
import Derived.Seven
/-
 The law AimUncovers returns true for all arguments whose bulk is at most 1048576,and the arguments read as before.
-/
set_option maxRecDepth 100000
set_option linter.unusedSimpArgs false
set_option linter.unusedVariables false
set_option linter.unusedSectionVars false
namespace Go.Proofs.YtdjojlnnobkliaaGreatDoor.aimUncovers
open Go.aq
theorem params:Tryz.f5.params.toList=[29,5]:=k_
theorem AJ{H:Type}{W:World}{a:List (DataW H)}(e:a.length=2)(d:Rows.uptoSmall H (a++[])=true)(h:∀p∈Tryz.f5.params.toList.zip a,∃cs,aZ Tryz.prog W (fun k=>k<W.heap.size) (bF Tryz.prog 8 p.1 p.2) cs):
 aB Tryz.prog 5 (rQ Tryz.prog 8 Tryz.f5.params.toList a) (.bool true):=by
 rw[params]at h⊢
 match a,e with
 |[d1,d2],_=>
  have d:=ql.bound d
  simp only[List.append_nil,Rows.uptoBulkAll]at d
  obtain⟨c,e1,b1,y1⟩:=Tp (h (29,d1) (.head _)) (show Rows.uptoBulk d1<=1048576 by omega)
  obtain⟨f,e2,g,y2⟩:=aJf (h (5,d2) (.tail _ (.head _))) (show Rows.uptoBulk d2<=1048576 by omega)
  simp only[rQ,e1,e2]
  exact Tk YU c.t c.b c.aw c.az f y2 y1.t y1.b
theorem Ns:Rows.aimUncoversUptoRow.laid=Rows.aimPlansUptoRow.laid:=k_
theorem reads(os:Os){H:Type}(a:TypeId×Value->H):∃b,DataW.whole a Tryz.prog ((yr os).forCall (fun _ _=>0) ⟨#[],#[Value.agg #[.slice none 0 0,.int .i64 0,.slice none 0 0,.slice none 0 0,.slice none 0 0,Value.string ⟨#[]⟩,Value.string ⟨#[]⟩],Value.int .u8 0],[]⟩).memory Tryz.f5.params.toList Rows.aimUncoversSpec.vars false #[Value.agg #[.slice none 0 0,.int .i64 0,.slice none 0 0,.slice none 0 0,.slice none 0 0,Value.string ⟨#[]⟩,Value.string ⟨#[]⟩],Value.int .u8 0].toList 8=some ([.agg [.agg [.nil,.lit (.int .i64 0),.nil,.nil],.nil,.lit (.string []),.lit (.string [])],.lit (.int .u8 0)],[],b):=
 ⟨[],k_⟩
theorem CU(H:Type)(i:TypeId×Value->H)(W:World)(f:Nat)(args:Array Value)(a b:List (DataW H))(o:List MemPlace)
 (l:∀(j:Nat) t v,Tryz.f5.params[j]?=some t->args[j]?=some v->Value.okWide Tryz.prog W .any f t v)
 (c:DataW.Whole i Tryz.prog Tryz.f5.params.toList Rows.aimUncoversSpec.vars false W args.toList a b o)(hk:Rows.uptoSmall H (a++b)=true)(k:laidMetH Tryz.prog Rows.aimUncoversUptoRow.laid W):
 Calls Tryz.prog 5 args W fun e m=>∃v,e= .returned v/\Rows.aimUncoversSpec.post i Tryz.prog Tryz.f5 false true false false W args v m:=by
 rw[Ns]at k
 have w:b=[]:=by
  obtain⟨p,q,_,u,_⟩:=c
  cases b with
  |nil=>rfl
  |cons g b=>exact u.elim
 have x:a.length=2:=by
  obtain⟨p,q,s,_⟩:=c
  have:=(Cy (n:=8) (base:=f) (r:= .any) (by rw[params];decide+kernel) s (fun j t v y z=>l j t v (by simpa using y) (by simpa using z))).2
  rw[this,params];rfl
 subst w
 exact Uq (n:=8) (T:=(·<Tryz.prog.types.size)) (tb:=4) rfl
  (fun H a d=>by
   have d:a.length=2:=d.trans k_
   match a,d with
   |[d1,d2],_=>exact⟨rfl,rfl,rfl⟩)
  aF9 axQ (by rw[params];decide+kernel) (by rw[params];decide+kernel) k_ Tryz.underlying4 (i_ Tryz.func5).enters (ayG k) (fun h=>AJ x hk h) l c
theorem VX(os:Os)(j:os.Started)(H:Type)(a:TypeId×Value->H)(F:Stop.Interp):
 ReturnsInHanded {} Tryz.checked os 5 .any ((Rows.OpenSpec.upto Rows.aimUncoversSpec).preRow a Tryz.prog Tryz.f5 Rows.aimUncoversUptoRow.domain false Rows.aimUncoversUptoRow.laid) (((Rows.OpenSpec.upto Rows.aimUncoversSpec).at F).post a Tryz.prog Tryz.f5 false true false false):=by
 obtain⟨places,hx⟩:=reads os a
 refine Xm xZ aHj j k_ Tryz.func5
  (V6 xZ (yr os) #[Value.agg #[.slice none 0 0,.int .i64 0,.slice none 0 0,.slice none 0 0,.slice none 0 0,Value.string ⟨#[]⟩,Value.string ⟨#[]⟩],Value.int .u8 0] rfl k_ k_ k_
   (OpenSpec.preRow_of_cond 8 hx k_ (fun k hk=>by cases hk;kernel_rfl) k_ (by rw[Ns];exact Yq os _))) ?_
 intro W b args d e c i g h f
 exact CU H a W b args d e c i g (h _ rfl) f
theorem k0:(Rows.aimUncoversUptoRow.wf (OpenSpec.ofChange (Rows.OpenSpec.upto Rows.aimUncoversSpec).bare))=true:=k_
theorem k1:(laidOutB Tryz.prog)=true:=aG6
theorem k2:(mapsRowed Tryz.prog)=true:=aHd
theorem k3:(Tryz.f5.params.all (Tryz.prog.readableRec ·))=true:=k_
theorem k4:(namedTie Tryz.prog Rows.aimUncoversUptoRow.named (Rows.OpenSpec.upto Rows.aimUncoversSpec).bare.vars)=true:=k_
theorem k5:((Rows.aimUncoversUptoRow.stops==[]))=true:=k_
theorem k6:((Tryz.prog.stops==[]))=true:=by rw[aHl];rfl
theorem k7:((Rows.aimUncoversUptoRow.knobs==[]))=true:=k_
theorem k8:((Tryz.prog.stopKnobs==[]))=true:=by rw[Vq];rfl
theorem k9:((Rows.aimUncoversUptoRow.inPlace==Tryz.prog.inPlace 5))=true:=k_
theorem EJ:((Rows.aimUncoversUptoRow.unfollowed==Tryz.prog.unfollowed 5))=true:=k_
theorem AQ:((Rows.aimUncoversUptoRow.recurses==Tryz.prog.recurses 5))=true:=k_
theorem EK:((Rows.aimUncoversUptoRow.named==Tryz.prog.varsNamed 5))=true:=k_
theorem EL:((Rows.aimUncoversUptoRow.maps==(Tryz.f5.params.toList++(Rows.OpenSpec.upto Rows.aimUncoversSpec).bare.plain.varTypes Tryz.prog).any (Tryz.prog.mapsRec ·)))=true:=k_
theorem EM:((Rows.aimUncoversUptoRow.ifaces==(Tryz.f5.params.toList++(Rows.OpenSpec.upto Rows.aimUncoversSpec).bare.plain.varTypes Tryz.prog).any (Tryz.prog.ifacesRec ·)))=true:=k_
theorem AR:((Rows.aimUncoversUptoRow.mapsOut==Tryz.prog.mapsAmong Tryz.f5.resultTypes.toList))=true:=k_
theorem k16:((Rows.aimUncoversUptoRow.loops==(Tryz.f5.params.toList++(Rows.OpenSpec.upto Rows.aimUncoversSpec).bare.plain.varTypes Tryz.prog).any (Tryz.prog.loopsFrom ·)))=true:=k_
theorem k17:((Rows.aimUncoversUptoRow.wideKeys==(Tryz.f5.params.toList++(Rows.OpenSpec.upto Rows.aimUncoversSpec).bare.plain.varTypes Tryz.prog++Tryz.f5.resultTypes.toList).any (Tryz.prog.wideKeysFrom ·)))=true:=k_
theorem k18:((Rows.OpenSpec.upto Rows.aimUncoversSpec).bare.vars.all (Tryz.prog.varReadable ·))=true:=k_
theorem k19:(Tryz.f5.resultTypes.all (fun t=>Tryz.prog.readableRec t&&decide (t<Tryz.prog.types.size)))=true:=k_
theorem k20:((Rows.aimUncoversUptoRow.ifacesOut==Tryz.f5.resultTypes.toList.any (Tryz.prog.ifacesRec ·)))=true:=k_
theorem k21:((Rows.aimUncoversUptoRow.loopsOut==Tryz.f5.resultTypes.toList.any (Tryz.prog.loopsFrom ·)))=true:=k_
theorem k22:((Rows.aimUncoversUptoRow.plainKeys==Tryz.prog.plainKeys))=true:=by rw[Vr];rfl
theorem k23:(Rows.aimUncoversUptoRow.shortTexts.isNone)=true:=k_
theorem k24:(Tryz.prog.stopsHeard)=true:=UF
theorem k25:(Tryz.prog.mayEnter)=true:=VL
theorem k26:((Rows.aimUncoversUptoRow.lifted==Tryz.prog.liftsFinal))=true:=by rw[aG8];rfl
theorem k27:((Tryz.prog.make==some Rows.aimUncoversUptoRow.make))=true:=by rw[aHc];rfl
theorem k28:((Rows.aimUncoversUptoRow.kinds==(if Rows.aimUncoversUptoRow.domain.isEmpty then[]else Tryz.f5.params.toList.map fun t=>match Tryz.prog.underlying t with|some (.int k)=>some k|_=>none)))=true:=k_
theorem k29:((Rows.aimUncoversUptoRow.pinned==Rows.aimUncoversUptoRow.pinnedBy))=true:=k_
theorem k30:((Rows.aimUncoversUptoRow.veiled==(Tryz.f5.params.toList++(Rows.OpenSpec.upto Rows.aimUncoversSpec).bare.plain.varTypes Tryz.prog++Tryz.f5.resultTypes.toList).any (Tryz.prog.veiledRec ·)))=true:=k_
theorem k31:(Rows.aimUncoversUptoRow.veiledFits Tryz.prog Tryz.f5.params.toList (Tryz.f5.params.toList++(Rows.OpenSpec.upto Rows.aimUncoversSpec).bare.plain.varTypes Tryz.prog++Tryz.f5.resultTypes.toList))=true:=k_
theorem fc{a b:Bool}(h:a=true)(k:b=true):(a&&b)=true:=by rw[h,k];rfl
theorem closed:joinedFacts Tryz.prog 5 Tryz.f5 (Rows.OpenSpec.upto Rows.aimUncoversSpec).bare Rows.aimUncoversUptoRow=true:=
 fc (fc (fc (fc (fc (fc (fc (fc (fc (fc (fc (fc (fc (fc (fc (fc (fc (fc (fc (fc (fc (fc (fc (fc (fc (fc (fc (fc (fc (fc (fc (k0) k1) k2) k3) k4) k5) k6) k7) k8) k9) EJ) AQ) EK) EL) EM) AR) k16) k17) k18) k19) k20) k21) k22) k23) k24) k25) k26) k27) k28) k29) k30) k31
theorem named:Tryz.prog.funcNamed Rows.aimUncoversUptoRow.func=some 5:=k_
theorem inst:Tryz.f5.isInstance Tryz.prog Rows.aimUncoversUptoRow.origin Rows.aimUncoversUptoRow.targs:=of_decide_eq_true k_
theorem wrap:Tryz.f5.isWrapper Tryz.prog Rows.aimUncoversUptoRow.wrapper Rows.aimUncoversUptoRow.mainSum:=by
 unfold Func.isWrapper;first|(rw[if_pos (by decide+kernel)];kernel_rfl)|(rw[if_neg (by decide+kernel)];exact⟨rfl,rfl⟩)
theorem XC:Rows.AimUncoversUptoSaid:=
 aHR I4 xZ 5 Tryz.f5 rfl rfl rfl rfl rfl rfl rfl ⟨rfl,rfl,rfl,rfl,rfl⟩ rfl rfl rfl rfl rfl named Tryz.func5 closed inst wrap
  (fun os b H a F=>VX os b H a F)
theorem stands:∀t∈Tryz.f5.params.toList,Tryz.prog.wantsStandIn t=false:=by rw[params];decide+kernel
theorem Zr:Rows.aimUncoversUptoRow.wfByText (Rows.OpenSpec.upto Rows.aimUncoversSpec)=true:=k_
theorem mainIs:Tryz.prog.mainIs=some (Rows.aimUncoversUptoCard.stood.harness.1,Rows.aimUncoversUptoCard.stood.harness.2.toList):=k_
theorem goes:false=Rows.aimUncoversUptoRow.goesBy Tryz.prog:=k_
theorem cardUpto:Rows.AimUncoversUptoCardSaid:=
 Z9 I4 xZ .later _ _ _ _ XC Zr aimUncoversUpto_row_tie rfl ⟨rfl,rfl⟩ mainIs rfl named Tryz.func5 aHb stands goes
end Go.Proofs.YtdjojlnnobkliaaGreatDoor.aimUncovers
