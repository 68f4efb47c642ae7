import Derived.Test.YtdjojlnnobkliaaGreatDoorTPC
import Derived.Test.YtdjojlnnobkliaaGreatDoorTPD
import Derived.Test.YtdjojlnnobkliaaGreatDoorTPE
import Derived.Test.YtdjojlnnobkliaaGreatDoorTPF
import Derived.Test.YtdjojlnnobkliaaGreatDoorTPG
import Derived.Test.YtdjojlnnobkliaaGreatDoorTPH
import Derived.Test.YtdjojlnnobkliaaGreatDoorCards
import Derived.Test.YtdjojlnnobkliaaGreatDoorTie
import Derived.Seven
/-
 The law AimAfters returns true for all arguments whose bulk is at most 1048576,and the arguments read as before.
-/
set_option maxRecDepth 100000
set_option linter.unusedSimpArgs false
set_option linter.unusedVariables false
set_option linter.unusedSectionVars false
namespace Go.Proofs.YtdjojlnnobkliaaGreatDoor.aimAfters
open Go.ag
theorem params:Tryz.f4.params.toList=[29,32]:=k_
theorem Eg{H:Type}{W:World}{a:List (DataW H)}(e:a.length=2)(d:Rows.uptoSmall H (a++[])=true)(h:∀p∈Tryz.f4.params.toList.zip a,∃cs,bd Tryz.prog W (fun k=>k<W.heap.size) (bS Tryz.prog 8 p.1 p.2) cs):
 aq Tryz.prog 4 (vr Tryz.prog 8 Tryz.f4.params.toList a) (.bool true):=by
 rw[params]at h⊢
 match a,e with
 |[d1,d2],_=>
  have d:=tG.bound d
  simp only[List.append_nil,Rows.uptoBulkAll]at d
  obtain⟨c,e1,g,y1⟩:=WD (h (29,d1) (.head _)) (show Rows.uptoBulk d1<=1048576 by omega)
  obtain⟨f,e2,i,y2⟩:=az6 (h (32,d2) (.tail _ (.head _))) (show Rows.uptoBulk d2<=1048576 by omega)
  simp only[vr,e1,e2]
  exact WK awC c.t c.b c.aP c.cg f y1.t y1.b y2
theorem Rq:Rows.aimAftersUptoRow.laid=Rows.aimPlansUptoRow.laid:=k_
theorem reads(os:Os){H:Type}(a:TypeId×Value->H):∃b,DataW.whole a Tryz.prog ((Cr os).forCall (fun _ _=>0) ⟨#[],#[Value.agg #[.slice none 0 0,.int .i64 0,.slice none 0 0,.slice none 0 0,.slice none 0 0,Value.string ⟨#[]⟩,Value.string ⟨#[]⟩],Value.agg #[Value.string ⟨#[]⟩,Value.string ⟨#[]⟩]],[]⟩).memory Tryz.f4.params.toList Rows.aimAftersSpec.vars false #[Value.agg #[.slice none 0 0,.int .i64 0,.slice none 0 0,.slice none 0 0,.slice none 0 0,Value.string ⟨#[]⟩,Value.string ⟨#[]⟩],Value.agg #[Value.string ⟨#[]⟩,Value.string ⟨#[]⟩]].toList 8=some ([.agg [.agg [.nil,.lit (.int .i64 0),.nil,.nil],.nil,.lit (.string []),.lit (.string [])],.agg [.lit (.string []),.lit (.string [])]],[],b):=
 ⟨[],k_⟩
theorem GN(H:Type)(i:TypeId×Value->H)(W:World)(f:Nat)(args:Array Value)(a b:List (DataW H))(o:List MemPlace)
 (l:∀(j:Nat) t v,Tryz.f4.params[j]?=some t->args[j]?=some v->Value.okWide Tryz.prog W .any f t v)
 (c:DataW.Whole i Tryz.prog Tryz.f4.params.toList Rows.aimAftersSpec.vars false W args.toList a b o)(hk:Rows.uptoSmall H (a++b)=true)(k:laidMetH Tryz.prog Rows.aimAftersUptoRow.laid W):
 Calls Tryz.prog 4 args W fun e m=>∃v,e= .returned v/\Rows.aimAftersSpec.post i Tryz.prog Tryz.f4 false true false false W args v m:=by
 rw[Rq]at k
 have w:b=[]:=by
  obtain⟨p,q,_,u,_⟩:=c
  cases b with
  |nil=>rfl
  |cons g b=>exact u.elim
 have x:a.length=2:=by
  obtain⟨p,q,s,_⟩:=c
  have:=(Gq (n:=8) (base:=f) (r:= .any) (by rw[params];decide+kernel) s (fun j t v y z=>l j t v (by simpa using y) (by simpa using z))).2
  rw[this,params];rfl
 subst w
 exact XL (n:=8) (T:=(·<Tryz.prog.types.size)) (tb:=4) rfl
  (fun H a d=>by
   have d:a.length=2:=d.trans k_
   match a,d with
   |[d1,d2],_=>exact⟨rfl,rfl,rfl⟩)
  aOZ aGy (by rw[params];decide+kernel) (by rw[params];decide+kernel) k_ Tryz.underlying4 (i_ Tryz.func4).enters (aGN k) (fun h=>Eg x hk h) l c
theorem Zj(os:Os)(j:os.Started)(H:Type)(a:TypeId×Value->H)(F:Stop.Interp):
 ReturnsInHanded {} Tryz.checked os 4 .any ((Rows.OpenSpec.upto Rows.aimAftersSpec).preRow a Tryz.prog Tryz.f4 Rows.aimAftersUptoRow.domain false Rows.aimAftersUptoRow.laid) (((Rows.OpenSpec.upto Rows.aimAftersSpec).at F).post a Tryz.prog Tryz.f4 false true false false):=by
 obtain⟨places,hx⟩:=reads os a
 refine atb Cb aP0 j k_ Tryz.func4
  (Zr Cb (Cr os) #[Value.agg #[.slice none 0 0,.int .i64 0,.slice none 0 0,.slice none 0 0,.slice none 0 0,Value.string ⟨#[]⟩,Value.string ⟨#[]⟩],Value.agg #[Value.string ⟨#[]⟩,Value.string ⟨#[]⟩]] rfl k_ k_ k_
   (OpenSpec.preRow_of_cond 8 hx k_ (fun k hk=>by cases hk;kernel_rfl) k_ (by rw[Rq];exact avU os _))) ?_
 intro W b args d e c i g h f
 exact GN H a W b args d e c i g (h _ rfl) f
theorem k0:(Rows.aimAftersUptoRow.wf (OpenSpec.ofChange (Rows.OpenSpec.upto Rows.aimAftersSpec).bare))=true:=k_
theorem k1:(laidOutB Tryz.prog)=true:=aPP
theorem k2:(mapsRowed Tryz.prog)=true:=aPV
theorem k3:(Tryz.f4.params.all (Tryz.prog.readableRec ·))=true:=k_
theorem k4:(namedTie Tryz.prog Rows.aimAftersUptoRow.named (Rows.OpenSpec.upto Rows.aimAftersSpec).bare.vars)=true:=k_
theorem k5:((Rows.aimAftersUptoRow.stops==[]))=true:=k_
theorem k6:((Tryz.prog.stops==[]))=true:=by rw[aP2];rfl
theorem k7:((Rows.aimAftersUptoRow.knobs==[]))=true:=k_
theorem k8:((Tryz.prog.stopKnobs==[]))=true:=by rw[YM];rfl
theorem k9:((Rows.aimAftersUptoRow.inPlace==Tryz.prog.inPlace 4))=true:=k_
theorem nK:((Rows.aimAftersUptoRow.unfollowed==Tryz.prog.unfollowed 4))=true:=k_
theorem tM:((Rows.aimAftersUptoRow.recurses==Tryz.prog.recurses 4))=true:=k_
theorem Em:((Rows.aimAftersUptoRow.named==Tryz.prog.varsNamed 4))=true:=k_
theorem IU:((Rows.aimAftersUptoRow.maps==(Tryz.f4.params.toList++(Rows.OpenSpec.upto Rows.aimAftersSpec).bare.plain.varTypes Tryz.prog).any (Tryz.prog.mapsRec ·)))=true:=k_
theorem A7:((Rows.aimAftersUptoRow.ifaces==(Tryz.f4.params.toList++(Rows.OpenSpec.upto Rows.aimAftersSpec).bare.plain.varTypes Tryz.prog).any (Tryz.prog.ifacesRec ·)))=true:=k_
theorem IV:((Rows.aimAftersUptoRow.mapsOut==Tryz.prog.mapsAmong Tryz.f4.resultTypes.toList))=true:=k_
theorem IW:((Rows.aimAftersUptoRow.loops==(Tryz.f4.params.toList++(Rows.OpenSpec.upto Rows.aimAftersSpec).bare.plain.varTypes Tryz.prog).any (Tryz.prog.loopsFrom ·)))=true:=k_
theorem k17:((Rows.aimAftersUptoRow.wideKeys==(Tryz.f4.params.toList++(Rows.OpenSpec.upto Rows.aimAftersSpec).bare.plain.varTypes Tryz.prog++Tryz.f4.resultTypes.toList).any (Tryz.prog.wideKeysFrom ·)))=true:=k_
theorem k18:((Rows.OpenSpec.upto Rows.aimAftersSpec).bare.vars.all (Tryz.prog.varReadable ·))=true:=k_
theorem k19:(Tryz.f4.resultTypes.all (fun t=>Tryz.prog.readableRec t&&decide (t<Tryz.prog.types.size)))=true:=k_
theorem k20:((Rows.aimAftersUptoRow.ifacesOut==Tryz.f4.resultTypes.toList.any (Tryz.prog.ifacesRec ·)))=true:=k_
theorem k21:((Rows.aimAftersUptoRow.loopsOut==Tryz.f4.resultTypes.toList.any (Tryz.prog.loopsFrom ·)))=true:=k_
theorem k22:((Rows.aimAftersUptoRow.plainKeys==Tryz.prog.plainKeys))=true:=by rw[YN];rfl
theorem k23:(Rows.aimAftersUptoRow.shortTexts.isNone)=true:=k_
theorem k24:(Tryz.prog.stopsHeard)=true:=X0
theorem k25:(Tryz.prog.mayEnter)=true:=Y7
theorem k26:((Rows.aimAftersUptoRow.lifted==Tryz.prog.liftsFinal))=true:=by rw[aPR];rfl
theorem k27:((Tryz.prog.make==some Rows.aimAftersUptoRow.make))=true:=by rw[aPU];rfl
theorem k28:((Rows.aimAftersUptoRow.kinds==(if Rows.aimAftersUptoRow.domain.isEmpty then[]else Tryz.f4.params.toList.map fun t=>match Tryz.prog.underlying t with|some (.int k)=>some k|_=>none)))=true:=k_
theorem k29:((Rows.aimAftersUptoRow.pinned==Rows.aimAftersUptoRow.pinnedBy))=true:=k_
theorem k30:((Rows.aimAftersUptoRow.veiled==(Tryz.f4.params.toList++(Rows.OpenSpec.upto Rows.aimAftersSpec).bare.plain.varTypes Tryz.prog++Tryz.f4.resultTypes.toList).any (Tryz.prog.veiledRec ·)))=true:=k_
theorem k31:(Rows.aimAftersUptoRow.veiledFits Tryz.prog Tryz.f4.params.toList (Tryz.f4.params.toList++(Rows.OpenSpec.upto Rows.aimAftersSpec).bare.plain.varTypes Tryz.prog++Tryz.f4.resultTypes.toList))=true:=k_
theorem ga{a b:Bool}(h:a=true)(k:b=true):(a&&b)=true:=by rw[h,k];rfl
theorem closed:joinedFacts Tryz.prog 4 Tryz.f4 (Rows.OpenSpec.upto Rows.aimAftersSpec).bare Rows.aimAftersUptoRow=true:=
 ga (ga (ga (ga (ga (ga (ga (ga (ga (ga (ga (ga (ga (ga (ga (ga (ga (ga (ga (ga (ga (ga (ga (ga (ga (ga (ga (ga (ga (ga (ga (k0) k1) k2) k3) k4) k5) k6) k7) k8) k9) nK) tM) Em) IU) A7) IV) IW) k17) k18) k19) k20) k21) k22) k23) k24) k25) k26) k27) k28) k29) k30) k31
theorem named:Tryz.prog.funcNamed Rows.aimAftersUptoRow.func=some 4:=k_
theorem inst:Tryz.f4.isInstance Tryz.prog Rows.aimAftersUptoRow.origin Rows.aimAftersUptoRow.targs:=of_decide_eq_true k_
theorem wrap:Tryz.f4.isWrapper Tryz.prog Rows.aimAftersUptoRow.wrapper Rows.aimAftersUptoRow.mainSum:=by
 unfold Func.isWrapper;first|(rw[if_pos (by decide+kernel)];kernel_rfl)|(rw[if_neg (by decide+kernel)];exact⟨rfl,rfl⟩)
theorem au9:Rows.AimAftersUptoSaid:=
 aQz MU Cb 4 Tryz.f4 rfl rfl rfl rfl rfl rfl rfl ⟨rfl,rfl,rfl,rfl,rfl⟩ rfl rfl rfl rfl rfl named Tryz.func4 closed inst wrap
  (fun os b H a F=>Zj os b H a F)
theorem stands:∀t∈Tryz.f4.params.toList,Tryz.prog.wantsStandIn t=false:=by rw[params];decide+kernel
theorem aDy:Rows.aimAftersUptoRow.wfByText (Rows.OpenSpec.upto Rows.aimAftersSpec)=true:=k_
theorem mainIs:Tryz.prog.mainIs=some (Rows.aimAftersUptoCard.stood.harness.1,Rows.aimAftersUptoCard.stood.harness.2.toList):=k_
theorem goes:false=Rows.aimAftersUptoRow.goesBy Tryz.prog:=k_
theorem cardUpto:Rows.AimAftersUptoCardSaid:=
 aE1 MU Cb .later _ _ _ _ au9 aDy aimAftersUpto_row_tie rfl ⟨rfl,rfl⟩ mainIs rfl named Tryz.func4 aPT stands goes
end Go.Proofs.YtdjojlnnobkliaaGreatDoor.aimAfters
