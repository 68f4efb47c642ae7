import Derived.Test.YtgpphcmkjhklgaaGreatDoorPC
import Derived.Test.YtgpphcmkjhklgaaGreatDoorPD
import Derived.Test.YtgpphcmkjhklgaaGreatDoorPE
import Derived.Test.YtgpphcmkjhklgaaGreatDoorPK
import Derived.Test.YtgpphcmkjhklgaaGreatDoorPL
import Derived.Test.YtgpphcmkjhklgaaGreatDoorPM
import Derived.Test.YtgpphcmkjhklgaaGreatDoorCards
import Derived.Test.YtgpphcmkjhklgaaGreatDoorTie
import Derived.Seven
/-
 The law TableShares returns true for all arguments whose bulk is at most 1048576,and the arguments read as before.
-/
set_option linter.unusedSimpArgs false
set_option linter.unusedVariables false
set_option linter.unusedSectionVars false
namespace Go.Proofs.YtgpphcmkjhklgaaGreatDoor.tableShares
open Go.al
set_option maxRecDepth 100000
theorem params:Tryz.f10.params.toList=[26,3,103]:=by kernel_rfl
theorem yZ{H:Type}{W:World}{c:List (DataW H)}(g:c.length=3)(d:Rows.uptoSmall H (c++[])=true)(h:∀p∈Tryz.f10.params.toList.zip c,∃cs,aU Tryz.prog W (fun k=>k<W.heap.size) (bC Tryz.prog 8 p.1 p.2) cs):
 az Tryz.prog 10 (ql Tryz.prog 8 Tryz.f10.params.toList c) (.bool true):=by
 rw[params]at h⊢
 match c,g with
 |[d1,d2,d3],_=>
  have d:=qL.bound d
  simp only[List.append_nil,Rows.uptoBulkAll]at d
  obtain⟨i,e1,m,l⟩:=aDn (h (26,d1) (.head _)) (show Rows.uptoBulk d1<=1048576 by omega)
  obtain⟨j,e2,n⟩:=Yk (h (3,d2) (.tail _ (.head _))) (show Rows.uptoBulk d2<=1048576 by omega)
  obtain⟨e,e3,o,f⟩:=aAh (h (103,d3) (.tail _ (.tail _ (.head _)))) (show Rows.uptoBulk d3<=1048576 by omega)
  simp only[ql,e1,e2,e3]
  exact Qy Qm i j e.a e.b l f.1 f.2
theorem K0:Rows.tableSharesUptoRow.laid=Rows.tableChecksUptoRow.laid:=by kernel_rfl
theorem reads(os:Os){H:Type}(a:TypeId×Value->H):∃b,DataW.whole a Tryz.prog ((wW os).forCall (fun _ _=>0) ⟨#[],#[Value.agg #[.slice none 0 0,.int .i64 0,.slice none 0 0,.slice none 0 0],Value.int .i64 0,Value.agg #[Value.string ⟨#[]⟩,Value.string ⟨#[]⟩]],[]⟩).memory Tryz.f10.params.toList Rows.tableSharesSpec.vars false #[Value.agg #[.slice none 0 0,.int .i64 0,.slice none 0 0,.slice none 0 0],Value.int .i64 0,Value.agg #[Value.string ⟨#[]⟩,Value.string ⟨#[]⟩]].toList 8=some ([.agg [.nil,.lit (.int .i64 0),.nil,.nil],.lit (.int .i64 0),.agg [.lit (.string []),.lit (.string [])]],[],b):=
 ⟨[],by kernel_rfl⟩
theorem Be(H:Type)(i:TypeId×Value->H)(W:World)(f:Nat)(args:Array Value)(a b:List (DataW H))(o:List MemPlace)
 (l:∀(j:Nat) t v,Tryz.f10.params[j]?=some t->args[j]?=some v->Value.okWide Tryz.prog W .any f t v)
 (c:DataW.Whole i Tryz.prog Tryz.f10.params.toList Rows.tableSharesSpec.vars false W args.toList a b o)(hk:Rows.uptoSmall H (a++b)=true)(k:laidMetH Tryz.prog Rows.tableSharesUptoRow.laid W):
 Calls Tryz.prog 10 args W fun e m=>∃v,e= .returned v/\Rows.tableSharesSpec.post i Tryz.prog Tryz.f10 false true false false W args v m:=by
 rw[K0]at k
 have w:b=[]:=by
  obtain⟨p,q,_,u,_⟩:=c
  cases b with
  |nil=>rfl
  |cons g b=>exact u.elim
 have x:a.length=3:=by
  obtain⟨p,q,s,_⟩:=c
  have:=(AM (n:=8) (base:=f) (r:= .any) (by rw[params];decide+kernel) s (fun j t v y z=>l j t v (by simpa using y) (by simpa using z))).2
  rw[this,params];rfl
 subst w
 exact Rb (n:=8) (T:=(·<Tryz.prog.types.size)) (tb:=4) rfl
  (fun H a d=>by
   have d:a.length=3:=d.trans (by kernel_rfl)
   match a,d with
   |[d1,d2,d3],_=>exact⟨rfl,rfl,rfl⟩)
  azs XX (by rw[params];decide+kernel) (by rw[params];decide+kernel) (by kernel_rfl) Tryz.underlying4 ki.enters (X5 k) (fun h=>yZ x hk h) l c
theorem SO(os:Os)(j:os.Started)(H:Type)(a:TypeId×Value->H)(F:Stop.Interp):
 ReturnsInHanded {} Tryz.checked os 10 .any ((Rows.OpenSpec.upto Rows.tableSharesSpec).preRow a Tryz.prog Tryz.f10 Rows.tableSharesUptoRow.domain false Rows.tableSharesUptoRow.laid) (((Rows.OpenSpec.upto Rows.tableSharesSpec).at F).post a Tryz.prog Tryz.f10 false true false false):=by
 obtain⟨places,hx⟩:=reads os a
 refine Uh wC aAG j (by kernel_rfl) Tryz.func10
  (SX wC (wW os) #[Value.agg #[.slice none 0 0,.int .i64 0,.slice none 0 0,.slice none 0 0],Value.int .i64 0,Value.agg #[Value.string ⟨#[]⟩,Value.string ⟨#[]⟩]] rfl (by kernel_rfl) (by kernel_rfl) (by kernel_rfl)
   (OpenSpec.preRow_of_cond 8 hx (by kernel_rfl) (fun k hk=>by cases hk;kernel_rfl) (by kernel_rfl) (by rw[K0];exact Vk os _))) ?_
 intro W b args d e c i g h f
 exact Be H a W b args d e c i g (h _ rfl) f
theorem k0:(Rows.tableSharesUptoRow.wf (OpenSpec.ofChange (Rows.OpenSpec.upto Rows.tableSharesSpec).bare))=true:=by kernel_rfl
theorem k1:(laidOutB Tryz.prog)=true:=aAt
theorem k2:(mapsRowed Tryz.prog)=true:=aAB
theorem k3:(Tryz.f10.params.all (Tryz.prog.readableRec ·))=true:=by kernel_rfl
theorem k4:(namedTie Tryz.prog Rows.tableSharesUptoRow.named (Rows.OpenSpec.upto Rows.tableSharesSpec).bare.vars)=true:=by kernel_rfl
theorem k5:((Rows.tableSharesUptoRow.stops==[]))=true:=by kernel_rfl
theorem k6:((Tryz.prog.stops==[]))=true:=by rw[aAI];rfl
theorem k7:((Rows.tableSharesUptoRow.knobs==[]))=true:=by kernel_rfl
theorem k8:((Tryz.prog.stopKnobs==[]))=true:=by rw[Sf];rfl
theorem k9:((Rows.tableSharesUptoRow.inPlace==Tryz.prog.inPlace 10))=true:=by kernel_rfl
theorem k10:((Rows.tableSharesUptoRow.unfollowed==Tryz.prog.unfollowed 10))=true:=by kernel_rfl
theorem k11:((Rows.tableSharesUptoRow.recurses==Tryz.prog.recurses 10))=true:=by kernel_rfl
theorem k12:((Rows.tableSharesUptoRow.named==Tryz.prog.varsNamed 10))=true:=by kernel_rfl
theorem k13:((Rows.tableSharesUptoRow.maps==(Tryz.f10.params.toList++(Rows.OpenSpec.upto Rows.tableSharesSpec).bare.plain.varTypes Tryz.prog).any (Tryz.prog.mapsRec ·)))=true:=by kernel_rfl
theorem k14:((Rows.tableSharesUptoRow.ifaces==(Tryz.f10.params.toList++(Rows.OpenSpec.upto Rows.tableSharesSpec).bare.plain.varTypes Tryz.prog).any (Tryz.prog.ifacesRec ·)))=true:=by kernel_rfl
theorem k15:((Rows.tableSharesUptoRow.mapsOut==Tryz.prog.mapsAmong Tryz.f10.resultTypes.toList))=true:=by kernel_rfl
theorem k16:((Rows.tableSharesUptoRow.loops==(Tryz.f10.params.toList++(Rows.OpenSpec.upto Rows.tableSharesSpec).bare.plain.varTypes Tryz.prog).any (Tryz.prog.loopsFrom ·)))=true:=by kernel_rfl
theorem k17:((Rows.tableSharesUptoRow.wideKeys==(Tryz.f10.params.toList++(Rows.OpenSpec.upto Rows.tableSharesSpec).bare.plain.varTypes Tryz.prog++Tryz.f10.resultTypes.toList).any (Tryz.prog.wideKeysFrom ·)))=true:=by kernel_rfl
theorem k18:((Rows.OpenSpec.upto Rows.tableSharesSpec).bare.vars.all (Tryz.prog.varReadable ·))=true:=by kernel_rfl
theorem k19:(Tryz.f10.resultTypes.all (fun t=>Tryz.prog.readableRec t&&decide (t<Tryz.prog.types.size)))=true:=by kernel_rfl
theorem k20:((Rows.tableSharesUptoRow.ifacesOut==Tryz.f10.resultTypes.toList.any (Tryz.prog.ifacesRec ·)))=true:=by kernel_rfl
theorem k21:((Rows.tableSharesUptoRow.loopsOut==Tryz.f10.resultTypes.toList.any (Tryz.prog.loopsFrom ·)))=true:=by kernel_rfl
theorem k22:((Rows.tableSharesUptoRow.plainKeys==Tryz.prog.plainKeys))=true:=by rw[Sg];rfl
theorem k23:(Rows.tableSharesUptoRow.shortTexts.isNone)=true:=by kernel_rfl
theorem k24:(Tryz.prog.stopsHeard)=true:=Rq
theorem k25:(Tryz.prog.mayEnter)=true:=SB
theorem k26:((Rows.tableSharesUptoRow.lifted==Tryz.prog.liftsFinal))=true:=by rw[aAv];rfl
theorem k27:((Tryz.prog.make==some Rows.tableSharesUptoRow.make))=true:=by rw[aAy];rfl
theorem k28:((Rows.tableSharesUptoRow.kinds==(if Rows.tableSharesUptoRow.domain.isEmpty then[]else Tryz.f10.params.toList.map fun t=>match Tryz.prog.underlying t with|some (.int k)=>some k|_=>none)))=true:=by kernel_rfl
theorem k29:((Rows.tableSharesUptoRow.pinned==Rows.tableSharesUptoRow.pinnedBy))=true:=by kernel_rfl
theorem k30:((Rows.tableSharesUptoRow.veiled==(Tryz.f10.params.toList++(Rows.OpenSpec.upto Rows.tableSharesSpec).bare.plain.varTypes Tryz.prog++Tryz.f10.resultTypes.toList).any (Tryz.prog.veiledRec ·)))=true:=by kernel_rfl
theorem k31:(Rows.tableSharesUptoRow.veiledFits Tryz.prog Tryz.f10.params.toList (Tryz.f10.params.toList++(Rows.OpenSpec.upto Rows.tableSharesSpec).bare.plain.varTypes Tryz.prog++Tryz.f10.resultTypes.toList))=true:=by kernel_rfl
theorem eK{a b:Bool}(h:a=true)(k:b=true):(a&&b)=true:=by rw[h,k];rfl
theorem closed:joinedFacts Tryz.prog 10 Tryz.f10 (Rows.OpenSpec.upto Rows.tableSharesSpec).bare Rows.tableSharesUptoRow=true:=
 eK (eK (eK (eK (eK (eK (eK (eK (eK (eK (eK (eK (eK (eK (eK (eK (eK (eK (eK (eK (eK (eK (eK (eK (eK (eK (eK (eK (eK (eK (eK (k0) k1) k2) k3) k4) k5) k6) k7) k8) k9) k10) k11) k12) k13) k14) k15) k16) k17) k18) k19) k20) k21) k22) k23) k24) k25) k26) k27) k28) k29) k30) k31
theorem named:Tryz.prog.funcNamed Rows.tableSharesUptoRow.func=some 10:=by kernel_rfl
theorem inst:Tryz.f10.isInstance Tryz.prog Rows.tableSharesUptoRow.origin Rows.tableSharesUptoRow.targs:=of_decide_eq_true (by kernel_rfl)
theorem wrap:Tryz.f10.isWrapper Tryz.prog Rows.tableSharesUptoRow.wrapper Rows.tableSharesUptoRow.mainSum:=by
 unfold Func.isWrapper;first|(rw[if_pos (by decide+kernel)];kernel_rfl)|(rw[if_neg (by decide+kernel)];exact⟨rfl,rfl⟩)
theorem Ux:Rows.TableSharesUptoSaid:=
 aCl Gx wC 10 Tryz.f10 rfl rfl rfl rfl rfl rfl rfl ⟨rfl,rfl,rfl,rfl,rfl⟩ rfl rfl rfl rfl rfl named Tryz.func10 closed inst wrap
  (fun os b H a F=>SO os b H a F)
theorem stands:∀t∈Tryz.f10.params.toList,Tryz.prog.wantsStandIn t=false:=by rw[params];decide+kernel
theorem Wo:Rows.tableSharesUptoRow.wfByText (Rows.OpenSpec.upto Rows.tableSharesSpec)=true:=by kernel_rfl
theorem mainIs:Tryz.prog.mainIs=some (Rows.tableSharesUptoCard.stood.harness.1,Rows.tableSharesUptoCard.stood.harness.2.toList):=by kernel_rfl
theorem goes:false=Rows.tableSharesUptoRow.goesBy Tryz.prog:=by kernel_rfl
theorem cardUpto:Rows.TableSharesUptoCardSaid:=
 WW Gx wC .later _ _ _ _ Ux Wo tableSharesUpto_row_tie rfl ⟨rfl,rfl⟩ mainIs rfl named Tryz.func10 aAx stands goes
end Go.Proofs.YtgpphcmkjhklgaaGreatDoor.tableShares
