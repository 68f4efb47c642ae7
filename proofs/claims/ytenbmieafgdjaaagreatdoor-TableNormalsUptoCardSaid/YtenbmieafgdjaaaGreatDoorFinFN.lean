import Derived.Test.YtenbmieafgdjaaaGreatDoorNPC
import Derived.Test.YtenbmieafgdjaaaGreatDoorNPD
import Derived.Test.YtenbmieafgdjaaaGreatDoorNPE
import Derived.Test.YtenbmieafgdjaaaGreatDoorNPK
import Derived.Test.YtenbmieafgdjaaaGreatDoorNPM
import Derived.Test.YtenbmieafgdjaaaGreatDoorCards
import Derived.Test.YtenbmieafgdjaaaGreatDoorTie
import Derived.Seven
/-
 The law TableNormals returns true for all arguments whose bulk is at most 1048576,and the arguments read as before.
-/
set_option linter.unusedSimpArgs false
set_option linter.unusedVariables false
set_option linter.unusedSectionVars false
namespace Go.Proofs.YtenbmieafgdjaaaGreatDoor.tableNormals
open Go.au
set_option maxRecDepth 100000
theorem params:Tryz.f8.params.toList=[26,26]:=by kernel_rfl
theorem yZ{H:Type}{W:World}{a:List (DataW H)}(hl:a.length=2)(b:Rows.uptoSmall H (a++[])=true)(h:∀p∈Tryz.f8.params.toList.zip a,∃cs,aV Tryz.prog W (fun k=>k<W.heap.size) (bM Tryz.prog 8 p.1 p.2) cs):
 az Tryz.prog 8 (qm Tryz.prog 8 Tryz.f8.params.toList a) (.bool true):=by
 rw[params]at h⊢
 match a,hl with
 |[d1,d2],_=>
  have b:=sP.bound b
  simp only[List.append_nil,Rows.uptoBulkAll]at b
  obtain⟨c,e1,g,e⟩:=ET (h (26,d1) (.head _)) (show Rows.uptoBulk d1<=1048576 by omega)
  obtain⟨d,e2,i,f⟩:=ET (h (26,d2) (.tail _ (.head _))) (show Rows.uptoBulk d2<=1048576 by omega)
  simp only[qm,e1,e2]
  exact Qs P0 c d e f
theorem K2:Rows.tableNormalsUptoRow.laid=Rows.tableRacksUptoRow.laid:=by kernel_rfl
theorem reads(os:Os){H:Type}(a:TypeId×Value->H):∃b,DataW.whole a Tryz.prog ((wO os).forCall (fun _ _=>0) ⟨#[],#[Value.agg #[.slice none 0 0,.int .i64 0,.slice none 0 0,.slice none 0 0],Value.agg #[.slice none 0 0,.int .i64 0,.slice none 0 0,.slice none 0 0]],[]⟩).memory Tryz.f8.params.toList Rows.tableNormalsSpec.vars false #[Value.agg #[.slice none 0 0,.int .i64 0,.slice none 0 0,.slice none 0 0],Value.agg #[.slice none 0 0,.int .i64 0,.slice none 0 0,.slice none 0 0]].toList 8=some ([.agg [.nil,.lit (.int .i64 0),.nil,.nil],.agg [.nil,.lit (.int .i64 0),.nil,.nil]],[],b):=
 ⟨[],by kernel_rfl⟩
theorem Bc(H:Type)(i:TypeId×Value->H)(W:World)(f:Nat)(args:Array Value)(a b:List (DataW H))(o:List MemPlace)
 (l:∀(j:Nat) t v,Tryz.f8.params[j]?=some t->args[j]?=some v->Value.okWide Tryz.prog W .any f t v)
 (c:DataW.Whole i Tryz.prog Tryz.f8.params.toList Rows.tableNormalsSpec.vars false W args.toList a b o)(hk:Rows.uptoSmall H (a++b)=true)(k:laidMetH Tryz.prog Rows.tableNormalsUptoRow.laid W):
 Calls Tryz.prog 8 args W fun e m=>∃v,e= .returned v/\Rows.tableNormalsSpec.post i Tryz.prog Tryz.f8 false true false false W args v m:=by
 rw[K2]at k
 have w:b=[]:=by
  obtain⟨p,q,_,u,_⟩:=c
  cases b with
  |nil=>rfl
  |cons g b=>exact u.elim
 have x:a.length=2:=by
  obtain⟨p,q,s,_⟩:=c
  have:=(AM (n:=8) (base:=f) (r:= .any) (by rw[params];decide+kernel) s (fun j t v y z=>l j t v (by simpa using y) (by simpa using z))).2
  rw[this,params];rfl
 subst w
 exact Q7 (n:=8) (T:=(·<Tryz.prog.types.size)) (tb:=4) rfl
  (fun H a d=>by
   have d:a.length=2:=d.trans (by kernel_rfl)
   match a,d with
   |[d1,d2],_=>exact⟨rfl,rfl,rfl⟩)
  ayI XV (by rw[params];decide+kernel) (by rw[params];decide+kernel) (by kernel_rfl) Tryz.underlying4 qO.enters (X4 k) (fun h=>yZ x hk h) l c
theorem SI(os:Os)(j:os.Started)(H:Type)(a:TypeId×Value->H)(F:Stop.Interp):
 ReturnsInHanded {} Tryz.checked os 8 .any ((Rows.OpenSpec.upto Rows.tableNormalsSpec).preRow a Tryz.prog Tryz.f8 Rows.tableNormalsUptoRow.domain false Rows.tableNormalsUptoRow.laid) (((Rows.OpenSpec.upto Rows.tableNormalsSpec).at F).post a Tryz.prog Tryz.f8 false true false false):=by
 obtain⟨places,hx⟩:=reads os a
 refine Ua v7 az7 j (by kernel_rfl) Tryz.func8
  (SQ v7 (wO os) #[Value.agg #[.slice none 0 0,.int .i64 0,.slice none 0 0,.slice none 0 0],Value.agg #[.slice none 0 0,.int .i64 0,.slice none 0 0,.slice none 0 0]] rfl (by kernel_rfl) (by kernel_rfl) (by kernel_rfl)
   (OpenSpec.preRow_of_cond 8 hx (by kernel_rfl) (fun k hk=>by cases hk;kernel_rfl) (by kernel_rfl) (by rw[K2];exact Vb os _))) ?_
 intro W b args d e c i g h f
 exact Bc H a W b args d e c i g (h _ rfl) f
theorem k0:(Rows.tableNormalsUptoRow.wf (OpenSpec.ofChange (Rows.OpenSpec.upto Rows.tableNormalsSpec).bare))=true:=by kernel_rfl
theorem k1:(laidOutB Tryz.prog)=true:=azW
theorem k2:(mapsRowed Tryz.prog)=true:=az2
theorem k3:(Tryz.f8.params.all (Tryz.prog.readableRec ·))=true:=by kernel_rfl
theorem k4:(namedTie Tryz.prog Rows.tableNormalsUptoRow.named (Rows.OpenSpec.upto Rows.tableNormalsSpec).bare.vars)=true:=by kernel_rfl
theorem k5:((Rows.tableNormalsUptoRow.stops==[]))=true:=by kernel_rfl
theorem k6:((Tryz.prog.stops==[]))=true:=by rw[az9];rfl
theorem k7:((Rows.tableNormalsUptoRow.knobs==[]))=true:=by kernel_rfl
theorem k8:((Tryz.prog.stopKnobs==[]))=true:=by rw[Sa];rfl
theorem k9:((Rows.tableNormalsUptoRow.inPlace==Tryz.prog.inPlace 8))=true:=by kernel_rfl
theorem k10:((Rows.tableNormalsUptoRow.unfollowed==Tryz.prog.unfollowed 8))=true:=by kernel_rfl
theorem k11:((Rows.tableNormalsUptoRow.recurses==Tryz.prog.recurses 8))=true:=by kernel_rfl
theorem k12:((Rows.tableNormalsUptoRow.named==Tryz.prog.varsNamed 8))=true:=by kernel_rfl
theorem k13:((Rows.tableNormalsUptoRow.maps==(Tryz.f8.params.toList++(Rows.OpenSpec.upto Rows.tableNormalsSpec).bare.plain.varTypes Tryz.prog).any (Tryz.prog.mapsRec ·)))=true:=by kernel_rfl
theorem k14:((Rows.tableNormalsUptoRow.ifaces==(Tryz.f8.params.toList++(Rows.OpenSpec.upto Rows.tableNormalsSpec).bare.plain.varTypes Tryz.prog).any (Tryz.prog.ifacesRec ·)))=true:=by kernel_rfl
theorem k15:((Rows.tableNormalsUptoRow.mapsOut==Tryz.prog.mapsAmong Tryz.f8.resultTypes.toList))=true:=by kernel_rfl
theorem k16:((Rows.tableNormalsUptoRow.loops==(Tryz.f8.params.toList++(Rows.OpenSpec.upto Rows.tableNormalsSpec).bare.plain.varTypes Tryz.prog).any (Tryz.prog.loopsFrom ·)))=true:=by kernel_rfl
theorem k17:((Rows.tableNormalsUptoRow.wideKeys==(Tryz.f8.params.toList++(Rows.OpenSpec.upto Rows.tableNormalsSpec).bare.plain.varTypes Tryz.prog++Tryz.f8.resultTypes.toList).any (Tryz.prog.wideKeysFrom ·)))=true:=by kernel_rfl
theorem k18:((Rows.OpenSpec.upto Rows.tableNormalsSpec).bare.vars.all (Tryz.prog.varReadable ·))=true:=by kernel_rfl
theorem k19:(Tryz.f8.resultTypes.all (fun t=>Tryz.prog.readableRec t&&decide (t<Tryz.prog.types.size)))=true:=by kernel_rfl
theorem k20:((Rows.tableNormalsUptoRow.ifacesOut==Tryz.f8.resultTypes.toList.any (Tryz.prog.ifacesRec ·)))=true:=by kernel_rfl
theorem k21:((Rows.tableNormalsUptoRow.loopsOut==Tryz.f8.resultTypes.toList.any (Tryz.prog.loopsFrom ·)))=true:=by kernel_rfl
theorem k22:((Rows.tableNormalsUptoRow.plainKeys==Tryz.prog.plainKeys))=true:=by rw[Sb];rfl
theorem k23:(Rows.tableNormalsUptoRow.shortTexts.isNone)=true:=by kernel_rfl
theorem k24:(Tryz.prog.stopsHeard)=true:=Rl
theorem k25:(Tryz.prog.mayEnter)=true:=Sw
theorem k26:((Rows.tableNormalsUptoRow.lifted==Tryz.prog.liftsFinal))=true:=by rw[azY];rfl
theorem k27:((Tryz.prog.make==some Rows.tableNormalsUptoRow.make))=true:=by rw[az1];rfl
theorem k28:((Rows.tableNormalsUptoRow.kinds==(if Rows.tableNormalsUptoRow.domain.isEmpty then[]else Tryz.f8.params.toList.map fun t=>match Tryz.prog.underlying t with|some (.int k)=>some k|_=>none)))=true:=by kernel_rfl
theorem k29:((Rows.tableNormalsUptoRow.pinned==Rows.tableNormalsUptoRow.pinnedBy))=true:=by kernel_rfl
theorem k30:((Rows.tableNormalsUptoRow.veiled==(Tryz.f8.params.toList++(Rows.OpenSpec.upto Rows.tableNormalsSpec).bare.plain.varTypes Tryz.prog++Tryz.f8.resultTypes.toList).any (Tryz.prog.veiledRec ·)))=true:=by kernel_rfl
theorem k31:(Rows.tableNormalsUptoRow.veiledFits Tryz.prog Tryz.f8.params.toList (Tryz.f8.params.toList++(Rows.OpenSpec.upto Rows.tableNormalsSpec).bare.plain.varTypes Tryz.prog++Tryz.f8.resultTypes.toList))=true:=by kernel_rfl
theorem eD{a b:Bool}(h:a=true)(k:b=true):(a&&b)=true:=by rw[h,k];rfl
theorem closed:joinedFacts Tryz.prog 8 Tryz.f8 (Rows.OpenSpec.upto Rows.tableNormalsSpec).bare Rows.tableNormalsUptoRow=true:=
 eD (eD (eD (eD (eD (eD (eD (eD (eD (eD (eD (eD (eD (eD (eD (eD (eD (eD (eD (eD (eD (eD (eD (eD (eD (eD (eD (eD (eD (eD (eD (k0) k1) k2) k3) k4) k5) k6) k7) k8) k9) k10) k11) k12) k13) k14) k15) k16) k17) k18) k19) k20) k21) k22) k23) k24) k25) k26) k27) k28) k29) k30) k31
theorem named:Tryz.prog.funcNamed Rows.tableNormalsUptoRow.func=some 8:=by kernel_rfl
theorem inst:Tryz.f8.isInstance Tryz.prog Rows.tableNormalsUptoRow.origin Rows.tableNormalsUptoRow.targs:=of_decide_eq_true (by kernel_rfl)
theorem wrap:Tryz.f8.isWrapper Tryz.prog Rows.tableNormalsUptoRow.wrapper Rows.tableNormalsUptoRow.mainSum:=by
 unfold Func.isWrapper;first|(rw[if_pos (by decide+kernel)];kernel_rfl)|(rw[if_neg (by decide+kernel)];exact⟨rfl,rfl⟩)
theorem Uq:Rows.TableNormalsUptoSaid:=
 aAG Gx v7 8 Tryz.f8 rfl rfl rfl rfl rfl rfl rfl ⟨rfl,rfl,rfl,rfl,rfl⟩ rfl rfl rfl rfl rfl named Tryz.func8 closed inst wrap
  (fun os b H a F=>SI os b H a F)
theorem stands:∀t∈Tryz.f8.params.toList,Tryz.prog.wantsStandIn t=false:=by rw[params];decide+kernel
theorem Wc:Rows.tableNormalsUptoRow.wfByText (Rows.OpenSpec.upto Rows.tableNormalsSpec)=true:=by kernel_rfl
theorem mainIs:Tryz.prog.mainIs=some (Rows.tableNormalsUptoCard.stood.harness.1,Rows.tableNormalsUptoCard.stood.harness.2.toList):=by kernel_rfl
theorem goes:false=Rows.tableNormalsUptoRow.goesBy Tryz.prog:=by kernel_rfl
theorem cardUpto:Rows.TableNormalsUptoCardSaid:=
 WS Gx v7 .later _ _ _ _ Uq Wc tableNormalsUpto_row_tie rfl ⟨rfl,rfl⟩ mainIs rfl named Tryz.func8 az0 stands goes
end Go.Proofs.YtenbmieafgdjaaaGreatDoor.tableNormals
