import Derived.Test.YtenbmieafgdjaaaGreatDoorMPC
import Derived.Test.YtenbmieafgdjaaaGreatDoorMPD
import Derived.Test.YtenbmieafgdjaaaGreatDoorMPE
import Derived.Test.YtenbmieafgdjaaaGreatDoorMPK
import Derived.Test.YtenbmieafgdjaaaGreatDoorMPL
import Derived.Test.YtenbmieafgdjaaaGreatDoorMPM
import Derived.Test.YtenbmieafgdjaaaGreatDoorMPN
import Derived.Test.YtenbmieafgdjaaaGreatDoorCards
import Derived.Test.YtenbmieafgdjaaaGreatDoorTie
import Derived.Seven
/-
 The law TableMoves returns true for all arguments whose bulk is at most 1048576,and the arguments read as before.
-/
set_option linter.unusedSimpArgs false
set_option linter.unusedVariables false
set_option linter.unusedSectionVars false
namespace Go.Proofs.YtenbmieafgdjaaaGreatDoor.tableMoves
open Go.al
set_option maxRecDepth 100000
theorem params:Tryz.f7.params.toList=[26,64,87]:=by kernel_rfl
theorem ze{H:Type}{W:World}{a:List (DataW H)}(c:a.length=3)(b:Rows.uptoSmall H (a++[])=true)(h:∀p∈Tryz.f7.params.toList.zip a,∃cs,aS Tryz.prog W (fun k=>k<W.heap.size) (bE Tryz.prog 8 p.1 p.2) cs):
 az Tryz.prog 7 (ql Tryz.prog 8 Tryz.f7.params.toList a) (.bool true):=by
 rw[params]at h⊢
 match a,c with
 |[d1,d2,d3],_=>
  have b:=oX.bound b
  simp only[List.append_nil,Rows.uptoBulkAll]at b
  obtain⟨d,e1,j,g⟩:=aDo (h (26,d1) (.head _)) (show Rows.uptoBulk d1<=1048576 by omega)
  obtain⟨e,e2,l,i⟩:=QX (h (64,d2) (.tail _ (.head _))) (show Rows.uptoBulk d2<=1048576 by omega)
  obtain⟨f,e3,m⟩:=az2 (h (87,d3) (.tail _ (.tail _ (.head _)))) (show Rows.uptoBulk d3<=1048576 by omega)
  simp only[ql,e1,e2,e3]
  exact QZ QD d e f g i
theorem Lf:Rows.tableMovesUptoRow.laid=Rows.tableRacksUptoRow.laid:=by kernel_rfl
theorem reads(os:Os){H:Type}(a:TypeId×Value->H):∃b,DataW.whole a Tryz.prog ((xb os).forCall (fun _ _=>0) ⟨#[],#[Value.agg #[.slice none 0 0,.int .i64 0,.slice none 0 0,.slice none 0 0],Value.slice none 0 0,Value.agg #[Value.bool false,Value.int .i64 0,Value.int .i64 0,Value.int .i64 0]],[]⟩).memory Tryz.f7.params.toList Rows.tableMovesSpec.vars false #[Value.agg #[.slice none 0 0,.int .i64 0,.slice none 0 0,.slice none 0 0],Value.slice none 0 0,Value.agg #[Value.bool false,Value.int .i64 0,Value.int .i64 0,Value.int .i64 0]].toList 8=some ([.agg [.nil,.lit (.int .i64 0),.nil,.nil],.nil,.agg [.lit (.bool false),.lit (.int .i64 0),.agg [.lit (.int .i64 0),.lit (.int .i64 0)]]],[],b):=
 ⟨[],by kernel_rfl⟩
theorem Bp(H:Type)(i:TypeId×Value->H)(W:World)(f:Nat)(args:Array Value)(a b:List (DataW H))(o:List MemPlace)
 (l:∀(j:Nat) t v,Tryz.f7.params[j]?=some t->args[j]?=some v->Value.okWide Tryz.prog W .any f t v)
 (c:DataW.Whole i Tryz.prog Tryz.f7.params.toList Rows.tableMovesSpec.vars false W args.toList a b o)(hk:Rows.uptoSmall H (a++b)=true)(k:laidMetH Tryz.prog Rows.tableMovesUptoRow.laid W):
 Calls Tryz.prog 7 args W fun e m=>∃v,e= .returned v/\Rows.tableMovesSpec.post i Tryz.prog Tryz.f7 false true false false W args v m:=by
 rw[Lf]at k
 have w:b=[]:=by
  obtain⟨p,q,_,u,_⟩:=c
  cases b with
  |nil=>rfl
  |cons g b=>exact u.elim
 have x:a.length=3:=by
  obtain⟨p,q,s,_⟩:=c
  have:=(A1 (n:=8) (base:=f) (r:= .any) (by rw[params];decide+kernel) s (fun j t v y z=>l j t v (by simpa using y) (by simpa using z))).2
  rw[this,params];rfl
 subst w
 exact RS (n:=8) (T:=(·<Tryz.prog.types.size)) (tb:=4) rfl
  (fun H a d=>by
   have d:a.length=3:=d.trans (by kernel_rfl)
   match a,d with
   |[d1,d2,d3],_=>exact⟨rfl,rfl,rfl⟩)
  azF Yu (by rw[params];decide+kernel) (by rw[params];decide+kernel) (by kernel_rfl) Tryz.underlying4 o7.enters (YP k) (fun h=>ze x hk h) l c
theorem Tx(os:Os)(j:os.Started)(H:Type)(a:TypeId×Value->H)(F:Stop.Interp):
 ReturnsInHanded {} Tryz.checked os 7 .any ((Rows.OpenSpec.upto Rows.tableMovesSpec).preRow a Tryz.prog Tryz.f7 Rows.tableMovesUptoRow.domain false Rows.tableMovesUptoRow.laid) (((Rows.OpenSpec.upto Rows.tableMovesSpec).at F).post a Tryz.prog Tryz.f7 false true false false):=by
 obtain⟨places,hx⟩:=reads os a
 refine UW wL aAI j (by kernel_rfl) Tryz.func7
  (TH wL (xb os) #[Value.agg #[.slice none 0 0,.int .i64 0,.slice none 0 0,.slice none 0 0],Value.slice none 0 0,Value.agg #[Value.bool false,Value.int .i64 0,Value.int .i64 0,Value.int .i64 0]] rfl (by kernel_rfl) (by kernel_rfl) (by kernel_rfl)
   (OpenSpec.preRow_of_cond 8 hx (by kernel_rfl) (fun k hk=>by cases hk;kernel_rfl) (by kernel_rfl) (by rw[Lf];exact VX os _))) ?_
 intro W b args d e c i g h f
 exact Bp H a W b args d e c i g (h _ rfl) f
theorem k0:(Rows.tableMovesUptoRow.wf (OpenSpec.ofChange (Rows.OpenSpec.upto Rows.tableMovesSpec).bare))=true:=by kernel_rfl
theorem k1:(laidOutB Tryz.prog)=true:=aAx
theorem k2:(mapsRowed Tryz.prog)=true:=aAD
theorem k3:(Tryz.f7.params.all (Tryz.prog.readableRec ·))=true:=by kernel_rfl
theorem k4:(namedTie Tryz.prog Rows.tableMovesUptoRow.named (Rows.OpenSpec.upto Rows.tableMovesSpec).bare.vars)=true:=by kernel_rfl
theorem k5:((Rows.tableMovesUptoRow.stops==[]))=true:=by kernel_rfl
theorem k6:((Tryz.prog.stops==[]))=true:=by rw[aAK];rfl
theorem k7:((Rows.tableMovesUptoRow.knobs==[]))=true:=by kernel_rfl
theorem k8:((Tryz.prog.stopKnobs==[]))=true:=by rw[SW];rfl
theorem k9:((Rows.tableMovesUptoRow.inPlace==Tryz.prog.inPlace 7))=true:=by kernel_rfl
theorem k10:((Rows.tableMovesUptoRow.unfollowed==Tryz.prog.unfollowed 7))=true:=by kernel_rfl
theorem k11:((Rows.tableMovesUptoRow.recurses==Tryz.prog.recurses 7))=true:=by kernel_rfl
theorem k12:((Rows.tableMovesUptoRow.named==Tryz.prog.varsNamed 7))=true:=by kernel_rfl
theorem k13:((Rows.tableMovesUptoRow.maps==(Tryz.f7.params.toList++(Rows.OpenSpec.upto Rows.tableMovesSpec).bare.plain.varTypes Tryz.prog).any (Tryz.prog.mapsRec ·)))=true:=by kernel_rfl
theorem k14:((Rows.tableMovesUptoRow.ifaces==(Tryz.f7.params.toList++(Rows.OpenSpec.upto Rows.tableMovesSpec).bare.plain.varTypes Tryz.prog).any (Tryz.prog.ifacesRec ·)))=true:=by kernel_rfl
theorem k15:((Rows.tableMovesUptoRow.mapsOut==Tryz.prog.mapsAmong Tryz.f7.resultTypes.toList))=true:=by kernel_rfl
theorem k16:((Rows.tableMovesUptoRow.loops==(Tryz.f7.params.toList++(Rows.OpenSpec.upto Rows.tableMovesSpec).bare.plain.varTypes Tryz.prog).any (Tryz.prog.loopsFrom ·)))=true:=by kernel_rfl
theorem k17:((Rows.tableMovesUptoRow.wideKeys==(Tryz.f7.params.toList++(Rows.OpenSpec.upto Rows.tableMovesSpec).bare.plain.varTypes Tryz.prog++Tryz.f7.resultTypes.toList).any (Tryz.prog.wideKeysFrom ·)))=true:=by kernel_rfl
theorem k18:((Rows.OpenSpec.upto Rows.tableMovesSpec).bare.vars.all (Tryz.prog.varReadable ·))=true:=by kernel_rfl
theorem k19:(Tryz.f7.resultTypes.all (fun t=>Tryz.prog.readableRec t&&decide (t<Tryz.prog.types.size)))=true:=by kernel_rfl
theorem k20:((Rows.tableMovesUptoRow.ifacesOut==Tryz.f7.resultTypes.toList.any (Tryz.prog.ifacesRec ·)))=true:=by kernel_rfl
theorem k21:((Rows.tableMovesUptoRow.loopsOut==Tryz.f7.resultTypes.toList.any (Tryz.prog.loopsFrom ·)))=true:=by kernel_rfl
theorem k22:((Rows.tableMovesUptoRow.plainKeys==Tryz.prog.plainKeys))=true:=by rw[SX];rfl
theorem k23:(Rows.tableMovesUptoRow.shortTexts.isNone)=true:=by kernel_rfl
theorem k24:(Tryz.prog.stopsHeard)=true:=Sa
theorem k25:(Tryz.prog.mayEnter)=true:=Tj
theorem k26:((Rows.tableMovesUptoRow.lifted==Tryz.prog.liftsFinal))=true:=by rw[aAz];rfl
theorem k27:((Tryz.prog.make==some Rows.tableMovesUptoRow.make))=true:=by rw[aAC];rfl
theorem k28:((Rows.tableMovesUptoRow.kinds==(if Rows.tableMovesUptoRow.domain.isEmpty then[]else Tryz.f7.params.toList.map fun t=>match Tryz.prog.underlying t with|some (.int k)=>some k|_=>none)))=true:=by kernel_rfl
theorem k29:((Rows.tableMovesUptoRow.pinned==Rows.tableMovesUptoRow.pinnedBy))=true:=by kernel_rfl
theorem k30:((Rows.tableMovesUptoRow.veiled==(Tryz.f7.params.toList++(Rows.OpenSpec.upto Rows.tableMovesSpec).bare.plain.varTypes Tryz.prog++Tryz.f7.resultTypes.toList).any (Tryz.prog.veiledRec ·)))=true:=by kernel_rfl
theorem k31:(Rows.tableMovesUptoRow.veiledFits Tryz.prog Tryz.f7.params.toList (Tryz.f7.params.toList++(Rows.OpenSpec.upto Rows.tableMovesSpec).bare.plain.varTypes Tryz.prog++Tryz.f7.resultTypes.toList))=true:=by kernel_rfl
theorem eJ{a b:Bool}(h:a=true)(k:b=true):(a&&b)=true:=by rw[h,k];rfl
theorem closed:joinedFacts Tryz.prog 7 Tryz.f7 (Rows.OpenSpec.upto Rows.tableMovesSpec).bare Rows.tableMovesUptoRow=true:=
 eJ (eJ (eJ (eJ (eJ (eJ (eJ (eJ (eJ (eJ (eJ (eJ (eJ (eJ (eJ (eJ (eJ (eJ (eJ (eJ (eJ (eJ (eJ (eJ (eJ (eJ (eJ (eJ (eJ (eJ (eJ (k0) k1) k2) k3) k4) k5) k6) k7) k8) k9) k10) k11) k12) k13) k14) k15) k16) k17) k18) k19) k20) k21) k22) k23) k24) k25) k26) k27) k28) k29) k30) k31
theorem named:Tryz.prog.funcNamed Rows.tableMovesUptoRow.func=some 7:=by kernel_rfl
theorem inst:Tryz.f7.isInstance Tryz.prog Rows.tableMovesUptoRow.origin Rows.tableMovesUptoRow.targs:=of_decide_eq_true (by kernel_rfl)
theorem wrap:Tryz.f7.isWrapper Tryz.prog Rows.tableMovesUptoRow.wrapper Rows.tableMovesUptoRow.mainSum:=by
 unfold Func.isWrapper;first|(rw[if_pos (by decide+kernel)];kernel_rfl)|(rw[if_neg (by decide+kernel)];exact⟨rfl,rfl⟩)
theorem Vd:Rows.TableMovesUptoSaid:=
 aCp GO wL 7 Tryz.f7 rfl rfl rfl rfl rfl rfl rfl ⟨rfl,rfl,rfl,rfl,rfl⟩ rfl rfl rfl rfl rfl named Tryz.func7 closed inst wrap
  (fun os b H a F=>Tx os b H a F)
theorem stands:∀t∈Tryz.f7.params.toList,Tryz.prog.wantsStandIn t=false:=by rw[params];decide+kernel
theorem W2:Rows.tableMovesUptoRow.wfByText (Rows.OpenSpec.upto Rows.tableMovesSpec)=true:=by kernel_rfl
theorem mainIs:Tryz.prog.mainIs=some (Rows.tableMovesUptoCard.stood.harness.1,Rows.tableMovesUptoCard.stood.harness.2.toList):=by kernel_rfl
theorem goes:false=Rows.tableMovesUptoRow.goesBy Tryz.prog:=by kernel_rfl
theorem cardUpto:Rows.TableMovesUptoCardSaid:=
 Xx GO wL .later _ _ _ _ Vd W2 tableMovesUpto_row_tie rfl ⟨rfl,rfl⟩ mainIs rfl named Tryz.func7 aAB stands goes
end Go.Proofs.YtenbmieafgdjaaaGreatDoor.tableMoves
