import Derived.Test.YtenbmieafgdjaaaGreatDoorRPC
import Derived.Test.YtenbmieafgdjaaaGreatDoorRPD
import Derived.Test.YtenbmieafgdjaaaGreatDoorRPE
import Derived.Test.YtenbmieafgdjaaaGreatDoorRPK
import Derived.Test.YtenbmieafgdjaaaGreatDoorRPL
import Derived.Test.YtenbmieafgdjaaaGreatDoorRPN
import Derived.Test.YtenbmieafgdjaaaGreatDoorCards
import Derived.Test.YtenbmieafgdjaaaGreatDoorTie
import Derived.Seven
/-
 The law TableRacks returns true for all arguments whose bulk is at most 1048576,and the arguments read as before.
-/
set_option linter.unusedSimpArgs false
set_option linter.unusedVariables false
set_option linter.unusedSectionVars false
namespace Go.Proofs.YtenbmieafgdjaaaGreatDoor.tableRacks
open Go.aj
set_option maxRecDepth 100000
theorem params:Tryz.f3.params.toList=[26,27,28]:=by kernel_rfl
theorem tY{H:Type}{W:World}{c:List (DataW H)}(i:c.length=3)(d:Rows.uptoSmall H (c++[])=true)(h:∀p∈Tryz.f3.params.toList.zip c,∃cs,aP Tryz.prog W (fun k=>k<W.heap.size) (bB Tryz.prog 8 p.1 p.2) cs):
 aw Tryz.prog 3 (nY Tryz.prog 8 Tryz.f3.params.toList c) (.bool true):=by
 rw[params]at h⊢
 match c,i with
 |[d1,d2,d3],_=>
  have d:=pP.bound d
  simp only[List.append_nil,Rows.uptoBulkAll]at d
  obtain⟨j,e1,m,l⟩:=GH (h (26,d1) (.head _)) (show Rows.uptoBulk d1<=1048576 by omega)
  obtain⟨e,e2,n,g⟩:=aFk (h (27,d2) (.tail _ (.head _))) (show Rows.uptoBulk d2<=1048576 by omega)
  obtain⟨f,e3,o,q⟩:=HH (h (28,d3) (.tail _ (.tail _ (.head _)))) (show Rows.uptoBulk d3<=1048576 by omega)
  simp only[nY,e1,e2,e3]
  exact R6 Gq j e.a e.b f.a f.b l g.1.1 g.2.1
theorem wv:Rows.tableRacksUptoRow.laid=Rows.tableRacksUptoRow.laid:=by kernel_rfl
theorem reads(os:Os){H:Type}(a:TypeId×Value->H):∃b,DataW.whole a Tryz.prog ((sY os).forCall (fun _ _=>0) ⟨#[],#[Value.agg #[.slice none 0 0,.int .i64 0,.slice none 0 0,.slice none 0 0],Value.agg #[Value.string ⟨#[]⟩,Value.string ⟨#[]⟩],Value.agg #[Value.int .i64 0,Value.int .i64 0]],[]⟩).memory Tryz.f3.params.toList Rows.tableRacksSpec.vars false #[Value.agg #[.slice none 0 0,.int .i64 0,.slice none 0 0,.slice none 0 0],Value.agg #[Value.string ⟨#[]⟩,Value.string ⟨#[]⟩],Value.agg #[Value.int .i64 0,Value.int .i64 0]].toList 8=some ([.agg [.nil,.lit (.int .i64 0),.nil,.nil],.agg [.lit (.string []),.lit (.string [])],.agg [.lit (.int .i64 0),.lit (.int .i64 0)]],[],b):=
 ⟨[],by kernel_rfl⟩
theorem vM(H:Type)(i:TypeId×Value->H)(W:World)(f:Nat)(args:Array Value)(a b:List (DataW H))(o:List MemPlace)
 (l:∀(j:Nat) t v,Tryz.f3.params[j]?=some t->args[j]?=some v->Value.okWide Tryz.prog W .any f t v)
 (c:DataW.Whole i Tryz.prog Tryz.f3.params.toList Rows.tableRacksSpec.vars false W args.toList a b o)(hk:Rows.uptoSmall H (a++b)=true)(k:laidMetH Tryz.prog Rows.tableRacksUptoRow.laid W):
 Calls Tryz.prog 3 args W fun e m=>∃v,e= .returned v/\Rows.tableRacksSpec.post i Tryz.prog Tryz.f3 false true false false W args v m:=by
 rw[wv]at k
 have w:b=[]:=by
  obtain⟨p,q,_,u,_⟩:=c
  cases b with
  |nil=>rfl
  |cons g b=>exact u.elim
 have x:a.length=3:=by
  obtain⟨p,q,s,_⟩:=c
  have:=(yt (n:=8) (base:=f) (r:= .any) (by rw[params];decide+kernel) s (fun j t v y z=>l j t v (by simpa using y) (by simpa using z))).2
  rw[this,params];rfl
 subst w
 exact Jn (n:=8) (T:=(·<Tryz.prog.types.size)) (tb:=4) rfl
  (fun H a d=>by
   have d:a.length=3:=d.trans (by kernel_rfl)
   match a,d with
   |[d1,d2,d3],_=>exact⟨rfl,rfl,rfl⟩)
  Qm Pb (by rw[params];decide+kernel) (by rw[params];decide+kernel) (by kernel_rfl) Tryz.underlying4 n8.enters (E3 k) (fun h=>tY x hk h) l c
theorem C3(os:Os)(j:os.Started)(H:Type)(a:TypeId×Value->H)(F:Stop.Interp):
 ReturnsInHanded {} Tryz.checked os 3 .any ((Rows.OpenSpec.upto Rows.tableRacksSpec).preRow a Tryz.prog Tryz.f3 Rows.tableRacksUptoRow.domain false Rows.tableRacksUptoRow.laid) (((Rows.OpenSpec.upto Rows.tableRacksSpec).at F).post a Tryz.prog Tryz.f3 false true false false):=by
 obtain⟨places,hx⟩:=reads os a
 refine MC oO QE j (by kernel_rfl) Tryz.func3
  (LJ oO (sY os) #[Value.agg #[.slice none 0 0,.int .i64 0,.slice none 0 0,.slice none 0 0],Value.agg #[Value.string ⟨#[]⟩,Value.string ⟨#[]⟩],Value.agg #[Value.int .i64 0,Value.int .i64 0]] rfl (by kernel_rfl) (by kernel_rfl) (by kernel_rfl)
   (OpenSpec.preRow_of_cond 8 hx (by kernel_rfl) (fun k hk=>by cases hk;kernel_rfl) (by kernel_rfl) (by rw[wv];exact M0 os _))) ?_
 intro W b args d e c i g h f
 exact vM H a W b args d e c i g (h _ rfl) f
theorem k0:(Rows.tableRacksUptoRow.wf (OpenSpec.ofChange (Rows.OpenSpec.upto Rows.tableRacksSpec).bare))=true:=by kernel_rfl
theorem k1:(laidOutB Tryz.prog)=true:=E7
theorem k2:(mapsRowed Tryz.prog)=true:=E5
theorem k3:(Tryz.f3.params.all (Tryz.prog.readableRec ·))=true:=by kernel_rfl
theorem k4:(namedTie Tryz.prog Rows.tableRacksUptoRow.named (Rows.OpenSpec.upto Rows.tableRacksSpec).bare.vars)=true:=by kernel_rfl
theorem k5:((Rows.tableRacksUptoRow.stops==[]))=true:=by kernel_rfl
theorem k6:((Tryz.prog.stops==[]))=true:=by rw[EY];rfl
theorem k7:((Rows.tableRacksUptoRow.knobs==[]))=true:=by kernel_rfl
theorem k8:((Tryz.prog.stopKnobs==[]))=true:=by rw[Kg];rfl
theorem k9:((Rows.tableRacksUptoRow.inPlace==Tryz.prog.inPlace 3))=true:=by kernel_rfl
theorem D8:((Rows.tableRacksUptoRow.unfollowed==Tryz.prog.unfollowed 3))=true:=by kernel_rfl
theorem D9:((Rows.tableRacksUptoRow.recurses==Tryz.prog.recurses 3))=true:=by kernel_rfl
theorem Ea:((Rows.tableRacksUptoRow.named==Tryz.prog.varsNamed 3))=true:=by kernel_rfl
theorem Eb:((Rows.tableRacksUptoRow.maps==(Tryz.f3.params.toList++(Rows.OpenSpec.upto Rows.tableRacksSpec).bare.plain.varTypes Tryz.prog).any (Tryz.prog.mapsRec ·)))=true:=by kernel_rfl
theorem Ec:((Rows.tableRacksUptoRow.ifaces==(Tryz.f3.params.toList++(Rows.OpenSpec.upto Rows.tableRacksSpec).bare.plain.varTypes Tryz.prog).any (Tryz.prog.ifacesRec ·)))=true:=by kernel_rfl
theorem Ed:((Rows.tableRacksUptoRow.mapsOut==Tryz.prog.mapsAmong Tryz.f3.resultTypes.toList))=true:=by kernel_rfl
theorem Ee:((Rows.tableRacksUptoRow.loops==(Tryz.f3.params.toList++(Rows.OpenSpec.upto Rows.tableRacksSpec).bare.plain.varTypes Tryz.prog).any (Tryz.prog.loopsFrom ·)))=true:=by kernel_rfl
theorem Ef:((Rows.tableRacksUptoRow.wideKeys==(Tryz.f3.params.toList++(Rows.OpenSpec.upto Rows.tableRacksSpec).bare.plain.varTypes Tryz.prog++Tryz.f3.resultTypes.toList).any (Tryz.prog.wideKeysFrom ·)))=true:=by kernel_rfl
theorem Eg:((Rows.OpenSpec.upto Rows.tableRacksSpec).bare.vars.all (Tryz.prog.varReadable ·))=true:=by kernel_rfl
theorem Eh:(Tryz.f3.resultTypes.all (fun t=>Tryz.prog.readableRec t&&decide (t<Tryz.prog.types.size)))=true:=by kernel_rfl
theorem Ei:((Rows.tableRacksUptoRow.ifacesOut==Tryz.f3.resultTypes.toList.any (Tryz.prog.ifacesRec ·)))=true:=by kernel_rfl
theorem Ej:((Rows.tableRacksUptoRow.loopsOut==Tryz.f3.resultTypes.toList.any (Tryz.prog.loopsFrom ·)))=true:=by kernel_rfl
theorem Ek:((Rows.tableRacksUptoRow.plainKeys==Tryz.prog.plainKeys))=true:=by rw[Kh];rfl
theorem El:(Rows.tableRacksUptoRow.shortTexts.isNone)=true:=by kernel_rfl
theorem Em:(Tryz.prog.stopsHeard)=true:=JW
theorem En:(Tryz.prog.mayEnter)=true:=Lz
theorem Eo:((Rows.tableRacksUptoRow.lifted==Tryz.prog.liftsFinal))=true:=by rw[E0];rfl
theorem Ep:((Tryz.prog.make==some Rows.tableRacksUptoRow.make))=true:=by rw[E6];rfl
theorem Er:((Rows.tableRacksUptoRow.kinds==(if Rows.tableRacksUptoRow.domain.isEmpty then[]else Tryz.f3.params.toList.map fun t=>match Tryz.prog.underlying t with|some (.int k)=>some k|_=>none)))=true:=by kernel_rfl
theorem Es:((Rows.tableRacksUptoRow.pinned==Rows.tableRacksUptoRow.pinnedBy))=true:=by kernel_rfl
theorem Et:((Rows.tableRacksUptoRow.veiled==(Tryz.f3.params.toList++(Rows.OpenSpec.upto Rows.tableRacksSpec).bare.plain.varTypes Tryz.prog++Tryz.f3.resultTypes.toList).any (Tryz.prog.veiledRec ·)))=true:=by kernel_rfl
theorem Eu:(Rows.tableRacksUptoRow.veiledFits Tryz.prog Tryz.f3.params.toList (Tryz.f3.params.toList++(Rows.OpenSpec.upto Rows.tableRacksSpec).bare.plain.varTypes Tryz.prog++Tryz.f3.resultTypes.toList))=true:=by kernel_rfl
theorem cq{a b:Bool}(h:a=true)(k:b=true):(a&&b)=true:=by rw[h,k];rfl
theorem closed:joinedFacts Tryz.prog 3 Tryz.f3 (Rows.OpenSpec.upto Rows.tableRacksSpec).bare Rows.tableRacksUptoRow=true:=
 cq (cq (cq (cq (cq (cq (cq (cq (cq (cq (cq (cq (cq (cq (cq (cq (cq (cq (cq (cq (cq (cq (cq (cq (cq (cq (cq (cq (cq (cq (cq (k0) k1) k2) k3) k4) k5) k6) k7) k8) k9) D8) D9) Ea) Eb) Ec) Ed) Ee) Ef) Eg) Eh) Ei) Ej) Ek) El) Em) En) Eo) Ep) Er) Es) Et) Eu
theorem named:Tryz.prog.funcNamed Rows.tableRacksUptoRow.func=some 3:=by kernel_rfl
theorem inst:Tryz.f3.isInstance Tryz.prog Rows.tableRacksUptoRow.origin Rows.tableRacksUptoRow.targs:=of_decide_eq_true (by kernel_rfl)
theorem wrap:Tryz.f3.isWrapper Tryz.prog Rows.tableRacksUptoRow.wrapper Rows.tableRacksUptoRow.mainSum:=by
 unfold Func.isWrapper;first|(rw[if_pos (by decide+kernel)];kernel_rfl)|(rw[if_neg (by decide+kernel)];exact⟨rfl,rfl⟩)
theorem Ds:Rows.TableRacksUptoSaid:=
 EX ym oO 3 Tryz.f3 rfl rfl rfl rfl rfl rfl rfl ⟨rfl,rfl,rfl,rfl,rfl⟩ rfl rfl rfl rfl rfl named Tryz.func3 closed inst wrap
  (fun os b H a F=>C3 os b H a F)
theorem stands:∀t∈Tryz.f3.params.toList,Tryz.prog.wantsStandIn t=false:=by rw[params];decide+kernel
theorem An:Rows.tableRacksUptoRow.wfByText (Rows.OpenSpec.upto Rows.tableRacksSpec)=true:=by kernel_rfl
theorem mainIs:Tryz.prog.mainIs=some (Rows.tableRacksUptoCard.stood.harness.1,Rows.tableRacksUptoCard.stood.harness.2.toList):=by kernel_rfl
theorem goes:false=Rows.tableRacksUptoRow.goesBy Tryz.prog:=by kernel_rfl
theorem cardUpto:Rows.TableRacksUptoCardSaid:=
 E4 ym oO .later _ _ _ _ Ds An tableRacksUpto_row_tie rfl ⟨rfl,rfl⟩ mainIs rfl named Tryz.func3 EZ stands goes
end Go.Proofs.YtenbmieafgdjaaaGreatDoor.tableRacks
