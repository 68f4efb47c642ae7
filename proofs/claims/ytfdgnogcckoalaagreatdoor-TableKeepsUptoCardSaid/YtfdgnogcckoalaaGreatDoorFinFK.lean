import Derived.Test.YtfdgnogcckoalaaGreatDoorKPC
import Derived.Test.YtfdgnogcckoalaaGreatDoorKPD
import Derived.Test.YtfdgnogcckoalaaGreatDoorKPE
import Derived.Test.YtfdgnogcckoalaaGreatDoorKPG
import Derived.Test.YtfdgnogcckoalaaGreatDoorKPH
import Derived.Test.YtfdgnogcckoalaaGreatDoorCards
import Derived.Test.YtfdgnogcckoalaaGreatDoorTie
import Derived.Seven
/-
 The law TableKeeps returns true for all arguments whose bulk is at most 1048576,and the arguments read as before.
-/
set_option maxRecDepth 100000
set_option linter.unusedSimpArgs false
set_option linter.unusedVariables false
set_option linter.unusedSectionVars false
namespace Go.Proofs.YtfdgnogcckoalaaGreatDoor.tableKeeps
open Go.an
theorem params:Tryz.f6.params.toList=[26,48,66]:=k_
theorem Ci{H:Type}{W:World}{a:List (DataW H)}(hl:a.length=3)(b:Rows.uptoSmall H (a++[])=true)(h:∀p∈Tryz.f6.params.toList.zip a,∃cs,aY Tryz.prog W (fun k=>k<W.heap.size) (bN Tryz.prog 8 p.1 p.2) cs):
 az Tryz.prog 6 (th Tryz.prog 8 Tryz.f6.params.toList a) (.bool true):=by
 rw[params]at h⊢
 match a,hl with
 |[d1,d2,d3],_=>
  have b:=rr.bound b
  simp only[List.append_nil,Rows.uptoBulkAll]at b
  obtain⟨c,e1,i,f⟩:=aQL (h (26,d1) (.head _)) (show Rows.uptoBulk d1<=1048576 by omega)
  obtain⟨d,e2,j,g⟩:=WZ (h (48,d2) (.tail _ (.head _))) (show Rows.uptoBulk d2<=1048576 by omega)
  obtain⟨e,e3,l⟩:=aOY (h (66,d3) (.tail _ (.tail _ (.head _)))) (show Rows.uptoBulk d3<=1048576 by omega)
  simp only[th,e1,e2,e3]
  exact Wh W6 c d e f g
theorem Qr:Rows.tableKeepsUptoRow.laid=Rows.tableKeepsUptoRow.laid:=k_
theorem reads(os:Os){H:Type}(a:TypeId×Value->H):∃b,DataW.whole a Tryz.prog ((Ai os).forCall (fun _ _=>0) ⟨#[],#[Value.agg #[.slice none 0 0,.int .i64 0,.slice none 0 0,.slice none 0 0],Value.slice none 0 0,Value.agg #[Value.bool false,Value.int .i64 0,Value.int .i64 0,Value.int .i64 0]],[]⟩).memory Tryz.f6.params.toList Rows.tableKeepsSpec.vars false #[Value.agg #[.slice none 0 0,.int .i64 0,.slice none 0 0,.slice none 0 0],Value.slice none 0 0,Value.agg #[Value.bool false,Value.int .i64 0,Value.int .i64 0,Value.int .i64 0]].toList 8=some ([.agg [.nil,.lit (.int .i64 0),.nil,.nil],.nil,.agg [.lit (.bool false),.lit (.int .i64 0),.agg [.lit (.int .i64 0),.lit (.int .i64 0)]]],[],b):=
 ⟨[],k_⟩
theorem EJ(H:Type)(i:TypeId×Value->H)(W:World)(f:Nat)(args:Array Value)(a b:List (DataW H))(o:List MemPlace)
 (l:∀(j:Nat) t v,Tryz.f6.params[j]?=some t->args[j]?=some v->Value.okWide Tryz.prog W .any f t v)
 (c:DataW.Whole i Tryz.prog Tryz.f6.params.toList Rows.tableKeepsSpec.vars false W args.toList a b o)(hk:Rows.uptoSmall H (a++b)=true)(k:laidMetH Tryz.prog Rows.tableKeepsUptoRow.laid W):
 Calls Tryz.prog 6 args W fun e m=>∃v,e= .returned v/\Rows.tableKeepsSpec.post i Tryz.prog Tryz.f6 false true false false W args v m:=by
 rw[Qr]at k
 have w:b=[]:=by
  obtain⟨p,q,_,u,_⟩:=c
  cases b with
  |nil=>rfl
  |cons g b=>exact u.elim
 have x:a.length=3:=by
  obtain⟨p,q,s,_⟩:=c
  have:=(Ek (n:=8) (base:=f) (r:= .any) (by rw[params];decide+kernel) s (fun j t v y z=>l j t v (by simpa using y) (by simpa using z))).2
  rw[this,params];rfl
 subst w
 exact XN (n:=8) (T:=(·<Tryz.prog.types.size)) (tb:=4) rfl
  (fun H a d=>by
   have d:a.length=3:=d.trans k_
   match a,d with
   |[d1,d2,d3],_=>exact⟨rfl,rfl,rfl⟩)
  aOu aKX (by rw[params];decide+kernel) (by rw[params];decide+kernel) k_ Tryz.underlying4 (i_ Tryz.func6).enters (aLh k) (fun h=>Ci x hk h) l c
theorem Zk(os:Os)(j:os.Started)(H:Type)(a:TypeId×Value->H)(F:Stop.Interp):
 ReturnsInHanded {} Tryz.checked os 6 .any ((Rows.OpenSpec.upto Rows.tableKeepsSpec).preRow a Tryz.prog Tryz.f6 Rows.tableKeepsUptoRow.domain false Rows.tableKeepsUptoRow.laid) (((Rows.OpenSpec.upto Rows.tableKeepsSpec).at F).post a Tryz.prog Tryz.f6 false true false false):=by
 obtain⟨places,hx⟩:=reads os a
 refine atb zU aPD j k_ Tryz.func6
  (Zs zU (Ai os) #[Value.agg #[.slice none 0 0,.int .i64 0,.slice none 0 0,.slice none 0 0],Value.slice none 0 0,Value.agg #[Value.bool false,Value.int .i64 0,Value.int .i64 0,Value.int .i64 0]] rfl k_ k_ k_
   (OpenSpec.preRow_of_cond 8 hx k_ (fun k hk=>by cases hk;kernel_rfl) k_ (by rw[Qr];exact avU os _))) ?_
 intro W b args d e c i g h f
 exact EJ H a W b args d e c i g (h _ rfl) f
theorem k0:(Rows.tableKeepsUptoRow.wf (OpenSpec.ofChange (Rows.OpenSpec.upto Rows.tableKeepsSpec).bare))=true:=k_
theorem k1:(laidOutB Tryz.prog)=true:=aPs
theorem k2:(mapsRowed Tryz.prog)=true:=aPy
theorem k3:(Tryz.f6.params.all (Tryz.prog.readableRec ·))=true:=k_
theorem k4:(namedTie Tryz.prog Rows.tableKeepsUptoRow.named (Rows.OpenSpec.upto Rows.tableKeepsSpec).bare.vars)=true:=k_
theorem k5:((Rows.tableKeepsUptoRow.stops==[]))=true:=k_
theorem k6:((Tryz.prog.stops==[]))=true:=by rw[aPF];rfl
theorem k7:((Rows.tableKeepsUptoRow.knobs==[]))=true:=k_
theorem k8:((Tryz.prog.stopKnobs==[]))=true:=by rw[YN];rfl
theorem k9:((Rows.tableKeepsUptoRow.inPlace==Tryz.prog.inPlace 6))=true:=k_
theorem k10:((Rows.tableKeepsUptoRow.unfollowed==Tryz.prog.unfollowed 6))=true:=k_
theorem k11:((Rows.tableKeepsUptoRow.recurses==Tryz.prog.recurses 6))=true:=k_
theorem k12:((Rows.tableKeepsUptoRow.named==Tryz.prog.varsNamed 6))=true:=k_
theorem k13:((Rows.tableKeepsUptoRow.maps==(Tryz.f6.params.toList++(Rows.OpenSpec.upto Rows.tableKeepsSpec).bare.plain.varTypes Tryz.prog).any (Tryz.prog.mapsRec ·)))=true:=k_
theorem k14:((Rows.tableKeepsUptoRow.ifaces==(Tryz.f6.params.toList++(Rows.OpenSpec.upto Rows.tableKeepsSpec).bare.plain.varTypes Tryz.prog).any (Tryz.prog.ifacesRec ·)))=true:=k_
theorem k15:((Rows.tableKeepsUptoRow.mapsOut==Tryz.prog.mapsAmong Tryz.f6.resultTypes.toList))=true:=k_
theorem k16:((Rows.tableKeepsUptoRow.loops==(Tryz.f6.params.toList++(Rows.OpenSpec.upto Rows.tableKeepsSpec).bare.plain.varTypes Tryz.prog).any (Tryz.prog.loopsFrom ·)))=true:=k_
theorem k17:((Rows.tableKeepsUptoRow.wideKeys==(Tryz.f6.params.toList++(Rows.OpenSpec.upto Rows.tableKeepsSpec).bare.plain.varTypes Tryz.prog++Tryz.f6.resultTypes.toList).any (Tryz.prog.wideKeysFrom ·)))=true:=k_
theorem k18:((Rows.OpenSpec.upto Rows.tableKeepsSpec).bare.vars.all (Tryz.prog.varReadable ·))=true:=k_
theorem k19:(Tryz.f6.resultTypes.all (fun t=>Tryz.prog.readableRec t&&decide (t<Tryz.prog.types.size)))=true:=k_
theorem k20:((Rows.tableKeepsUptoRow.ifacesOut==Tryz.f6.resultTypes.toList.any (Tryz.prog.ifacesRec ·)))=true:=k_
theorem k21:((Rows.tableKeepsUptoRow.loopsOut==Tryz.f6.resultTypes.toList.any (Tryz.prog.loopsFrom ·)))=true:=k_
theorem k22:((Rows.tableKeepsUptoRow.plainKeys==Tryz.prog.plainKeys))=true:=by rw[YO];rfl
theorem k23:(Rows.tableKeepsUptoRow.shortTexts.isNone)=true:=k_
theorem k24:(Tryz.prog.stopsHeard)=true:=X1
theorem k25:(Tryz.prog.mayEnter)=true:=Y8
theorem k26:((Rows.tableKeepsUptoRow.lifted==Tryz.prog.liftsFinal))=true:=by rw[aPu];rfl
theorem k27:((Tryz.prog.make==some Rows.tableKeepsUptoRow.make))=true:=by rw[aPx];rfl
theorem k28:((Rows.tableKeepsUptoRow.kinds==(if Rows.tableKeepsUptoRow.domain.isEmpty then[]else Tryz.f6.params.toList.map fun t=>match Tryz.prog.underlying t with|some (.int k)=>some k|_=>none)))=true:=k_
theorem k29:((Rows.tableKeepsUptoRow.pinned==Rows.tableKeepsUptoRow.pinnedBy))=true:=k_
theorem k30:((Rows.tableKeepsUptoRow.veiled==(Tryz.f6.params.toList++(Rows.OpenSpec.upto Rows.tableKeepsSpec).bare.plain.varTypes Tryz.prog++Tryz.f6.resultTypes.toList).any (Tryz.prog.veiledRec ·)))=true:=k_
theorem k31:(Rows.tableKeepsUptoRow.veiledFits Tryz.prog Tryz.f6.params.toList (Tryz.f6.params.toList++(Rows.OpenSpec.upto Rows.tableKeepsSpec).bare.plain.varTypes Tryz.prog++Tryz.f6.resultTypes.toList))=true:=k_
theorem fq{a b:Bool}(h:a=true)(k:b=true):(a&&b)=true:=by rw[h,k];rfl
theorem closed:joinedFacts Tryz.prog 6 Tryz.f6 (Rows.OpenSpec.upto Rows.tableKeepsSpec).bare Rows.tableKeepsUptoRow=true:=
 fq (fq (fq (fq (fq (fq (fq (fq (fq (fq (fq (fq (fq (fq (fq (fq (fq (fq (fq (fq (fq (fq (fq (fq (fq (fq (fq (fq (fq (fq (fq (k0) k1) k2) k3) k4) k5) k6) k7) k8) k9) k10) k11) k12) k13) k14) k15) k16) k17) k18) k19) k20) k21) k22) k23) k24) k25) k26) k27) k28) k29) k30) k31
theorem named:Tryz.prog.funcNamed Rows.tableKeepsUptoRow.func=some 6:=k_
theorem inst:Tryz.f6.isInstance Tryz.prog Rows.tableKeepsUptoRow.origin Rows.tableKeepsUptoRow.targs:=of_decide_eq_true k_
theorem wrap:Tryz.f6.isWrapper Tryz.prog Rows.tableKeepsUptoRow.wrapper Rows.tableKeepsUptoRow.mainSum:=by
 unfold Func.isWrapper;first|(rw[if_pos (by decide+kernel)];kernel_rfl)|(rw[if_neg (by decide+kernel)];exact⟨rfl,rfl⟩)
theorem au9:Rows.TableKeepsUptoSaid:=
 aQe LQ zU 6 Tryz.f6 rfl rfl rfl rfl rfl rfl rfl ⟨rfl,rfl,rfl,rfl,rfl⟩ rfl rfl rfl rfl rfl named Tryz.func6 closed inst wrap
  (fun os b H a F=>Zk os b H a F)
theorem stands:∀t∈Tryz.f6.params.toList,Tryz.prog.wantsStandIn t=false:=by rw[params];decide+kernel
theorem aAB:Rows.tableKeepsUptoRow.wfByText (Rows.OpenSpec.upto Rows.tableKeepsSpec)=true:=k_
theorem mainIs:Tryz.prog.mainIs=some (Rows.tableKeepsUptoCard.stood.harness.1,Rows.tableKeepsUptoCard.stood.harness.2.toList):=k_
theorem goes:false=Rows.tableKeepsUptoRow.goesBy Tryz.prog:=k_
theorem cardUpto:Rows.TableKeepsUptoCardSaid:=
 aCr LQ zU .later _ _ _ _ au9 aAB tableKeepsUpto_row_tie rfl ⟨rfl,rfl⟩ mainIs rfl named Tryz.func6 aPw stands goes
end Go.Proofs.YtfdgnogcckoalaaGreatDoor.tableKeeps
