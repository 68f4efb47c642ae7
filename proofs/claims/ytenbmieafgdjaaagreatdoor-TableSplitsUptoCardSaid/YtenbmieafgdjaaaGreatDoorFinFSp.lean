import Derived.Test.YtenbmieafgdjaaaGreatDoorPC
import Derived.Test.YtenbmieafgdjaaaGreatDoorPD
import Derived.Test.YtenbmieafgdjaaaGreatDoorPE
import Derived.Test.YtenbmieafgdjaaaGreatDoorPK
import Derived.Test.YtenbmieafgdjaaaGreatDoorPH
import Derived.Test.YtenbmieafgdjaaaGreatDoorPL
import Derived.Test.YtenbmieafgdjaaaGreatDoorPN
import Derived.Test.YtenbmieafgdjaaaGreatDoorCards
import Derived.Test.YtenbmieafgdjaaaGreatDoorTie
import Derived.Seven
/-
 The law TableSplits returns true for all arguments whose bulk is at most 1048576,and the arguments read as before.
-/
set_option linter.unusedSimpArgs false
set_option linter.unusedVariables false
set_option linter.unusedSectionVars false
namespace Go.Proofs.YtenbmieafgdjaaaGreatDoor.tableSplits
open Go.au
set_option maxRecDepth 100000
theorem params:Tryz.f4.params.toList=[26,5,47]:=by kernel_rfl
theorem uN{H:Type}{W:World}{a:List (DataW H)}(c:a.length=3)(b:Rows.uptoSmall H (a++[])=true)(h:∀p∈Tryz.f4.params.toList.zip a,∃cs,aR Tryz.prog W (fun k=>k<W.heap.size) (bF Tryz.prog 8 p.1 p.2) cs):
 aC Tryz.prog 4 (ow Tryz.prog 8 Tryz.f4.params.toList a) (.bool true):=by
 rw[params]at h⊢
 match a,c with
 |[d1,d2,d3],_=>
  have b:=oG.bound b
  simp only[List.append_nil,Rows.uptoBulkAll]at b
  obtain⟨d,e1,l,g⟩:=HF (h (26,d1) (.head _)) (show Rows.uptoBulk d1<=1048576 by omega)
  obtain⟨e,e2,m,i⟩:=aKj (h (5,d2) (.tail _ (.head _))) (show Rows.uptoBulk d2<=1048576 by omega)
  obtain⟨f,e3,n,j⟩:=Y6 (h (47,d3) (.tail _ (.tail _ (.head _)))) (show Rows.uptoBulk d3<=1048576 by omega)
  simp only[ow,e1,e2,e3]
  exact Tm Hh d e f g i j
theorem xm:Rows.tableSplitsUptoRow.laid=Rows.tableRacksUptoRow.laid:=by kernel_rfl
theorem reads(os:Os){H:Type}(a:TypeId×Value->H):∃b,DataW.whole a Tryz.prog ((tU os).forCall (fun _ _=>0) ⟨#[],#[Value.agg #[.slice none 0 0,.int .i64 0,.slice none 0 0,.slice none 0 0],Value.int .u8 0,Value.agg #[Value.string ⟨#[]⟩,Value.string ⟨#[]⟩]],[]⟩).memory Tryz.f4.params.toList Rows.tableSplitsSpec.vars false #[Value.agg #[.slice none 0 0,.int .i64 0,.slice none 0 0,.slice none 0 0],Value.int .u8 0,Value.agg #[Value.string ⟨#[]⟩,Value.string ⟨#[]⟩]].toList 8=some ([.agg [.nil,.lit (.int .i64 0),.nil,.nil],.lit (.int .u8 0),.agg [.lit (.string []),.lit (.string [])]],[],b):=
 ⟨[],by kernel_rfl⟩
theorem wV(H:Type)(i:TypeId×Value->H)(W:World)(f:Nat)(args:Array Value)(a b:List (DataW H))(o:List MemPlace)
 (l:∀(j:Nat) t v,Tryz.f4.params[j]?=some t->args[j]?=some v->Value.okWide Tryz.prog W .any f t v)
 (c:DataW.Whole i Tryz.prog Tryz.f4.params.toList Rows.tableSplitsSpec.vars false W args.toList a b o)(hk:Rows.uptoSmall H (a++b)=true)(k:laidMetH Tryz.prog Rows.tableSplitsUptoRow.laid W):
 Calls Tryz.prog 4 args W fun e m=>∃v,e= .returned v/\Rows.tableSplitsSpec.post i Tryz.prog Tryz.f4 false true false false W args v m:=by
 rw[xm]at k
 have w:b=[]:=by
  obtain⟨p,q,_,u,_⟩:=c
  cases b with
  |nil=>rfl
  |cons g b=>exact u.elim
 have x:a.length=3:=by
  obtain⟨p,q,s,_⟩:=c
  have:=(zi (n:=8) (base:=f) (r:= .any) (by rw[params];decide+kernel) s (fun j t v y z=>l j t v (by simpa using y) (by simpa using z))).2
  rw[this,params];rfl
 subst w
 exact Kn (n:=8) (T:=(·<Tryz.prog.types.size)) (tb:=4) rfl
  (fun H a d=>by
   have d:a.length=3:=d.trans (by kernel_rfl)
   match a,d with
   |[d1,d2,d3],_=>exact⟨rfl,rfl,rfl⟩)
  Rh Qe (by rw[params];decide+kernel) (by rw[params];decide+kernel) (by kernel_rfl) Tryz.underlying4 uR.enters (FU k) (fun h=>uN x hk h) l c
theorem DQ(os:Os)(j:os.Started)(H:Type)(a:TypeId×Value->H)(F:Stop.Interp):
 ReturnsInHanded {} Tryz.checked os 4 .any ((Rows.OpenSpec.upto Rows.tableSplitsSpec).preRow a Tryz.prog Tryz.f4 Rows.tableSplitsUptoRow.domain false Rows.tableSplitsUptoRow.laid) (((Rows.OpenSpec.upto Rows.tableSplitsSpec).at F).post a Tryz.prog Tryz.f4 false true false false):=by
 obtain⟨places,hx⟩:=reads os a
 refine NP pn Rz j (by kernel_rfl) Tryz.func4
  (MN pn (tU os) #[Value.agg #[.slice none 0 0,.int .i64 0,.slice none 0 0,.slice none 0 0],Value.int .u8 0,Value.agg #[Value.string ⟨#[]⟩,Value.string ⟨#[]⟩]] rfl (by kernel_rfl) (by kernel_rfl) (by kernel_rfl)
   (OpenSpec.preRow_of_cond 8 hx (by kernel_rfl) (fun k hk=>by cases hk;kernel_rfl) (by kernel_rfl) (by rw[xm];exact Og os _))) ?_
 intro W b args d e c i g h f
 exact wV H a W b args d e c i g (h _ rfl) f
theorem k0:(Rows.tableSplitsUptoRow.wf (OpenSpec.ofChange (Rows.OpenSpec.upto Rows.tableSplitsSpec).bare))=true:=by kernel_rfl
theorem k1:(laidOutB Tryz.prog)=true:=FY
theorem k2:(mapsRowed Tryz.prog)=true:=FW
theorem k3:(Tryz.f4.params.all (Tryz.prog.readableRec ·))=true:=by kernel_rfl
theorem k4:(namedTie Tryz.prog Rows.tableSplitsUptoRow.named (Rows.OpenSpec.upto Rows.tableSplitsSpec).bare.vars)=true:=by kernel_rfl
theorem k5:((Rows.tableSplitsUptoRow.stops==[]))=true:=by kernel_rfl
theorem k6:((Tryz.prog.stops==[]))=true:=by rw[FQ];rfl
theorem k7:((Rows.tableSplitsUptoRow.knobs==[]))=true:=by kernel_rfl
theorem k8:((Tryz.prog.stopKnobs==[]))=true:=by rw[Lm];rfl
theorem k9:((Rows.tableSplitsUptoRow.inPlace==Tryz.prog.inPlace 4))=true:=by kernel_rfl
theorem ET:((Rows.tableSplitsUptoRow.unfollowed==Tryz.prog.unfollowed 4))=true:=by kernel_rfl
theorem EU:((Rows.tableSplitsUptoRow.recurses==Tryz.prog.recurses 4))=true:=by kernel_rfl
theorem EV:((Rows.tableSplitsUptoRow.named==Tryz.prog.varsNamed 4))=true:=by kernel_rfl
theorem EW:((Rows.tableSplitsUptoRow.maps==(Tryz.f4.params.toList++(Rows.OpenSpec.upto Rows.tableSplitsSpec).bare.plain.varTypes Tryz.prog).any (Tryz.prog.mapsRec ·)))=true:=by kernel_rfl
theorem EX:((Rows.tableSplitsUptoRow.ifaces==(Tryz.f4.params.toList++(Rows.OpenSpec.upto Rows.tableSplitsSpec).bare.plain.varTypes Tryz.prog).any (Tryz.prog.ifacesRec ·)))=true:=by kernel_rfl
theorem EY:((Rows.tableSplitsUptoRow.mapsOut==Tryz.prog.mapsAmong Tryz.f4.resultTypes.toList))=true:=by kernel_rfl
theorem EZ:((Rows.tableSplitsUptoRow.loops==(Tryz.f4.params.toList++(Rows.OpenSpec.upto Rows.tableSplitsSpec).bare.plain.varTypes Tryz.prog).any (Tryz.prog.loopsFrom ·)))=true:=by kernel_rfl
theorem E0:((Rows.tableSplitsUptoRow.wideKeys==(Tryz.f4.params.toList++(Rows.OpenSpec.upto Rows.tableSplitsSpec).bare.plain.varTypes Tryz.prog++Tryz.f4.resultTypes.toList).any (Tryz.prog.wideKeysFrom ·)))=true:=by kernel_rfl
theorem E3:((Rows.OpenSpec.upto Rows.tableSplitsSpec).bare.vars.all (Tryz.prog.varReadable ·))=true:=by kernel_rfl
theorem E4:(Tryz.f4.resultTypes.all (fun t=>Tryz.prog.readableRec t&&decide (t<Tryz.prog.types.size)))=true:=by kernel_rfl
theorem E5:((Rows.tableSplitsUptoRow.ifacesOut==Tryz.f4.resultTypes.toList.any (Tryz.prog.ifacesRec ·)))=true:=by kernel_rfl
theorem E6:((Rows.tableSplitsUptoRow.loopsOut==Tryz.f4.resultTypes.toList.any (Tryz.prog.loopsFrom ·)))=true:=by kernel_rfl
theorem E7:((Rows.tableSplitsUptoRow.plainKeys==Tryz.prog.plainKeys))=true:=by rw[Ln];rfl
theorem E8:(Rows.tableSplitsUptoRow.shortTexts.isNone)=true:=by kernel_rfl
theorem E9:(Tryz.prog.stopsHeard)=true:=K1
theorem Fa:(Tryz.prog.mayEnter)=true:=ME
theorem Fb:((Rows.tableSplitsUptoRow.lifted==Tryz.prog.liftsFinal))=true:=by rw[FT];rfl
theorem Fc:((Tryz.prog.make==some Rows.tableSplitsUptoRow.make))=true:=by rw[FX];rfl
theorem Fe:((Rows.tableSplitsUptoRow.kinds==(if Rows.tableSplitsUptoRow.domain.isEmpty then[]else Tryz.f4.params.toList.map fun t=>match Tryz.prog.underlying t with|some (.int k)=>some k|_=>none)))=true:=by kernel_rfl
theorem Ff:((Rows.tableSplitsUptoRow.pinned==Rows.tableSplitsUptoRow.pinnedBy))=true:=by kernel_rfl
theorem Fg:((Rows.tableSplitsUptoRow.veiled==(Tryz.f4.params.toList++(Rows.OpenSpec.upto Rows.tableSplitsSpec).bare.plain.varTypes Tryz.prog++Tryz.f4.resultTypes.toList).any (Tryz.prog.veiledRec ·)))=true:=by kernel_rfl
theorem Fh:(Rows.tableSplitsUptoRow.veiledFits Tryz.prog Tryz.f4.params.toList (Tryz.f4.params.toList++(Rows.OpenSpec.upto Rows.tableSplitsSpec).bare.plain.varTypes Tryz.prog++Tryz.f4.resultTypes.toList))=true:=by kernel_rfl
theorem cz{a b:Bool}(h:a=true)(k:b=true):(a&&b)=true:=by rw[h,k];rfl
theorem closed:joinedFacts Tryz.prog 4 Tryz.f4 (Rows.OpenSpec.upto Rows.tableSplitsSpec).bare Rows.tableSplitsUptoRow=true:=
 cz (cz (cz (cz (cz (cz (cz (cz (cz (cz (cz (cz (cz (cz (cz (cz (cz (cz (cz (cz (cz (cz (cz (cz (cz (cz (cz (cz (cz (cz (cz (k0) k1) k2) k3) k4) k5) k6) k7) k8) k9) ET) EU) EV) EW) EX) EY) EZ) E0) E3) E4) E5) E6) E7) E8) E9) Fa) Fb) Fc) Fe) Ff) Fg) Fh
theorem named:Tryz.prog.funcNamed Rows.tableSplitsUptoRow.func=some 4:=by kernel_rfl
theorem inst:Tryz.f4.isInstance Tryz.prog Rows.tableSplitsUptoRow.origin Rows.tableSplitsUptoRow.targs:=of_decide_eq_true (by kernel_rfl)
theorem wrap:Tryz.f4.isWrapper Tryz.prog Rows.tableSplitsUptoRow.wrapper Rows.tableSplitsUptoRow.mainSum:=by
 unfold Func.isWrapper;first|(rw[if_pos (by decide+kernel)];kernel_rfl)|(rw[if_neg (by decide+kernel)];exact⟨rfl,rfl⟩)
theorem Ed:Rows.TableSplitsUptoSaid:=
 FP zd pn 4 Tryz.f4 rfl rfl rfl rfl rfl rfl rfl ⟨rfl,rfl,rfl,rfl,rfl⟩ rfl rfl rfl rfl rfl named Tryz.func4 closed inst wrap
  (fun os b H a F=>DQ os b H a F)
theorem stands:∀t∈Tryz.f4.params.toList,Tryz.prog.wantsStandIn t=false:=by rw[params];decide+kernel
theorem Bj:Rows.tableSplitsUptoRow.wfByText (Rows.OpenSpec.upto Rows.tableSplitsSpec)=true:=by kernel_rfl
theorem mainIs:Tryz.prog.mainIs=some (Rows.tableSplitsUptoCard.stood.harness.1,Rows.tableSplitsUptoCard.stood.harness.2.toList):=by kernel_rfl
theorem goes:false=Rows.tableSplitsUptoRow.goesBy Tryz.prog:=by kernel_rfl
theorem cardUpto:Rows.TableSplitsUptoCardSaid:=
 FV zd pn .later _ _ _ _ Ed Bj tableSplitsUpto_row_tie rfl ⟨rfl,rfl⟩ mainIs rfl named Tryz.func4 FR stands goes
end Go.Proofs.YtenbmieafgdjaaaGreatDoor.tableSplits
