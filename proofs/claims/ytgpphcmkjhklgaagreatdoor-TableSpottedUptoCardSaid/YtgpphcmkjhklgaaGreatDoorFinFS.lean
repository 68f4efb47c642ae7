import Derived.Test.YtgpphcmkjhklgaaGreatDoorPC
import Derived.Test.YtgpphcmkjhklgaaGreatDoorPD
import Derived.Test.YtgpphcmkjhklgaaGreatDoorPE
import Derived.Test.YtgpphcmkjhklgaaGreatDoorPK
import Derived.Test.YtgpphcmkjhklgaaGreatDoorPN
import Derived.Test.YtgpphcmkjhklgaaGreatDoorPL
import Derived.Test.YtgpphcmkjhklgaaGreatDoorCards
import Derived.Test.YtgpphcmkjhklgaaGreatDoorTie
import Derived.Seven
/-
 The law TableSpotted returns true for all arguments whose bulk is at most 1048576,and the arguments read as before.
-/
set_option linter.unusedSimpArgs false
set_option linter.unusedVariables false
set_option linter.unusedSectionVars false
namespace Go.Proofs.YtgpphcmkjhklgaaGreatDoor.tableSpotted
open Go.ag
set_option maxRecDepth 100000
theorem params:Tryz.f6.params.toList=[26,62,64]:=by kernel_rfl
theorem lN{H:Type}{W:World}{a:List (DataW H)}(c:a.length=3)(b:Rows.uptoSmall H (a++[])=true)(h:∀p∈Tryz.f6.params.toList.zip a,∃cs,aS Tryz.prog W (fun k=>k<W.heap.size) (bF Tryz.prog 8 p.1 p.2) cs):
 aA Tryz.prog 6 (jy Tryz.prog 8 Tryz.f6.params.toList a) (.bool true):=by
 rw[params]at h⊢
 match a,c with
 |[d1,d2,d3],_=>
  have b:=lK.bound b
  simp only[List.append_nil,Rows.uptoBulkAll]at b
  obtain⟨d,e1,l,g⟩:=vZ (h (26,d1) (.head _)) (show Rows.uptoBulk d1<=1048576 by omega)
  obtain⟨e,e2,m,i⟩:=Ie (h (62,d2) (.tail _ (.head _))) (show Rows.uptoBulk d2<=1048576 by omega)
  obtain⟨f,e3,n,j⟩:=Tx (h (64,d3) (.tail _ (.tail _ (.head _)))) (show Rows.uptoBulk d3<=1048576 by omega)
  simp only[jy,e1,e2,e3]
  exact Tt vU d e f g i j
theorem jO:Rows.tableSpottedUptoRow.laid=Rows.tableChecksUptoRow.laid:=by kernel_rfl
theorem reads(os:Os){H:Type}(a:TypeId×Value->H):∃b,DataW.whole a Tryz.prog ((lG os).forCall (fun _ _=>0) ⟨#[],#[Value.agg #[.slice none 0 0,.int .i64 0,.slice none 0 0,.slice none 0 0],Value.slice none 0 0,Value.agg #[Value.string ⟨#[]⟩,Value.string ⟨#[]⟩,Value.string ⟨#[]⟩]],[]⟩).memory Tryz.f6.params.toList Rows.tableSpottedSpec.vars false #[Value.agg #[.slice none 0 0,.int .i64 0,.slice none 0 0,.slice none 0 0],Value.slice none 0 0,Value.agg #[Value.string ⟨#[]⟩,Value.string ⟨#[]⟩,Value.string ⟨#[]⟩]].toList 8=some ([.agg [.nil,.lit (.int .i64 0),.nil,.nil],.nil,.agg [.lit (.string []),.agg [.lit (.string []),.lit (.string [])]]],[],b):=
 ⟨[],by kernel_rfl⟩
theorem my(H:Type)(i:TypeId×Value->H)(W:World)(f:Nat)(args:Array Value)(a b:List (DataW H))(o:List MemPlace)
 (l:∀(j:Nat) t v,Tryz.f6.params[j]?=some t->args[j]?=some v->Value.okWide Tryz.prog W .any f t v)
 (c:DataW.Whole i Tryz.prog Tryz.f6.params.toList Rows.tableSpottedSpec.vars false W args.toList a b o)(hk:Rows.uptoSmall H (a++b)=true)(k:laidMetH Tryz.prog Rows.tableSpottedUptoRow.laid W):
 Calls Tryz.prog 6 args W fun e m=>∃v,e= .returned v/\Rows.tableSpottedSpec.post i Tryz.prog Tryz.f6 false true false false W args v m:=by
 rw[jO]at k
 have w:b=[]:=by
  obtain⟨p,q,_,u,_⟩:=c
  cases b with
  |nil=>rfl
  |cons g b=>exact u.elim
 have x:a.length=3:=by
  obtain⟨p,q,s,_⟩:=c
  have:=(sc (n:=8) (base:=f) (r:= .any) (by rw[params];decide+kernel) s (fun j t v y z=>l j t v (by simpa using y) (by simpa using z))).2
  rw[this,params];rfl
 subst w
 exact xH (n:=8) (T:=(·<Tryz.prog.types.size)) (tb:=4) rfl
  (fun H a d=>by
   have d:a.length=3:=d.trans (by kernel_rfl)
   match a,d with
   |[d1,d2,d3],_=>exact⟨rfl,rfl,rfl⟩)
  wu wv (by rw[params];decide+kernel) (by rw[params];decide+kernel) (by kernel_rfl) Tryz.underlying4 jR.enters (vD k) (fun h=>lN x hk h) l c
theorem oG(os:Os)(j:os.Started)(H:Type)(a:TypeId×Value->H)(F:Stop.Interp):
 ReturnsInHanded {} Tryz.checked os 6 .any ((Rows.OpenSpec.upto Rows.tableSpottedSpec).preRow a Tryz.prog Tryz.f6 Rows.tableSpottedUptoRow.domain false Rows.tableSpottedUptoRow.laid) (((Rows.OpenSpec.upto Rows.tableSpottedSpec).at F).post a Tryz.prog Tryz.f6 false true false false):=by
 obtain⟨places,hx⟩:=reads os a
 refine yf ia wo j (by kernel_rfl) Tryz.func6
  (xY ia (lG os) #[Value.agg #[.slice none 0 0,.int .i64 0,.slice none 0 0,.slice none 0 0],Value.slice none 0 0,Value.agg #[Value.string ⟨#[]⟩,Value.string ⟨#[]⟩,Value.string ⟨#[]⟩]] rfl (by kernel_rfl) (by kernel_rfl) (by kernel_rfl)
   (OpenSpec.preRow_of_cond 8 hx (by kernel_rfl) (fun k hk=>by cases hk;kernel_rfl) (by kernel_rfl) (by rw[jO];exact yi os _))) ?_
 intro W b args d e c i g h f
 exact my H a W b args d e c i g (h _ rfl) f
theorem k0:(Rows.tableSpottedUptoRow.wf (OpenSpec.ofChange (Rows.OpenSpec.upto Rows.tableSpottedSpec).bare))=true:=by kernel_rfl
theorem k1:(laidOutB Tryz.prog)=true:=vH
theorem k2:(mapsRowed Tryz.prog)=true:=vF
theorem k3:(Tryz.f6.params.all (Tryz.prog.readableRec ·))=true:=by kernel_rfl
theorem k4:(namedTie Tryz.prog Rows.tableSpottedUptoRow.named (Rows.OpenSpec.upto Rows.tableSpottedSpec).bare.vars)=true:=by kernel_rfl
theorem k5:((Rows.tableSpottedUptoRow.stops==[]))=true:=by kernel_rfl
theorem k6:((Tryz.prog.stops==[]))=true:=by rw[vA];rfl
theorem k7:((Rows.tableSpottedUptoRow.knobs==[]))=true:=by kernel_rfl
theorem k8:((Tryz.prog.stopKnobs==[]))=true:=by rw[xS];rfl
theorem k9:((Rows.tableSpottedUptoRow.inPlace==Tryz.prog.inPlace 6))=true:=by kernel_rfl
theorem oL:((Rows.tableSpottedUptoRow.unfollowed==Tryz.prog.unfollowed 6))=true:=by kernel_rfl
theorem oM:((Rows.tableSpottedUptoRow.recurses==Tryz.prog.recurses 6))=true:=by kernel_rfl
theorem oN:((Rows.tableSpottedUptoRow.named==Tryz.prog.varsNamed 6))=true:=by kernel_rfl
theorem oO:((Rows.tableSpottedUptoRow.maps==(Tryz.f6.params.toList++(Rows.OpenSpec.upto Rows.tableSpottedSpec).bare.plain.varTypes Tryz.prog).any (Tryz.prog.mapsRec ·)))=true:=by kernel_rfl
theorem oQ:((Rows.tableSpottedUptoRow.ifaces==(Tryz.f6.params.toList++(Rows.OpenSpec.upto Rows.tableSpottedSpec).bare.plain.varTypes Tryz.prog).any (Tryz.prog.ifacesRec ·)))=true:=by kernel_rfl
theorem oR:((Rows.tableSpottedUptoRow.mapsOut==Tryz.prog.mapsAmong Tryz.f6.resultTypes.toList))=true:=by kernel_rfl
theorem oT:((Rows.tableSpottedUptoRow.loops==(Tryz.f6.params.toList++(Rows.OpenSpec.upto Rows.tableSpottedSpec).bare.plain.varTypes Tryz.prog).any (Tryz.prog.loopsFrom ·)))=true:=by kernel_rfl
theorem oU:((Rows.tableSpottedUptoRow.wideKeys==(Tryz.f6.params.toList++(Rows.OpenSpec.upto Rows.tableSpottedSpec).bare.plain.varTypes Tryz.prog++Tryz.f6.resultTypes.toList).any (Tryz.prog.wideKeysFrom ·)))=true:=by kernel_rfl
theorem oV:((Rows.OpenSpec.upto Rows.tableSpottedSpec).bare.vars.all (Tryz.prog.varReadable ·))=true:=by kernel_rfl
theorem oX:(Tryz.f6.resultTypes.all (fun t=>Tryz.prog.readableRec t&&decide (t<Tryz.prog.types.size)))=true:=by kernel_rfl
theorem oY:((Rows.tableSpottedUptoRow.ifacesOut==Tryz.f6.resultTypes.toList.any (Tryz.prog.ifacesRec ·)))=true:=by kernel_rfl
theorem oZ:((Rows.tableSpottedUptoRow.loopsOut==Tryz.f6.resultTypes.toList.any (Tryz.prog.loopsFrom ·)))=true:=by kernel_rfl
theorem o6:((Rows.tableSpottedUptoRow.plainKeys==Tryz.prog.plainKeys))=true:=by rw[xT];rfl
theorem o7:(Rows.tableSpottedUptoRow.shortTexts.isNone)=true:=by kernel_rfl
theorem o8:(Tryz.prog.stopsHeard)=true:=xK
theorem o9:(Tryz.prog.mayEnter)=true:=xX
theorem pc:((Rows.tableSpottedUptoRow.lifted==Tryz.prog.liftsFinal))=true:=by rw[vC];rfl
theorem pf:((Tryz.prog.make==some Rows.tableSpottedUptoRow.make))=true:=by rw[vG];rfl
theorem pg:((Rows.tableSpottedUptoRow.kinds==(if Rows.tableSpottedUptoRow.domain.isEmpty then[]else Tryz.f6.params.toList.map fun t=>match Tryz.prog.underlying t with|some (.int k)=>some k|_=>none)))=true:=by kernel_rfl
theorem ph:((Rows.tableSpottedUptoRow.pinned==Rows.tableSpottedUptoRow.pinnedBy))=true:=by kernel_rfl
theorem pj:((Rows.tableSpottedUptoRow.veiled==(Tryz.f6.params.toList++(Rows.OpenSpec.upto Rows.tableSpottedSpec).bare.plain.varTypes Tryz.prog++Tryz.f6.resultTypes.toList).any (Tryz.prog.veiledRec ·)))=true:=by kernel_rfl
theorem po:(Rows.tableSpottedUptoRow.veiledFits Tryz.prog Tryz.f6.params.toList (Tryz.f6.params.toList++(Rows.OpenSpec.upto Rows.tableSpottedSpec).bare.plain.varTypes Tryz.prog++Tryz.f6.resultTypes.toList))=true:=by kernel_rfl
theorem aR{a b:Bool}(h:a=true)(k:b=true):(a&&b)=true:=by rw[h,k];rfl
theorem closed:joinedFacts Tryz.prog 6 Tryz.f6 (Rows.OpenSpec.upto Rows.tableSpottedSpec).bare Rows.tableSpottedUptoRow=true:=
 aR (aR (aR (aR (aR (aR (aR (aR (aR (aR (aR (aR (aR (aR (aR (aR (aR (aR (aR (aR (aR (aR (aR (aR (aR (aR (aR (aR (aR (aR (aR (k0) k1) k2) k3) k4) k5) k6) k7) k8) k9) oL) oM) oN) oO) oQ) oR) oT) oU) oV) oX) oY) oZ) o6) o7) o8) o9) pc) pf) pg) ph) pj) po
theorem named:Tryz.prog.funcNamed Rows.tableSpottedUptoRow.func=some 6:=by kernel_rfl
theorem inst:Tryz.f6.isInstance Tryz.prog Rows.tableSpottedUptoRow.origin Rows.tableSpottedUptoRow.targs:=of_decide_eq_true (by kernel_rfl)
theorem wrap:Tryz.f6.isWrapper Tryz.prog Rows.tableSpottedUptoRow.wrapper Rows.tableSpottedUptoRow.mainSum:=by
 unfold Func.isWrapper;first|(rw[if_pos (by decide+kernel)];kernel_rfl)|(rw[if_neg (by decide+kernel)];exact⟨rfl,rfl⟩)
theorem oH:Rows.TableSpottedUptoSaid:=
 vz ni ia 6 Tryz.f6 rfl rfl rfl rfl rfl rfl rfl ⟨rfl,rfl,rfl,rfl,rfl⟩ rfl rfl rfl rfl rfl named Tryz.func6 closed inst wrap
  (fun os b H a F=>oG os b H a F)
theorem stands:∀t∈Tryz.f6.params.toList,Tryz.prog.wantsStandIn t=false:=by rw[params];decide+kernel
theorem nH:Rows.tableSpottedUptoRow.wfByText (Rows.OpenSpec.upto Rows.tableSpottedSpec)=true:=by kernel_rfl
theorem mainIs:Tryz.prog.mainIs=some (Rows.tableSpottedUptoCard.stood.harness.1,Rows.tableSpottedUptoCard.stood.harness.2.toList):=by kernel_rfl
theorem goes:false=Rows.tableSpottedUptoRow.goesBy Tryz.prog:=by kernel_rfl
theorem cardUpto:Rows.TableSpottedUptoCardSaid:=
 vE ni ia .later _ _ _ _ oH nH tableSpottedUpto_row_tie rfl ⟨rfl,rfl⟩ mainIs rfl named Tryz.func6 vB stands goes
end Go.Proofs.YtgpphcmkjhklgaaGreatDoor.tableSpotted
