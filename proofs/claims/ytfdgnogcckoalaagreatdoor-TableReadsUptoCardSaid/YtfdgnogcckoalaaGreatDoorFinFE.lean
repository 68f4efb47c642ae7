import Derived.Test.YtfdgnogcckoalaaGreatDoorRPC
import Derived.Test.YtfdgnogcckoalaaGreatDoorRPD
import Derived.Test.YtfdgnogcckoalaaGreatDoorRPE
import Derived.Test.YtfdgnogcckoalaaGreatDoorRPG
import Derived.Test.YtfdgnogcckoalaaGreatDoorRPH
import Derived.Test.YtfdgnogcckoalaaGreatDoorCards
import Derived.Test.YtfdgnogcckoalaaGreatDoorTie
import Derived.Seven
/-
 The law TableReads returns true for all arguments whose bulk is at most 1048576,and the arguments read as before.
-/
set_option maxRecDepth 100000
set_option linter.unusedSimpArgs false
set_option linter.unusedVariables false
set_option linter.unusedSectionVars false
namespace Go.Proofs.YtfdgnogcckoalaaGreatDoor.tableReads
open Go.au
theorem params:Tryz.f5.params.toList=[26,48,9]:=k_
theorem uz{H:Type}{W:World}{a:List (DataW H)}(hl:a.length=3)(b:Rows.uptoSmall H (a++[])=true)(h:∀p∈Tryz.f5.params.toList.zip a,∃cs,aV Tryz.prog W (fun k=>k<W.heap.size) (bH Tryz.prog 8 p.1 p.2) cs):
 aA Tryz.prog 5 (oP Tryz.prog 8 Tryz.f5.params.toList a) (.bool true):=by
 rw[params]at h⊢
 match a,hl with
 |[d1,d2,d3],_=>
  have b:=qf.bound b
  simp only[List.append_nil,Rows.uptoBulkAll]at b
  obtain⟨c,e1,j,f⟩:=Ih (h (26,d1) (.head _)) (show Rows.uptoBulk d1<=1048576 by omega)
  obtain⟨d,e2,l,g⟩:=HJ (h (48,d2) (.tail _ (.head _))) (show Rows.uptoBulk d2<=1048576 by omega)
  obtain⟨e,e3,m,i⟩:=Ij (h (9,d3) (.tail _ (.tail _ (.head _)))) (show Rows.uptoBulk d3<=1048576 by omega)
  simp only[oP,e1,e2,e3]
  exact Ux HH c d e f g i
theorem xa:Rows.tableReadsUptoRow.laid=Rows.tableKeepsUptoRow.laid:=k_
theorem reads(os:Os){H:Type}(a:TypeId×Value->H):∃b,DataW.whole a Tryz.prog ((tN os).forCall (fun _ _=>0) ⟨#[],#[Value.agg #[.slice none 0 0,.int .i64 0,.slice none 0 0,.slice none 0 0],Value.slice none 0 0,Value.string ⟨#[]⟩],[]⟩).memory Tryz.f5.params.toList Rows.tableReadsSpec.vars false #[Value.agg #[.slice none 0 0,.int .i64 0,.slice none 0 0,.slice none 0 0],Value.slice none 0 0,Value.string ⟨#[]⟩].toList 8=some ([.agg [.nil,.lit (.int .i64 0),.nil,.nil],.nil,.lit (.string [])],[],b):=
 ⟨[],k_⟩
theorem wJ(H:Type)(i:TypeId×Value->H)(W:World)(f:Nat)(args:Array Value)(a b:List (DataW H))(o:List MemPlace)
 (l:∀(j:Nat) t v,Tryz.f5.params[j]?=some t->args[j]?=some v->Value.okWide Tryz.prog W .any f t v)
 (c:DataW.Whole i Tryz.prog Tryz.f5.params.toList Rows.tableReadsSpec.vars false W args.toList a b o)(hk:Rows.uptoSmall H (a++b)=true)(k:laidMetH Tryz.prog Rows.tableReadsUptoRow.laid W):
 Calls Tryz.prog 5 args W fun e m=>∃v,e= .returned v/\Rows.tableReadsSpec.post i Tryz.prog Tryz.f5 false true false false W args v m:=by
 rw[xa]at k
 have w:b=[]:=by
  obtain⟨p,q,_,u,_⟩:=c
  cases b with
  |nil=>rfl
  |cons g b=>exact u.elim
 have x:a.length=3:=by
  obtain⟨p,q,s,_⟩:=c
  have:=(ze (n:=8) (base:=f) (r:= .any) (by rw[params];decide+kernel) s (fun j t v y z=>l j t v (by simpa using y) (by simpa using z))).2
  rw[this,params];rfl
 subst w
 exact K2 (n:=8) (T:=(·<Tryz.prog.types.size)) (tb:=4) rfl
  (fun H a d=>by
   have d:a.length=3:=d.trans k_
   match a,d with
   |[d1,d2,d3],_=>exact⟨rfl,rfl,rfl⟩)
  Sh Ri (by rw[params];decide+kernel) (by rw[params];decide+kernel) k_ Tryz.underlying4 (i_ Tryz.func5).enters (Gc k) (fun h=>uz x hk h) l c
theorem DZ(os:Os)(j:os.Started)(H:Type)(a:TypeId×Value->H)(F:Stop.Interp):
 ReturnsInHanded {} Tryz.checked os 5 .any ((Rows.OpenSpec.upto Rows.tableReadsSpec).preRow a Tryz.prog Tryz.f5 Rows.tableReadsUptoRow.domain false Rows.tableReadsUptoRow.laid) (((Rows.OpenSpec.upto Rows.tableReadsSpec).at F).post a Tryz.prog Tryz.f5 false true false false):=by
 obtain⟨places,hx⟩:=reads os a
 refine Oy pq Sz j k_ Tryz.func5
  (Nv pq (tN os) #[Value.agg #[.slice none 0 0,.int .i64 0,.slice none 0 0,.slice none 0 0],Value.slice none 0 0,Value.string ⟨#[]⟩] rfl k_ k_ k_
   (OpenSpec.preRow_of_cond 8 hx k_ (fun k hk=>by cases hk;kernel_rfl) k_ (by rw[xa];exact OX os _))) ?_
 intro W b args d e c i g h f
 exact wJ H a W b args d e c i g (h _ rfl) f
theorem k0:(Rows.tableReadsUptoRow.wf (OpenSpec.ofChange (Rows.OpenSpec.upto Rows.tableReadsSpec).bare))=true:=k_
theorem k1:(laidOutB Tryz.prog)=true:=Gg
theorem k2:(mapsRowed Tryz.prog)=true:=Ge
theorem k3:(Tryz.f5.params.all (Tryz.prog.readableRec ·))=true:=k_
theorem k4:(namedTie Tryz.prog Rows.tableReadsUptoRow.named (Rows.OpenSpec.upto Rows.tableReadsSpec).bare.vars)=true:=k_
theorem k5:((Rows.tableReadsUptoRow.stops==[]))=true:=k_
theorem k6:((Tryz.prog.stops==[]))=true:=by rw[F9];rfl
theorem k7:((Rows.tableReadsUptoRow.knobs==[]))=true:=k_
theorem k8:((Tryz.prog.stopKnobs==[]))=true:=by rw[LY];rfl
theorem k9:((Rows.tableReadsUptoRow.inPlace==Tryz.prog.inPlace 5))=true:=k_
theorem Fb:((Rows.tableReadsUptoRow.unfollowed==Tryz.prog.unfollowed 5))=true:=k_
theorem Fc:((Rows.tableReadsUptoRow.recurses==Tryz.prog.recurses 5))=true:=k_
theorem Fe:((Rows.tableReadsUptoRow.named==Tryz.prog.varsNamed 5))=true:=k_
theorem Ff:((Rows.tableReadsUptoRow.maps==(Tryz.f5.params.toList++(Rows.OpenSpec.upto Rows.tableReadsSpec).bare.plain.varTypes Tryz.prog).any (Tryz.prog.mapsRec ·)))=true:=k_
theorem Fg:((Rows.tableReadsUptoRow.ifaces==(Tryz.f5.params.toList++(Rows.OpenSpec.upto Rows.tableReadsSpec).bare.plain.varTypes Tryz.prog).any (Tryz.prog.ifacesRec ·)))=true:=k_
theorem Fh:((Rows.tableReadsUptoRow.mapsOut==Tryz.prog.mapsAmong Tryz.f5.resultTypes.toList))=true:=k_
theorem Fi:((Rows.tableReadsUptoRow.loops==(Tryz.f5.params.toList++(Rows.OpenSpec.upto Rows.tableReadsSpec).bare.plain.varTypes Tryz.prog).any (Tryz.prog.loopsFrom ·)))=true:=k_
theorem Fj:((Rows.tableReadsUptoRow.wideKeys==(Tryz.f5.params.toList++(Rows.OpenSpec.upto Rows.tableReadsSpec).bare.plain.varTypes Tryz.prog++Tryz.f5.resultTypes.toList).any (Tryz.prog.wideKeysFrom ·)))=true:=k_
theorem Fk:((Rows.OpenSpec.upto Rows.tableReadsSpec).bare.vars.all (Tryz.prog.varReadable ·))=true:=k_
theorem Fl:(Tryz.f5.resultTypes.all (fun t=>Tryz.prog.readableRec t&&decide (t<Tryz.prog.types.size)))=true:=k_
theorem Fm:((Rows.tableReadsUptoRow.ifacesOut==Tryz.f5.resultTypes.toList.any (Tryz.prog.ifacesRec ·)))=true:=k_
theorem Fo:((Rows.tableReadsUptoRow.loopsOut==Tryz.f5.resultTypes.toList.any (Tryz.prog.loopsFrom ·)))=true:=k_
theorem Fp:((Rows.tableReadsUptoRow.plainKeys==Tryz.prog.plainKeys))=true:=by rw[LZ];rfl
theorem Fq:(Rows.tableReadsUptoRow.shortTexts.isNone)=true:=k_
theorem Fs:(Tryz.prog.stopsHeard)=true:=LD
theorem Ft:(Tryz.prog.mayEnter)=true:=Nk
theorem Fu:((Rows.tableReadsUptoRow.lifted==Tryz.prog.liftsFinal))=true:=by rw[Gb];rfl
theorem Fv:((Tryz.prog.make==some Rows.tableReadsUptoRow.make))=true:=by rw[Gf];rfl
theorem Fw:((Rows.tableReadsUptoRow.kinds==(if Rows.tableReadsUptoRow.domain.isEmpty then[]else Tryz.f5.params.toList.map fun t=>match Tryz.prog.underlying t with|some (.int k)=>some k|_=>none)))=true:=k_
theorem Fx:((Rows.tableReadsUptoRow.pinned==Rows.tableReadsUptoRow.pinnedBy))=true:=k_
theorem Fy:((Rows.tableReadsUptoRow.veiled==(Tryz.f5.params.toList++(Rows.OpenSpec.upto Rows.tableReadsSpec).bare.plain.varTypes Tryz.prog++Tryz.f5.resultTypes.toList).any (Tryz.prog.veiledRec ·)))=true:=k_
theorem Fz:(Rows.tableReadsUptoRow.veiledFits Tryz.prog Tryz.f5.params.toList (Tryz.f5.params.toList++(Rows.OpenSpec.upto Rows.tableReadsSpec).bare.plain.varTypes Tryz.prog++Tryz.f5.resultTypes.toList))=true:=k_
theorem cw{a b:Bool}(h:a=true)(k:b=true):(a&&b)=true:=by rw[h,k];rfl
theorem closed:joinedFacts Tryz.prog 5 Tryz.f5 (Rows.OpenSpec.upto Rows.tableReadsSpec).bare Rows.tableReadsUptoRow=true:=
 cw (cw (cw (cw (cw (cw (cw (cw (cw (cw (cw (cw (cw (cw (cw (cw (cw (cw (cw (cw (cw (cw (cw (cw (cw (cw (cw (cw (cw (cw (cw (k0) k1) k2) k3) k4) k5) k6) k7) k8) k9) Fb) Fc) Fe) Ff) Fg) Fh) Fi) Fj) Fk) Fl) Fm) Fo) Fp) Fq) Fs) Ft) Fu) Fv) Fw) Fx) Fy) Fz
theorem named:Tryz.prog.funcNamed Rows.tableReadsUptoRow.func=some 5:=k_
theorem inst:Tryz.f5.isInstance Tryz.prog Rows.tableReadsUptoRow.origin Rows.tableReadsUptoRow.targs:=of_decide_eq_true k_
theorem wrap:Tryz.f5.isWrapper Tryz.prog Rows.tableReadsUptoRow.wrapper Rows.tableReadsUptoRow.mainSum:=by
 unfold Func.isWrapper;first|(rw[if_pos (by decide+kernel)];kernel_rfl)|(rw[if_neg (by decide+kernel)];exact⟨rfl,rfl⟩)
theorem El:Rows.TableReadsUptoSaid:=
 F8 y9 pq 5 Tryz.f5 rfl rfl rfl rfl rfl rfl rfl ⟨rfl,rfl,rfl,rfl,rfl⟩ rfl rfl rfl rfl rfl named Tryz.func5 closed inst wrap
  (fun os b H a F=>DZ os b H a F)
theorem stands:∀t∈Tryz.f5.params.toList,Tryz.prog.wantsStandIn t=false:=by rw[params];decide+kernel
theorem Be:Rows.tableReadsUptoRow.wfByText (Rows.OpenSpec.upto Rows.tableReadsSpec)=true:=k_
theorem mainIs:Tryz.prog.mainIs=some (Rows.tableReadsUptoCard.stood.harness.1,Rows.tableReadsUptoCard.stood.harness.2.toList):=k_
theorem goes:false=Rows.tableReadsUptoRow.goesBy Tryz.prog:=k_
theorem cardUpto:Rows.TableReadsUptoCardSaid:=
 Gd y9 pq .later _ _ _ _ El Be tableReadsUpto_row_tie rfl ⟨rfl,rfl⟩ mainIs rfl named Tryz.func5 Ga stands goes
end Go.Proofs.YtfdgnogcckoalaaGreatDoor.tableReads
