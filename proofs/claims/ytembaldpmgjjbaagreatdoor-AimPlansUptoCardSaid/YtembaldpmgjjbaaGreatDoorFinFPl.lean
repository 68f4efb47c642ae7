import Derived.Test.YtembaldpmgjjbaaGreatDoorXPF
import Derived.Test.YtembaldpmgjjbaaGreatDoorXPC
import Derived.Test.YtembaldpmgjjbaaGreatDoorXPD
import Derived.Test.YtembaldpmgjjbaaGreatDoorXPE
import Derived.Test.YtembaldpmgjjbaaGreatDoorXPH
import Derived.Test.YtembaldpmgjjbaaGreatDoorXPJ
import Derived.Test.YtembaldpmgjjbaaGreatDoorCards
import Derived.Test.YtembaldpmgjjbaaGreatDoorTie
import Derived.Seven
/-
 The law AimPlans returns true for all arguments whose bulk is at most 1048576,and the arguments read as before.
-/
set_option maxRecDepth 100000
set_option linter.unusedSimpArgs false
set_option linter.unusedVariables false
set_option linter.unusedSectionVars false
namespace Go.Proofs.YtembaldpmgjjbaaGreatDoor.aimPlans
open Go.ae
theorem Ex{H:Type}{W:World}{a:List (DataW H)}(e:a.length=3)(d:Rows.uptoSmall H (a++[])=true)(h:∀p∈Tryz.f3.params.toList.zip a,∃cs,bc Tryz.prog W (fun k=>k<W.heap.size) (bO Tryz.prog 8 p.1 p.2) cs):
 al Tryz.prog 3 (vt Tryz.prog 8 Tryz.f3.params.toList a) (.bool true):=by
 rw[params]at h⊢
 match a,e with
 |[d1,d2,d3],_=>
  have d:=tY.bound d
  simp only[List.append_nil,Rows.uptoBulkAll]at d
  obtain⟨c,e1,i,y1⟩:=Y2 (h (29,d1) (.head _)) (show Rows.uptoBulk d1<=1048576 by omega)
  obtain⟨f,e2,j,y2⟩:=aQu (h (9,d2) (.tail _ (.head _))) (show Rows.uptoBulk d2<=1048576 by omega)
  obtain⟨g,e3,l,y3⟩:=az6 (h (32,d3) (.tail _ (.tail _ (.head _)))) (show Rows.uptoBulk d3<=1048576 by omega)
  simp only[vt,e1,e2,e3]
  exact Yc awC c.t c.b c.ar c.aB f g y1.t y1.b y3
theorem RZ:Rows.aimPlansUptoRow.laid=Rows.aimPlansUptoRow.laid:=k_
theorem reads(os:Os){H:Type}(a:TypeId×Value->H):∃b,DataW.whole a Tryz.prog ((CE os).forCall (fun _ _=>0) ⟨#[],#[Value.agg #[.slice none 0 0,.int .i64 0,.slice none 0 0,.slice none 0 0,.slice none 0 0,Value.string ⟨#[]⟩,Value.string ⟨#[]⟩],Value.string ⟨#[]⟩,Value.agg #[Value.string ⟨#[]⟩,Value.string ⟨#[]⟩]],[]⟩).memory Tryz.f3.params.toList Rows.aimPlansSpec.vars false #[Value.agg #[.slice none 0 0,.int .i64 0,.slice none 0 0,.slice none 0 0,.slice none 0 0,Value.string ⟨#[]⟩,Value.string ⟨#[]⟩],Value.string ⟨#[]⟩,Value.agg #[Value.string ⟨#[]⟩,Value.string ⟨#[]⟩]].toList 8=some ([.agg [.agg [.nil,.lit (.int .i64 0),.nil,.nil],.nil,.lit (.string []),.lit (.string [])],.lit (.string []),.agg [.lit (.string []),.lit (.string [])]],[],b):=
 ⟨[],k_⟩
theorem G1(H:Type)(i:TypeId×Value->H)(W:World)(f:Nat)(args:Array Value)(a b:List (DataW H))(o:List MemPlace)
 (l:∀(j:Nat) t v,Tryz.f3.params[j]?=some t->args[j]?=some v->Value.okWide Tryz.prog W .any f t v)
 (c:DataW.Whole i Tryz.prog Tryz.f3.params.toList Rows.aimPlansSpec.vars false W args.toList a b o)(hk:Rows.uptoSmall H (a++b)=true)(k:laidMetH Tryz.prog Rows.aimPlansUptoRow.laid W):
 Calls Tryz.prog 3 args W fun e m=>∃v,e= .returned v/\Rows.aimPlansSpec.post i Tryz.prog Tryz.f3 false true false false W args v m:=by
 rw[RZ]at k
 have w:b=[]:=by
  obtain⟨p,q,_,u,_⟩:=c
  cases b with
  |nil=>rfl
  |cons g b=>exact u.elim
 have x:a.length=3:=by
  obtain⟨p,q,s,_⟩:=c
  have:=(GF (n:=8) (base:=f) (r:= .any) (by rw[params];decide+kernel) s (fun j t v y z=>l j t v (by simpa using y) (by simpa using z))).2
  rw[this,params];rfl
 subst w
 exact ZI (n:=8) (T:=(·<Tryz.prog.types.size)) (tb:=4) rfl
  (fun H a d=>by
   have d:a.length=3:=d.trans k_
   match a,d with
   |[d1,d2,d3],_=>exact⟨rfl,rfl,rfl⟩)
  aOo aL2 (by rw[params];decide+kernel) (by rw[params];decide+kernel) k_ Tryz.underlying4 (i_ Tryz.func3).enters (aMj k) (fun h=>Ex x hk h) l c
theorem aqP(os:Os)(j:os.Started)(H:Type)(a:TypeId×Value->H)(F:Stop.Interp):
 ReturnsInHanded {} Tryz.checked os 3 .any ((Rows.OpenSpec.upto Rows.aimPlansSpec).preRow a Tryz.prog Tryz.f3 Rows.aimPlansUptoRow.domain false Rows.aimPlansUptoRow.laid) (((Rows.OpenSpec.upto Rows.aimPlansSpec).at F).post a Tryz.prog Tryz.f3 false true false false):=by
 obtain⟨places,hx⟩:=reads os a
 refine atb Co aPh j k_ Tryz.func3
  (aqj Co (CE os) #[Value.agg #[.slice none 0 0,.int .i64 0,.slice none 0 0,.slice none 0 0,.slice none 0 0,Value.string ⟨#[]⟩,Value.string ⟨#[]⟩],Value.string ⟨#[]⟩,Value.agg #[Value.string ⟨#[]⟩,Value.string ⟨#[]⟩]] rfl k_ k_ k_
   (OpenSpec.preRow_of_cond 8 hx k_ (fun k hk=>by cases hk;kernel_rfl) k_ (by rw[RZ];exact avU os _))) ?_
 intro W b args d e c i g h f
 exact G1 H a W b args d e c i g (h _ rfl) f
theorem au9:Rows.AimPlansUptoSaid:=
 aP5 Ot Co 3 Tryz.f3 rfl rfl rfl rfl rfl rfl rfl ⟨rfl,rfl,rfl,rfl,rfl⟩ rfl rfl rfl rfl rfl named Tryz.func3 closed inst wrap
  (fun os b H a F=>aqP os b H a F)
theorem stands:∀t∈Tryz.f3.params.toList,Tryz.prog.wantsStandIn t=false:=by rw[params];decide+kernel
theorem mainIs:Tryz.prog.mainIs=some (Rows.aimPlansUptoCard.stood.harness.1,Rows.aimPlansUptoCard.stood.harness.2.toList):=k_
theorem goes:false=Rows.aimPlansUptoRow.goesBy Tryz.prog:=k_
theorem cardUpto:Rows.AimPlansUptoCardSaid:=
 aLd Ot Co .later _ _ _ _ au9 aAN aimPlansUpto_row_tie rfl ⟨rfl,rfl⟩ mainIs rfl named Tryz.func3 aPd stands goes
end Go.Proofs.YtembaldpmgjjbaaGreatDoor.aimPlans
