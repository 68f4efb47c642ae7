import Derived.Test.YtfdgnogcckoalaaGreatDoorKPG
import Derived.Test.YtfdgnogcckoalaaGreatDoorKThC
/- Parts of a proof. -/
set_option maxRecDepth 100000
set_option maxHeartbeats 4000000
set_option linter.unusedSimpArgs false
set_option linter.unusedVariables false
set_option linter.unusedSectionVars false
open Go.Proofs.Tryz
open And renaming intro->b3
open Bool renaming and_eq_true->b4, and_eq_false_iff->b5, eq_iff_iff->cb, or_eq_false_iff->cc, false_eq_true->ce, or_eq_true->cr
open Classical renaming propDecidable->cv
open Function renaming comp->cx
open Go.IntKind renaming i64->cy, u64->c6
open Go.Lib renaming bitLen->c7
open Int renaming emod_eq_of_lt->c8, le_refl->da, tmod_eq_emod_of_nonneg->db, add_emod_right->dg
open List renaming length_map->dk, getElem?_eq_getElem->dl, take_of_length_le->dp, mem_of_getElem?->dq, mem_map->dz, getElem?_map->ea, any_eq_true->eb, length_eq_zero_iff->ec, length_drop->ed, map->ee, length_take->ei, length_append->ej, take->en, getElem?_eq_none->eo, getD_eq_getElem?_getD->eq, mem_iff_getElem?->ew, all_eq_true->e6, map_congr_left->e7, getElem?_eq_some_iff->e8, map_take->e9, take_length->fb, map_map->fd, append_nil->fl, replicate->fm, take_add_one->fv, map_append->gb, length_nil->gc, getElem?_append_right->ge, drop->gg, length_filter_le->gi, mem_of_mem_take->gj, map_id->gl, length->gm, getElem?_append->gp, range->gt, prefix_append->gx, getElem?_take->gy, getElem?_drop->gA, ext_getElem?->gN, append_assoc->gP, prefix_refl->g0, not_mem_nil->ha, length_cons->hb, range_succ->hd, mem_range->hg, mem_cons->hj, map_nil->ho
open Nat renaming le_refl->hp, mod_eq_of_lt->ht, sub_self->hu, mod_eq_sub_mod->hv
open Option renaming map_eq_some_iff->hw, toList_some->hz
open Rat renaming intCast_neg->hA, intCast_inj->hB, add_zero->hC
namespace Go.an
open Go.an renaming c0->c0_, c1->c1_, c2->c2_, c3->c3_, c4->c4_, c5->c5_, e1->e1_, e2->e2_
open Go.Proofs
theorem JW(a:Int):az prog 268 [.int .i64 a] (.bool false):=by
 refine aJ nf (i_ func268) mix (by simp[f268]) ?_;simp[f268,aa]
def tN(a b:Int):Int:=if a<b then -1 else if b<a then 1 else 0
theorem W5(a b:Int):az prog 200 [.int .i64 a,.int .i64 b] (.int .i64 (tN a b)):=by
 have k1:=JW a;have k2:=JW b;refine aJ nf (i_ func200) mix (by simp[f200]) ?_;rw[tN]
 by_cases c:a<b
 ·simp[f200,aa];refine c1_ k1 ?_;simp[aa];refine c1_ k2 ?_;simp[aa,c]
 ·by_cases d:b<a
  ·simp[f200,aa];refine c1_ k1 ?_;simp[aa];refine c1_ k2 ?_;simp[aa,c,d]
  ·simp[f200,aa];refine c1_ k1 ?_;simp[aa];refine c1_ k2 ?_;simp[aa,c,d]
theorem aAR(a b:Int):az prog 199 [.seq [.int .i64 a,.int .i64 b]] (.int .i64 (if a≠0 then a else b)):=by
 have g:cy.wrap 1=1:=by decide
 have h:cy.wrap 2=2:=by decide
 refine aJ nf (i_ func199) mix (by simp[f199]) ?_;simp[f199,aa];refine lp (α:=Nat) (fun i=>⟨[(8,.p (.int .i64 i)),(7,.p (.int .i64 2)),(6,.p (.seq [.int .i64 a,.int .i64 b])),(3,.p (.int .i64 0))],[]⟩) (fun i=>i<=2/\(1<=i->a=0)/\(2<=i->b=0)) (fun i=>2-i) 0 ⟨o_,o_,o_⟩ ?_;rintro i ⟨j,e,f⟩;rcases(show i=0\/i=1\/i=2 by omega)with rfl|rfl|rfl
 ·by_cases c:a=0
  ·simp[aa,c];exact rd 1 ⟨o_,fun _=>c,o_⟩ (he:=by simp[g,c])
  ·simp[aa,c]
 ·have c:=e o_
  by_cases d:b=0
  ·simp[aa,c,d];exact rd 2 ⟨o_,fun _=>c,fun _=>d⟩ (he:=by simp[h,c,d])
  ·simp[aa,c,d]
 ·have c:=e o_;have d:=f o_;simp[aa,c,d]
def yO(a b:bZ):Int:=if tN a.bH b.bH≠0 then tN a.bH b.bH else dx (aI a.a) (aI b.a)
def nj(b a:bZ):Bool:=decide (a.bH<b.bH)||(decide (a.bH=b.bH)&&decide (0<dx (aI b.a) (aI a.a)))
theorem V9(x y:Rat):dx x y<0↔0<dx y x:=by
 rw[dx,dx]
 by_cases c:x<y
 ·have a:¬y<x:=by grind
  have b:¬y=x:=by grind
  simp[c,a,b]
 ·by_cases a:x=y
  ·subst a;simp
  ·have b:y<x:=by grind
   simp[c,a,b]
theorem WK(a b:bZ):yO a b<0↔nj b a=true:=by
 rw[yO,nj,tN,cr,b4,decide_eq_true_eq,decide_eq_true_eq,decide_eq_true_eq,<-V9]
 by_cases d:a.bH<b.bH
 ·simp[d]
 ·by_cases e:b.bH<a.bH
  ·have c:¬a.bH=b.bH:=by omega
   simp[d,e,c]
  ·have c:a.bH=b.bH:=by omega
   simp[c]
def CC(p:bZ):Prop:=bK p.a=0/\gn p.a/\bE 133 (aI p.a)
theorem aAS(a b:bZ)(c:CC a)(d:CC b):az prog 198 [bn a,bn b] (.int .i64 (yO a b)):=by
 have k1:=W5 a.bH b.bH;have k2:=kL a.a c.1 c.2.1.1;have k3:=kL b.a d.1 d.2.1.1;have k4:=rl ⟨aI a.a,false⟩ ⟨aI b.a,false⟩ (c.2.2.mono (by decide)) (d.2.2.mono (by decide));have e4:dx (⟨aI a.a,false⟩:NF).q (⟨aI b.a,false⟩:NF).q=dx (aI a.a) (aI b.a):=rfl;rw[e4]at k4;have k5:=aAR (tN a.bH b.bH) (dx (aI a.a) (aI b.a));rw[yO];generalize dx (aI a.a) (aI b.a)=O at*;generalize (⟨aI a.a,false⟩:NF)=A at*;generalize (⟨aI b.a,false⟩:NF)=B at*;obtain⟨i,e1,e,f⟩:=a;obtain⟨j,e2,a2,g⟩:=b;dsimp only at*;generalize tN e1 e2=Z at*;generalize h:(if Z≠0 then Z else O)=R at*;refine aJ nf (i_ func198) mix (by simp[f198]) ?_;simp[f198,aa,bn];refine e2_ k1 ?_;simp[aa];refine e1_ k2 ?_;simp[aa];refine e1_ k3 ?_;simp[aa];refine e2_ k4 ?_;simp[aa];refine ep k5 (by simp;first|exact⟨rfl,rfl⟩|rfl) (by simp;first|exact⟨rfl,rfl⟩|rfl) ?_;simp[aa];rfl
def Ca(a b:bR):Int:=rz a.name b.name
def rF(b a:bR):Bool:=decide (rz a.name b.name<0)
theorem aAT(a b:bR):az prog 202 [aR a,aR b] (.int .i64 (Ca a b)):=by
 have k1:=KU a.name b.name;rw[Ca];generalize rz a.name b.name=Z at*;obtain⟨c,e⟩:=a;obtain⟨d,f⟩:=b;refine aJ nf (i_ func202) mix (by simp[f202]) ?_;simp[f202,aa,aR];refine c2_ k1 ?_;simp[aa]
theorem zE(x:Nat)(hx:x<18446744073709551616):az prog 267 [.int .u64 x] (.int .i64 (c7 x:Nat)):=by
 have k1:=JV x hx;generalize c7 x=L at*;refine aJ nf (i_ func267) mix (by simp[f267]) ?_;simp[f267,aa];refine c1_ k1 ?_;simp[aa]
theorem JI(l:List bZ)(n ar:Nat)(d:l.length=n)(g:1<=n)(v:n<=12)(hs:∀p∈l,CC p):
 b8 prog 197 [.arr .grow ar 4 (cL l)] [.sl 0 ar 4 0 n,.p (.func 198 [] [])] [.arr .grow ar 4 (cL (dv nj l n))] (.p (.aD [])):=by
 have k0:=aK6 yO nj l n ar d g o_ (fun a i b j=>aAS a b (hs a i) (hs b j)) (fun a _ b _=>WK a b);have e:∀(N:Nat×Nat->Prop)(q:List bZ),aV N (cL q)=True:=fun N q=>by
  rw[cB,eq_iff_iff,iff_true];intro x hx;obtain⟨a,_,rfl⟩:=dz.1 hx;trivial
 have c:∀(σ:Nat->Nat)(q:List bZ),cF σ (cL q)=cL q:=fun σ q=>iv;have m:¬cL l=[]:=fun h=>by have:=congrArg gm h;rw[cL,dk,d,gc]at this;omega
 have k:(cL l).length=n:=by rw[cL,dk,d]
 have t:cy.wrap (n:Int)=n:=aK _ o_ o_;have o:(n:Int)<=12:=o_
 have s:∀L:Int,b8 prog 266 [.arr .grow ar 4 (cL l)] [.sl 0 ar 4 0 n,.p (.int .i64 0),.p (.int .i64 n),.p (.int .i64 L),.p (.func 198 [] [])] [.arr .grow ar 4 (cL (dv nj l n))] (.p (.aD [])):=by
  intro L;refine dS nf (i_ func266) mix (by simp[f266]) ?_;simp[f266,aa];refine lp (α:=Nat) (fun _=>⟨[(11,.p (.bool true)),(10,.p (.bool true)),(4,.p (.func 198 [] [])),(3,.p (.int .i64 L)),(2,.p (.int .i64 n)),(1,.p (.int .i64 0)),(0,.sl 0 ar 4 0 n)],[.arr .grow ar 4 (cL l)]⟩) (fun _=>True) (fun _=>0) 0 trivial ?_ (hr2:=by simp[e]);rintro _ _;simp[t,o,aa];refine cf k0 [0] ?_ (al:=by simp[sig,c]) (hr:=by simp[e]);simp[ba,sig,c]
 have r:=zE n o_;have u:c6.wrap (n:Int)=n:=by
  exact fx _ o_ (by simp only[wB];omega)
 generalize c7 n=f at*;refine dS nf (i_ func197) mix (by simp[f197]) ?_;simp[f197,aa,m,k,u];refine c1_ r ?_;simp[aa];refine cf (s f) [0] ?_ (al:=by simp[sig,c]) (hr:=by simp[e]);simp[ba,sig,c]
theorem W4:az prog 308 [.seq [],.int .i64 0,.int .i64 0,.func 198 [] []] (.aD []):=by
 have a:cy.wrap 1=1:=by decide
 refine aJ nf (i_ func308) mix (by simp[f308]) ?_;simp[f308,aa,a];refine lp (α:=Nat) (fun _=>⟨[(8,.p (.int .i64 1)),(3,.p (.func 198 [] [])),(2,.p (.int .i64 0)),(1,.p (.int .i64 0)),(0,.p (.seq []))],[]⟩) (fun _=>True) (fun _=>0) 0 trivial ?_;rintro _ _;simp[aa]
theorem Wu(L:Int):az prog 266 [.seq [],.int .i64 0,.int .i64 0,.int .i64 L,.func 198 [] []] (.aD []):=by
 have a:cy.wrap 0=0:=by decide
 have k:=W4;refine aJ nf (i_ func266) mix (by simp[f266]) ?_;simp[f266,aa];refine lp (α:=Nat) (fun _=>⟨[(11,.p (.bool true)),(10,.p (.bool true)),(4,.p (.func 198 [] [])),(3,.p (.int .i64 L)),(2,.p (.int .i64 0)),(1,.p (.int .i64 0)),(0,.p (.seq []))],[]⟩) (fun _=>True) (fun _=>0) 0 trivial ?_;rintro _ _;simp[a,aa];refine c4_ k ?_;simp[aa]
theorem Jl:az prog 197 [.seq [],.func 198 [] []] (.aD []):=by
 have b:=zE 0 (by decide);have d:c6.wrap 0=0:=by decide
 have c:=Wu;generalize c7 0=a at*;refine aJ nf (i_ func197) mix (by simp[f197]) ?_;simp[f197,aa,d];refine c1_ b ?_;simp[aa];refine c5_ (c a) ?_;simp[aa]
theorem WL(l:List bR)(n ar:Nat)(d:l.length=n)(g:1<=n)(t:n<=12):
 b8 prog 201 [.arr .grow ar 3 (dt l)] [.sl 0 ar 3 0 n,.p (.func 202 [] [])] [.arr .grow ar 3 (dt (dv rF l n))] (.p (.aD [])):=by
 have k0:=aK7 Ca rF l n ar d g o_ (fun a _ b _=>aAT a b) (fun a _ b _=>by rw[Ca,rF,decide_eq_true_eq]);have e:∀(N:Nat×Nat->Prop)(q:List bR),aV N (dt q)=True:=fun N q=>by
  rw[cB,eq_iff_iff,iff_true];intro x hx;obtain⟨a,_,rfl⟩:=dz.1 hx;trivial
 have c:∀(σ:Nat->Nat)(q:List bR),cF σ (dt q)=dt q:=fun σ q=>iv;have j:¬dt l=[]:=fun h=>by have:=congrArg gm h;rw[dt,dk,d,gc]at this;omega
 have i:(dt l).length=n:=by rw[dt,dk,d]
 have r:cy.wrap (n:Int)=n:=aK _ o_ o_;have k:(n:Int)<=12:=o_
 have o:∀L:Int,b8 prog 269 [.arr .grow ar 3 (dt l)] [.sl 0 ar 3 0 n,.p (.int .i64 0),.p (.int .i64 n),.p (.int .i64 L),.p (.func 202 [] [])] [.arr .grow ar 3 (dt (dv rF l n))] (.p (.aD [])):=by
  intro L;refine dS nf (i_ func269) mix (by simp[f269]) ?_;simp[f269,aa];refine lp (α:=Nat) (fun _=>⟨[(11,.p (.bool true)),(10,.p (.bool true)),(4,.p (.func 202 [] [])),(3,.p (.int .i64 L)),(2,.p (.int .i64 n)),(1,.p (.int .i64 0)),(0,.sl 0 ar 3 0 n)],[.arr .grow ar 3 (dt l)]⟩) (fun _=>True) (fun _=>0) 0 trivial ?_ (hr2:=by simp[e]);rintro _ _;simp[r,k,aa];refine cf k0 [0] ?_ (al:=by simp[sig,c]) (hr:=by simp[e]);simp[ba,sig,c]
 have m:=zE n o_;have s:c6.wrap (n:Int)=n:=by
  exact fx _ o_ (by simp only[wB];omega)
 generalize c7 n=f at*;refine dS nf (i_ func201) mix (by simp[f201]) ?_;simp[f201,aa,j,i,s];refine c1_ m ?_;simp[aa];refine cf (o f) [0] ?_ (al:=by simp[sig,c]) (hr:=by simp[e]);simp[ba,sig,c]
theorem W3:az prog 318 [.seq [],.int .i64 0,.int .i64 0,.func 202 [] []] (.aD []):=by
 have a:cy.wrap 1=1:=by decide
 refine aJ nf (i_ func318) mix (by simp[f318]) ?_;simp[f318,aa,a];refine lp (α:=Nat) (fun _=>⟨[(8,.p (.int .i64 1)),(3,.p (.func 202 [] [])),(2,.p (.int .i64 0)),(1,.p (.int .i64 0)),(0,.p (.seq []))],[]⟩) (fun _=>True) (fun _=>0) 0 trivial ?_;rintro _ _;simp[aa]
theorem Wt(L:Int):az prog 269 [.seq [],.int .i64 0,.int .i64 0,.int .i64 L,.func 202 [] []] (.aD []):=by
 have a:cy.wrap 0=0:=by decide
 have k:=W3;refine aJ nf (i_ func269) mix (by simp[f269]) ?_;simp[f269,aa];refine lp (α:=Nat) (fun _=>⟨[(11,.p (.bool true)),(10,.p (.bool true)),(4,.p (.func 202 [] [])),(3,.p (.int .i64 L)),(2,.p (.int .i64 0)),(1,.p (.int .i64 0)),(0,.p (.seq []))],[]⟩) (fun _=>True) (fun _=>0) 0 trivial ?_;rintro _ _;simp[a,aa];refine c4_ k ?_;simp[aa]
theorem Jk:az prog 201 [.seq [],.func 202 [] []] (.aD []):=by
 have b:=zE 0 (by decide);have d:c6.wrap 0=0:=by decide
 have c:=Wt;generalize c7 0=a at*;refine aJ nf (i_ func201) mix (by simp[f201]) ?_;simp[f201,aa,d];refine c1_ b ?_;simp[aa];refine c5_ (c a) ?_;simp[aa]
theorem Wi:az prog 196 [.seq []] (.seq []):=by
 refine .inl (IV (pre:=[]) (post:=[]) ?_ ?_)
 ·refine yM nf (i_ func196) mix (by simp[f196]) ?_;simp[f196,dy,cU]
 ·refine yM nf (i_ func196) mix (by simp[f196]) ?_;simp[f196,cJ,dy,cU]
theorem WN(l:List bR)(b:1<=l.length)(h:l.length<=1000):b8 prog 196 [] [.p (.seq (l.map aR))] [.arr .exact 0 3 [],.arr .grow 0 3 (dt l)] (.sl 1 0 3 0 l.length):=by
 have c:(1000000:Nat)<cJ:=by decide
 cases l with
 |nil=>simp at b
 |cons a r=>
  refine dS nf (i_ func196) mix (by simp[f196]) ?_;simp at h;simp[f196,dy,cU,dt];exact⟨vr (fun r=>⟨by simp[aa],by simp[aa]⟩) r,o_⟩
theorem I3{σ:Nat->Nat}{z:PV}:∀n:Nat,cF σ (fm n (.p z))=fm n (.p z)
 |0=>rfl
 |n+1=>by rw[List.replicate_succ,cF,I3 n];rfl
theorem Wz{N:Nat×Nat->Prop}{z:PV}{n:Nat}:aV N (fm n (.p z))=True:=by
 rw[cB,eq_iff_iff,iff_true];intro x hx;rw[(List.mem_replicate.1 hx).2];trivial
def gd(n:Nat)(a b:List bU):Nat->St
 |0=>⟨[(27,.p (.int .i64 0)),(26,.p (.int .i64 2)),(25,.p (.seq [.seq (a.map aG),.seq (b.map aG)])),(6,.sl 0 0 2 0 0)],[.arr .grow 0 2 (fm n (.p rO))]⟩
 |1=>⟨[(27,.p (.int .i64 1)),(26,.p (.int .i64 2)),(25,.p (.seq [.seq (a.map aG),.seq (b.map aG)])),(6,.sl 0 1 2 0 a.length)],[.arr .grow 1 2 (a.map (AV.p∘aG))]⟩
 |_=>match b with
  |[]=>⟨[(27,.p (.int .i64 2)),(26,.p (.int .i64 2)),(25,.p (.seq [.seq (a.map aG),.seq (b.map aG)])),(6,.sl 0 1 2 0 a.length)],[.arr .grow 1 2 (a.map (AV.p∘aG))]⟩
  |_::_=>⟨[(27,.p (.int .i64 2)),(26,.p (.int .i64 2)),(25,.p (.seq [.seq (a.map aG),.seq (b.map aG)])),(6,.sl 0 2 2 0 (a.length+b.length))],[.arr .grow 2 2 (a.map (AV.p∘aG)++b.map (AV.p∘aG))]⟩
theorem W8(a b:List bU)(n:Nat)(m:a.length+b.length=n)(g:1<=a.length)(u:n<=1000):az prog 195 [.seq [.seq (a.map aG),.seq (b.map aG)]] (.seq ((a++b).map aG)):=by
 have v:(1000000:Nat)<cJ:=by decide
 have j:cy.wrap 1=1:=by decide
 have f:cy.wrap 2=2:=by decide
 have w:cy.wrap 0=0:=by decide
 have s:cy.wrap (a.length:Int)=a.length:=aK _ o_ o_;have t:cy.wrap ((a.length:Int)+b.length)=n:=by rw[aK _ o_ o_];omega
 have q:¬(a.length:Int)<0:=o_
 have r:¬(n:Int)<0:=o_
 have o:=Lg (H:=[]) n o_ o_;refine aJ nf (i_ func195) mix (by simp[f195]) ?_;simp[f195,aa];refine lp (α:=Nat) (fun i=>⟨[(11,.p (.int .i64 i)),(10,.p (.int .i64 2)),(9,.p (.seq [.seq (a.map aG),.seq (b.map aG)])),(3,.p (.int .i64 (if i=0 then 0 else if i=1 then(a.length:Int)else(n:Int)))),(0,.p (.seq [.seq (a.map aG),.seq (b.map aG)]))],[]⟩) (fun i=>i<=2) (fun i=>2-i) 0 s_ ?_;intro i hi;rcases(show i=0\/i=1\/i=2 by omega)with rfl|rfl|rfl
 ·simp[aa,s,q];exact rd 1 o_ (he:=by simp[j])
 ·simp[aa,t,r];exact rd 2 o_ (he:=by simp[f])
 ·simp[aa];refine Gq o ?_;simp[sig,aa,I3];refine lp (α:=Nat) (gd n a b) (fun i=>i<=2) (fun i=>2-i) 0 s_ ?_ (hn:=by simp[gd]) (he:=by simp[gd]) (hh:=by simp[gd]) (hr:=by simp[gd]) (hr2:=by simp[gd,Wz]);intro i hi;have e:a≠[]:=by intro h;rw[h]at g;simp at g
  have k:=rW a;rcases(show i=0\/i=1\/i=2 by omega)with rfl|rfl|rfl
  ·simp[gd,aa,e,j];exact⟨⟨k,o_⟩,rd 1 o_ (hn:=by simp[gd]) (he:=by simp[gd]) (hh:=by simp[gd]) (hr:=by simp[gd]) (hr2:=by simp[gd])⟩
  ·rcases b with _|⟨d,c⟩
   ·simp[gd,aa,e,f];exact⟨o_,rd 2 o_ (hn:=by simp[gd]) (he:=by simp[gd]) (hh:=by simp[gd]) (hr:=by simp[gd]) (hr2:=by simp[gd])⟩
   ·have l:=rW c;simp only[hb]at m;simp[gd,aa,e,f];exact⟨⟨l,o_⟩,rd 2 o_ (hn:=by simp[gd]) (he:=by simp[gd]) (hh:=by simp[gd]) (hr:=by simp[gd]) (hr2:=by simp[gd])⟩
  ·rcases b with _|⟨d,c⟩
   ·simp[gd,aa]
   ·have e1:ee (AV.p∘aG) a++AV.p (aG d)::ee (AV.p∘aG) c=ee (AV.p∘aG) (a++d::c):=by rw[gb];rfl
    have e2:ee aG a++aG d::ee aG c=ee aG (a++d::c):=by rw[gb];rfl
    simp[gd,aa];rw[e1,e2,dp s_,ri];intro x _;simp
def rZ(a b:bU):Bool:=decide (a.x<b.x)||(decide (a.x=b.x)&&decide (a.y<b.y))
def aj.bF(t:aj):Nat->Nat
 |0=>0
 |i+1=>if rZ (t.at i) (t.at (t.bF i))=true then i else t.bF i
theorem aj.J9(t:aj):∀i,1<=i->t.bF i<i
 |1,_=>by
  rw[aj.bF,aj.bF];split<;>omega
 |i+2,_=>by
  have:=aj.J9 t (i+1) o_;rw[aj.bF]
  split<;>omega
theorem aj.ur(t:aj){i:Nat}(h:i<=t.cs.length)(a:1<=t.cs.length):t.bF i<t.cs.length:=by
 rcases i with _|i
 ·exact a
 ·have:=t.J9 (i+1) o_;omega
def aj.L(t:aj):Nat:=t.bF t.cs.length
def oA(n L:Nat)(p:bZ):bZ:=⟨p.name,(p.bH-L+n).tmod n,p.a,p.b⟩
def im(t:aj):aj:=⟨t.cs.drop t.L++t.cs.take t.L,t.aU,dv nj (t.aB.map (oA t.cs.length t.L)) t.aB.length,dv rF t.ag t.ag.length⟩
theorem w8{t:aj}(h:b9 t=0):t.aB.length<=12/\t.ag.length<=256:=by
 rw[b9]at h
 split at h
 ·cases h
 split at h
 ·cases h
 split at h
 ·cases h
 split at h
 ·cases h
 split at h
 ·cases h
 split at h
 ·cases h
 rename_i b
 split at h
 ·rename_i a;exact absurd h a
 split at h
 ·cases h
 ·omega
theorem aQu{t:aj}(h:b9 t=0)(hs:fQ t=true):t.ag.length<=8:=by
 have:=(w8 h).2;simp only[fQ,b4,Bool.not_eq_true',cc,b5,decide_eq_false_iff_not]at hs;omega
theorem Jj(t:aj)(ap:gH t)(V:b9 t=0)(hs:fQ t=true):az prog 115 [bJ t] (bJ (im t)):=by
 have aL:(1000000:Nat)<cJ:=by decide
 have av:cy.wrap 1=1:=by decide
 obtain⟨au,aP,aM,_⟩:=nB V;have ag:=Uy ap V hs;have aI:=ap.cl;obtain⟨aN,_⟩:=w8 V;have ax:bJ (im t)=.st 35 [.seq ((t.cs.drop t.L++t.cs.take t.L).map aG),.int .i64 t.aU,.seq ((dv nj (t.aB.map (oA t.cs.length t.L)) t.aB.length).map bn),.seq ((dv rF t.ag t.ag.length).map aR)]:=rfl;rw[ax];rw[show bJ t=.st 35 [.seq (t.cs.map aG),.int .i64 t.aU,.seq (t.aB.map bn),.seq (t.ag.map aR)]from rfl];have aF:t.L<t.cs.length:=t.ur (hp _) o_;have ar:=W8 (t.cs.drop t.L) (t.cs.take t.L) t.cs.length (by rw[ed,ei];omega) (by rw[ed];omega) o_;generalize aH:t.cs.drop t.L++t.cs.take t.L=T at*;rw[List.map_drop,e9]at ar;have D:∀(N:Nat×Nat->Prop)(q:List bR),aV N (dt q)=True:=fun N q=>by
  rw[cB,eq_iff_iff,iff_true];intro x hx;obtain⟨a,_,rfl⟩:=dz.1 hx;trivial
 have F:∀(σ:Nat->Nat)(q:List bR),cF σ (dt q)=dt q:=fun σ q=>iv;have ad:∀(σ:Nat->Nat)(q:List bZ),cF σ (cL q)=cL q:=fun σ q=>iv;obtain⟨Q,K⟩:∃Q,Q=t.aB.map (oA t.cs.length t.L):=⟨_,rfl⟩
 rw[<-K];have am:Q.length=t.aB.length:=by rw[K,dk]
 have an:∀p∈Q,CC p:=fun p h=>by
  rw[K]at h;obtain⟨o,ay,rfl⟩:=dz.1 h;obtain⟨_,_,aw,_,a2,_,a3,_⟩:=ag o ay;exact⟨aw,a2,a3⟩
 generalize I:dv nj Q t.aB.length=s at*;generalize af:dv rF t.ag t.ag.length=G at*;have aD:s.length=t.aB.length:=by rw[<-I,rV nj Q _ o_]
 have aE:G.length=t.ag.length:=by rw[<-af,rV rF t.ag _ (hp _)]
 have ab:∀(H:Heap)(n k:Nat),k=s.length->ku H n (en k (cL s)) (ee bn s):=fun H n k hk=>by
  rw[cL,dp (by rw[dk];omega),ri];intro x _;cases n<;>simp
 have ac:∀(H:Heap)(n k:Nat),k=G.length->ku H n (en k (dt G)) (ee aR G):=fun H n k hk=>by
  rw[dt,dp (by rw[dk];omega),ri];intro x _;cases n<;>simp
 have Z:¬t.cs=[]:=by intro h;rw[h]at au;simp at au
 refine aJ nf (i_ func115) mix (by simp[f115]) ?_;simp[f115,aa];refine lp (α:=Nat) (fun i=>⟨[(14,.p (.int .i64 i)),(13,.p (.int .i64 t.cs.length)),(12,.p (.seq (t.cs.map aG))),(3,.p (.int .i64 (t.bF i))),(2,.ptr 1 []),(1,.ptr 0 [])],[.box false (.p (.st 35 [.seq (t.cs.map aG),.int .i64 t.aU,.seq (t.aB.map bn),.seq (t.ag.map aR)])),.box false (.p (.st 35 [.aH,.int .i64 0,.aH,.aH]))]⟩) (fun i=>i<=t.cs.length) (fun i=>t.cs.length-i) 0 s_ ?_ (he:=by simp[aj.bF]);intro i aq
 by_cases hi:i<t.cs.length
 ·have b:=aj.get hi;have hl:=t.ur (i:=i) o_ o_;have U:=aj.get hl;have w:=bS (i:=i) o_;have d:t.bF (i+1)=if rZ (t.at i) (t.at (t.bF i))=true then i else t.bF i:=rfl
  rw[rZ]at d;generalize t.bF i=q at*;generalize W:t.at i=A at*;generalize X:t.at q=B at*;obtain⟨x,y⟩:=A;obtain⟨u,v⟩:=B
  by_cases c1:x<u
  ·rw[if_pos (by simp[c1])]at d;simp[hi,hl,b,U,W,X,aa,aG,w,c1];exact rd (i+1) hi (he:=by simp[d]) (hh:=by simp[aG])
  ·by_cases c2:x=u
   ·by_cases c3:y<v
    ·rw[if_pos (by simp[c2,c3])]at d;simp[hi,hl,b,U,W,X,aa,aG,w,c1,c2,c3];exact rd (i+1) hi (he:=by simp[d]) (hh:=by simp[aG])
    ·rw[if_neg (by simp[c1,c2,c3])]at d;simp[hi,hl,b,U,W,X,aa,aG,w,c1,c2,c3];exact rd (i+1) hi (he:=by simp[d]) (hh:=by simp[aG])
   ·rw[if_neg (by simp[c1,c2])]at d;simp[hi,hl,b,U,W,X,aa,aG,w,c1,c2];exact rd (i+1) hi (he:=by simp[d]) (hh:=by simp[aG])
 obtain rfl:i=t.cs.length:=o_
 rw[show t.bF t.cs.length=t.L from rfl];simp[aa];refine⟨⟨o_,rW _⟩,?_⟩;refine ep ar (by simp;first|exact⟨rfl,rfl⟩|rfl) (by simp;first|exact⟨rfl,rfl⟩|rfl) ?_
 by_cases E:t.ag=[]
 ·have Y:G=[]:=by rw[<-af,E];rfl
  simp[E,aa];refine e1_ Wi ?_;simp[aa];refine⟨by repeat' first|rfl|apply b3,?_⟩;refine lp (α:=Nat) (fun i=>match i with
   |0=>⟨[(67,.p (.int .i64 0)),(66,.p (.int .i64 t.aB.length)),(65,.p (.seq (t.aB.map bn))),(8,.ptr 3 []),(7,.p (.int .i64 t.cs.length)),(3,.p (.int .i64 t.L)),(2,.ptr 1 [])],[.box false (.p (.st 35 [.seq (t.cs.map aG),.int .i64 t.aU,.seq (t.aB.map bn),.seq (t.ag.map aR)])),.box false (.p (.st 35 [.aH,.int .i64 0,.aH,.aH])),.arr .frozen 0 1 [.p (.seq (gg t.L (ee aG t.cs))),.p (.seq (en t.L (ee aG t.cs)))],.box false (.p (.st 35 [.seq (ee aG T),.int .i64 t.aU,.aH,.seq []]))]⟩
   |m+1=>⟨[(67,.p (.int .i64 ((m+1:Nat):Int))),(66,.p (.int .i64 t.aB.length)),(65,.p (.seq (t.aB.map bn))),(8,.ptr 3 []),(7,.p (.int .i64 t.cs.length)),(3,.p (.int .i64 t.L)),(2,.ptr 1 [])],[.box false (.p (.st 35 [.seq (t.cs.map aG),.int .i64 t.aU,.seq (t.aB.map bn),.seq (t.ag.map aR)])),.box false (.p (.st 35 [.aH,.int .i64 0,.aH,.aH])),.arr .frozen 0 1 [.p (.seq (gg t.L (ee aG t.cs))),.p (.seq (en t.L (ee aG t.cs)))],.box false (.st 35 [.p (.seq (ee aG T)),.p (.int .i64 t.aU),.sl 6 m 4 0 (m+1),.p (.seq [])]),.hole,.hole,.arr .grow m 4 ((Q.take (m+1)).map (AV.p∘bn))]⟩) (fun i=>i<=t.aB.length) (fun i=>t.aB.length-i) 0 s_ ?_ (hh:=by simp[E])
  intro i aq
  by_cases hi:i<t.aB.length
  ·have b:=aj.gz hi;obtain⟨g1,g2,_⟩:=ag _ (dq b);have c:Q[i]?=some (oA t.cs.length t.L (t.pk i)):=by rw[K,ea,b];rfl
   have g:cy.wrap ((t.pk i).bH-t.L)=(t.pk i).bH-t.L:=aK _ o_ o_;have l:cy.wrap ((t.pk i).bH-t.L+t.cs.length)=(t.pk i).bH-t.L+t.cs.length:=aK _ o_ o_;rw[oA]at c;rcases C:t.pk i with⟨aA,ae,aB,aC⟩
   rw[C]at c g l b;simp only at c g l;have P:¬(t.cs.length:Int)=0:=o_
   generalize R:(ae-(t.L:Int)+(t.cs.length:Int)).tmod (t.cs.length:Int)=z at*;rcases i with _|q
   ·have e:=kz c;simp[hi,b,C,g,l,R,P,av,aa,bn];exact⟨Z,o_,rd 1 hi (hh:=by simp[e,bn,E]) (hr2:=by simp[fo,D])⟩
   ·have w:cy.wrap ((q:Int)+1+1)=(q:Int)+1+1:=aK _ o_ o_;have hI:(q:Int)+1<t.aB.length:=by omega
    have ah:min (q+1) t.aB.length=q+1:=o_
    have e:=ky (f:=AV.p∘bn) c;simp[hI,hi,b,C,g,l,R,P,w,ah,am,aa,bn];exact⟨o_,Z,o_,rd (q+2) hi (hh:=by simp at e;simp[e,bn,E]) (hr2:=by simp[fo,D])⟩
  have M:i=t.aB.length:=o_
  rcases i with _|j
  ·have O:t.aB=[]:=ec.1 M.symm;have J:s=[]:=by rw[<-I,O];rfl
   simp[O,aa];refine c2_ Jl ?_;simp[aa];refine c2_ Jk ?_;simp[aa]
   repeat' apply b3
   all_goals first|exact J|exact Y|(rw[cL,dk];omega)|(rw[dt,dk];omega)|exact ab _ _ _ o_|exact ac _ _ _ o_
  ·have hI:¬((j:Int)+1<t.aB.length):=by omega
   have ai:Q.take (j+1)=Q:=dp o_;have S:=JI Q (j+1) j o_ o_ o_ an;rw[show dv nj Q (j+1)=s from by rw[M];exact I,cL]at S;simp[hI,ai,aa];refine cf S [6] ?_ (al:=by simp[sig,iv]) (hr:=s_);simp[ba,sig,ad,aa];refine c2_ Jk ?_;simp[aa]
   repeat' apply b3
   all_goals first|exact J|exact Y|(rw[cL,dk];omega)|(rw[dt,dk];omega)|exact ab _ _ _ o_|exact ac _ _ _ o_
 ·have ao:1<=t.ag.length:=by
   rcases hq:t.ag with _|⟨a,r⟩
   ·exact absurd hq E
   ·simp
  have aO:=aQu V hs;have kS:=WN t.ag ao o_;simp[aa];refine ef kS [] ?_;simp[sig,ba,aa,F];refine⟨by repeat' first|rfl|apply b3,?_⟩;have ak:=WL t.ag t.ag.length 0 rfl ao o_;rw[af]at ak;refine lp (α:=Nat) (fun i=>match i with
   |0=>⟨[(67,.p (.int .i64 0)),(66,.p (.int .i64 t.aB.length)),(65,.p (.seq (t.aB.map bn))),(8,.ptr 5 []),(7,.p (.int .i64 t.cs.length)),(3,.p (.int .i64 t.L)),(2,.ptr 1 [])],[.box false (.p (.st 35 [.seq (t.cs.map aG),.int .i64 t.aU,.seq (t.aB.map bn),.seq (t.ag.map aR)])),.box false (.p (.st 35 [.aH,.int .i64 0,.aH,.aH])),.arr .frozen 0 1 [.p (.seq (gg t.L (ee aG t.cs))),.p (.seq (en t.L (ee aG t.cs)))],.arr .exact 0 3 [],.arr .grow 0 3 (dt t.ag),.box false (.st 35 [.p (.seq (ee aG T)),.p (.int .i64 t.aU),.p .aH,.sl 4 0 3 0 t.ag.length])]⟩
   |m+1=>⟨[(67,.p (.int .i64 ((m+1:Nat):Int))),(66,.p (.int .i64 t.aB.length)),(65,.p (.seq (t.aB.map bn))),(8,.ptr 5 []),(7,.p (.int .i64 t.cs.length)),(3,.p (.int .i64 t.L)),(2,.ptr 1 [])],[.box false (.p (.st 35 [.seq (t.cs.map aG),.int .i64 t.aU,.seq (t.aB.map bn),.seq (t.ag.map aR)])),.box false (.p (.st 35 [.aH,.int .i64 0,.aH,.aH])),.arr .frozen 0 1 [.p (.seq (gg t.L (ee aG t.cs))),.p (.seq (en t.L (ee aG t.cs)))],.arr .exact 0 3 [],.arr .grow 0 3 (dt t.ag),.box false (.st 35 [.p (.seq (ee aG T)),.p (.int .i64 t.aU),.sl 8 m 4 0 (m+1),.sl 4 0 3 0 t.ag.length]),.hole,.hole,.arr .grow m 4 ((Q.take (m+1)).map (AV.p∘bn))]⟩) (fun i=>i<=t.aB.length) (fun i=>t.aB.length-i) 0 s_ ?_ (hh:=by simp[]) (hr2:=by simp[D])
  intro i aq
  by_cases hi:i<t.aB.length
  ·have b:=aj.gz hi;obtain⟨g1,g2,_⟩:=ag _ (dq b);have c:Q[i]?=some (oA t.cs.length t.L (t.pk i)):=by rw[K,ea,b];rfl
   have g:cy.wrap ((t.pk i).bH-t.L)=(t.pk i).bH-t.L:=aK _ o_ o_;have l:cy.wrap ((t.pk i).bH-t.L+t.cs.length)=(t.pk i).bH-t.L+t.cs.length:=aK _ o_ o_;rw[oA]at c;rcases C:t.pk i with⟨aA,ae,aB,aC⟩
   rw[C]at c g l b;simp only at c g l;have P:¬(t.cs.length:Int)=0:=o_
   generalize R:(ae-(t.L:Int)+(t.cs.length:Int)).tmod (t.cs.length:Int)=z at*;rcases i with _|q
   ·have e:=kz c;simp[hi,b,C,g,l,R,P,av,aa,bn];exact⟨Z,o_,rd 1 hi (hh:=by simp[e,bn]) (hr2:=by simp[fo,D])⟩
   ·have w:cy.wrap ((q:Int)+1+1)=(q:Int)+1+1:=aK _ o_ o_;have hI:(q:Int)+1<t.aB.length:=by omega
    have ah:min (q+1) t.aB.length=q+1:=o_
    have e:=ky (f:=AV.p∘bn) c;simp[hI,hi,b,C,g,l,R,P,w,ah,am,aa,bn];exact⟨o_,Z,o_,rd (q+2) hi (hh:=by simp at e;simp[e,bn]) (hr2:=by simp[fo,D])⟩
  have M:i=t.aB.length:=o_
  rcases i with _|j
  ·have O:t.aB=[]:=ec.1 M.symm;have J:s=[]:=by rw[<-I,O];rfl
   simp[O,aa];refine c2_ Jl ?_;simp[aa];refine cf ak [4] ?_ (al:=by simp[sig,F]) (hr:=by simp[D]);simp[ba,sig,F,ad,aa]
   repeat' apply b3
   all_goals first|exact J|exact Y|(rw[cL,dk];omega)|(rw[dt,dk];omega)|exact ab _ _ _ o_|exact ac _ _ _ o_
  ·have hI:¬((j:Int)+1<t.aB.length):=by omega
   have ai:Q.take (j+1)=Q:=dp o_;have S:=JI Q (j+1) j o_ o_ o_ an;rw[show dv nj Q (j+1)=s from by rw[M];exact I,cL]at S;simp[hI,ai,aa];refine cf S [8] ?_ (al:=by simp[sig,iv]) (hr:=s_);simp[ba,sig,ad,F,aa];refine cf ak [4] ?_ (al:=by simp[sig,F]) (hr:=by simp[D]);simp[ba,sig,F,ad,aa]
   repeat' apply b3
   all_goals first|exact J|exact Y|(rw[cL,dk];omega)|(rw[dt,dk];omega)|exact ab _ _ _ o_|exact ac _ _ _ o_
theorem SM(t:aj)(v:t.aB.length<=1000000)(w:t.ag.length<=1000000):az prog 17 [bJ t] (cg t):=by
 have u:(1000000:Nat)<cJ:=by decide
 have o:cy.wrap 1=1:=by decide
 rw[show bJ t=.st 35 [.seq (t.cs.map aG),.int .i64 t.aU,.seq (t.aB.map bn),.seq (t.ag.map aR)]from rfl];refine aJ nf (i_ func17) mix (by simp[f17]) ?_;simp[f17,aa];refine lp (α:=Nat) (fun i=>match i with
  |0=>⟨[(16,.p (.int .i64 0)),(15,.p (.int .i64 t.aB.length)),(14,.p (.seq (t.aB.map bn))),(3,.ptr 2 []),(2,.ptr 1 []),(1,.ptr 0 [])],[.box false (.p (.st 35 [.seq (t.cs.map aG),.int .i64 t.aU,.seq (t.aB.map bn),.seq (t.ag.map aR)])),.box false (.p (.st 25 [.aH,.int .i64 0,.aH,.aH])),.box false (.p (.st 25 [.seq (t.cs.map aG),.int .i64 t.aU,.aH,.aH]))]⟩
  |m+1=>⟨[(16,.p (.int .i64 ((m+1:Nat):Int))),(15,.p (.int .i64 t.aB.length)),(14,.p (.seq (t.aB.map bn))),(3,.ptr 2 []),(2,.ptr 1 []),(1,.ptr 0 [])],[.box false (.p (.st 35 [.seq (t.cs.map aG),.int .i64 t.aU,.seq (t.aB.map bn),.seq (t.ag.map aR)])),.box false (.p (.st 25 [.aH,.int .i64 0,.aH,.aH])),.box false (.st 25 [.p (.seq (t.cs.map aG)),.p (.int .i64 t.aU),.sl 5 m 4 0 (m+1),.p .aH]),.hole,.hole,.arr .grow m 4 ((t.aB.take (m+1)).map (AV.p∘bn))]⟩) (fun i=>i<=t.aB.length) (fun i=>t.aB.length-i) 0 s_ ?_
 rintro i r
 by_cases hi:i<t.aB.length
 ·have a:=aj.gz hi;rcases i with _|j
  ·have b:=kz a;simp[hi,a,o,aa];exact⟨o_,rd 1 hi (hh:=by simp[b]) (hr2:=by simp[fo])⟩
  ·have h:cy.wrap ((j:Int)+1+1)=(j:Int)+1+1:=aK _ o_ o_;have hI:(j:Int)+1<t.aB.length:=by omega
   have b:=ky (f:=AV.p∘bn) a;simp[hi,hI,a,h,aa];exact⟨o_,⟨o_,o_⟩,rd (j+2) hi (hh:=by simp at b;simp[b]) (hr2:=by simp[fo])⟩
 have s:i=t.aB.length:=o_
 rcases i with _|j
 ·have k:t.aB=[]:=ec.1 s.symm;simp[k,aa];refine lp (α:=Nat) (fun i=>match i with
    |0=>⟨[(30,.p (.int .i64 0)),(29,.p (.int .i64 t.ag.length)),(28,.p (.seq (t.ag.map aR))),(3,.ptr 2 []),(2,.ptr 1 [])],[.box false (.p (.st 35 [.seq (t.cs.map aG),.int .i64 t.aU,.seq (t.aB.map bn),.seq (t.ag.map aR)])),.box false (.p (.st 25 [.aH,.int .i64 0,.aH,.aH])),.box false (.p (.st 25 [.seq (t.cs.map aG),.int .i64 t.aU,.aH,.aH]))]⟩
    |m+1=>⟨[(30,.p (.int .i64 ((m+1:Nat):Int))),(29,.p (.int .i64 t.ag.length)),(28,.p (.seq (t.ag.map aR))),(3,.ptr 2 []),(2,.ptr 1 [])],[.box false (.p (.st 35 [.seq (t.cs.map aG),.int .i64 t.aU,.seq (t.aB.map bn),.seq (t.ag.map aR)])),.box false (.p (.st 25 [.aH,.int .i64 0,.aH,.aH])),.box false (.st 25 [.p (.seq (t.cs.map aG)),.p (.int .i64 t.aU),.p .aH,.sl 5 m 3 0 (m+1)]),.hole,.hole,.arr .grow m 3 ((t.ag.take (m+1)).map (AV.p∘aR))]⟩) (fun i=>i<=t.ag.length) (fun i=>t.ag.length-i) 0 s_ ?_ (hh:=by simp[k])
  rintro i r
  by_cases hi:i<t.ag.length
  ·have a:=aj.dP hi;rcases i with _|q
   ·have b:=kz a;simp[hi,a,o,aa];exact⟨o_,rd 1 hi (hh:=by simp[b]) (hr2:=by simp[fo])⟩
   ·have h:cy.wrap ((q:Int)+1+1)=(q:Int)+1+1:=aK _ o_ o_;have hI:(q:Int)+1<t.ag.length:=by omega
    have b:=ky (f:=AV.p∘aR) a;simp[hi,hI,a,h,aa];exact⟨o_,⟨o_,o_⟩,rd (q+2) hi (hh:=by simp at b;simp[b]) (hr2:=by simp[fo])⟩
  have d:i=t.ag.length:=o_
  rcases i with _|c
  ·have e:t.ag=[]:=ec.1 d.symm;simp[e,aa]
   skip
   simp[cg,k,e]
   skip
  ·have hI:¬((c:Int)+1<t.ag.length):=by omega
   have g:t.ag.take (c+1)=t.ag:=by rw[d,fb]
   simp[hI,g,aa]
   skip
   have n:(t.ag.map (AV.p∘aR)).take (c+1)=t.ag.map (AV.p∘aR):=dp (by simp;omega);simp[cg,k,n];omega
 ·have hI:¬((j:Int)+1<t.aB.length):=by omega
  have g:t.aB.take (j+1)=t.aB:=by rw[s,fb]
  simp[hI,g,aa];refine lp (α:=Nat) (fun i=>match i with
   |0=>⟨[(30,.p (.int .i64 0)),(29,.p (.int .i64 t.ag.length)),(28,.p (.seq (t.ag.map aR))),(3,.ptr 2 []),(2,.ptr 1 [])],[.box false (.p (.st 35 [.seq (t.cs.map aG),.int .i64 t.aU,.seq (t.aB.map bn),.seq (t.ag.map aR)])),.box false (.p (.st 25 [.aH,.int .i64 0,.aH,.aH])),.box false (.st 25 [.p (.seq (t.cs.map aG)),.p (.int .i64 t.aU),.sl 5 j 4 0 (j+1),.p .aH]),.hole,.hole,.arr .grow j 4 (t.aB.map (AV.p∘bn))]⟩
   |m+1=>⟨[(30,.p (.int .i64 ((m+1:Nat):Int))),(29,.p (.int .i64 t.ag.length)),(28,.p (.seq (t.ag.map aR))),(3,.ptr 2 []),(2,.ptr 1 [])],[.box false (.p (.st 35 [.seq (t.cs.map aG),.int .i64 t.aU,.seq (t.aB.map bn),.seq (t.ag.map aR)])),.box false (.p (.st 25 [.aH,.int .i64 0,.aH,.aH])),.box false (.st 25 [.p (.seq (t.cs.map aG)),.p (.int .i64 t.aU),.sl 5 j 4 0 (j+1),.sl 8 m 3 0 (m+1)]),.hole,.hole,.arr .grow j 4 (t.aB.map (AV.p∘bn)),.hole,.hole,.arr .grow m 3 ((t.ag.take (m+1)).map (AV.p∘aR))]⟩) (fun i=>i<=t.ag.length) (fun i=>t.ag.length-i) 0 s_ ?_
  rintro i r
  by_cases hi:i<t.ag.length
  ·have a:=aj.dP hi;rcases i with _|q
   ·have b:=kz a;simp[hi,a,o,aa];exact⟨o_,rd 1 hi (hh:=by simp[b]) (hr2:=by simp[fo])⟩
   ·have h:cy.wrap ((q:Int)+1+1)=(q:Int)+1+1:=aK _ o_ o_;have hI:(q:Int)+1<t.ag.length:=by omega
    have b:=ky (f:=AV.p∘aR) a;simp[hi,hI,a,h,aa];exact⟨o_,⟨o_,o_⟩,rd (q+2) hi (hh:=by simp at b;simp[b]) (hr2:=by simp[fo])⟩
  have d:i=t.ag.length:=o_
  rcases i with _|c
  ·have e:t.ag=[]:=ec.1 d.symm;simp[e,aa];have l:(t.aB.map (AV.p∘bn)).take (j+1)=t.aB.map (AV.p∘bn):=dp (by simp;omega);simp[cg,l,e];omega
  ·have hI:¬((c:Int)+1<t.ag.length):=by omega
   have g:t.ag.take (c+1)=t.ag:=by rw[d,fb]
   simp[hI,g,aa];have l:(t.aB.map (AV.p∘bn)).take (j+1)=t.aB.map (AV.p∘bn):=dp (by simp;omega);have n:(t.ag.map (AV.p∘aR)).take (c+1)=t.ag.map (AV.p∘aR):=dp (by simp;omega);simp[cg,l,n];omega
@[simp] theorem aR7:lO prog 88=true:=k_
@[simp] theorem aSa:lO prog 97=true:=k_
@[simp] theorem aR8:lO prog 64=true:=k_
theorem aQo:prog.stoodInHeld 88=false:=k_
theorem aQp:prog.stoodInHeld 97=false:=k_
theorem UM:prog.stoodInHeld 64=false:=k_
@[simp] theorem aSf{a b:Int}:eA prog 9 64 (.st 63 [.int .i64 a,.int .i64 b]) (.st 63 [.int .i64 a,.int .i64 b])=some true:=by
 have c:=underlying64;simp[eA,c,UM,gv,aP]
@[simp] theorem aSe{a c d:List Nat}{b:Int}:eA prog 9 88 (.st 87 [.str a,.int .i64 b,.str c,.str d]) (.st 87 [.str a,.int .i64 b,.str c,.str d])=some true:=by
 have e:=underlying88;simp[eA,e,aQo,gv,aP]
theorem aKQ{a b:List Nat}:eA prog 8 82 (.st 81 [.str a,.str b]) (.st 81 [.str a,.str b])=some true:=by
 have c:=underlying82;simp[eA,c,QA,gv,aP]
theorem aKR{a:List Nat}:eA prog 8 9 (.str a) (.str a)=some true:=by
 simp[eA]
@[simp] theorem aSh{a b c:List Nat}:eA prog 9 97 (.st 84 [.str a,.st 81 [.str b,.str c]]) (.st 84 [.str a,.st 81 [.str b,.str c]])=some true:=by
 have d:=underlying97;rw[eA.eq_def];simp[d,aQp,gv,aP,aKQ,aKR]
theorem aAN(t:aj)(g:t.cs.length<=1000000)(h:t.aB.length<=1000000)(j:t.ag.length<=1000000):az prog 16 [cg t,cg t] (.bool true):=by
 refine aJ nf (i_ func16) mix (by simp[f16]) ?_;simp[f16,aa];refine lp (α:=Nat) (fun i=>⟨[(5,.p (.int .i64 i)),(3,.ptr 1 []),(2,.ptr 0 [])],[.box false (.p (cg t)),.box false (.p (cg t))]⟩) (fun i=>i<=t.cs.length) (fun i=>t.cs.length-i) 0 s_ ?_;rintro i i1
 by_cases hi:i<t.cs.length
 ·have e:=aj.get hi;have f:=bS (i:=i) o_;generalize t.at i=x at*;obtain⟨a,b⟩:=x;simp[hi,e,f,aa,aG];exact rd (i+1) hi
 obtain rfl:i=t.cs.length:=o_
 simp[aa];refine lp (α:=Nat) (fun i=>⟨[(6,.p (.int .i64 i)),(3,.ptr 1 []),(2,.ptr 0 [])],[.box false (.p (cg t)),.box false (.p (cg t))]⟩) (fun i=>i<=t.aB.length) (fun i=>t.aB.length-i) 0 s_ ?_;rintro i i1
 by_cases hi:i<t.aB.length
 ·have e:=aj.gz hi;have f:=bS (i:=i) o_;generalize t.pk i=x at*;obtain⟨a,b,c,d⟩:=x;simp[hi,e,f,aa,bn];exact rd (i+1) hi
 obtain rfl:i=t.aB.length:=o_
 simp[aa];refine lp (α:=Nat) (fun i=>⟨[(7,.p (.int .i64 i)),(3,.ptr 1 []),(2,.ptr 0 [])],[.box false (.p (cg t)),.box false (.p (cg t))]⟩) (fun i=>i<=t.ag.length) (fun i=>t.ag.length-i) 0 s_ ?_;rintro i i1
 by_cases hi:i<t.ag.length
 ·have e:=aj.dP hi;have f:=bS (i:=i) o_;generalize t.sp i=x at*;obtain⟨a,b,c⟩:=x;simp[hi,e,f,aa,aR,ft];exact rd (i+1) hi
 obtain rfl:i=t.ag.length:=o_
 simp[aa]
noncomputable def ji{α:Type}(a b:α):Bool:=@decide (a=b) (cv _)
theorem qe{α:Type}{a b:α}(h:a=b):ji a b=true:=@decide_eq_true _ (cv _) h
theorem lr{α:Type}{a b:α}(h:¬a=b):ji a b=false:=@decide_eq_false _ (cv _) h
theorem Dr{α:Type}{l m:List α}(h:l.length=m.length)(a:∀j,j<l.length->l[j]?=m[j]?):ji l m=true:=qe (by
 apply gN;intro j
 by_cases c:j<l.length
 ·exact a j c
 ·rw[eo o_,eo o_])
theorem S5{a b c d:Int}:eA prog 9 64 (.st 63 [.int .i64 a,.int .i64 b]) (.st 63 [.int .i64 c,.int .i64 d])=some (decide (a=c/\b=d)):=by
 have e:=underlying64;have:((a==c)&&((b==d)&&true))=decide (a=c/\b=d):=by rw[cb];simp
 rw[<-this];simp[eA,e,UM,gv,aP]
@[simp] theorem aSb:lO prog 91=true:=k_
theorem aQq:prog.stoodInHeld 91=false:=k_
theorem S4{a c d a' c' d':List Nat}{b b':Int}:eA prog 9 91 (.st 87 [.str a,.int .i64 b,.str c,.str d]) (.st 87 [.str a',.int .i64 b',.str c',.str d'])=some (decide (a=a'/\b=b'/\c=c'/\d=d')):=by
 have e:=underlying91;have:((a==a')&&((b==b')&&((c==c')&&((d==d')&&true))))=decide (a=a'/\b=b'/\c=c'/\d=d'):=by rw[cb];simp
 rw[<-this];simp[eA,e,aQq,gv,aP]
theorem aA1(l m:List bU)(hl:l.length<=1000000)(s:m.length<=1000000):az prog 116 [.seq (l.map aG),.seq (m.map aG)] (.bool (ji l m)):=by
 refine aJ nf (i_ func116) mix (by simp[f116]) ?_
 by_cases n:l.length=m.length
 case neg=>
  have hi:¬(l.length:Int)=m.length:=o_
  rw[lr (fun h=>n (by rw[h]))];simp[f116,aa,hi]
 have hi:(m.length:Int)=l.length:=o_
 generalize g:ji l m=R;simp[f116,aa,hi];refine lp (α:=Nat) (fun i=>⟨[(13,.p (.int .i64 i)),(12,.p (.int .i64 l.length)),(1,.p (.seq (m.map aG))),(0,.p (.seq (l.map aG)))],[]⟩) (fun i=>i<=l.length/\∀j,j<i->l[j]?=m[j]?) (fun i=>l.length-i) 0 s_ ?_;rintro i ⟨i1,i2⟩
 by_cases hi:i<l.length
 ·obtain⟨x,d⟩:∃x,l[i]?=some x:=⟨_,dl hi⟩
  obtain⟨y,f⟩:∃y,m[i]?=some y:=⟨_,dl o_⟩
  have hx:l[i]=x:=by rw[dl hi]at d;injection d
  have o:=bS (i:=i) o_;have q:¬x=y->R=false:=fun h=>by
   rw[<-g];exact lr (fun e=>h (by rw[e,f]at d;injection d with d;exact d.symm))
  have r:x=y->l[i]?=m[i]?:=fun h=>by rw[d,f,h]
  obtain⟨a,b⟩:=x;obtain⟨a',b'⟩:=y
  by_cases c:a=a'/\b=b'
  ·have c':(a=a'/\b=b')=True:=by simp[c]
   have:=r (by obtain⟨rfl,rfl⟩:=c;rfl);simp[hi,d,f,hx,o,aa,aG,S5,c];exact rd (i+1) ⟨hi,fun j k=>by
    by_cases e:j=i
    ·subst e;exact this
    ·exact i2 j o_⟩
  ·have:=q (fun h=>c (by injection h;simp[*]));subst this;simp[hi,d,f,hx,o,aa,aG,S5,c]
 ·obtain rfl:i=l.length:=by omega
  rw[Dr n (fun j k=>i2 j k)]at g;subst g;simp[aa]
theorem aAW(l m:List bZ)(hl:l.length<=1000000)(u:m.length<=1000000):az prog 117 [.seq (l.map bn),.seq (m.map bn)] (.bool (ji l m)):=by
 refine aJ nf (i_ func117) mix (by simp[f117]) ?_
 by_cases q:l.length=m.length
 case neg=>
  have hi:¬(l.length:Int)=m.length:=o_
  rw[lr (fun h=>q (by rw[h]))];simp[f117,aa,hi]
 have hi:(m.length:Int)=l.length:=o_
 generalize k:ji l m=R;simp[f117,aa,hi];refine lp (α:=Nat) (fun i=>⟨[(13,.p (.int .i64 i)),(12,.p (.int .i64 l.length)),(1,.p (.seq (m.map bn))),(0,.p (.seq (l.map bn)))],[]⟩) (fun i=>i<=l.length/\∀j,j<i->l[j]?=m[j]?) (fun i=>l.length-i) 0 s_ ?_;rintro i ⟨i1,i2⟩
 by_cases hi:i<l.length
 ·obtain⟨x,f⟩:∃x,l[i]?=some x:=⟨_,dl hi⟩
  obtain⟨y,g⟩:∃y,m[i]?=some y:=⟨_,dl o_⟩
  have hx:l[i]=x:=by rw[dl hi]at f;injection f
  have r:=bS (i:=i) o_;have s:¬x=y->R=false:=fun h=>by
   rw[<-k];exact lr (fun e=>h (by rw[e,g]at f;injection f with f;exact f.symm))
  have t:x=y->l[i]?=m[i]?:=fun h=>by rw[f,g,h]
  obtain⟨a,b,c1,d⟩:=x;obtain⟨a',b',n,d'⟩:=y
  by_cases c:a=a'/\b=b'/\c1=n/\d=d'
  ·have c':(a=a'/\b=b'/\c1=n/\d=d')=True:=by simp[c]
   have:=t (by obtain⟨rfl,rfl,rfl,rfl⟩:=c;rfl);simp[hi,f,g,hx,r,aa,bn,S4,c];exact rd (i+1) ⟨hi,fun j o=>by
    by_cases e:j=i
    ·subst e;exact this
    ·exact i2 j o_⟩
  ·have:=s (fun h=>c (by injection h;simp[*]));subst this;simp[hi,f,g,hx,r,aa,bn,S4,c]
 ·obtain rfl:i=l.length:=by omega
  rw[Dr q (fun j o=>i2 j o)]at k;subst k;simp[aa]
@[simp] theorem aR9:lO prog 274=true:=k_
theorem aLu:(prog.info? 73).isSome=true:=k_
@[simp] theorem aSg{a b c d:List Nat}:eA prog 9 274 (.st 274 [.str a,.str b]) (.st 274 [.str c,.str d])=some (decide (a=c/\b=d)):=by
 have:((a==c)&&((b==d)&&true))=decide (a=c/\b=d):=by rw[cb];simp
 rw[<-this];simp[eA,aLu,gv,aP]
theorem Ws(s o:bR):az prog 119 [aR s,aR o] (.bool (ji s o)):=by
 obtain⟨a,b,c⟩:=s;obtain⟨a',b',c'⟩:=o;refine aJ nf (i_ func119) mix (by simp[f119]) ?_
 by_cases h:a=a'
 ·subst h
  by_cases d:b=b'/\c=c'
  ·obtain⟨rfl,rfl⟩:=d;rw[qe rfl];simp[f119,aa,aR,ft]
  ·rw[lr (fun e=>d (by injection e with _ e;injection e with e1 e2;exact⟨e1,e2⟩))];simp[f119,aa,aR,ft,d]
 ·rw[lr (fun e=>h (by injection e))];simp[f119,aa,aR,ft,h]
theorem aBg(l m:List bR)(hl:l.length<=1000000)(n:m.length<=1000000):az prog 118 [.seq (l.map aR),.seq (m.map aR),.func 119 [] []] (.bool (ji l m)):=by
 refine aJ nf (i_ func118) mix (by simp[f118]) ?_
 by_cases k:l.length=m.length
 case neg=>
  have hi:¬(l.length:Int)=m.length:=o_
  rw[lr (fun h=>k (by rw[h]))];simp[f118,aa,hi]
 have hi:(m.length:Int)=l.length:=o_
 generalize d:ji l m=R;simp[f118,aa,hi];refine lp (α:=Nat) (fun i=>⟨[(17,.p (.int .i64 i)),(16,.p (.int .i64 l.length)),(15,.p (.seq (l.map aR))),(2,.p (.func 119 [] [])),(1,.p (.seq (m.map aR)))],[]⟩) (fun i=>i<=l.length/\∀j,j<i->l[j]?=m[j]?) (fun i=>l.length-i) 0 s_ ?_;rintro i ⟨i1,i2⟩
 by_cases hi:i<l.length
 ·obtain⟨x,a⟩:∃x,l[i]?=some x:=⟨_,dl hi⟩
  obtain⟨y,b⟩:∃y,m[i]?=some y:=⟨_,dl o_⟩
  have hx:l[i]=x:=by rw[dl hi]at a;injection a
  have f:=bS (i:=i) o_;have kS:=Ws x y
  by_cases c:x=y
  ·rw[qe c]at kS;simp[hi,a,b,hx,f,aa];refine c2_ kS ?_;simp[aa,f];exact rd (i+1) ⟨hi,fun j g=>by
    by_cases e:j=i
    ·subst e;rw[a,b,c]
    ·exact i2 j o_⟩
  ·rw[lr c]at kS;rw[lr (fun e=>c (by rw[e,b]at a;injection a with a;exact a.symm))]at d;subst d;simp[hi,a,b,hx,f,aa];refine c2_ kS ?_;simp[aa]
 ·obtain rfl:i=l.length:=by omega
  rw[Dr k (fun j g=>i2 j g)]at d;subst d;simp[aa]
theorem Jb{t:aj}:(im t).cs.length=t.cs.length/\(im t).aB.length=t.aB.length/\(im t).ag.length=t.ag.length:=by
 refine⟨?_,?_,?_⟩
 ·rw[im,ej,ed,ei];omega
 ·rw[im,rV _ _ _ (by rw[dk];exact hp _)]
 ·rw[im,rV _ _ _ (hp _)]
noncomputable def zK(a b:aj):Bool:=ji (im a) (im b)
theorem Wy(a b:aj):(decide (a.aU=b.aU)&&(ji a.cs b.cs&&(ji a.aB b.aB&&ji a.ag b.ag)))=ji a b:=by
 obtain⟨c1,g,c,s1⟩:=a;obtain⟨c2,i,d,s2⟩:=b
 by_cases h:(⟨c1,g,c,s1⟩:aj)=⟨c2,i,d,s2⟩
 ·rw[qe h];injection h with j k l m
  simp only;rw[qe j,qe l,qe m,decide_eq_true k];rfl
 ·rw[lr h];simp only
  by_cases q1:c1=c2
  ·by_cases e:g=i
   ·by_cases f:c=d
    ·by_cases q4:s1=s2
     ·exact absurd (by rw[q1,e,f,q4]) h
     ·rw[lr q4];simp
    ·rw[lr f];simp
   ·rw[decide_eq_false e];simp
  ·rw[lr q1];simp
theorem Wr(t b:aj)(m:gH t)(l:gH b)(hs:fQ t=true)(p:fQ b=true):az prog 38 [bJ t,bJ b] (.aD [.bool (if bQ [b9 t,b9 b]=0 then zK t b else false),.int .i64 (bQ [b9 t,b9 b])]):=by
 have k1:=ue t m;have k2:=ue b l;have k3:=nE [b9 t,b9 b] s_;refine aJ nf (i_ func38) mix (by simp[f38]) ?_
 by_cases c:bQ [b9 t,b9 b]=0
 ·obtain⟨e1,e2⟩:b9 t=0/\b9 b=0:=by
   by_cases h:b9 t=0
   ·refine⟨h,?_⟩
    by_cases i:b9 b=0
    ·exact i
    ·simp[bQ,h,i]at c
   ·simp[bQ,h]at c
  have q1:=Jj t m e1 hs;have n:=Jj b l e2 p;rw[if_pos c,c];rw[e1]at k1 k3;rw[e2]at k2 k3;have q:=Jb (t:=t);have r:=Jb (t:=b);obtain⟨E,F⟩:=w8 e1;obtain⟨G,H⟩:=w8 e2;obtain⟨C,D,_⟩:=nB e1;obtain⟨m1,m2,_⟩:=nB e2;have a:=Wy (im t) (im b);rw[show ji (im t) (im b)=zK t b from rfl]at a;rw[show bQ [(0:Int),0]=0 from rfl]at k3;have eT:∀x:aj,bJ x=.st 35 [.seq (x.cs.map aG),.int .i64 x.aU,.seq (x.aB.map bn),.seq (x.ag.map aR)]:=fun _=>rfl;rw[eT (im t)]at q1;rw[eT (im b)]at n;generalize im t=x at*;generalize im b=y at*;have d:=aA1 x.cs y.cs o_ o_;have f:=aAW x.aB y.aB o_ o_;have g:=aBg x.ag y.ag o_ o_;simp[f38,aa];refine e1_ k1 ?_;simp[aa];refine e1_ k2 ?_;simp[aa];refine ep k3 (by simp;first|exact⟨rfl,rfl⟩|rfl) (by simp;first|exact⟨rfl,rfl⟩|rfl) ?_;simp[aa];refine⟨by repeat' first|rfl|apply b3,?_⟩;refine e1_ q1 ?_;simp[aa];refine e1_ n ?_;simp[aa];refine⟨by repeat' first|rfl|apply b3,?_⟩;obtain⟨s,v,u,xs⟩:=x;obtain⟨w,A,z,B⟩:=y;simp only at d f g a q r⊢
  by_cases c1:v=A
  case neg=>
   rw[decide_eq_false c1]at a;rw[<-a];simp[c1,aa]
  rw[decide_eq_true c1]at a;subst c1;simp[aa];rcases j:ji s w with _|_
  ·rw[j]at d a;rw[<-a];refine c2_ d ?_;simp[aa]
  rw[j]at d a;refine c2_ d ?_;simp[aa];rcases k:ji u z with _|_
  ·rw[k]at f a;rw[<-a];refine c2_ f ?_;simp[aa]
  rw[k]at f a;refine c2_ f ?_;simp[aa];rcases o:ji xs B with _|_<;>
  ·rw[o]at g a;rw[<-a];refine c3_ g ?_;simp[aa]
 ·rw[if_neg c];generalize a:bQ [b9 t,b9 b]=e at*;simp[f38,aa];refine e1_ k1 ?_;simp[aa];refine e1_ k2 ?_;simp[aa];refine ep k3 (by simp;first|exact⟨rfl,rfl⟩|rfl) (by simp;first|exact⟨rfl,rfl⟩|rfl) ?_;simp[aa,c];rfl
def hl(J:Heap):Nat:=J.length
def Cj(J r:Heap):Heap:=J++r
@[simp] theorem aSR:hl []=0:=rfl
@[simp] theorem aTB{N:Nat×Nat->Prop}{q:List bZ}:aV N (cL q)=True:=by
 rw[cB,eq_iff_iff,iff_true];intro x hx;obtain⟨a,_,rfl⟩:=dz.1 hx;trivial
@[simp] theorem aTC{N:Nat×Nat->Prop}{q:List bR}:aV N (dt q)=True:=by
 rw[cB,eq_iff_iff,iff_true];intro x hx;obtain⟨a,_,rfl⟩:=dz.1 hx;trivial
theorem KY(t:aj){i:Nat}(hi:i<t.cs.length)(a:t.L<t.cs.length):(t.cs.drop t.L++t.cs.take t.L)[i]?=some (t.at ((t.L+i)% t.cs.length)):=by
 rw[gp]
 split
 ·rename_i h;rw[ed]at h;rw[gA,ht o_];exact aj.get o_
 ·rename_i h;rw[ed]at h;rw[ed,gy,if_pos o_,hv o_,ht o_,show i-(t.cs.length-t.L)=t.L+i-t.cs.length by omega];exact aj.get o_
theorem mG{t:aj}{i:Nat}(hi:i<t.cs.length):t.nx i=if i+1<t.cs.length then i+1 else 0:=by
 rw[aj.nx]
 split
 ·exact ht o_
 ·rw[show i+1=t.cs.length from by omega,Nat.mod_self]
theorem I1(v w:V2):∀k,(dM v k).sub (dM w k)=dM (v.sub w) k
 |0=>rfl
 |k+1=>by
  rw[dM,dM,dM,<-I1 v w k];simp only[V2.sub,V2.mk.injEq];exact⟨by grind,trivial⟩
def aj.vc(t:aj)(j:Nat):V2:=(dU (t.at j)).sub (dU (t.at 0))
def aj.lf(t:aj)(u:V2)(i j:Nat):Rat:=(t.vc j).er u-(t.vc i).er u+(t.vc i).er (t.vc j)
theorem wQ{s:aj}{v:V2}{k:Int}(hk:k<=1):∀m,k<=s.lU v m↔∀i,i<m->k<=s.side i v
 |0=>by simp[aj.lU];exact hk
 |m+1=>by
  rw[aj.zk];have a:=wQ (s:=s) (v:=v) hk m;constructor
  ·intro h i hi
   by_cases c:i=m
   ·subst c;omega
   ·exact a.1 o_ i o_
  ·intro h;have:=a.2 (fun i hi=>h i o_);have:=h m o_;omega
theorem zI(s:aj)(v:V2):s.on v<=1:=by
 rcases s.Jx v s.cs.length with h|h|h<;>(rw[aj.on];omega)
theorem C7{t:aj}(h:b9 t=0):3<=t.cs.length/\t.cs.length<=12/\(∀p∈t.cs,dd p=false)/\t.eS=true/\1<=t.aU/\t.aU<=1000:=by
 obtain⟨a,b,_,c⟩:=nB h;obtain⟨e,f⟩:=zC h;refine⟨a,b,?_,c,e,f⟩;rw[b9]at h
 split at h
 ·cases h
 split at h
 ·cases h
 split at h
 ·cases h
 rename_i q;intro p d;cases hq:dd p
 ·rfl
 ·exact absurd (eb.2 ⟨p,d,hq⟩) q
def aj.rj(t:aj):Nat->Int
 |0=>0
 |m+1=>t.rj m+((t.at m).x*(t.at (m+1)).y-(t.at m).y*(t.at (m+1)).x)
def yC(a b:bU):Int:=a.x*b.y-a.y*b.x
theorem KX{t:aj}:∀m,m<t.cs.length->t.jm m=t.rj m
 |0,_=>rfl
 |m+1,h=>by
  rw[aj.jm,aj.rj,KX m o_,mG o_,if_pos h];omega
theorem Wv{t:aj}(h:0<t.cs.length):t.jm t.cs.length=t.rj (t.cs.length-1)+yC (t.at (t.cs.length-1)) (t.at 0):=by
 obtain⟨m,a⟩:∃m,t.cs.length=m+1:=⟨t.cs.length-1,o_⟩
 have e:t.jm (m+1)=t.jm m+(t.at m).x*(t.at (t.nx m)).y-(t.at m).y*(t.at (t.nx m)).x:=rfl;rw[KX m o_,mG o_,if_neg o_]at e;rw[a,show m+1-1=m from rfl,e,yC];omega
def aQ.gZ(m:aQ)(v:V2):V2:=dM (m.gw v) m.n
theorem IG(v w:V2):∀k,(dM v k).dot (dM w k)=v.dot w
 |0=>rfl
 |k+1=>by
  rw[<-IG v w k,dM,dM];simp only[V2.dot]
  grind
theorem IL(v w:V2):∀k,(dM v k).er (dM w k)=v.er w
 |0=>rfl
 |k+1=>by
  rw[<-IL v w k,dM,dM];simp only[V2.er]
  grind
theorem Dn(m:aQ)(v w:V2):(m.gZ v).dot (m.gZ w)=v.dot w:=by
 rw[aQ.gZ,aQ.gZ,IG,aQ.gw,aQ.gw]
 split
 ·simp only[V2.dot];grind
 ·rfl
theorem Je(m:aQ)(v w:V2):(m.gZ v).er (m.gZ w)=if m.fV=true then -(v.er w)else v.er w:=by
 rw[aQ.gZ,aQ.gZ,IL,aQ.gw,aQ.gw]
 split
 ·simp only[V2.er];grind
 ·rfl
theorem aOS(m:aQ)(v w:V2):(m.gZ v).sub (m.gZ w)=m.gZ (v.sub w):=by
 rw[aQ.gZ,aQ.gZ,I1,aQ.gZ];congr 1;rw[aQ.gw,aQ.gw,aQ.gw]
 split
 ·simp only[V2.sub,V2.mk.injEq,and_true];grind
 ·rfl
theorem mA(m:aQ)(v w:V2):(m.pl v).sub (m.pl w)=m.gZ (v.sub w):=by
 rw[<-aOS,aQ.pl,aQ.pl];simp only[V2.sub,V2.add,aQ.gZ,V2.mk.injEq]
 grind
theorem I2(v:V2)(s:Rat):∀k,dM (v.mul s) k=(dM v k).mul s
 |0=>rfl
 |k+1=>by
  rw[dM,I2 v s k,dM];simp only[V2.mul,V2.mk.injEq,and_true]
  grind
theorem JC(m:aQ)(v:V2)(s:Rat):m.gZ (v.mul s)=(m.gZ v).mul s:=by
 rw[aQ.gZ,aQ.gZ,<-I2];congr 1;rw[aQ.gw,aQ.gw]
 split
 ·simp only[V2.mul,V2.mk.injEq,and_true];grind
 ·rfl
theorem KD(p:bU):∀k,dU (eh p k)=dM (dU p) k
 |0=>rfl
 |k+1=>by
  rw[eh,dM,<-KD p k];simp only[dU,V2.mk.injEq,hA,and_self]
theorem oF(m:aQ)(p:bU):dU (m.pt p)=m.pl (dU p):=by
 have h:dU (m.kU p)=m.gw (dU p):=by
  rw[aQ.kU,aQ.gw]
  split
  ·simp only[dU,hA]
  ·rfl
 rw[aQ.pl,<-h,<-KD,aQ.pt];simp only[dU,V2.add,Rat.intCast_add]
def aQ.em(m:aQ)(n i:Nat):Nat:=if m.fV then n-1-i else i
theorem fW(m:aQ)(t:aj):(cA m t).cs.length=t.cs.length:=by rw[cA,aQ.cs];simp
theorem jc(m:aQ){t:aj}{i:Nat}(h:i<t.cs.length):(cA m t).at i=m.pt (t.at (m.src t.cs.length i)):=by
 rw[aj.at,eq,cA,aQ.cs];simp only;rw[ea,List.getElem?_range h];rfl
theorem Dz(m:aQ){n i:Nat}(h:i<n):m.src n i<n:=by
 rw[aQ.src];split
 ·split<;>omega
 ·exact h
theorem xd(m:aQ){n i:Nat}(h:i<n):m.em n i<n:=by
 rw[aQ.em];split<;>omega
theorem aKL(m:aQ){n i:Nat}(h:i<n):m.em n (m.em n i)=i:=by
 rw[aQ.em,aQ.em];split<;>omega
theorem wU(m:aQ){t:aj}{i:Nat}:(cA m t).nx i=t.nx i:=by rw[aj.nx,aj.nx,fW]
theorem Da(m:aQ){t:aj}{i:Nat}(h:i<t.cs.length):
 if m.fV=true then m.src t.cs.length i=t.nx (m.em t.cs.length i)/\m.src t.cs.length (t.nx i)=m.em t.cs.length i
 else m.src t.cs.length i=m.em t.cs.length i/\m.src t.cs.length (t.nx i)=t.nx (m.em t.cs.length i):=by
 have e1:=xd m h;rw[mG e1,mG h];rcases a:m.fV with _|_
 ·simp[aQ.src,aQ.em,a]
 ·simp only[aQ.src,aQ.em,a,if_true];constructor
  ·split
   ·split<;>omega
   ·split<;>omega
  ·split
   ·split<;>omega
   ·simp;omega
theorem zB(m:aQ){n i k:Nat}(hi:i<n)(hk:k<n)(h:m.src n i=m.src n k):i=k:=by
 rw[aQ.src,aQ.src]at h
 split at h
 ·split at h<;>split at h<;>omega
 ·exact h
def aj.rA(t:aj)(i:Nat)(v:V2):Rat:=(t.cw i).er (v.sub (dU (t.at i)))
theorem Lm(m:aQ){t:aj}{i:Nat}(h:i<t.cs.length)(v:V2):(cA m t).rA i (m.pl v)=t.rA (m.em t.cs.length i) v:=by
 have b:t.nx i<t.cs.length:=t.iT o_ i;have a:=Da m h;rw[aj.rA,aj.rA,aj.cw,aj.cw,wU,jc m h,jc m b,oF,oF,mA,mA,Je];generalize m.em t.cs.length i=e at*;rcases hm:m.fV with _|_
 ·rw[hm]at a;simp only[ce,if_false]at a⊢;rw[a.1,a.2]
 ·rw[hm]at a;simp only[if_true]at a⊢;rw[a.1,a.2];simp only[V2.er,V2.sub]
  grind
theorem JM(m:aQ){t:aj}{i:Nat}(h:i<t.cs.length)(v:V2):(cA m t).side i (m.pl v)=t.side (m.em t.cs.length i) v:=by
 have:=Lm m h v;rw[aj.rA,aj.rA]at this;rw[aj.side,aj.side,this]
theorem Lj(m:aQ)(t:aj)(v:V2):(cA m t).on (m.pl v)=t.on v:=by
 have h:∀k:Int,k<=1->(k<=(cA m t).on (m.pl v)↔k<=t.on v):=fun k hk=>by
  rw[aj.on,aj.on,wQ hk,wQ hk,fW];constructor
  ·intro h i hi;have:=h (m.em t.cs.length i) (xd m hi)
   rwa [JM m (xd m hi),aKL m hi]at this
  ·intro h i hi;rw[JM m hi];exact h _ (xd m hi)
 have a:=zI (cA m t) (m.pl v);have b:=zI t v;have c:=(h _ a).1 (da _);have d:=(h _ b).2 (da _);omega
theorem wP(a b c:bU):((gF a b c:Int):Rat)=((dU b).sub (dU a)).er ((dU c).sub (dU a)):=by
 simp only[V2.er,V2.sub,dU,gF,Rat.intCast_sub,Rat.intCast_mul]
theorem Wl(m:aQ){t:aj}(hc:t.eS=true):(cA m t).eS=true:=by
 rw[aj.eS,decide_eq_true_eq]at hc⊢;intro i hi k hk k1 k2;rw[fW]at hi hk;rw[wU]at k2⊢;have b:t.nx i<t.cs.length:=t.iT o_ i;have a:=Da m hi;have hx:=hc (m.em t.cs.length i) (xd m hi) (m.src t.cs.length k) (Dz m hk) (by
  intro e
  split at a
  ·exact k2 (zB m hk b (by rw[e,a.2]))
  ·exact k1 (zB m hk hi (by rw[e,a.1]))) (by
  intro e
  split at a
  ·exact k1 (zB m hk hi (by rw[e,a.1]))
  ·exact k2 (zB m hk b (by rw[e,a.2])))
 have hq:=Lm m hi (dU (t.at (m.src t.cs.length k)));rw[aj.rA,aj.rA,aj.cw,aj.cw,wU,<-oF,<-jc m hk,<-wP,<-wP]at hq;have:=hB.1 hq;rw[this];exact hx
theorem wK{n:Nat}{c:List bZ}{p:bZ}:fy n c p=0↔isName p.name=true/\(∀o∈c,o.name≠p.name)/\0<=p.bH/\p.bH<n/\bK p.a=0/\bK p.b=0/\dH (aI p.a)=0/\dH (aI p.b)=0/\¬0<dx (aI p.a) (aI p.b)/\(∀o∈c,fO o p=false):=by
 rw[fy];have m:=zj (aI p.a);have q:=zj (aI p.b)
 by_cases c1:isName p.name=false
 ·simp[c1]
 rw[if_neg c1]
 by_cases c2:(c.any fun o=>decide (o.name=p.name))=true
 ·rw[if_pos c2];rw[eb]at c2;obtain⟨o,d,g⟩:=c2;constructor
  ·intro h;cases h
  ·intro h;exact absurd (of_decide_eq_true g) (h.2.1 o d)
 rw[if_neg c2];have k:∀o∈c,o.name≠p.name:=fun o d e=>c2 (eb.2 ⟨o,d,decide_eq_true e⟩)
 by_cases c3:p.bH<0\/(n:Int)<=p.bH
 ·rw[if_pos c3];constructor
  ·intro h;cases h
  ·intro h;omega
 rw[if_neg c3]
 by_cases c4:bK p.a=0
 case neg=>simp[c4]
 by_cases c5:bK p.b=0
 case neg=>simp[c4,c5]
 simp only[c4,c5,ne_eq,not_true_eq_false,if_false]
 by_cases i:dH (aI p.a)=0
 case neg=>
  have:max (dH (aI p.a)) (dH (aI p.b))=3:=o_
  simp[this,i]
 by_cases j:dH (aI p.b)=0
 case neg=>
  have:max (dH (aI p.a)) (dH (aI p.b))=3:=o_
  simp[this,j]
 have:max (dH (aI p.a)) (dH (aI p.b))=0:=o_
 simp only[this,not_true_eq_false,if_false]
 by_cases f:0<dx (aI p.a) (aI p.b)
 ·rw[if_pos f];constructor
  ·intro h;cases h
  ·intro h;exact absurd f h.2.2.2.2.2.2.2.2.1
 rw[if_neg f]
 by_cases c9:(c.any fun o=>fO o p)=true
 ·rw[if_pos c9];rw[eb]at c9;obtain⟨o,d,g⟩:=c9;constructor
  ·intro h;cases h
  ·intro h;have:=h.2.2.2.2.2.2.2.2.2 o d;rw[this]at g;cases g
 rw[if_neg c9];have l:∀o∈c,fO o p=false:=fun o d=>by
  cases e:fO o p
  ·rfl
  ·exact absurd (eb.2 ⟨o,d,e⟩) c9
 exact⟨fun _=>⟨by simpa using c1,k,o_,o_,trivial,trivial,i,j,f,l⟩,fun _=>rfl⟩
theorem Dd{t:aj}{a:List bR}{s:bR}:gG t a s=0↔isName s.name=true/\(∀o∈a,o.name≠s.name)/\df s.pt=0/\0<=t.on (vP s.pt):=by
 rw[gG]
 by_cases c1:isName s.name=false
 ·simp[c1]
 rw[if_neg c1]
 by_cases c2:(a.any fun o=>decide (o.name=s.name))=true
 ·rw[if_pos c2];rw[eb]at c2;obtain⟨o,b,d⟩:=c2;constructor
  ·intro h;cases h
  ·intro h;exact absurd (of_decide_eq_true d) (h.2.1 o b)
 rw[if_neg c2];have c:∀o∈a,o.name≠s.name:=fun o b e=>c2 (eb.2 ⟨o,b,decide_eq_true e⟩)
 by_cases c3:df s.pt=0
 case neg=>simp[c3]
 simp only[c3,ne_eq,not_true_eq_false,if_false]
 by_cases c4:t.on (vP s.pt)<0
 ·rw[if_pos c4];constructor
  ·intro h;cases h
  ·intro h;omega
 ·rw[if_neg c4];exact⟨fun _=>⟨by simpa using c1,c,trivial,o_⟩,fun _=>rfl⟩
theorem mb{t:aj}:b9 t=0↔3<=t.cs.length/\t.cs.length<=12/\(∀p∈t.cs,dd p=false)/\t.eS=true/\1<=t.aU/\t.aU<=1000/\t.aB.length<=12/\(∀j p,t.aB[j]?=some p->fy t.cs.length (t.aB.take j) p=0)/\t.ag.length<=256/\(∀j s,t.ag[j]?=some s->gG t (t.ag.take j) s=0):=by
 constructor
 ·intro h;obtain⟨a,b,c,d,e,f⟩:=C7 h;obtain⟨g,i⟩:=w8 h;refine⟨a,b,c,d,e,f,g,?_,i,?_⟩
  ·intro j p m;obtain⟨l,rfl⟩:=e8.1 m;rw[aj.Ct l];exact KH h l
  ·intro j s hs;obtain⟨l,rfl⟩:=e8.1 hs;rw[aj.rM l];exact KB h l
 ·rintro⟨a,b,c,d,e,f,g,h,i,k⟩;have n:jX (fy t.cs.length) t.aB=0:=by
   rw[l9];intro j l;rw[fP,dl l];exact h j _ (dl l)
  have o:jX (gG t) t.ag=0:=by
   rw[l9];intro j l;rw[fP,dl l];exact k j _ (dl l)
  have q:¬t.cs.any dd=true:=fun h=>by
   rw[eb]at h;obtain⟨p,m,hf⟩:=h;rw[c p m]at hf;cases hf
  rw[b9,if_neg o_,if_neg o_,if_neg q,if_neg (by rw[d];simp),if_neg o_,if_neg o_,if_neg (by rw[n];simp),if_neg o_,o]
theorem Dg{q:Rat}:dH q=0↔0<=q/\q<=1:=by
 rw[aQk,fN,dx];have a:¬q<0↔0<=q:=by grind
 have b:¬1<q↔q<=1:=by grind
 constructor
 ·rintro⟨c,e⟩;refine⟨?_,?_⟩
  ·rw[<-a];intro h;rw[if_pos h]at c;simp at c
  ·rw[<-b];intro h;have d:¬q<1:=by grind
   have f:¬q=1:=by grind
   rw[if_neg d,if_neg f]at e;simp at e
 ·rintro⟨c,e⟩;refine⟨?_,?_⟩
  ·rw[if_neg (a.2 c)];split<;>simp
  ·by_cases d:q<1
   ·rw[if_pos d];simp
   ·have:q=1:=by grind
    rw[if_neg d,if_pos this];simp
theorem zz{x y:Rat}:dx x y<=0↔x<=y:=by
 rw[dx]
 by_cases h:x<y
 ·simp[h];grind
 ·by_cases a:x=y
  ·simp[a]
  ·simp[h,a];grind
def pT(k:Nat)(t:aj):Prop:=(∀p∈t.aB,bE k (aI p.a)/\bE k (aI p.b))/\(∀s∈t.ag,bP k (vP s.pt))
theorem mC{n:Nat}{p:bZ}:aI (gB n p).a=1-aI p.b/\aI (gB n p).b=1-aI p.a:=by
 simp only[gB,yz,and_self]
theorem nI{k:Nat}{q:Rat}(h:bE k q):bE (k+2) (1-q):=by
 have:=uD (a:=1) (b:=k) (x:=1) (y:=q) ⟨by decide,by decide⟩ h;exact this.mono o_
theorem aP3{n k:Nat}{e:List bZ}{p:bZ}(h:fy n e p=0)(f:bE k (aI p.a)/\bE k (aI p.b))(hk:k<=1700):fy n (e.map (gB n)) (gB n p)=0:=by
 rw[wK]at h⊢;obtain⟨g,a2,a3,a4,a5,m,j,l,a9,i⟩:=h;rw[Dg]at j l;have r:aI p.a<=aI p.b:=zz.1 o_;rw[mC.1,mC.2,Dg,Dg];refine⟨g,?_,?_,?_,(vH (nI f.2) o_).2,(vH (nI f.1) o_).2,by grind,by grind,?_,?_⟩
 ·intro o d;obtain⟨q,hq,rfl⟩:=dz.1 d;exact a2 q hq
 ·simp only[gB];omega
 ·simp only[gB];omega
 ·have:dx (1-aI p.b) (1-aI p.a)<=0:=zz.2 (by grind);omega
 ·intro o d;obtain⟨q,hq,rfl⟩:=dz.1 d;have c:=i q hq;rw[fO,b5,b5,decide_eq_false_iff_not,decide_eq_false_iff_not,decide_eq_false_iff_not,zz,zz]at c⊢;rw[mC.1,mC.2,mC.1,mC.2];simp only[gB];rcases c with c|c|c
  ·left;omega
  ·right;right;grind
  ·right;left;grind
theorem ln(m:aQ)(t:aj):(cA m t).aB=if m.fV=true then t.aB.map (gB t.cs.length)else t.aB:=by rw[cA,aQ.aB]
theorem C8{t:aj}{m:aQ}:gR t m=0↔dd m.cw=false/\∀p∈t.cs,dd (m.pt p)=false:=by
 rw[gR];constructor
 ·intro h
  split at h
  ·cases h
  rename_i a
  split at h
  ·cases h
  rename_i b;refine⟨by simpa using a,fun p c=>?_⟩;cases e:dd (m.pt p)
  ·rfl
  ·exact absurd (eb.2 ⟨p,c,e⟩) b
 ·rintro⟨a,b⟩;rw[if_neg (by rw[a];simp),if_neg];intro h;rw[eb]at h;obtain⟨p,c,hf⟩:=h;rw[b p c]at hf;cases hf
theorem aQs{m:aQ}{t:aj}{k:Nat}{a:List bR}{s:bR}(h:gG t a s=0)(hs:bP k (vP s.pt))(hk:k<=1700)(d:bV m.cw):gG (cA m t) (a.map m.sp) (m.sp s)=0:=by
 rw[Dd]at h⊢;obtain⟨b,a2,a3,a4⟩:=h;refine⟨b,?_,(zh (nG hs d) o_).2,?_⟩
 ·intro o c;obtain⟨q,hq,rfl⟩:=dz.1 c;exact a2 q hq
 ·rw[aQ.sp];simp only[Hl,Lj];exact a4
theorem Ds{m:aQ}{t:aj}{k:Nat}(h:b9 t=0)(c:gR t m=0)(hs:pT k t)(hk:k<=1700):b9 (cA m t)=0:=by
 have o:=(rT c).1;rw[mb]at h⊢;rw[C8]at c;obtain⟨g,a2,a3,a4,a5,n,e,f,a9,l⟩:=h;rw[fW];refine⟨g,a2,?_,Wl m a4,a5,n,?_,?_,?_,?_⟩
 ·intro p a;rw[cA,aQ.cs]at a;obtain⟨i,hi,rfl⟩:=dz.1 a;rw[hg]at hi;exact c.2 _ (dq (aj.get (Dz m hi)))
 ·rw[ln];split
  ·rw[dk];exact e
  ·exact e
 ·intro j p a;rw[ln]at a⊢
  split
  ·rename_i d;rw[if_pos d,ea]at a;obtain⟨q,hq,rfl⟩:=hw.1 a;rw[<-e9];exact aP3 (f j q hq) (hs.1 q (dq hq)) hk
  ·rename_i d;rw[if_neg d]at a;exact f j p a
 ·rw[cA,dk];exact a9
 ·intro j s b;rw[show(cA m t).ag=t.ag.map m.sp from rfl]at b⊢;rw[ea]at b;obtain⟨q,hq,rfl⟩:=hw.1 b;rw[<-e9];exact aQs (l j q hq) (hs.2 q (dq hq)) hk o
theorem WX{t:aj}{b:List bR}{s:bR}:gS t b s=0↔isName s.name=true/\(∀o∈b,o.name≠s.name)/\df s.pt=0/\0<=t.on (vP s.pt)/\(∀o∈b,¬fJ t.aU (vP o.pt) (vP s.pt)<0):=by
 rw[gS]
 by_cases c1:isName s.name=false
 ·simp[c1]
 rw[if_neg c1]
 by_cases c2:(b.any fun o=>decide (o.name=s.name))=true
 ·rw[if_pos c2];rw[eb]at c2;obtain⟨o,a,c⟩:=c2;constructor
  ·intro h;cases h
  ·intro h;exact absurd (of_decide_eq_true c) (h.2.1 o a)
 rw[if_neg c2];have d:∀o∈b,o.name≠s.name:=fun o a e=>c2 (eb.2 ⟨o,a,decide_eq_true e⟩)
 by_cases c3:df s.pt=0
 case neg=>simp[c3]
 simp only[c3,ne_eq,not_true_eq_false,if_false]
 by_cases c4:t.on (vP s.pt)<0
 ·rw[if_pos c4];constructor
  ·intro h;cases h
  ·intro h;omega
 rw[if_neg c4]
 by_cases c5:(b.any fun o=>decide (fJ t.aU (vP o.pt) (vP s.pt)<0))=true
 ·rw[if_pos c5];rw[eb]at c5;obtain⟨o,a,c⟩:=c5;constructor
  ·intro h;cases h
  ·intro h;exact absurd (of_decide_eq_true c) (h.2.2.2.2 o a)
 rw[if_neg c5];exact⟨fun _=>⟨by simpa using c1,d,trivial,o_,fun o a e=>c5 (eb.2 ⟨o,a,decide_eq_true e⟩)⟩,fun _=>rfl⟩
theorem WY{t b:aj}:kK t b=0↔b.ag.length<=24/\∀j s,b.ag[j]?=some s->gS t (b.ag.take j) s=0:=by
 rw[kK]
 split
 ·rename_i h;constructor
  ·intro h;cases h
  ·intro h;omega
 ·rename_i hl;rw[l9];constructor
  ·intro h;refine⟨o_,fun j s hs=>?_⟩;have:=h j (e8.1 hs).1
   rwa [fP,hs]at this
  ·rintro⟨_,h⟩ j a;rw[fP,dl a];exact h j _ (dl a)
theorem Dp{t b:aj}:gJ t b=0↔b9 t=0/\kK t b=0:=by
 rw[gJ]
 by_cases h:b9 t=0
 ·simp[h]
 ·simp[h]
def fU(m:aQ)(b:aj):aj:=⟨b.cs,b.aU,b.aB,b.ag.map m.sp⟩
theorem Xc(m:aQ)(r:Int)(v w:V2):fJ r (m.pl v) (m.pl w)=fJ r v w:=by rw[fJ,fJ,mA,Dn]
theorem rY(m:aQ)(s:bR):vP (m.sp s).pt=m.pl (vP s.pt):=by rw[aQ.sp];exact Hl _
theorem aCn{m:aQ}{t b:aj}{k:Nat}(h:kK t b=0)(g:bV m.cw)(hs:∀s∈b.ag,bP k (vP s.pt))(hk:k<=1700):kK (cA m t) (fU m b)=0:=by
 rw[WY]at h⊢;obtain⟨e,f⟩:=h;refine⟨by rw[fU,dk];exact e,fun j s a=>?_⟩;rw[show(fU m b).ag=b.ag.map m.sp from rfl]at a⊢;rw[ea]at a;obtain⟨q,hq,rfl⟩:=hw.1 a;have:=f j q hq;rw[<-e9];rw[WX]at this⊢;obtain⟨d,a2,a3,a4,a5⟩:=this;refine⟨d,?_,(zh (nG (hs q (dq hq)) g) o_).2,?_,?_⟩
 ·intro o c;obtain⟨x,hx,rfl⟩:=dz.1 c;exact a2 x hx
 ·rw[rY,Lj];exact a4
 ·intro o c;obtain⟨x,hx,rfl⟩:=dz.1 c;rw[rY,rY,Xc];exact a5 x hx
theorem aCp{m:aQ}{t b:aj}{k:Nat}(h:gJ t b=0)(a:gR t m=0)(d:pT k t)(c:∀s∈b.ag,bP k (vP s.pt))(hk:k<=1700):gJ (cA m t) (fU m b)=0:=by
 rw[Dp]at h⊢;exact⟨Ds h.1 a d hk,aCn h.2 (rT a).1 c hk⟩
theorem aCV{m:aQ}{t:aj}{k:Nat}(h:pT k t)(d:bV m.cw):pT (k+15) (cA m t):=by
 refine⟨?_,?_⟩
 ·intro p c;rw[ln]at c
  split at c
  ·obtain⟨q,hq,rfl⟩:=dz.1 c;obtain⟨a,b⟩:=h.1 q hq;rw[mC.1,mC.2];exact⟨(nI b).mono o_,(nI a).mono o_⟩
  ·obtain⟨a,b⟩:=h.1 p c;exact⟨a.mono o_,b.mono o_⟩
 ·intro s hs;rw[show(cA m t).ag=t.ag.map m.sp from rfl]at hs;obtain⟨q,hq,rfl⟩:=dz.1 hs;rw[rY];exact nG (h.2 q hq) d
theorem Ll{m:aQ}{t:aj}{k:Nat}(h:gH t)(hs:pT k t)(e:bV m.cw)(hk:k<=1700):gH (cA m t):=by
 refine⟨by rw[fW];exact h.cl,?_,by rw[show(cA m t).ag=t.ag.map m.sp from rfl,dk];exact h.sl,?_,?_⟩
 ·rw[ln];split
  ·rw[dk];exact h.pl
  ·exact h.pl
 ·intro p c;rw[ln]at c
  split at c
  ·obtain⟨q,hq,rfl⟩:=dz.1 c;obtain⟨a,b⟩:=hs.1 q hq;exact⟨(h.pk q hq).1,(vH (nI b) o_).1,(vH (nI a) o_).1⟩
  ·exact h.pk p c
 ·intro s d;rw[show(cA m t).ag=t.ag.map m.sp from rfl]at d;obtain⟨q,hq,rfl⟩:=dz.1 d;exact⟨(h.sp q hq).1,(zh (nG (hs.2 q hq) e) o_).1⟩
theorem zt{q:Rat}{k:Nat}(h:bE k q)(hk:k<=54):(bg q).length<=40:=by
 have a:(bc q.num.natAbs).length<=18:=pK (K:=54) (k:=18) (h.mono hk).1 (by decide) (by decide);have b:(bc q.den).length<=18:=pK (K:=54) (k:=18) (h.mono hk).2 (by decide) (by decide);have:=CL q;omega
theorem Jh{m:aQ}{t:aj}{k:Nat}(h:fQ t=true)(hs:pT k t)(j:bV m.cw)(hk:k<=30):fQ (cA m t)=true:=by
 rw[fQ,b4,b4,e6,e6]at h⊢;obtain⟨g,d,i⟩:=h;have l:(cA m t).aB.length=t.aB.length:=by
  rw[ln];split
  ·rw[dk]
  ·rfl
 have n:(cA m t).ag.length=t.ag.length:=by rw[show(cA m t).ag=t.ag.map m.sp from rfl,dk]
 refine⟨by rw[fW,l,n];exact g,?_,?_⟩
 ·intro p c;rw[ln]at c
  split at c
  ·obtain⟨q,hq,rfl⟩:=dz.1 c;have:=d q hq;obtain⟨a,b⟩:=hs.1 q hq;simp only[jv,b4,decide_eq_true_eq]at this⊢;exact⟨this.1,zt (nI b) o_,zt (nI a) o_⟩
  ·exact d p c
 ·intro s f;rw[show(cA m t).ag=t.ag.map m.sp from rfl]at f;obtain⟨q,hq,rfl⟩:=dz.1 f;have:=i q hq;have e:=nG (hs.2 q hq) j;simp only[ib,b4,decide_eq_true_eq]at this⊢;exact⟨this.1,zt e.1 o_,zt e.2 o_⟩
theorem aPH{m:aQ}{v:V2}{k:Nat}(h:bP k v)(a:m.cw=⟨0,0⟩):bP k (m.pl v):=by
 have e:m.pl v=m.gZ v:=by
  rw[aQ.pl,a];simp only[V2.add,dU,aQ.gZ];rw[show((0:Int):Rat)=0 from rfl,hC,hC]
 rw[e];exact uo (wR h) m.n
theorem aCW{m:aQ}{t:aj}{k:Nat}(h:pT k t)(d:m.cw=⟨0,0⟩):pT (k+2) (cA m t):=by
 refine⟨?_,?_⟩
 ·intro p c;rw[ln]at c
  split at c
  ·obtain⟨q,hq,rfl⟩:=dz.1 c;obtain⟨a,b⟩:=h.1 q hq;rw[mC.1,mC.2];exact⟨nI b,nI a⟩
  ·obtain⟨a,b⟩:=h.1 p c;exact⟨a.mono o_,b.mono o_⟩
 ·intro s hs;rw[show(cA m t).ag=t.ag.map m.sp from rfl]at hs;obtain⟨q,hq,rfl⟩:=dz.1 hs;rw[rY];exact(aPH (h.2 q hq) d).mono o_
def ld:aQ:=⟨false,1,⟨0,0⟩⟩
def jI:aQ:=⟨true,0,⟨0,0⟩⟩
theorem UC:ld.n=1:=by decide
theorem Ug:jI.n=0:=by decide
theorem wY(p:bU):ld.pt p=⟨-p.y,p.x⟩:=by
 obtain⟨x,y⟩:=p;rw[aQ.pt,UC];simp[eh,aQ.kU,ld]
theorem GS(p:bU):jI.pt p=⟨-p.x,p.y⟩:=by
 obtain⟨x,y⟩:=p;rw[aQ.pt,Ug];simp[eh,aQ.kU,jI]
theorem zL(v:V2):ld.pl v=⟨-v.y,v.x⟩:=by
 obtain⟨x,y⟩:=v;rw[aQ.pl,UC];simp only[dM,aQ.gw,ld,V2.add,dU,V2.mk.injEq,ce,if_false];rw[show((0:Int):Rat)=0 from rfl]
 grind
theorem Uh(v:V2):jI.pl v=⟨-v.x,v.y⟩:=by
 obtain⟨x,y⟩:=v;rw[aQ.pl,Ug];simp only[dM,aQ.gw,jI,V2.add,dU,V2.mk.injEq,if_true];rw[show((0:Int):Rat)=0 from rfl]
 grind
theorem zH{p:gO}(h:df p=0):lX (vP p)=p:=by
 obtain⟨x,y⟩:=p;rw[df,lF]at h;have a:=h (bK x) s_;have b:=h (bK y) s_;rw[vP,lX];simp only[(jg a).1,(jg b).1]
theorem G8(m a:aQ)(s:bR):m.sp (a.sp s)=⟨s.name,lX (m.pl (a.pl (vP s.pt)))⟩:=by
 rw[aQ.sp,rY];rfl
theorem KA{a b:aj}(d:a.cs.length=b.cs.length)(j:∀i,i<b.cs.length->a.at i=b.at i)(e:a.aU=b.aU)(f:a.aB=b.aB)(g:a.ag=b.ag):a=b:=by
 obtain⟨c,r,p,s⟩:=a;obtain⟨c',m,l,s'⟩:=b;simp only at d e f g;subst e f g;have:c=c':=by
  apply List.ext_getElem d;intro i k h;have:=j i h;rw[aj.at,aj.at,eq,eq,dl k,dl h]at this;exact this
 rw[this]
theorem WA(t:aj)(hs:∀s∈t.ag,df s.pt=0):cA ld (cA ld (cA ld (cA ld t)))=t:=by
 refine KA (by rw[fW,fW,fW,fW]) ?_ rfl ?_ ?_
 ·intro i hi;have a:∀n i,ld.src n i=i:=fun n i=>rfl;rw[jc _ (by rw[fW,fW,fW];exact hi),a,jc _ (by rw[fW,fW];exact hi),a,jc _ (by rw[fW];exact hi),a,jc _ hi,a];rw[wY,wY,wY,wY];simp
 ·rfl
 ·simp only[cA,fd]
  conv=>rhs;rw[<-gl t.ag]
  apply e7;intro s h;simp only[cx];rw[G8,G8];simp only[Hl];rw[zL,zL,zL,zL];obtain⟨n,p⟩:=s;have b:=zH (hs _ h);simp only[id,bR.mk.injEq,true_and]at b⊢
  conv=>rhs;rw[<-b]
  congr 1;simp
theorem aOW(t:aj)(hs:∀s∈t.ag,df s.pt=0)(c:∀p∈t.aB,bK p.a=0/\bK p.b=0):cA jI (cA jI t)=t:=by
 refine KA (by rw[fW,fW]) ?_ rfl ?_ ?_
 ·intro i hi;have f:=Dz jI hi;rw[jc _ (by rw[fW];exact hi),fW,jc _ f,GS,GS];have:jI.src t.cs.length (jI.src t.cs.length i)=i:=by
   simp only[aQ.src,jI,if_true]
   split
   ·split<;>omega
   ·split<;>omega
  rw[this];simp
 ·rw[ln,ln,fW];simp only[show jI.fV=true from rfl,if_true,fd]
  conv=>rhs;rw[<-gl t.aB]
  apply e7;intro p h;obtain⟨d,a2⟩:=c p h;obtain⟨g,e,a,b⟩:=p;simp only[cx,gB,id,yz,bZ.mk.injEq,true_and];refine⟨o_,?_,?_⟩
  ·rw[show(1:Rat)-(1-aI a)=aI a by grind];exact(jg d).1
  ·rw[show(1:Rat)-(1-aI b)=aI b by grind];exact(jg a2).1
 ·simp only[cA,fd]
  conv=>rhs;rw[<-gl t.ag]
  apply e7;intro s h;simp only[cx];rw[G8,Uh,Uh];obtain⟨n,p⟩:=s;have c:=zH (hs _ h);simp only[id,bR.mk.injEq,true_and]at c⊢
  conv=>rhs;rw[<-c]
  congr 1;simp
def jK(f:Nat->Int):Nat->Int
 |0=>0
 |k+1=>jK f k+f k
theorem zu{f g:Nat->Int}:∀n,(∀k,k<n->f k=g k)->jK f n=jK g n
 |0,_=>rfl
 |n+1,h=>by rw[jK,jK,zu n (fun k hk=>h k o_),h n o_]
theorem IF(f:Nat->Int):∀n,jK f (n+1)=f 0+jK (fun k=>f (k+1)) n
 |0=>by simp[jK]
 |n+1=>by rw[jK,IF f n,jK];omega
theorem IY(f:Nat->Int):∀n,jK (fun k=>f (n-1-k)) n=jK f n
 |0=>rfl
 |n+1=>by
  rw[IF,jK,<-IY f n,Int.add_comm];congr 1;apply zu;intro k hk;congr 1;omega
def aj.Cf(t:aj):Int:=jK (fun k=>gF (t.at 0) (t.at (k+1)) (t.at (k+2))) (t.cs.length-2)
theorem S7{t:aj}:∀m,jK (fun k=>gF (t.at 0) (t.at (k+1)) (t.at (k+2))) m=t.rj (m+1)+yC (t.at (m+1)) (t.at 0)
 |0=>by simp[jK,aj.rj,yC];grind
 |m+1=>by
  rw[jK,S7 m,show t.rj (m+1+1)=t.rj (m+1)+((t.at (m+1)).x*(t.at (m+1+1)).y-(t.at (m+1)).y*(t.at (m+1+1)).x)from rfl];simp only[yC,gF]
  grind
theorem JX{t:aj}(h:3<=t.cs.length):t.jm t.cs.length=t.Cf:=by
 rw[Wv o_,aj.Cf,S7,show t.cs.length-2+1=t.cs.length-1 by omega]
theorem Ji(m:aQ)(a b c:bU):gF (m.pt a) (m.pt b) (m.pt c)=if m.fV=true then gF a c b else gF a b c:=by
 apply hB.1;rw[wP,oF,oF,oF,mA,mA,Je]
 split
 ·rw[wP];simp only[V2.er];grind
 ·rw[wP]
theorem Wm(m:aQ){t:aj}(h:3<=t.cs.length):(cA m t).jm t.cs.length=t.jm t.cs.length:=by
 have e:=JX (t:=cA m t) (by rw[fW];exact h);rw[fW]at e;rw[e,JX h,aj.Cf,aj.Cf,fW];rcases hm:m.fV with _|_
 ·apply zu;intro k hk;rw[jc m o_,jc m o_,jc m o_,Ji,hm];simp[aQ.src,hm]
 ·rw[<-IY (fun k=>gF (t.at 0) (t.at (k+1)) (t.at (k+2)))];apply zu;intro k hk;rw[jc m o_,jc m o_,jc m o_,Ji,hm];have s0:m.src t.cs.length 0=0:=by simp[aQ.src,hm]
  have a:m.src t.cs.length (k+1)=t.cs.length-2-1-k+2:=by simp[aQ.src,hm];omega
  have b:m.src t.cs.length (k+2)=t.cs.length-2-1-k+1:=by simp[aQ.src,hm];omega
  rw[s0,a,b,if_pos rfl]
def y9(n i:Nat):List (Nat×Nat):=(gt (n-(i+1))).map (fun d=>(i,i+1+d))
def pre(n i:Nat):List (Nat×Nat):=(gt i).flatMap (y9 n)
def fF(n i j:Nat):List (Nat×Nat):=pre n i++(gt (j-(i+1))).map (fun d=>(i,i+1+d))
def fG(n:Nat):List (Nat×Nat):=pre n n
theorem Db(n i:Nat):pre n (i+1)=pre n i++y9 n i:=by
 rw[pre,hd,List.flatMap_append,List.flatMap_cons,List.flatMap_nil,fl];rfl
theorem Dc(n i:Nat):fF n i (i+1)=pre n i:=by
 rw[fF,hu,List.range_zero,ho,fl]
theorem Df{n i j:Nat}(h:i<j):fF n i (j+1)=fF n i j++[(i,j)]:=by
 rw[fF,fF,show j+1-(i+1)=(j-(i+1))+1 from by omega,hd,gb,gP];simp only[List.map_cons,ho];rw[show i+1+(j-(i+1))=j from by omega]
theorem JD(n i:Nat):fF n i n=pre n (i+1):=by
 rw[Db,y9,fF]
theorem KF{n i:Nat}:∀d,pre n i<+:pre n (i+d)
 |0=>g0 _
 |d+1=>by
  refine(KF d).trans ?_;rw[show i+(d+1)=i+d+1 from rfl,Db];exact gx _ _
theorem Jv{n i j:Nat}:∀d,i<j->fF n i j<+:fF n i (j+d)
 |0,_=>g0 _
 |d+1,h=>by
  refine(Jv d h).trans ?_;rw[show j+(d+1)=j+d+1 from rfl,Df o_];exact gx _ _
theorem I5{n i j:Nat}(hi:i<n)(c:i<j)(d:j<=n):fF n i j<+:fG n:=by
 have a:=Jv (n:=n) (n-j) c;rw[show j+(n-j)=n from by omega,JD]at a;have b:=KF (n:=n) (i:=i+1) (n-(i+1));rw[show i+1+(n-(i+1))=n from by omega]at b;exact a.trans b
theorem Ju{n i j:Nat}(hi:i<n)(a:i<j)(b:j<n):(fG n)[(fF n i j).length]?=some (i,j):=by
 obtain⟨r,hr⟩:=I5 hi (show i<j+1 by omega) (show j+1<=n by omega);rw[<-hr,Df a,gP,ge (hp _),hu];rfl
theorem WB{n i j:Nat}(h:i<j):(fF n i (j+1)).length=(fF n i j).length+1:=by
 rw[Df h,ej];rfl
def aj.vN(b:aj)(i j:Nat):NV:=(NV.from (b.sp j).pt).sub (NV.from (b.sp i).pt)
def aj.dN(b:aj)(i j:Nat):NF:=(b.vN i j).dot (b.vN i j)
noncomputable def qd(b:aj)(p:Nat×Nat):List PV:=[.st 106 [.int .i64 p.1,.int .i64 p.2],eF (b.dN p.1 p.2)]
noncomputable def nH(b:aj)(m:Nat):Heap:=match(fG b.ag.length)[m]? with
 |some p=>[.box false (.p (dQ (b.vN p.1 p.2)))]
 |none=>[]
theorem WD{b:aj}{i j:Nat}(hi:i<b.ag.length)(a:i<j)(c:j<b.ag.length):((fG b.ag.length).map (qd b))[(fF b.ag.length i j).length]?=some (qd b (i,j)):=by
 rw[ea,Ju hi a c];rfl
theorem KI{b:aj}{i:Nat}(d:∀s∈b.ag,oB s)(hi:i<b.ag.length):bP kQ (NV.from (b.sp i).pt).q/\bK (b.sp i).pt.x=0/\bK (b.sp i).pt.y=0/\oC (b.sp i).pt:=by
 obtain⟨c,a⟩:=d _ (dq (aj.dP hi));exact⟨zW ((rX a).2.mono (by decide)),(iY a).1,(iY a).2,c.2⟩
theorem Wo(b:aj):az prog 100 [.seq (b.ag.map aR)] (.func 186 [] [.cG (.seq (b.ag.map aR))]):=by
 refine aJ nf (i_ func100) mix (by simp[f100]) ?_;simp[f100];show gQ [.box false (.p (.seq (b.ag.map aR)))] 7 (.p (.seq (b.ag.map aR))) (.seq (b.ag.map aR));rw[zp];exact Wk.refl _
theorem V8(n i:Nat):fF n i n=fF n (i+1) (i+1+1):=by rw[JD,Dc]
theorem wS(n:Nat):(fF n 0 (0+1)).length=0:=by rw[Dc];rfl
theorem Ja{b:aj}(a:∀s∈b.ag,oB s){i j:Nat}(hi:i<b.ag.length)(e:j<b.ag.length):bP kQ ((NV.from (b.sp j).pt).q.sub (NV.from (b.sp i).pt).q):=by
 have c:=(rX (a _ (dq (aj.dP hi))).2).2;have d:=(rX (a _ (dq (aj.dP e))).2).2;exact(mr d c).mono (by decide)
theorem aQd(b:aj)(hl:b.ag.length<=1000000)(f:∀s∈b.ag,oB s):HW prog 186 [] [.cG (.seq (b.ag.map aR))] ((fG b.ag.length).map (qd b)) (nH b):=by
 intro r k d U H' hk a M l;rw[dk]at hk l;have I:∀{i j:Nat},i<b.ag.length->i<j->j<b.ag.length->nH b (fF b.ag.length i j).length=[.box false (.p (dQ (b.vN i j)))]:=fun hi H c=>by
  rw[nH,Ju hi H c]
 generalize g:b.ag.length=n at*;refine dS nf (i_ func186) mix (by simp[f186]) ?_;simp[f186,aa,g];refine lp (α:=Nat) (fun i=>⟨[(8,.p (.int .i64 i)),(7,.p (.int .i64 n)),(1,.p (.cG (.seq (b.ag.map aR)))),(0,.map r)],d (fF n i (i+1)).length⟩) (fun i=>i<=n/\(fF n i (i+1)).length<=k) (fun i=>n-i) 0 (by rw[wS];omega) ?_ (hn:=by simp[wS]) (hh:=by rw[wS];simp) (hr:=by rw[wS];simp;exact(a 0 o_).2) (hr2:=by rw[wS];exact(a 0 o_).1);rintro i ⟨V,e⟩
 by_cases hi:i<n
 ·have x:=bS (i:=i) o_;have L:cy.wrap ((i:Int)+1)=((i+1:Nat):Int):=by rw[x];rfl
  simp[hi,L];refine lp (α:=Nat) (fun j=>⟨[(4,.p (.int .i64 j)),(3,.p (.int .i64 i)),(8,.p (.int .i64 i)),(7,.p (.int .i64 n)),(1,.p (.cG (.seq (b.ag.map aR)))),(0,.map r)],d (fF n i j).length⟩) (fun j=>i+1<=j/\j<=n/\(fF n i j).length<=k) (fun j=>n-j) (i+1) o_ ?_ (hr:=by simp;exact(a _ e).2) (hr2:=(a _ e).1);rintro j ⟨g1,g2,g3⟩
  by_cases c:j<n
  ·have z:=bS (i:=j) o_;have u:=aj.dP (t:=b) (i:=i) o_;have v:=aj.dP (t:=b) (i:=j) o_;obtain⟨N,Q,S,pi⟩:=KI f (i:=i) o_;obtain⟨O,R,T,P⟩:=KI f (i:=j) o_;have B:=sc (b.sp j).pt R T P;have C:=sc (b.sp i).pt Q S pi;have o:=wJ (NV.from (b.sp j).pt) (NV.from (b.sp i).pt) O N;rw[show(NV.from (b.sp j).pt).sub (NV.from (b.sp i).pt)=b.vN i j from rfl]at o;have q:=Lp (b.vN i j) (b.vN i j) (by rw[aj.vN,NV.jF];exact Ja f o_ o_) (by rw[aj.vN,NV.jF];exact Ja f o_ o_);rw[show(b.vN i j).dot (b.vN i j)=b.dN i j from rfl]at q;have m:=WD (b:=b) (i:=i) (j:=j) o_ o_ o_;have h:=I hi (show i<j by omega) c;rw[g]at m;simp[c,z,u,v,g,aa];refine e1_ B ?_;simp[u,v,aa];refine e1_ C ?_;simp[aa];refine e2_ o ?_;simp[aa];refine⟨by repeat' first|rfl|apply b3,?_⟩;refine c2_ q ?_;simp[aa];have G:eg (d (fF n i j).length++nH b (fF n i j).length) (d (fF n i j).length++nH b (fF n i j).length):=eg.app (a _ g3).1 (by rw[h];simp);have F:=WB (n:=n) (show i<j by omega)
   by_cases K:(fF n i j).length<k
   ·obtain⟨m1,m2,m3,m4,m5⟩:=M _ _ K m;rw[h]at m1 m2 m3 G;rw[<-F]at m4 m5;refine⟨_,_,m1,?_⟩;simp[z];exact rd (j+1) ⟨o_,c,o_⟩ (hn:=m4) (hh:=m5) (hr:=by simp;exact(a _ o_).2) (hr2:=(a _ o_).1)
   ·have w:(fF n i j).length=k:=by omega
    rcases l with⟨e1,_⟩|⟨y,A,e1,e2,e3,e4,e5,D,E⟩
    ·have:=(I5 (n:=n) (i:=i) (j:=j+1) o_ o_ o_).length_le;omega
    ·rw[<-w,m]at e1;injection e1 with e1
     subst e1;rw[<-w,h]at e2;refine⟨_,_,e2,?_⟩;simp;exact .inr (cW.og e5 trivial D trivial E)
  ·rw[show j=n from by omega]at g3⊢;rw[V8]at g3⊢;simp[g,x,aa];exact rd (i+1) ⟨hi,g3⟩ (hr:=by simp;exact(a _ g3).2) (hr2:=(a _ g3).1)
 ·rw[show i=n from by omega]at e⊢;have J:(fF n n (n+1)).length=(fG n).length:=by rw[Dc];rfl
  rw[J]at e⊢;rcases l with⟨e1,e2⟩|⟨y,A,e1,e2⟩
  ·have:(fG n).length=k:=by omega
   rw[this];simp[e2]
  ·rw[eo (by simp;omega)]at e1;cases e1
@[simp] theorem aSd:lO prog 106=true:=k_
theorem aLv:(prog.info? 3).isSome=true:=k_
@[simp] theorem aSj{a b c d:Int}:eA prog 9 106 (.st 106 [.int .i64 a,.int .i64 b]) (.st 106 [.int .i64 c,.int .i64 d])=some (decide (a=c/\b=d)):=by
 have:((a==c)&&((b==d)&&true))=decide (a=c/\b=d):=by
  rw[cb];simp
 rw[<-this];simp[eA,aLv,gv,aP]
theorem Jt{n:Nat}{p:Nat×Nat}(h:p∈fG n):p.1<p.2/\p.2<n:=by
 rw[fG,pre,List.mem_flatMap]at h;obtain⟨i,hi,a⟩:=h;rw[y9,dz]at a;obtain⟨d,b,rfl⟩:=a;rw[hg]at b hi;simp only;omega
def rI(t b:aj)(p:Nat×Nat):Int:=dx (b.dN p.1 p.2).q (sN t.aU)
def jl(t b:aj)(l:List (Nat×Nat)):List (Nat×Nat):=l.filter (fun p=>decide (rI t b p=0))
theorem V5(t b:aj)(l:List (Nat×Nat))(p:Nat×Nat):jl t b (l++[p])=if rI t b p=0 then jl t b l++[p]else jl t b l:=by
 rw[jl,List.filter_append]
 by_cases h:rI t b p=0
 ·rw[if_pos h,List.filter_cons_of_pos (by simpa using h)];rfl
 ·rw[if_neg h,List.filter_cons_of_neg (by simpa using h),List.filter_nil,fl];rfl
def kM(p:Nat×Nat):PV:=.st 106 [.int .i64 p.1,.int .i64 p.2]
@[simp] theorem aRM:prog.cellsOf 106=2:=k_
noncomputable def gq(t:aj)(s:AV)(L:ey):Heap:=[.box false (.p (bJ t)),.box false s,.loop L]
noncomputable def ie(t:aj)(L:ey):List (Nat×Nat)->Heap
 |[]=>gq t (.p .aH) L
 |x::r=>gq t (.sl 7 r.length 2 0 (r.length+1)) L++[.hole,.hole,.hole,.hole,.arr .grow r.length 2 ((x::r).map fun x=>.p (kM x))]
noncomputable def UP(t b:aj)(L:ey)(l:List (Nat×Nat))(m:Nat)(p:Nat×Nat):Heap:=
 if rI t b p=0 then
  match l with
  |[]=>gq t (.sl 7 0 2 0 1) L++nH b m++[.hole,.hole,.hole,.arr .grow 0 2 [.p (kM p)]]
  |x::r=>gq t (.sl 7 (r.length+1) 2 0 (r.length+2)) L++[.hole,.hole,.hole,.hole,.arr .grow (r.length+1) 2 ((x::r++[p]).map fun x=>.p (kM x))]++nH b m
 else ie t L l++nH b m
noncomputable def UQ(t b:aj)(L:ey)(m:Nat):Heap:=match(fG b.ag.length)[m]? with
 |some p=>UP t b L (jl t b ((fG b.ag.length).take m)) m p
 |none=>[]
theorem aPQ(n:Nat)(h:n<=24):(fG n).length<=600:=by
 have:∀i,i<=n->(pre n i).length<=25*i:=by
  intro i
  induction i with
  |zero=>intro _;simp[pre]
  |succ i a=>
   intro hi;have:=a o_;rw[Db,ej,y9,dk,List.length_range];omega
 have:=this n (hp n);rw[fG];omega
theorem IK(t b:aj)(F:gH t)(k:mc b)(v:gJ t b=0->∀i j,i<j->j<b.ag.length->bE 1800 (b.dN i j).q):az prog 32 [bJ t,.seq (b.ag.map aR)] (.aD (if gJ t b=0 then[.seq ((jl t b (fG b.ag.length)).map kM),.int .i64 0]else[.aH,.int .i64 (gJ t b)])):=by
 have k1:=IQ t b F k;have C:=k.sl
 by_cases h:gJ t b=0
 case neg=>
  rw[if_neg h];generalize gJ t b=E at*;refine aJ nf (i_ func32) mix (by simp[f32]) ?_;simp[f32,aa];refine c2_ k1 ?_;simp[h,aa]
 rw[if_pos h];obtain⟨s,w⟩:=Jz k h;obtain⟨I,J⟩:=zC s;have z:b.ag.length<=24:=by
  have:kK t b=0:=by rw[gJ,if_neg (by simp[s])]at h;exact h
  rw[kK]at this
  split at this
  ·cases this
  ·omega
 have kS:=v h;rw[h]at k1;have g:=JN t o_ o_;have D:=aQd b C w;have G:=aPQ _ z;refine aJ nf (i_ func32) mix (by simp[f32]) ?_;simp[f32,aa];refine c2_ k1 ?_;simp[aa];refine c1 (Wo b) ?_;simp;refine rfd D rfl s_ (fun L m=>ie t L (jl t b ((fG b.ag.length).take m))) (fun L m=>UQ t b L m) (fG b.ag.length).length s_ (fun L=>rfl) ?_ ?_ ?_
 ·intro L a m B;generalize jl t b ((fG b.ag.length).take m)=c;cases c with
  |nil=>
   refine⟨rfl,by simp[ie,gq],fun _ hx=>?_⟩;simp[ie,gq]at hx⊢;exact hx
  |cons x r=>
   refine⟨rfl,by simp[ie,gq],fun _ hx=>?_⟩;simp[ie,gq]at hx⊢;exact hx
 ·intro L a m x B hx;obtain⟨p,d,rfl⟩:∃p,(fG b.ag.length)[m]?=some p/\qd b p=x:=by
   rw[ea]at hx;cases d:(fG b.ag.length)[m]? with
   |none=>rw[d]at hx;cases hx
   |some p=>rw[d]at hx;injection hx with hx;exact⟨p,rfl,hx⟩
  have o:=Jt (dq d);have u:nH b m=[.box false (.p (dQ (b.vN p.1 p.2)))]:=by rw[nH,d]
  have A:(jl t b ((fG b.ag.length).take m)).length<=600:=by
   refine Nat.le_trans (gi _ _) ?_;rw[ei];omega
  rw[fv (l:=fG b.ag.length),d,UQ,d];simp only[hz];rw[V5,UP.eq_def,u];have f:=rl (b.dN p.1 p.2) (.width t.aU) ((kS _ _ o.1 o.2).mono (by decide)) ((show bE 60 (sN t.aU)from by have:=Bh (r:=t.aU) o_ o_;exact yk o_ (by decide)).mono (by decide));rw[show dx (b.dN p.1 p.2).q (NF.width t.aU).q=rI t b p from rfl]at f;have e:=congrArg ey.env a;dsimp only at e;generalize jl t b ((fG b.ag.length).take m)=c at*;generalize rI t b p=y at*
  by_cases hy:y=0
  case neg=>
   rw[if_neg hy,if_neg hy];refine⟨?_,s_,fun j _ h=>h,by cases c<;>rfl,?_⟩
   ·cases c with
    |nil=>
     refine rP nf mix a rfl rfl k_ ?_;clear a;simp[ie,gq,qd,aa];refine e1_ g ?_;simp[aa];refine e2_ f ?_;simp[hy,aa];refine cW.og s_ s_ s_ s_ ?_;simp;exact uh e s_
    |cons x r=>
     refine rP nf mix a rfl rfl k_ ?_;clear a;simp[ie,gq,qd,aa];refine e1_ g ?_;simp[aa];refine e2_ f ?_;simp[hy,aa];refine cW.og s_ s_ s_ s_ ?_;simp;exact uh e s_
   ·cases c with
    |nil=>simp[ie,gq]
    |cons x r=>simp[ie,gq]
  subst hy;rw[if_pos rfl,if_pos rfl];cases c with
  |nil=>
   rw[List.nil_append];refine⟨?_,by simp[ie,gq],fun j n h=>?_,rfl,?_⟩
   ·refine rP nf mix a rfl rfl k_ ?_;clear a;simp[ie,gq,qd,aa];refine e1_ g ?_;simp[aa];refine e2_ f ?_;simp[aa];refine⟨by decide,?_⟩;refine cW.og (by simp[kM]) s_ (by simp[kM]) s_ ?_;simp;exact uh e s_
   ·rcases j with _|_|_|_|j
    all_goals first|(simp[gq]at h;done)|(simp[ie,gq]at n;omega)
   ·simp[ie,gq]
  |cons x r=>
   have H:r.length+2<=cJ:=by
    rw[hb]at A;simp only[cJ];omega
   rw[List.cons_append];refine⟨?_,by simp[ie,gq],fun j n h=>?_,by simp[ie,gq],?_⟩
   ·refine rP nf mix a rfl rfl k_ ?_;clear a;simp[ie,gq,qd,aa];refine e1_ g ?_;simp[aa];refine e2_ f ?_;simp[aa];refine⟨o_,?_⟩;refine cW.og (by simp[kM]) s_ (by simp[kM]) s_ ?_;simp;exact uh e s_
   ·rcases j with _|_|_|_|_|_|_|_|_|j
    all_goals first|(simp[ie,gq]at h;done)|(simp[ie,gq];done)|(simp[ie,gq]at n;omega)
   ·simp[ie,gq]
 ·intro L a;refine .inl ⟨s_,?_⟩;rw[fb];generalize jl t b (fG b.ag.length)=c;cases c with
  |nil=>simp[ie,gq,aa]
  |cons x r=>simp[ie,gq,aa]
theorem aKT{u v w:V2}(h:u.sub v=w):u=v.add w:=by
 obtain⟨a,b⟩:=u;obtain⟨c,d⟩:=v;subst h;simp only[V2.sub,V2.add,V2.mk.injEq]
 grind
theorem Xg(a d:V2):(a.add d).sub a=d:=by
 obtain⟨a,b⟩:=a;obtain⟨c,d⟩:=d;simp only[V2.sub,V2.add,V2.mk.injEq]
 grind
theorem KG(m:aQ)(a d:V2):m.pl (a.add d)=(m.pl a).add (m.gZ d):=by
 have:=mA m (a.add d) a;rw[Xg]at this;exact aKT this
theorem aCP(m:aQ){t:aj}(a:m.fV=false){e:Nat}(h:e<t.cs.length)(s:Rat):(cA m t).jr e s=m.pl (t.jr e s):=by
 have b:t.nx e<t.cs.length:=t.iT o_ e;have hs:∀i,m.src t.cs.length i=i:=fun i=>by simp[aQ.src,a]
 rw[aj.jr,aj.jr,aj.cw,aj.cw,wU,jc m h,jc m b,hs,hs,oF,oF,mA,<-JC,KG]
theorem aCO(m:aQ){t:aj}(d:m.fV=true){e:Nat}(h:e<t.cs.length)(s:Rat):(cA m t).jr (t.cs.length-1-e) (1-s)=m.pl (t.jr e s):=by
 have hi:t.cs.length-1-e<t.cs.length:=o_
 have c:=Da m hi;rw[if_pos d]at c;have f:m.em t.cs.length (t.cs.length-1-e)=e:=by simp[aQ.em,d];omega
 rw[f]at c;have g:t.nx (t.cs.length-1-e)<t.cs.length:=t.iT o_ _;rw[aj.jr,aj.jr,aj.cw,aj.cw,wU,jc m hi,jc m g,c.1,c.2,oF,oF,mA,<-JC,<-KG];congr 1;generalize dU (t.at e)=a;generalize dU (t.at (t.nx e))=b;simp only[V2.sub,V2.add,V2.mul,V2.mk.injEq]
 grind
theorem Ln(m:aQ){b:aj}{i j:Nat}(hi:i<b.ag.length)(d:j<b.ag.length):((fU m b).dN i j).q=(b.dN i j).q:=by
 have e:∀k,k<b.ag.length->vP ((fU m b).sp k).pt=m.pl (vP (b.sp k).pt):=fun k hk=>by
  have c:(fU m b).ag[k]?=some (m.sp (b.sp k)):=by
   rw[show(fU m b).ag=b.ag.map m.sp from rfl,ea,aj.dP hk];rfl
  have a:=aj.dP (t:=fU m b) (i:=k) (by rw[show(fU m b).ag=b.ag.map m.sp from rfl,dk];exact hk);rw[c]at a;injection a with a
  rw[<-a,rY]
 rw[aj.dN,aj.dN,aj.vN,aj.vN,NV.yy,NV.yy,NV.jF,NV.jF,mu,mu,mu,mu,e i hi,e j d,mA,Dn]
theorem aCq(m:aQ)(t b:aj):jl (cA m t) (fU m b) (fG b.ag.length)=jl t b (fG b.ag.length):=by
 rw[jl,jl];apply List.filter_congr;intro p c;obtain⟨d,a⟩:=Jt c;rw[rI,rI,Ln m o_ a];rfl
def bL(t:aj):aj:=⟨t.cs.drop 1++t.cs.take 1,t.aU,t.aB.map (fun p=>⟨p.name,(p.bH+(t.cs.length:Int)-1).tmod (t.cs.length:Int),p.a,p.b⟩),t.ag⟩
theorem mE{t:aj}(h:1<=t.cs.length):(bL t).cs.length=t.cs.length:=by rw[bL,ej,ed,ei];omega
theorem oM{t:aj}{i:Nat}(h:i<t.cs.length):(bL t).at i=t.at (t.nx i):=by
 have a:=mG h;rw[aj.at,eq,bL];simp only;rw[gp,ed]
 split at a
 ·rename_i b;rw[if_pos o_,gA,a,show 1+i=i+1 by omega,aj.get b];rfl
 ·rename_i b;rw[if_neg o_,a,show i-(t.cs.length-1)=0 by omega,gy,if_pos o_,aj.get o_];rfl
theorem Ka{t:aj}(h:1<=t.cs.length)(i:Nat):(bL t).nx i=t.nx i:=by rw[aj.nx,aj.nx,mE h]
theorem KK{t:aj}{i k:Nat}(hi:i<t.cs.length)(hk:k<t.cs.length)(h:t.nx i=t.nx k):i=k:=by
 rw[mG hi,mG hk]at h
 split at h<;>split at h<;>omega
theorem KJ{t:aj}{k:Nat}(hk:k<t.cs.length):∃i,i<t.cs.length/\t.nx i=k:=by
 rcases k with _|k
 ·refine⟨t.cs.length-1,o_,?_⟩;rw[mG o_,if_neg o_]
 ·refine⟨k,o_,?_⟩;rw[mG o_,if_pos hk]
theorem aOE{t:aj}{i:Nat}(h:i<t.cs.length):(bL t).cw i=t.cw (t.nx i):=by
 have a:t.nx i<t.cs.length:=t.iT o_ i;rw[aj.cw,aj.cw,Ka o_,oM h,oM a]
theorem JH{t:aj}{i:Nat}(h:i<t.cs.length)(v:V2):(bL t).side i v=t.side (t.nx i) v:=by
 rw[aj.side,aj.side,aOE h,oM h]
theorem aOD{t:aj}(c:1<=t.cs.length)(v:V2):(bL t).on v=t.on v:=by
 have h:∀k:Int,k<=1->(k<=(bL t).on v↔k<=t.on v):=fun k hk=>by
  rw[aj.on,aj.on,wQ hk,wQ hk,mE c];constructor
  ·intro h i hi;obtain⟨j,d,rfl⟩:=KJ hi;rw[<-JH d];exact h j d
  ·intro h i hi;rw[JH hi];exact h _ (t.iT o_ i)
 have a:=zI (bL t) v;have b:=zI t v;have c:=(h _ a).1 (da _);have e:=(h _ b).2 (da _);omega
theorem WH{t:aj}(hc:t.eS=true):(bL t).eS=true:=by
 rw[aj.eS,decide_eq_true_eq]at hc⊢;intro i hi k hk k1 k2;have b:1<=t.cs.length:=by
  rcases c:t.cs.length with _|m
  ·have:=ec.1 c;rw[bL,this]at hi;simp at hi
  ·omega
 rw[mE b]at hi hk;rw[Ka b]at k2⊢;have a:t.nx i<t.cs.length:=t.iT o_ i;rw[oM hi,oM a,oM hk];exact hc _ a _ (t.iT o_ k) (fun e=>k1 (KK hk hi e)) (fun e=>k2 (KK hk a e))
def jt(n:Nat)(p:bZ):bZ:=⟨p.name,(p.bH+(n:Int)-1).tmod (n:Int),p.a,p.b⟩
theorem C1{n:Nat}{e:Int}(a:0<=e)(b:e<n):(e+(n:Int)-1).tmod (n:Int)=if e=0 then(n:Int)-1 else e-1:=by
 rw[db o_]
 split
 ·rename_i h;rw[h,c8 o_ o_];omega
 ·rename_i h;rw[show e+(n:Int)-1=(e-1)+(n:Int)by omega,dg,c8 o_ o_]
theorem ma(t:aj):(bL t).aB=t.aB.map (jt t.cs.length):=rfl
theorem aOB{n:Nat}{b:List bZ}{p:bZ}(h:fy n b p=0)(m:∀o∈b,0<=o.bH/\o.bH<n):fy n (b.map (jt n)) (jt n p)=0:=by
 rw[wK]at h⊢;obtain⟨e,a2,a3,a4,a5,g,i,j,a9,f⟩:=h;have c:=C1 a3 a4;refine⟨e,?_,?_,?_,a5,g,i,j,a9,?_⟩
 ·intro o d;obtain⟨q,hq,rfl⟩:=dz.1 d;exact a2 q hq
 ·simp only[jt,c];split<;>omega
 ·simp only[jt,c];split<;>omega
 ·intro o d;obtain⟨q,hq,rfl⟩:=dz.1 d;have a:=f q hq;obtain⟨k,l⟩:=m q hq;have r:=C1 k l;rw[fO,b5]at a⊢;rcases a with a|a
  ·left;rw[decide_eq_false_iff_not]at a⊢;simp only[jt,c,r]
   split<;>split<;>omega
  ·right;exact a
theorem aOA{t:aj}(h:b9 t=0):b9 (bL t)=0:=by
 rw[mb]at h⊢;obtain⟨c,a2,a3,a4,a5,e,f,b,a9,d⟩:=h;rw[mE o_];refine⟨c,a2,?_,WH a4,a5,e,by rw[ma,dk];exact f,?_,a9,?_⟩
 ·intro p a;rw[bL]at a;simp only[List.mem_append]at a;rcases a with a|a
  ·exact a3 p (List.mem_of_mem_drop a)
  ·exact a3 p (gj a)
 ·intro j p a;rw[ma,ea]at a;obtain⟨q,hq,rfl⟩:=hw.1 a;rw[ma,<-e9];refine aOB (b j q hq) (fun o k=>?_);obtain⟨i,hi⟩:=ew.1 (gj k);have:=wK.1 (b i o hi);exact⟨this.2.2.1,this.2.2.2.1⟩
 ·intro j s g;have:=d j s g;rw[Dd]at this⊢;rw[aOD o_];exact this
theorem anS{t:aj}(hc:t.eS=true)(n:3<=t.cs.length){i k:Nat}(hi:i<t.cs.length)(hk:k<t.cs.length)(h:t.at i=t.at k):i=k:=by
 rw[aj.eS,decide_eq_true_eq]at hc;have zero:∀a b:bU,gF a b a=0:=fun a b=>by simp only[gF];grind
 have same:∀a b:bU,gF a a b=0:=fun a b=>by simp only[gF];grind
 by_cases d:k=i
 ·exact d.symm
 have g:=mG hi
 by_cases e:k=t.nx i
 ·
  obtain⟨j,f,l,m⟩:∃j,j<t.cs.length/\j≠i/\j≠t.nx i:=by
   split at g
   ·by_cases c:i=0
    ·exact⟨2,o_,o_,o_⟩
    ·exact⟨0,o_,o_,o_⟩
   ·exact⟨1,o_,o_,o_⟩
  have:=hc i hi j f l m;rw[<-e,<-h,same]at this;omega
 ·have:=hc i hi k hk d e;rw[<-h,zero]at this;omega
theorem C5{a b:bU}:rZ a b=true↔a.x<b.x\/(a.x=b.x/\a.y<b.y):=by
 rw[rZ,cr,b4,decide_eq_true_eq,decide_eq_true_eq,decide_eq_true_eq]
theorem Dm(t:aj):∀i,∀j,j<i->¬rZ (t.at j) (t.at (t.bF i))=true
 |0,j,h=>by omega
 |i+1,j,h=>by
  have a:=Dm t i;rw[aj.bF]
  by_cases c:rZ (t.at i) (t.at (t.bF i))=true
  ·rw[if_pos c]
   by_cases e:j=i
   ·subst e;rw[C5];omega
   ·have:=a j o_;rw[C5]at this c⊢;omega
  ·rw[if_neg c]
   by_cases e:j=i
   ·subst e;exact c
   ·exact a j o_
theorem aOz{t:aj}(h:b9 t=0):t.nx (bL t).L=t.L:=by
 obtain⟨g,_,_,hc,_,_⟩:=C7 h;have i:=mE (t:=t) o_;have hl:(bL t).L<t.cs.length:=by
  have k:(bL t).L<(bL t).cs.length:=(bL t).ur (hp _) o_;omega
 have c:t.L<t.cs.length:=t.ur (hp _) o_;have f:t.nx (bL t).L<t.cs.length:=t.iT o_ _;apply anS hc g f c;have a:=Dm t t.cs.length (t.nx (bL t).L) f;rw[show t.bF t.cs.length=t.L from rfl]at a;obtain⟨j,d,e⟩:=KJ c;have b:=Dm (bL t) (bL t).cs.length j (by rw[i];exact d);rw[show(bL t).bF (bL t).cs.length=(bL t).L from rfl,oM d,oM hl,e]at b;rw[C5]at a b;generalize t.at (t.nx (bL t).L)=u at*;generalize t.at t.L=v at*;obtain⟨x,y⟩:=u;obtain⟨l,m⟩:=v;simp only at a b;simp only[bU.mk.injEq];omega
theorem WG{t:aj}(h:b9 t=0):im (bL t)=im t:=by
 obtain⟨o,_,_,hc,_,_⟩:=C7 h;have b:=mE (t:=t) o_;have hl:(bL t).L<t.cs.length:=by
  have n:(bL t).L<(bL t).cs.length:=(bL t).ur (hp _) o_;omega
 have g:t.L<t.cs.length:=t.ur (hp _) o_;have e:=aOz h;rw[mG hl]at e;have e1:(bL t).cs.drop (bL t).L++(bL t).cs.take (bL t).L=t.cs.drop t.L++t.cs.take t.L:=by
  have q:((bL t).cs.drop (bL t).L++(bL t).cs.take (bL t).L).length=t.cs.length:=by rw[ej,ed,ei];omega
  have r:(t.cs.drop t.L++t.cs.take t.L).length=t.cs.length:=by rw[ej,ed,ei];omega
  apply gN;intro i
  by_cases hi:i<t.cs.length
  ·rw[KY (bL t) (by rw[b];exact hi) (by rw[b];exact hl),KY t hi g,b,oM (Nat.mod_lt _ o_)];congr 2;rw[aj.nx];have a:∀x,x<2*t.cs.length->x% t.cs.length=if x<t.cs.length then x else x-t.cs.length:=fun x hx=>by
    split
    ·exact ht (by assumption)
    ·rw[hv o_,ht o_]
   rw[a ((bL t).L+i) o_,a (t.L+i) o_]
   split at e
   ·split
    ·rw[a _ o_];split<;>split<;>omega
    ·rw[a _ o_];split<;>split<;>omega
   ·split
    ·rw[a _ o_];split<;>split<;>omega
    ·rw[a _ o_];split<;>split<;>omega
  ·rw[eo o_,eo o_]
 have e2:(bL t).aB.map (oA (bL t).cs.length (bL t).L)=t.aB.map (oA t.cs.length t.L):=by
  rw[ma,fd,b];apply e7;intro p l;obtain⟨j,k⟩:=ew.1 l;have m:=wK.1 ((mb.1 h).2.2.2.2.2.2.2.1 j p k);obtain⟨_,_,d,f,_⟩:=m;simp only[cx,jt,oA,bZ.mk.injEq,true_and,and_true];rw[C1 d f];have a:∀x:Int,0<=x->x<2*t.cs.length->x.tmod t.cs.length=if x<t.cs.length then x else x-t.cs.length:=fun x c hx=>by
   rw[db c]
   split
   ·exact c8 c (by assumption)
   ·rw[show x=(x-t.cs.length)+t.cs.length by omega,dg,c8 o_ o_];omega
  split at e
  ·split
   ·rw[a _ o_ o_,a _ o_ o_];split<;>split<;>omega
   ·rw[a _ o_ o_,a _ o_ o_];split<;>split<;>omega
  ·split
   ·rw[a _ o_ o_,a _ o_ o_];split<;>split<;>omega
   ·rw[a _ o_ o_,a _ o_ o_];split<;>split<;>omega
 rw[im,im,e1,e2];simp only[bL,dk]
theorem Wf(b:aj)(hl:b.ag.length<=1000000):az prog 26 [.seq (b.ag.map aR)] (.seq (b.ag.map aR)):=by
 have f:(1000000:Nat)<cJ:=by decide
 have g:cy.wrap 1=1:=by decide
 refine aJ nf (i_ func26) mix (by simp[f26]) ?_;simp[f26,aa];refine lp (α:=Nat) (fun i=>⟨[(8,.p (.int .i64 i)),(7,.p (.int .i64 b.ag.length)),(6,.p (.seq (b.ag.map aR))),(3,.sl 0 i 3 0 i)],[.arr .grow i 3 ((b.ag.map (AV.p∘aR)).take i)]⟩) (fun i=>i<=b.ag.length) (fun i=>b.ag.length-i) 0 s_ ?_;rintro i i1
 by_cases hi:i<b.ag.length
 ·have a:=aj.dP hi;have e:=bS (i:=i) o_;have d:(b.ag.map (AV.p∘aR)).take (i+1)=(b.ag.map (AV.p∘aR)).take i++[.p (aR (b.sp i))]:=by
   rw[fv,ea,a];rfl
  have c:min i b.ag.length=i:=o_
  simp[hi,a,e,c,aa];exact⟨o_,rd (i+1) hi (hh:=by simp[d]) (hr2:=by simp[fo])⟩
 ·have:i=b.ag.length:=by omega
  subst this;simp[aa]
@[simp high] theorem aRD(c:Bool)(H:Heap)(v w:V2):fC prog .neq 82 c H (.p (eV v)) (.p (eV w))=some (True,{v:=.p (.bool (!pA (bg v.x) (bg v.y) (bg w.x) (bg w.y)))}):=by
 rw[eV,eV,ft,ft];simp[fC]
def vY(c p s:AV)(r:Int):AV:=.st 35 [c,.p (.int .i64 r),p,s]
theorem V3(t:aj)(j:Nat)(r:t.cs.length<=1000000)(hc:¬t.cs=[])(s:t.aB.length=j+1)(u:j+1<=1000000)(v:t.ag.length<=1000000):
 (t.ag=[]->b8 prog 11 [] [.p (cg t)] [.hole,.hole,.hole,.arr .grow 0 2 (t.cs.map (AV.p∘aG)),.hole,.hole,.hole,.arr .grow j 4 (cL t.aB)] (vY (.sl 3 0 2 0 t.cs.length) (.sl 7 j 4 0 (j+1)) (.p .aH) t.aU))/\
 (∀k,t.ag.length=k+1->b8 prog 11 [] [.p (cg t)] [.hole,.hole,.hole,.arr .grow 0 2 (t.cs.map (AV.p∘aG)),.hole,.hole,.hole,.arr .grow j 4 (cL t.aB),.hole,.hole,.arr .grow k 3 (dt t.ag)] (vY (.sl 3 0 2 0 t.cs.length) (.sl 7 j 4 0 (j+1)) (.sl 10 k 3 0 (k+1)) t.aU)):=by
 have o:(1000000:Nat)<cJ:=by decide
 have e:cy.wrap 1=1:=by decide
 constructor
 ·intro l;refine dS nf (i_ func11) mix (by simp[f11]) ?_;simp[f11,aa];refine⟨⟨rW _,o_⟩,?_⟩;simp[hc];refine⟨⟨by repeat' first|rfl|apply b3,by repeat' first|rfl|apply b3⟩,?_⟩;refine lp (α:=Nat) (fun i=>match i with
    |0=>⟨[(18,.p (.int .i64 0)),(17,.p (.int .i64 t.aB.length)),(16,.p (.seq (t.aB.map bn))),(3,.ptr 4 []),(2,.ptr 1 []),(1,.ptr 0 [])],[.box false (.p (cg t)),.box false (.p (.st 35 [.aH,.int .i64 0,.aH,.aH])),.arr .exact 0 2 [],.arr .grow 0 2 (t.cs.map (AV.p∘aG)),.box false (.st 35 [.sl 3 0 2 0 t.cs.length,.p (.int .i64 t.aU),.p .aH,.p .aH])]⟩
    |m+1=>⟨[(18,.p (.int .i64 ((m+1:Nat):Int))),(17,.p (.int .i64 t.aB.length)),(16,.p (.seq (t.aB.map bn))),(3,.ptr 4 []),(2,.ptr 1 []),(1,.ptr 0 [])],[.box false (.p (cg t)),.box false (.p (.st 35 [.aH,.int .i64 0,.aH,.aH])),.arr .exact 0 2 [],.arr .grow 0 2 (t.cs.map (AV.p∘aG)),.box false (.st 35 [.sl 3 0 2 0 t.cs.length,.p (.int .i64 t.aU),.sl 7 m 4 0 (m+1),.p .aH]),.hole,.hole,.arr .grow m 4 ((t.aB.take (m+1)).map (AV.p∘bn))]⟩) (fun i=>i<=t.aB.length) (fun i=>t.aB.length-i) 0 s_ ?_
  rintro i g
  by_cases hi:i<t.aB.length
  ·have a:=aj.gz hi;rcases i with _|q
   ·have b:=kz a;simp[hi,a,e,aa];exact⟨o_,rd 1 hi (hh:=by simp[b]) (hr2:=by simp[fo])⟩
   ·have c:cy.wrap ((q:Int)+1+1)=(q:Int)+1+1:=aK _ o_ o_;have hI:(q:Int)+1<t.aB.length:=by omega
    have b:=ky (f:=AV.p∘bn) a;simp[hi,hI,a,c,aa];exact⟨o_,⟨o_,o_⟩,rd (q+2) hi (hh:=by simp at b;simp[b]) (hr2:=by simp[fo])⟩
  obtain rfl:i=j+1:=o_
  have hI:¬((j:Int)+1<t.aB.length):=o_
  have d:t.aB.take (j+1)=t.aB:=dp o_;simp[hI,d,aa,l];refine lp (α:=Nat) (fun _=>⟨[(32,.p (.int .i64 0)),(31,.p (.int .i64 0)),(30,.p (.seq [])),(3,.ptr 4 []),(2,.ptr 1 []),(1,.ptr 0 [])],[.box false (.p (cg t)),.box false (.p (.st 35 [.aH,.int .i64 0,.aH,.aH])),.arr .exact 0 2 [],.arr .grow 0 2 (t.cs.map (AV.p∘aG)),.box false (.st 35 [.sl 3 0 2 0 t.cs.length,.p (.int .i64 t.aU),.sl 7 j 4 0 (j+1),.p .aH]),.hole,.hole,.arr .grow j 4 (t.aB.map (AV.p∘bn))]⟩) (fun _=>True) (fun _=>0) 0 trivial ?_;rintro _ _;simp[aa,vY,cL];exact cW.og s_ s_ s_ s_ s_
 ·intro k hk;refine dS nf (i_ func11) mix (by simp[f11]) ?_;simp[f11,aa];refine⟨⟨rW _,o_⟩,?_⟩;simp[hc];refine⟨⟨by repeat' first|rfl|apply b3,by repeat' first|rfl|apply b3⟩,?_⟩;refine lp (α:=Nat) (fun i=>match i with
    |0=>⟨[(18,.p (.int .i64 0)),(17,.p (.int .i64 t.aB.length)),(16,.p (.seq (t.aB.map bn))),(3,.ptr 4 []),(2,.ptr 1 []),(1,.ptr 0 [])],[.box false (.p (cg t)),.box false (.p (.st 35 [.aH,.int .i64 0,.aH,.aH])),.arr .exact 0 2 [],.arr .grow 0 2 (t.cs.map (AV.p∘aG)),.box false (.st 35 [.sl 3 0 2 0 t.cs.length,.p (.int .i64 t.aU),.p .aH,.p .aH])]⟩
    |m+1=>⟨[(18,.p (.int .i64 ((m+1:Nat):Int))),(17,.p (.int .i64 t.aB.length)),(16,.p (.seq (t.aB.map bn))),(3,.ptr 4 []),(2,.ptr 1 []),(1,.ptr 0 [])],[.box false (.p (cg t)),.box false (.p (.st 35 [.aH,.int .i64 0,.aH,.aH])),.arr .exact 0 2 [],.arr .grow 0 2 (t.cs.map (AV.p∘aG)),.box false (.st 35 [.sl 3 0 2 0 t.cs.length,.p (.int .i64 t.aU),.sl 7 m 4 0 (m+1),.p .aH]),.hole,.hole,.arr .grow m 4 ((t.aB.take (m+1)).map (AV.p∘bn))]⟩) (fun i=>i<=t.aB.length) (fun i=>t.aB.length-i) 0 s_ ?_
  rintro i g
  by_cases hi:i<t.aB.length
  ·have a:=aj.gz hi;rcases i with _|q
   ·have b:=kz a;simp[hi,a,e,aa];exact⟨o_,rd 1 hi (hh:=by simp[b]) (hr2:=by simp[fo])⟩
   ·have c:cy.wrap ((q:Int)+1+1)=(q:Int)+1+1:=aK _ o_ o_;have hI:(q:Int)+1<t.aB.length:=by omega
    have b:=ky (f:=AV.p∘bn) a;simp[hi,hI,a,c,aa];exact⟨o_,⟨o_,o_⟩,rd (q+2) hi (hh:=by simp at b;simp[b]) (hr2:=by simp[fo])⟩
  obtain rfl:i=j+1:=o_
  have hI:¬((j:Int)+1<t.aB.length):=o_
  have d:t.aB.take (j+1)=t.aB:=dp o_;simp[hI,d,aa];refine lp (α:=Nat) (fun i=>match i with
   |0=>⟨[(32,.p (.int .i64 0)),(31,.p (.int .i64 t.ag.length)),(30,.p (.seq (t.ag.map aR))),(3,.ptr 4 []),(2,.ptr 1 []),(1,.ptr 0 [])],[.box false (.p (cg t)),.box false (.p (.st 35 [.aH,.int .i64 0,.aH,.aH])),.arr .exact 0 2 [],.arr .grow 0 2 (t.cs.map (AV.p∘aG)),.box false (.st 35 [.sl 3 0 2 0 t.cs.length,.p (.int .i64 t.aU),.sl 7 j 4 0 (j+1),.p .aH]),.hole,.hole,.arr .grow j 4 (t.aB.map (AV.p∘bn))]⟩
   |m+1=>⟨[(32,.p (.int .i64 ((m+1:Nat):Int))),(31,.p (.int .i64 t.ag.length)),(30,.p (.seq (t.ag.map aR))),(3,.ptr 4 []),(2,.ptr 1 []),(1,.ptr 0 [])],[.box false (.p (cg t)),.box false (.p (.st 35 [.aH,.int .i64 0,.aH,.aH])),.arr .exact 0 2 [],.arr .grow 0 2 (t.cs.map (AV.p∘aG)),.box false (.st 35 [.sl 3 0 2 0 t.cs.length,.p (.int .i64 t.aU),.sl 7 j 4 0 (j+1),.sl 10 m 3 0 (m+1)]),.hole,.hole,.arr .grow j 4 (t.aB.map (AV.p∘bn)),.hole,.hole,.arr .grow m 3 ((t.ag.take (m+1)).map (AV.p∘aR))]⟩) (fun i=>i<=t.ag.length) (fun i=>t.ag.length-i) 0 s_ ?_
  rintro i g
  by_cases hi:i<t.ag.length
  ·have a:=aj.dP hi;rcases i with _|q
   ·have b:=kz a;simp[hi,a,e,aa];exact⟨o_,rd 1 hi (hh:=by simp[b]) (hr2:=by simp[fo])⟩
   ·have c:cy.wrap ((q:Int)+1+1)=(q:Int)+1+1:=aK _ o_ o_;have hI:(q:Int)+1<t.ag.length:=by omega
    have b:=ky (f:=AV.p∘aR) a;simp[hi,hI,a,c,aa];exact⟨o_,⟨o_,o_⟩,rd (q+2) hi (hh:=by simp at b;simp[b]) (hr2:=by simp[fo])⟩
  obtain rfl:i=k+1:=o_
  have h:¬((k:Int)+1<t.ag.length):=o_
  have n:t.ag.take (k+1)=t.ag:=dp o_;simp[h,n,aa,vY,cL,dt];exact cW.og s_ s_ s_ s_ s_
theorem wL{p:bU}:dd p=false↔bV p:=by
 constructor
 ·exact rQ
 ·intro h;simp only[bV]at h;simp only[dd,cc,decide_eq_false_iff_not];omega
structure kT(k:Nat)(t:aj):Prop where
 ok:gH t
 sh:fQ t=true
 ck:b9 t=0
 sm:pT k t
theorem JL{t:aj}(h:b9 t=0):gR t ld=0:=by
 rw[C8];refine⟨by decide,fun p a=>?_⟩;have:=wL.1 ((mb.1 h).2.2.1 p a);rw[wY,wL];simp only[bV]at*;omega
theorem C2{t:aj}(h:b9 t=0):gR t jI=0:=by
 rw[C8];refine⟨by decide,fun p a=>?_⟩;have:=wL.1 ((mb.1 h).2.2.1 p a);rw[GS,wL];simp only[bV]at*;omega
theorem kT.Gp{k:Nat}{t:aj}{m:aQ}(h:kT k t)(a:gR t m=0)(c:m.cw=⟨0,0⟩)(hk:k<=28):kT (k+2) (cA m t):=by
 have b:=(rT a).1;exact⟨Ll h.ok h.sm b o_,Jh h.sh h.sm b o_,Ds h.ck a h.sm o_,aCW h.sm c⟩
theorem kT.any{k:Nat}{t:aj}{m:aQ}(h:kT k t)(b:gR t m=0)(hk:k<=28):kT (k+15) (cA m t):=by
 have a:=(rT b).1;exact⟨Ll h.ok h.sm a o_,Jh h.sh h.sm a o_,Ds h.ck b h.sm o_,aCV h.sm a⟩
theorem zR{k:Nat}{t:aj}{m:aQ}(h:kT k t)(a:gR t m=0):az prog 29 [bJ t,di m] (.aD [bJ (cA m t),.int .i64 0]):=by
 have:=Wd t m h.ok h.sh;rw[Cc,if_pos h.ck,a,if_pos rfl]at this;exact this
def tV(t:aj):Nat->aj
 |0=>t
 |k+1=>cA ld (tV t k)
theorem Di{t:aj}(h:kT 20 t):∀k,k<=4->kT (20+2*k) (tV t k)
 |0,_=>h
 |k+1,hk=>by
  have:=Di h k o_;exact this.Gp (JL this.ck) rfl o_
theorem aBX{t:aj}(h:kT 20 t){k:Nat}(hk:k<4):az prog 29 [bJ (tV t k),di ld] (.aD [bJ (tV t (k+1)),.int .i64 0]):=
 zR (Di h k o_) (JL (Di h k o_).ck)
theorem I0{t:aj}(h:b9 t=0):∀s∈t.ag,df s.pt=0:=fun s hs=>by
 obtain⟨j,a⟩:=ew.1 hs;exact(Dd.1 ((mb.1 h).2.2.2.2.2.2.2.2.2 j s a)).2.2.1
theorem wO{t:aj}(h:b9 t=0):∀p∈t.aB,0<=p.bH/\p.bH<t.cs.length/\bK p.a=0/\bK p.b=0/\dH (aI p.a)=0/\dH (aI p.b)=0:=fun p d=>by
 obtain⟨j,c⟩:=ew.1 d;have:=wK.1 ((mb.1 h).2.2.2.2.2.2.2.1 j p c);exact⟨this.2.2.1,this.2.2.2.1,this.2.2.2.2.1,this.2.2.2.2.2.1,this.2.2.2.2.2.2.1,this.2.2.2.2.2.2.2.1⟩
theorem aPW{t:aj}(h:b9 t=0):tV t 4=t:=WA t (I0 h)
theorem aOV{t:aj}(h:b9 t=0):cA jI (cA jI t)=t:=aOW t (I0 h) (fun p a=>⟨(wO h p a).2.2.1,(wO h p a).2.2.2.1⟩)
theorem wM{k:Nat}{t:aj}(h:kT k t){p:bZ}(c:p∈t.aB){s:List Nat}(hs:s=p.a\/s=p.b):az prog 36 [bJ t,.int .i64 p.bH,.str s] (.aD [eV (t.jr p.bH.toNat (aI s)),.int .i64 0]):=by
 obtain⟨g,a2,a3,a4,a5,i⟩:=wO h.ck p c;have f:=h.sh;rw[fQ,b4,b4,e6]at f;have hl:=f.2.1 p c;simp only[jv,b4,decide_eq_true_eq]at hl;have hk:=h.ok.pk p c;have c0:bK s=0:=by rcases hs with rfl|rfl<;>assumption
 have s0:dH (aI s)=0:=by rcases hs with rfl|rfl<;>assumption
 have:=aB9 t p.bH s h.ok (by rcases hs with rfl|rfl;exact hk.2.1;exact hk.2.2) (by rcases hs with rfl|rfl;exact hl.2.1;exact hl.2.2);have e1:mB t p.bH s=0:=by
  rw[mB,lF];intro e d;simp only[hj,ha,or_false]at d;rcases d with rfl|rfl|rfl
  ·exact h.ck
  ·rw[bh,if_neg];simp only[decide_eq_true_eq];omega
  ·exact c0
 rw[oL,if_pos e1,s0,if_pos rfl]at this;exact this
theorem WS{t:aj}{m:aQ}{p:bZ}(d:0<=p.bH)(e:p.bH<t.cs.length):
 (m.fV=false->(cA m t).jr p.bH.toNat (aI p.a)=m.pl (t.jr p.bH.toNat (aI p.a)))/\
 (m.fV=true->(cA m t).jr (gB t.cs.length p).bH.toNat (aI (gB t.cs.length p).b)=m.pl (t.jr p.bH.toNat (aI p.a))):=by
 constructor
 ·intro c;exact aCP m c o_ _
 ·intro c;rw[mC.2,show(gB t.cs.length p).bH.toNat=t.cs.length-1-p.bH.toNat by simp only[gB];omega];exact aCO m c o_ _
theorem WR{t b:aj}(h:yV t b 6 6=true)(m:gH t):kT 20 t/\kK t b=0/\b.ag.length<=6/\t.ag.length<=8/\∀s∈b.ag,bP 20 (vP s.pt)/\df s.pt=0:=by
 simp only[yV,b4,decide_eq_true_eq,e6]at h;obtain⟨d,n,f,a,g,i,j,k⟩:=h;rw[Dp]at a;refine⟨⟨m,d,a.1,?_,?_⟩,a.2,f,g,?_⟩
 ·intro p l;have:=i p l;exact⟨(rq this.1).1,(rq this.2).1⟩
 ·intro s hs;have:=j s hs;simp only[ot,b4]at this;exact⟨(rq this.1).1,(rq this.2).1⟩
 ·intro s hs;have:=k s hs;simp only[ot,b4]at this;refine⟨⟨(rq this.1).1,(rq this.2).1⟩,?_⟩;rw[df,lF];intro e c;simp only[hj,ha,or_false]at c;rcases c with rfl|rfl
  ·exact(rq this.1).2
  ·exact(rq this.2).2
theorem aOC{t:aj}(h:gH t)(b:1<=t.cs.length):gH (bL t):=by
 refine⟨by rw[mE b];exact h.cl,by rw[ma,dk];exact h.pl,h.sl,?_,h.sp⟩;intro p a;rw[ma]at a;obtain⟨q,hq,rfl⟩:=dz.1 a;exact h.pk q hq
theorem V1{t:aj}(h:fQ t=true)(e:1<=t.cs.length):fQ (bL t)=true:=by
 rw[fQ,b4,b4,e6]at h⊢;obtain⟨a,b,c⟩:=h;refine⟨by rw[mE e,ma,dk];exact a,?_,c⟩;intro p d;rw[ma]at d;obtain⟨q,hq,rfl⟩:=dz.1 d;exact b q hq
theorem Gk{k:Nat}{t:aj}(h:kT k t):az prog 38 [bJ t,bJ (bL t)] (.aD [.bool true,.int .i64 0]):=by
 have a:=(mb.1 h.ck).1;have:=Wr t (bL t) h.ok (aOC h.ok o_) h.sh (V1 h.sh o_);have e:bQ [b9 t,b9 (bL t)]=0:=by rw[h.ck,aOA h.ck];rfl
 have e2:zK t (bL t)=true:=by rw[zK,WG h.ck];exact qe rfl
 rw[e,if_pos rfl,e2]at this;exact this
theorem C4:pV []:=fun b o h=>by simp at h
theorem uk{k:AK}{ar z:Nat}{c:List PV}{H:Heap}(d:¬(k.gr=true/\c.map AV.p=[]))(h:pV H):pV (.arr k ar z (c.map AV.p)::H):=fun b o a=>by
 rcases b with _|b
 ·simp at a;exact⟨k,ar,z,c,a.symm,d⟩
 ·exact h b o (by simpa using a)
theorem vT{α:Type}{f:α->PV}{l:List α}:l.map (AV.p∘f)=(l.map f).map AV.p:=by rw[fd]
theorem DA{α:Type}{f:α->PV}{l:List α}{H:Heap}{n:Nat}:ku H n (l.map (AV.p∘f)) (l.map f):=by
 rw[ri];intro x _;cases n<;>simp
theorem ne_nil{α:Type}{k:AK}{f:α->PV}{l:List α}(h:1<=l.length):¬(k.gr=true/\(l.map f).map AV.p=[]):=by
 rintro⟨_,e⟩;have:=congrArg gm e;rw[dk,dk,gc]at this;omega
section
variable{k:Nat}{t:aj}(h:kT k t)
include h
theorem aOw{v:Nat}(c:t.aB=[]):b8 prog 38 [.arr .grow v 2 ((bL t).cs.map (AV.p∘aG))] [.p (bJ t),.st 35 [.sl 0 v 2 0 t.cs.length,.p (.int .i64 t.aU),.p (.seq []),.p (.seq (t.ag.map aR))]] [.arr .frozen v 2 ((bL t).cs.map (AV.p∘aG))] (.p (.aD [.bool true,.int .i64 0])):=by
 have e:=(mb.1 h.ck).1;have hl:=mE (t:=t) o_;have a:pV [.arr .grow v 2 ((bL t).cs.map (AV.p∘aG))]:=by
  rw[vT];exact uk (ne_nil o_) C4
 have b:bJ (bL t)=.st 35 [.seq ((bL t).cs.map aG),.int .i64 t.aU,.seq [],.seq (t.ag.map aR)]:=by
  rw[show bJ (bL t)=.st 35 [.seq ((bL t).cs.map aG),.int .i64 t.aU,.seq ((bL t).aB.map bn),.seq (t.ag.map aR)]from rfl,ma,c];rfl
 refine az.GP 9 (Gk h) (i_ func38).enters a ?_;rw[b];have d:en t.cs.length ((bL t).cs.map (AV.p∘aG))=(bL t).cs.map (AV.p∘aG):=dp (by rw[dk];omega);simp[hl,d,DA]
theorem aOx{v j:Nat}(c:t.aB.length=j+1)(hs:t.ag=[]):b8 prog 38 [.arr .grow v 2 ((bL t).cs.map (AV.p∘aG)),.arr .grow j 4 (cL (bL t).aB)] [.p (bJ t),.st 35 [.sl 0 v 2 0 t.cs.length,.p (.int .i64 t.aU),.sl 1 j 4 0 (j+1),.p .aH]] [.arr .frozen v 2 ((bL t).cs.map (AV.p∘aG)),.arr .frozen j 4 (cL (bL t).aB)] (.p (.aD [.bool true,.int .i64 0])):=by
 have g:=(mb.1 h.ck).1;have hl:=mE (t:=t) o_;have d:(bL t).aB.length=j+1:=by rw[ma,dk];exact c
 have a:pV [.arr .grow v 2 ((bL t).cs.map (AV.p∘aG)),.arr .grow j 4 (cL (bL t).aB)]:=by
  rw[cL,vT,vT];exact uk (ne_nil o_) (uk (ne_nil o_) C4)
 have b:bJ (bL t)=.st 35 [.seq ((bL t).cs.map aG),.int .i64 t.aU,.seq ((bL t).aB.map bn),.seq []]:=by
  rw[show bJ (bL t)=.st 35 [.seq ((bL t).cs.map aG),.int .i64 t.aU,.seq ((bL t).aB.map bn),.seq (t.ag.map aR)]from rfl,hs];rfl
 refine az.GP 9 (Gk h) (i_ func38).enters a ?_;rw[b];have e:en t.cs.length ((bL t).cs.map (AV.p∘aG))=(bL t).cs.map (AV.p∘aG):=dp (by rw[dk];omega);have f:en (j+1) ((bL t).aB.map (AV.p∘bn))=(bL t).aB.map (AV.p∘bn):=dp (by rw[dk];omega);simp[hl,e,d,cL,f,DA]
theorem aOy{v j i:Nat}(c:t.aB.length=j+1)(hs:t.ag.length=i+1):b8 prog 38 [.arr .grow v 2 ((bL t).cs.map (AV.p∘aG)),.arr .grow j 4 (cL (bL t).aB),.arr .grow i 3 (dt t.ag)] [.p (bJ t),.st 35 [.sl 0 v 2 0 t.cs.length,.p (.int .i64 t.aU),.sl 1 j 4 0 (j+1),.sl 2 i 3 0 (i+1)]] [.arr .frozen v 2 ((bL t).cs.map (AV.p∘aG)),.arr .frozen j 4 (cL (bL t).aB),.arr .frozen i 3 (dt t.ag)] (.p (.aD [.bool true,.int .i64 0])):=by
 have k:=(mb.1 h.ck).1;have hl:=mE (t:=t) o_;have d:(bL t).aB.length=j+1:=by rw[ma,dk];exact c
 have a:pV [.arr .grow v 2 ((bL t).cs.map (AV.p∘aG)),.arr .grow j 4 (cL (bL t).aB),.arr .grow i 3 (dt t.ag)]:=by
  rw[cL,dt,vT,vT,vT];exact uk (ne_nil o_) (uk (ne_nil o_) (uk (ne_nil o_) C4))
 have b:bJ (bL t)=.st 35 [.seq ((bL t).cs.map aG),.int .i64 t.aU,.seq ((bL t).aB.map bn),.seq (t.ag.map aR)]:=rfl;refine az.GP 9 (Gk h) (i_ func38).enters a ?_;rw[b];have e:en t.cs.length ((bL t).cs.map (AV.p∘aG))=(bL t).cs.map (AV.p∘aG):=dp (by rw[dk];omega);have f:en (j+1) ((bL t).aB.map (AV.p∘bn))=(bL t).aB.map (AV.p∘bn):=dp (by rw[dk];omega);have g:en (i+1) (t.ag.map (AV.p∘aR))=t.ag.map (AV.p∘aR):=dp (by rw[dk];omega);simp[hl,e,d,hs,cL,dt,f,g,DA]
end
@[simp] theorem aT0(p:Nat×Nat):aP (kM p)=.agg 106:=rfl
theorem VV(l:List (Nat×Nat))(hl:l.length<=1000000):az prog 33 [.seq (l.map kM),.seq (l.map kM)] (.bool true):=by
 refine aJ nf (i_ func33) mix (by simp[f33]) ?_;simp[f33,aa];refine lp (α:=Nat) (fun i=>⟨[(5,.p (.int .i64 i)),(1,.p (.seq (l.map kM))),(0,.p (.seq (l.map kM)))],[]⟩) (fun i=>i<=l.length) (fun i=>l.length-i) 0 s_ ?_;intro i d
 by_cases hi:i<l.length
 ·obtain⟨p,a⟩:∃p,l[i]?=some p:=⟨_,dl hi⟩
  have b:l[i]=p:=by rw[dl hi]at a;injection a
  have c:=bS (i:=i) o_;simp[hi,a,b,kM,c,aa];exact rd (i+1) hi
 ·simp[hi,aa]
theorem Wh(ab:az prog 9 [] (.bool true))(t b:aj)(m:aQ)(g:gH t)(O:mc b):az prog 6 [cg t,.seq (b.ag.map aR),di m] (.bool true):=by
 have s0:=aAJ t b 6 6 g O (by decide) (by decide);rw[show(((6:Nat):Int))=6 from rfl]at s0;rcases aq:yV t b 6 6 with _|_
 ·rw[aq]at s0;refine aJ nf (i_ func6) mix (by simp[f6]) ?_;simp[f6,aa];refine c4_ s0 ?_;simp[aa];refine c0_ ab ?_;simp[aa]
 rw[aq]at s0;obtain⟨hI,bw,bW,bY,av⟩:=WR aq g;have A:=hI.ck;obtain⟨g1,g2,g3,g4,g5,g6,g7,g8,g9,g10⟩:=mb.1 A;have bb:∀p∈t.cs,bV p:=fun p bD=>wL.1 (g3 p bD);have aP:=V0 t m g.cl bb
 by_cases I:gR t m=0
 case neg=>
  generalize gR t m=M at*;refine aJ nf (i_ func6) mix (by simp[f6]) ?_;simp[f6,aa];refine c4_ s0 ?_;simp[aa];refine c2_ aP ?_;simp[aa,I];refine c0_ ab ?_;simp[aa]
 rw[I]at aP;have f:=(rT I).1;have o:=hI.any I (by decide);have ar:gJ t b=0:=Dp.2 ⟨A,bw⟩;have L:∀s∈b.ag,bP 20 (vP s.pt):=fun s hs=>(av s hs).1;have a0:=aCp ar I hI.sm L (by decide);have au:mc (fU m b):=by
  refine⟨by rw[fU,dk];exact O.sl,fun s hs=>?_⟩;rw[fU]at hs;obtain⟨q,hq,rfl⟩:=dz.1 hs;exact⟨(O.sp q hq).1,(zh (nG (L q hq) f) (by decide)).1⟩
 have q0:=VL t g.cl g.pl g.sl;have q1:=VT b O.sl;have bo:=zR hI I;have aE:=We t b m g O (fun s hs _=>(L s hs).mono (by decide));rw[show yP t b m=0 by rw[yP,if_pos ar,I],if_pos rfl,show b.ag.map m.sp=(fU m b).ag from rfl]at aE;have q4:=SM (cA m t) o.ok.pl o.ok.sl;have bp:=Wf (fU m b) au.sl;have ak:=IU (cA m t) (fU m b) o.ok au;rw[a0]at ak;have bq:=JU t g;rw[if_pos A]at bq;have aF:=JU (cA m t) o.ok;rw[if_pos o.ck,fW,Wm m o_]at aF;have a6:∀i j,i<j->j<b.ag.length->bE 1800 (b.dN i j).q:=fun i j E u=>by
  have C:=L _ (dq (aj.dP (t:=b) (i:=i) o_));have H:=L _ (dq (aj.dP u));rw[aj.dN,aj.vN,NV.yy,NV.jF,mu,mu];exact(DH (mr H C) (mr H C)).mono (by decide)
 have ac:(fU m b).ag.length=b.ag.length:=by rw[fU,dk]
 have aH:=IK t b g O (fun _=>a6);rw[if_pos ar]at aH;have af:=IK (cA m t) (fU m b) o.ok au (fun _ i j E u=>by rw[ac]at u;rw[Ln m o_ u];exact a6 i j E u);rw[if_pos a0,ac,aCq]at af;have bm:=VV (jl t b (fG b.ag.length)) (by
  have E:(jl t b (fG b.ag.length)).length<=(fG b.ag.length).length:=by rw[jl];exact gi _ _
  have u:∀n,n<7->(fG n).length<=100:=by decide+kernel
  have bU:=u _ (by omega:b.ag.length<7);omega)
 have bi:∀i j,i<b.ag.length->j<b.ag.length->∃(D am:V2)(T:List Nat),az prog 35 [ft (b.sp i).pt,ft (b.sp j).pt] (eV D)/\az prog 34 [eV D] (.str T)/\az prog 35 [ft ((fU m b).sp i).pt,ft ((fU m b).sp j).pt] (eV am)/\az prog 34 [eV am] (.str T):=fun i j hi F=>by
  have P:=dq (aj.dP (t:=b) hi);have bj:=dq (aj.dP (t:=b) F);have aC:=L _ P;have aD:=L _ bj;have bM:=zH (av _ P).2;have bN:=zH (av _ bj).2;have e:∀k,k<b.ag.length->((fU m b).sp k).pt=lX (m.pl (vP (b.sp k).pt)):=fun k hk=>by
   have E:(fU m b).ag[k]?=some (m.sp (b.sp k)):=by
    rw[show(fU m b).ag=b.ag.map m.sp from rfl,ea,aj.dP hk];rfl
   have u:=aj.dP (t:=fU m b) (i:=k) (by rw[ac];exact hk);rw[E]at u;injection u with u
   rw[<-u];rfl
  rw[e i hi,e j F,<-uc,<-uc];have C:=yN (vP (b.sp i).pt) (vP (b.sp j).pt) (aC.mono (by decide)) (aD.mono (by decide));rw[uc,uc,bM,bN]at C;have bH:=mr aC aD;have H:=DZ _ (bH.mono (by decide));have bk:=nG aC f;have bl:=nG aD f;have aU:=yN (m.pl (vP (b.sp i).pt)) (m.pl (vP (b.sp j).pt)) (bk.mono (by decide)) (bl.mono (by decide));have ao:=DZ _ ((mr bk bl).mono (by decide));refine⟨_,_,_,C,H,aU,?_⟩;rw[mA,Dn]at ao;rw[mA];exact ao
 have be:∀i,i<t.aB.length->∃(k:bZ)(V U Y an:V2),(cA m t).aB[i]?=some k/\k.name=(t.pk i).name/\az prog 36 [bJ t,.int .i64 (t.pk i).bH,.str (t.pk i).a] (.aD [eV V,.int .i64 0])/\az prog 36 [bJ (cA m t),.int .i64 k.bH,.str k.a] (.aD [eV Y,.int .i64 0])/\az prog 36 [bJ (cA m t),.int .i64 k.bH,.str k.b] (.aD [eV an,.int .i64 0])/\az prog 37 [di m,eV V] (eV U)/\(U=Y\/U=an):=fun i hi=>by
  have P:=dq (aj.gz hi);obtain⟨C,H,aU,ao,a5,bT⟩:=wO A _ P;have bI:=(hI.sm.1 _ P).1;have bK:=Jy bb (i:=(t.pk i).bH.toNat) o_ bI;have e1:=wM hI P (s:=(t.pk i).a) (.inl rfl);have e4:=WU m (t.jr (t.pk i).bH.toNat (aI (t.pk i).a)) (bK.mono (by decide)) f;obtain⟨m1,m2⟩:=WS (t:=t) (m:=m) (p:=t.pk i) C H;rcases hm:m.fV with _|_
  ·have hk:(cA m t).aB[i]?=some (t.pk i):=by rw[ln,if_neg (by rw[hm];simp),aj.gz hi]
   have mk:=dq hk;exact⟨_,_,_,_,_,hk,rfl,e1,wM o mk (.inl rfl),wM o mk (.inr rfl),e4,.inl (m1 hm).symm⟩
  ·have hk:(cA m t).aB[i]?=some (gB t.cs.length (t.pk i)):=by rw[ln,if_pos hm,ea,aj.gz hi];rfl
   have mk:=dq hk;exact⟨_,_,_,_,_,hk,rfl,e1,wM o mk (.inl rfl),wM o mk (.inr rfl),e4,.inr (m2 hm).symm⟩
 have bf:(cA m t).aB.length=t.aB.length:=by
  rw[ln];split
  ·rw[dk]
  ·rfl
 have a3:(cA m t).cs.length=t.cs.length:=fW m t;have bx:∀x:aj,bJ x=.st 35 [.seq (x.cs.map aG),.int .i64 x.aU,.seq (x.aB.map bn),.seq (x.ag.map aR)]:=fun _=>rfl;obtain⟨X,bG⟩:∃x,x=cA m t:=⟨_,rfl⟩
 obtain⟨b',bC⟩:∃x,x=fU m b:=⟨_,rfl⟩
 rw[<-bG]at bo q4 ak aF af o bf a3 be;rw[<-bC]at aE bp ak af bi ac;generalize kq (t.jm t.cs.length) 2=bO at*;obtain⟨bQ,bA⟩:∃l,jl t b (fG b.ag.length)=l:=⟨_,rfl⟩
 have d:cy.wrap 0=0:=by decide
 rw[bA]at aH af bm;refine aJ nf (i_ func6) mix (by simp[f6]) ?_;simp[f6,aa];refine c4_ s0 ?_;simp[aa,d];refine c2_ aP ?_;simp[aa,d];refine c1_ q0 ?_;simp[aa,d];refine c1_ q1 ?_;simp[aa,d];refine c2_ bo ?_;simp[aa,d];refine c3_ aE ?_;simp[aa,d];refine c1_ q4 ?_;simp[aa,d];refine c1_ bp ?_;simp[aa,d];refine c2_ ak ?_;simp[aa,d,ac,a3,bf];refine c1_ bq ?_;simp[aa,d];refine c1_ aF ?_;simp[aa,d];refine c2_ aH ?_;simp[aa,d];refine c2_ af ?_;simp[aa,d];refine c2_ bm ?_;simp[aa,d];refine lp (α:=Nat) (fun i=>⟨[(153,.p (.int .i64 i)),(152,.p (.int .i64 b.ag.length)),(11,.p (.seq (b'.ag.map aR))),(9,.ptr 3 []),(7,.ptr 2 []),(5,.ptr 1 []),(3,.ptr 0 []),(1,.p (.seq (b.ag.map aR)))],[.box false (.p (cg t)),.box false (.p (di m)),.box false (.p (bJ t)),.box false (.p (bJ X))]⟩) (fun i=>i<=b.ag.length) (fun i=>b.ag.length-i) 0 s_ ?_;rintro i i1
 by_cases hi:i<b.ag.length
 ·have z:=aj.dP hi;have aW:=aj.dP (t:=b') (i:=i) o_;have K:i<b'.ag.length:=by omega
  have f:=bS (i:=i) o_;simp[hi,f,aa];refine lp (α:=Nat) (fun j=>⟨[(158,.p (.int .i64 j)),(157,.p (.int .i64 b.ag.length)),(153,.p (.int .i64 i)),(152,.p (.int .i64 b.ag.length)),(21,.p (.int .i64 i)),(11,.p (.seq (b'.ag.map aR))),(9,.ptr 3 []),(7,.ptr 2 []),(5,.ptr 1 []),(3,.ptr 0 []),(1,.p (.seq (b.ag.map aR)))],[.box false (.p (cg t)),.box false (.p (di m)),.box false (.p (bJ t)),.box false (.p (bJ X))]⟩) (fun j=>j<=b.ag.length) (fun j=>b.ag.length-j) 0 s_ ?_;rintro j b0
  by_cases F:j<b.ag.length
  ·have aX:=aj.dP F;have aY:=aj.dP (t:=b') (i:=j) o_;have a7:j<b'.ag.length:=by omega
   have aB:=bS (i:=j) o_;obtain⟨D,am,T,Q,aL,aN,aO⟩:=bi i j hi F;simp[hi,F,K,a7,z,aX,aW,aY,aB,aa];refine e2_ Q ?_;simp[aa];refine e1_ aL ?_;simp[hi,F,K,a7,z,aX,aW,aY,aB,aa];refine e2_ aN ?_;simp[aa];refine e1_ aO ?_;simp[aB,aa];exact rd (j+1) F
  ·obtain rfl:j=b.ag.length:=by omega
   simp[f,aa];exact rd (i+1) hi
 obtain rfl:i=b.ag.length:=o_
 simp[aa];refine lp (α:=Nat) (fun i=>⟨[(191,.p (.int .i64 i)),(190,.p (.int .i64 t.aB.length)),(189,.p (.seq (t.aB.map bn))),(9,.ptr 3 []),(7,.ptr 2 []),(5,.ptr 1 []),(3,.ptr 0 [])],[.box false (.p (cg t)),.box false (.p (di m)),.box false (.p (bJ t)),.box false (.p (bJ X))]⟩) (fun i=>i<=t.aB.length) (fun i=>t.aB.length-i) 0 s_ ?_;rintro i i1
 by_cases hi:i<t.aB.length
 ·have z:=aj.gz hi;have f:=bS (i:=i) o_;obtain⟨k,V,U,Y,an,gk,ay,Q,aL,aN,aO,bB⟩:=be i hi;have K:i<X.aB.length:=by omega
  have ap:X.pk i=k:=by
   have:=aj.gz K;rw[gk]at this;injection this with this
   exact this.symm
  have b2:cy.wrap (0+0)=0:=by decide
  simp[hi,z,aa];refine c3_ Q ?_;simp[K,gk,ap,aa];refine c3_ aL ?_;simp[K,gk,ap,aa];refine c3_ aN ?_;simp[K,gk,ap,aa];refine c2_ aO ?_;rcases bB with rfl|rfl
  ·have ai:pA (bg U.x) (bg U.y) (bg U.x) (bg U.y)=true:=by simp[pA]
   simp[-fC,fC.eq_1,fC.eq_2,fC.eq_3,aa,d,ay,ai,f];exact rd (i+1) hi
  ·have ai:pA (bg U.x) (bg U.y) (bg U.x) (bg U.y)=true:=by simp[pA]
   rcases bd:pA (bg U.x) (bg U.y) (bg Y.x) (bg Y.y)with _|_
   ·simp[-fC,fC.eq_1,fC.eq_2,fC.eq_3,aa,d,ay,ai,bd,f];exact rd (i+1) hi
   ·simp[-fC,fC.eq_1,fC.eq_2,fC.eq_3,aa,d,ay,ai,bd,f];exact rd (i+1) hi
 obtain rfl:i=t.aB.length:=o_
 simp[aa];have bF:di ld=.st 65 [.bool false,.int .i64 1,.st 63 [.int .i64 0,.int .i64 0]]:=rfl;have a8:di jI=.st 65 [.bool true,.int .i64 0,.st 63 [.int .i64 0,.int .i64 0]]:=rfl;refine lp (α:=Nat) (fun k=>⟨[(256,.p (.int .i64 k)),(33,.ptr 4 []),(7,.ptr 2 []),(3,.ptr 0 [])],[.box false (.p (cg t)),.box false (.p (di m)),.box false (.p (bJ t)),.box false (.p (bJ X)),.box false (.p (bJ (tV t k)))]⟩) (fun k=>k<=4) (fun k=>4-k) 0 s_ ?_ (hh:=by simp[tV]);rintro k k1
 by_cases hk:k<4
 ·have bz:(k:Int)<4:=by omega
  have f:=bS (i:=k) o_;have Q:=aBX hI hk;rw[bF]at Q;simp[bz,hk,aa];refine c2_ Q ?_;simp[f,aa];exact rd (k+1) hk
 obtain rfl:k=4:=o_
 rw[aPW A];have u1:=zR hI (C2 A);have aZ:=hI.Gp (C2 A) rfl (by decide);have bs:=zR aZ (C2 aZ.ck);rw[aOV A,a8]at bs;rw[a8]at u1;have bt:=SM t g.pl g.sl;have bu:=aAN t g.cl g.pl g.sl;generalize cA jI t=b1 at*;simp[aa];refine c2_ u1 ?_;simp[aa];refine c2_ bs ?_;simp[aa,d];refine e1_ bt ?_;simp[aa];refine e2_ bu ?_;simp[aa];refine e1_ bt ?_;simp[aa];refine e2_ bu ?_;simp[aa];have a9:3<=t.cs.length:=g1;have a2:¬t.cs=[]:=fun h=>by rw[h]at a9;simp at a9
 obtain⟨c0,c,B⟩:∃c0 c,t.cs=c0::c:=by
  rcases h:t.cs with _|⟨a,r⟩
  ·exact absurd h a2
  ·exact⟨a,r,rfl⟩
 have J:t.cs.length=c.length+1:=by rw[B];rfl
 have ax:¬c=[]:=fun h=>by rw[h]at J;simp at J;omega
 have aw:fh prog 2 (c.map (AV.p∘aG)):=rW _;have ad:(bL t).cs.map (AV.p∘aG)=c.map (AV.p∘aG)++[AV.p (aG c0)]:=by
  rw[bL,B];simp
 have ad:(bL t).cs.map (AV.p∘aG)=c.map (AV.p∘aG)++[AV.p (aG c0)]:=by
  rw[bL,B];simp
 have R:∀σ:Nat->Nat,cF σ (c.map (AV.p∘aG)++[AV.p (aG c0)])=c.map (AV.p∘aG)++[AV.p (aG c0)]:=fun σ=>by rw[<-ad];exact iv
 have bX:(1000000:Nat)<cJ:=by decide
 rcases ah:t.aB.length with _|j
 ·have bc:t.aB=[]:=ec.1 ah;have G:=aOw hI (v:=1) bc;rw[ad,J]at G;rw[bx t,bc,B]at q0;refine c1_ q0 ?_;simp[aa,B,ax,aw];refine⟨o_,o_,by repeat' first|rfl|apply b3,?_⟩;refine lp (α:=Nat) (fun _=>⟨[(318,.p (.int .i64 0)),(317,.p (.int .i64 0)),(41,.ptr 7 []),(40,.p (.int .i64 (c.length+1))),(7,.ptr 2 [])],[.hole,.hole,.box false (.p (bJ t)),.hole,.hole,.hole,.hole,.box false (.st 35 [.sl 9 1 2 0 (c.length+1),.p (.int .i64 t.aU),.p (.seq []),.p (.seq (t.ag.map aR))]),.hole,.arr .grow 1 2 (c.map (AV.p∘aG)++[AV.p (aG c0)])]⟩) (fun _=>True) (fun _=>0) 0 trivial ?_;rintro _ _;simp[aa];refine cf G [9] ?_ (al:=by simp[sig,iv,R]) (hr:=s_);simp[ba,sig,aa,R];refine c0_ ab ?_;simp[aa]
 have aV:=V3 t j g.cl a2 ah o_ g.sl;have S:∀(σ:Nat->Nat)(q:List bZ),cF σ (cL q)=cL q:=fun σ q=>iv;have W:∀(σ:Nat->Nat)(q:List bR),cF σ (dt q)=dt q:=fun σ q=>iv;have br:∀(σ:Nat->Nat),cF σ (AV.p (aG c0)::c.map (AV.p∘aG))=AV.p (aG c0)::c.map (AV.p∘aG):=fun σ=>iv (l:=c0::c);obtain⟨w,ag⟩:∃w:Nat->List bZ,w=fun i=>(t.aB.take i).map (jt t.cs.length)++t.aB.drop i:=⟨_,rfl⟩
 have aS:w 0=t.aB:=by rw[ag];simp
 have aT:w (j+1)=(bL t).aB:=by rw[ag,ma];simp only;rw[dp o_,List.drop_of_length_le o_,fl]
 have a1:∀i,i<t.aB.length->∃p:bZ,t.aB[i]?=some p/\(cL (w i))[i]?=some (.p (bn p))/\cy.wrap (p.bH+((c.length:Int)+1))=p.bH+((c.length:Int)+1)/\cy.wrap (p.bH+((c.length:Int)+1)-1)=p.bH+((c.length:Int)+1)-1/\(jt t.cs.length p).bH=(p.bH+((c.length:Int)+1)-1).tmod ((c.length:Int)+1)/\(cL (w i)).set i (.p (bn (jt t.cs.length p)))=cL (w (i+1)):=fun i hi=>by
  have z:=aj.gz hi;obtain⟨C,H,_⟩:=wO A _ (dq z);have e2:((t.cs.length:Nat):Int)=(c.length:Int)+1:=o_
  have hl:((t.aB.take i).map (jt t.cs.length)).length=i:=by rw[dk,ei];omega
  have a4:t.aB.drop i=t.pk i::t.aB.drop (i+1):=by
   have E:=dl hi;rw[z]at E;rw[List.drop_eq_getElem_cons hi,<-Option.some.inj E]
  refine⟨t.pk i,z,?_,aK _ o_ o_,aK _ o_ o_,by rw[jt,e2],?_⟩
  ·rw[cL,ag];simp only;rw[ea,ge o_,hl,hu,a4];rfl
  ·rw[cL,cL,ag];simp only;rw[show AV.p (bn (jt t.cs.length (t.pk i)))=(AV.p∘bn) (jt t.cs.length (t.pk i))from rfl,<-List.map_set,List.set_append_right _ _ o_,hl,hu,a4,List.set_cons_zero,fv,z,hz];simp
 rcases aA:t.ag.length with _|k
 ·have bh:t.ag=[]:=ec.1 aA;have G:=aOx hI (v:=1) ah bh;rw[ad,J]at G;have Z:=aV.1 bh;rw[vY,J,B]at Z;refine cf Z [] ?_;simp[sig,ba,aa,B,ax,aw,S,W,br];refine⟨o_,o_,by repeat' first|rfl|apply b3,?_⟩;refine lp (α:=Nat) (fun i=>⟨[(318,.p (.int .i64 i)),(317,.p (.int .i64 (j+1))),(41,.ptr 15 []),(40,.p (.int .i64 (c.length+1))),(7,.ptr 2 [])],[.hole,.hole,.box false (.p (bJ t)),.hole,.hole,.hole,.hole,.hole,.hole,.hole,.hole,.hole,.hole,.hole,.arr .grow j 4 (cL (w i)),.box false (.st 35 [.sl 17 1 2 0 (c.length+1),.p (.int .i64 t.aU),.sl 14 j 4 0 (j+1),.p .aH]),.hole,.arr .grow 1 2 (c.map (AV.p∘aG)++[AV.p (aG c0)])]⟩) (fun i=>i<=j+1) (fun i=>j+1-i) 0 s_ ?_ (hh:=by simp[aS]) (hr2:=s_);rintro i i1
  by_cases hi:i<j+1
  ·have f:=bS (i:=i) o_;have o:(i:Int)<(j:Int)+1:=by omega
   obtain⟨p,bv,gs,v1,v2,N,aM⟩:=a1 i o_;have ae:¬cL (w i)=[]:=fun h=>by rw[h]at gs;simp at gs
   rw[bn,jt]at aM;rw[jt]at N;simp only at aM N;simp[hi,o,gs,f,v1,v2,aa];exact⟨ae,o_,ae,by repeat' first|rfl|apply b3,rd (i+1) hi (hh:=by simp[<-aM,<-N])⟩
  obtain rfl:i=j+1:=o_
  rw[aT];simp[aa];refine cf G [17,14] ?_ (al:=by simp[sig,iv,S,W,R]) (hr:=s_);simp[ba,sig,aa,S,W,R];refine c0_ ab ?_;simp[aa]
 ·have G:=aOy hI (v:=1) ah aA;rw[ad,J]at G;have Z:=aV.2 k aA;rw[vY,J,B]at Z;refine cf Z [] ?_;simp[sig,ba,aa,B,ax,aw,S,W,br];refine⟨o_,o_,by repeat' first|rfl|apply b3,?_⟩;refine lp (α:=Nat) (fun i=>⟨[(318,.p (.int .i64 i)),(317,.p (.int .i64 (j+1))),(41,.ptr 18 []),(40,.p (.int .i64 (c.length+1))),(7,.ptr 2 [])],[.hole,.hole,.box false (.p (bJ t)),.hole,.hole,.hole,.hole,.hole,.hole,.hole,.hole,.hole,.hole,.hole,.arr .grow j 4 (cL (w i)),.hole,.hole,.arr .grow k 3 (dt t.ag),.box false (.st 35 [.sl 20 1 2 0 (c.length+1),.p (.int .i64 t.aU),.sl 14 j 4 0 (j+1),.sl 17 k 3 0 (k+1)]),.hole,.arr .grow 1 2 (c.map (AV.p∘aG)++[AV.p (aG c0)])]⟩) (fun i=>i<=j+1) (fun i=>j+1-i) 0 s_ ?_ (hh:=by simp[aS]) (hr2:=s_);rintro i i1
  by_cases hi:i<j+1
  ·have f:=bS (i:=i) o_;have o:(i:Int)<(j:Int)+1:=by omega
   obtain⟨p,bv,gs,v1,v2,N,aM⟩:=a1 i o_;have ae:¬cL (w i)=[]:=fun h=>by rw[h]at gs;simp at gs
   rw[bn,jt]at aM;rw[jt]at N;simp only at aM N;simp[hi,o,gs,f,v1,v2,aa];exact⟨ae,o_,ae,by repeat' first|rfl|apply b3,rd (i+1) hi (hh:=by simp[<-aM,<-N])⟩
  obtain rfl:i=j+1:=o_
  rw[aT];simp[aa];refine cf G [20,14,17] ?_ (al:=by simp[sig,iv,S,W,R]) (hr:=s_);simp[ba,sig,aa,S,W,R];refine c0_ ab ?_;simp[aa]
end Go.an
