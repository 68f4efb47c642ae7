import Derived.Test.YtdjojlnnobkliaaGreatDoorSPE
import Derived.Test.YtdjojlnnobkliaaGreatDoorSThC
import Derived.Lib.AtoiAll
import Derived.Test.YtdjojlnnobkliaaGreatDoorSPC
/- Parts of a proof. -/
set_option maxRecDepth 100000
set_option maxHeartbeats 4000000
set_option linter.unusedSimpArgs false
set_option linter.unusedVariables false
set_option linter.unusedSectionVars false
open Go.Proofs.Tryz
open Bool renaming and_eq_true->dp, cond_eq_ite->dq, false_eq_true->dz, or_eq_true->ea
open Go renaming FuncId->eb
open Go.IntKind renaming i64->ec
open Int renaming natAbs_natCast->ed, tmod_eq_emod_of_nonneg->ee, natCast_nonneg->ei, tdiv_eq_ediv_of_nonneg->ej, ofNat_natAbs_of_nonpos->em, natCast_emod->en, natCast_mul->eo, natCast_ediv->eq, natAbs_of_nonneg->ew, natAbs_mul->e6, mul_ediv_cancel_left->e7, ofNat_dvd_left->e8, le_of_lt->e9, natAbs_neg->fb, mul_nonneg->fd, mul_neg_of_pos_of_neg->fl, negSucc->fm, natCast_one->fp, natCast_add->fv, sub_self->gb, lt_or_le->gc, ediv_one->ge, neg_neg->gg, neg_mul->gi, mul_neg->gj
open List renaming getElem?_eq_getElem->gm, take_of_length_le->gt, length_pos_iff->gw, range->gx, replicate->gy, all_eq_true->gB, map_cons->gE, take->g0, length_take->g4, getElem_mem->g5, length_append->g6, length_singleton->g7, drop_eq_getElem_cons->g8, take_succ_eq_append_getElem->g9, map_take->ha, getElem_range->hb, take_append_drop->hd, getElem_map->hg, append_nil->hj, getElem?_map->hl, mem_cons->hn, length_drop->ho, ext_getElem->hp, mem_map->ht, getElem?_range->hu, map_nil->hv, reverse_nil->hw, length_cons->hz, length->hA, length_map->hB, foldl_cons->hC, take_take->hD, getD_eq_getElem?_getD->hE, all_cons->hF, map_map->hG, dropWhile_sublist->hH, map->hJ, map_congr_left->hK, getElem_of_mem->hL, flatten_append->hM, dropWhile_cons->hN, mem_singleton->hO, getElem_of_eq->hP, take_length->hQ, getElem_set->hR, flatten_nil->hS, drop->hT, range_succ->hU, nil_append->hV, mem_append->hW, map_append->hX, range_one->hZ, mem_range->h0
open Nat renaming pow_le_pow_right->h2, lt_of_lt_of_le->h3, mul_comm->h4, le_trans->h5, lt_of_le_of_lt->h6, eq_of_beq_eq_true->h7, mul_le_mul_right->h8, pow_succ->h9, div_lt_iff_lt_mul->ih, mod_eq_of_lt->ii, lt_or_ge->ik, div_div_eq_div_mul->ip, le_refl->ix, beq->iz, div_add_mod->i0, pow_pos->i1, mod_lt->i2, mul_assoc->i3, lt_trans->i4, div_eq_of_lt->i5, pow_zero->i6, gcd->i7, add_mul->i8, add_sub_cancel->i9, pow_add->jp, div_one->js, zero_le->jF, one_mul->j1, mul_add->j2, mul_lt_mul''->j3, add_comm->j4, gcd_pos_of_pos_right->j5, mul_ne_zero->j6, div_le_self->j7, div_pos->j8, blt->j9, div_mul_le_self->kb, mul_lt_mul_of_pos_right->kc, mul_le_mul->kd, blt_eq->kh, add_mul_mod_self_left->kk, pow_one->km, pow_mul->ko, le_mul_of_pos_right->kp, gcd_le_right->kt, gcd_dvd_left->kv, add_sub_cancel_left->kw, pow_le_pow_left->kC, mul_le_mul_left->kF, mul_right_comm->kK, mod_mod_of_dvd->kN, gcd_comm->kW, lt_of_not_le->la, mul_one->lb, pow_dvd_pow->lc, min_eq_left->le, div_lt_self->li, sub_le->lk, add_mul_mod_self_right->ll, add_assoc->lm, le_of_lt->lq, le_mul_of_pos_left->ls, le_div_iff_mul_le->lu, add_le_add_right->lv, div_eq_of_lt_le->lw, gcd_zero_right->lz, eq_zero_or_pos->l0, mul_zero->l1, sub_mul->l2, mul_pos->l3, mod_one->l4, gcd_rec->l5, mod_le->md
open Option.some renaming injEq->mm, inj->mo
open Rat renaming divInt->mp, sub_add_cancel->ms, divInt_mul_divInt->mx, zero_add->m0, div_def->m1, divInt_add_divInt->m2, add_lt_add_right->m3, neg_divInt_neg->m4, num_intCast->m5, den_intCast->m6, neg_divInt->m7, inv_divInt->m8, sub_self->m9, neg_num->na, not_le->nb
open UInt8 renaming ofNat->nc
namespace Go.aq
open Go.Proofs
set_option linter.unusedSectionVars false
theorem BL:dA prog 358=some [1,1]:=k_
section
variable{w:World}{ad ah:Nat->Prop}{β:Bd}{H:aj}
theorem UM{an:Nat}{c0 c1 v:Value}{T:TypeId}(h:w.heap[an]?=some (.cells #[c0,c1] T (0,0))):w.setCell ⟨an,0,none⟩ v=w.setRow an #[v,c1]:=by
 obtain⟨d,a⟩:=Array.getElem?_eq_some_iff.1 h;unfold World.setCell World.setRow;congr 1;apply Array.ext
 ·simp
 ·intro i b c;simp only[Array.getElem_modify]
  by_cases hi:an=i
  ·subst hi;simp[a]
  ·simp[hi]
theorem Uf{t x:AV}{cs:Array Value}(g:t=iw 358 [.p .dL,x]\/t=.st 358 [.p .dL,x])(h:bn prog w ad β H t cs.toList):∃y,cs=#[.pointer none,y]/\bn prog w ad β H x [y]:=by
 have a:bn prog w ad β H (.st 358 [.p .dL,x]) cs.toList:=by
  rcases g with rfl|rfl
  ·exact Mx.1 h
  ·exact h
 simp only[bn,BL,mm]at a;obtain⟨l,k,rfl,b,d⟩:=a;simp only[bM,bn,aZ]at b;obtain⟨c,i,rfl,rfl,_,c2,j,rfl,e,f,rfl⟩:=b
 match c2,f with
 |[y],_=>exact⟨y,Array.ext' (by simpa using d),e⟩
theorem T8{b:Nat}{x:AV}{cs:Array Value}(h:bn prog w ad β H (.st 358 [.ptr b [],x]) cs.toList):∃v y,cs=#[v,y]/\bN prog β H (.ptr b []) v:=by
 simp only[bn,BL,mm]at h;obtain⟨l,j,rfl,a,d⟩:=h;simp only[bM,bn]at a;obtain⟨c,g,rfl,⟨v,rfl,f⟩,_,c2,i,rfl,k,e,rfl⟩:=a
 match c2,e with
 |[y],_=>exact⟨v,y,Array.ext' (by simpa using d),f⟩
end
theorem axT{H:aj}{b:Nat}{t x:AV}(f:H[b]?=some (.box false t))(i:t=iw 358 [.p .dL,x]\/t= .st 358 [.p .dL,x]):
 cC prog 341 H [.ptr b []] (H.set b (.box false (.st 358 [.ptr b [],x]))) (.p (.aE [])):=by
 refine⟨kJ func341 k_,fun w ad ah β J g j K=>?_⟩;simp only[bw,aD]at j;obtain⟨v,vs,rfl,⟨_,I,L,M,rfl,m,B⟩,rfl⟩:=j;simp only[gA,mm]at m;subst m;obtain⟨rfl,rfl⟩:=B (.inl ⟨false,t,f⟩);obtain⟨cs,T,k1,k2,k3,_,k5⟩:=g.cK b _ f;have F:aa t=.agg 358:=by
  rcases i with rfl|rfl
  ·exact Cz _ _
  ·rfl
 have q:T=359:=by
  rw[F]at k5;exact dv (by simpa[jy,Gl.bx,Qx]using k5)
 subst q;obtain⟨y,rfl,G⟩:=Uf i k2;have o:¬ad (β.an b)/\¬ah (β.an b):=by simpa[cE]using k3
 refine(T3 (β.an b) w (by simp[World.cell?,k1]) (by simp[World.shape?,k1]) (by simp[World.frozen?,k1])).mono ?_;rintro e w' ⟨rfl,rfl⟩;rw[UM k1];have aN:cw β H β (H.set b (.box false (.st 358 [.ptr b [],x]))):=pB f (.inl ⟨_,_,_,_,rfl,rfl⟩);have al:∀z,aI H z->aI (H.set b (.box false (.st 358 [.ptr b [],x]))) z:=mj f (fun _ h=>h);have r:b<H.length:=(List.getElem?_eq_some_iff.1 f).1;have u:(H.set b (.box false (.st 358 [.ptr b [],x])))[b]?=some (.box false (.st 358 [.ptr b [],x])):=List.getElem?_set_self r;have n:aG (aI H) x:=by
  have:=g.refs b _ f;rcases i with rfl|rfl
  ·simp only[Obj.refs]at this;unfold iw at this
   split at this
   ·rename_i l d;have d:=mh d
    match l,d with
    |[a,c],d=>simp at d;rw[d.2];simp[aG]
    |[],d=>simp at d
    |[_],d=>simp at d
    |_::_::_::_,d=>simp at d
   ·simp only[aG,aV]at this;exact this.2.1
  ·simp only[Obj.refs,aG,aV]at this;exact this.2.1
 have E:∀k,ad k->(w.setRow (β.an b) #[.pointer (some ⟨β.an b,0,none⟩),y]).heap[k]?=w.heap[k]?:=fun k A=>setRow_other w _ k _ (fun s=>o.1 (s▸A));have D:Obj.refs (aI (H.set b (.box false (.st 358 [.ptr b [],x])))) (.box false (.st 358 [.ptr b [],x])):=by
  simp only[Obj.refs,aG,aV,and_true];exact⟨⟨_,u,trivial⟩,aG.mono al _ n⟩
 have C:=qK g f trivial (o':=.box false (.st 358 [.ptr b [],x])) trivial (fun _ h=>h) k1 (new:=#[.pointer (some ⟨β.an b,0,none⟩),y]) o aN
  ⟨_,359,setRow_heap w _ _ _ 359 _ k1,by
   simp only[bn,BL,mm];refine⟨_,[[.pointer (some ⟨β.an b,0,none⟩)],[y]],rfl,?_,rfl⟩;simp only[bM,bn];exact⟨_,_,rfl,⟨_,rfl,⟨rfl,_,_,0,rfl,rfl,fun _=>⟨rfl,rfl⟩⟩⟩,rfl,_,_,rfl,bn.mono (fun _ x=>x) E aN _ _ n G,rfl,rfl⟩,k3,s_,by simp[aa,jy,Gl.bx]⟩ D
 exact⟨_,β,ad,rfl,C,by simp[aD,aF,br],by simp[aG]⟩
theorem ax9{H:aj}{b:Nat}{x:AV}(c:H[b]?=some (.box false (.st 358 [.ptr b [],x]))):cC prog 341 H [.ptr b []] H (.p (.aE [])):=by
 refine⟨kJ func341 k_,fun w ad ah β l g f m=>?_⟩;simp only[bw,aD]at f;obtain⟨v,vs,rfl,⟨_,j,n,i,rfl,a,d⟩,rfl⟩:=f;simp only[gA,mm]at a;subst a;obtain⟨rfl,rfl⟩:=d (.inl ⟨false,_,c⟩);obtain⟨cs,T,k1,k2,k3,_,k5⟩:=g.cK b _ c;obtain⟨v,y,rfl,h⟩:=T8 k2;simp only[bN,bR]at h;obtain⟨_,k,o,i,rfl,a,d⟩:=h;simp only[gA,mm]at a;subst a;obtain⟨rfl,rfl⟩:=d (.inl ⟨false,_,c⟩);refine(T0 (β.an b) w (by simp[World.cell?,k1])).mono ?_;rintro e w' ⟨rfl,rfl⟩;exact⟨_,β,ad,rfl,bZ.refl g,by simp[aD,aF,br],by simp[aG]⟩
@[simp] theorem gu8:(Gl.u8:TypeId)=5:=(rfl)
def dJ(t:List Nat):List AV:=t.map fun(c:Nat)=>AV.p (.int .u8 (c:Int))
theorem vK(t:List Nat):(dJ t).length=t.length:=by simp[dJ]
theorem aJk(a t:List Nat):dJ (a++t)=dJ a++dJ t:=by simp[dJ]
theorem Df:∀t:List Nat,fa prog 1 (dJ t)
 |[]=>by simp[dJ,fa]
 |c::t=>by
  have:=Df t;simp only[dJ,gE]at this⊢;simp[fa];exact this
theorem J5:∀(t:List Nat),(∀c∈t,c<256)->bytesOf (dJ t)=some t
 |[],_=>rfl
 |c::t,a=>by
  have b:=a c s_;have:=J5 t fun c hc=>a c (by simp[hc]);show bytesOf (.p (.int .u8 (c:Int))::dJ t)=some (c::t);rw[bytesOf,if_pos ⟨o_,o_⟩,this];simp
theorem Qu(t:List Nat)(a:t≠[])(h:t.length<=1048576):cC prog 302 [.box false (.p (.st 358 [.dL,.aO]))] [.ptr 0 [],.p (.str t)]
 [.box false (.st 358 [.ptr 0 [],.sl 1 0 1 0 t.length]),.arr .bytes 0 1 (dJ t)] (.p (.aE [.int .i64 t.length,.gI])):=by
 refine fk nf (i_ func302) mix (by simp[f302]) ?_;simp[f302];refine ci (axT (b:=0) (t:=.p (.st 358 [.dL,.aO])) (x:=.p .aO) rfl (.inl rfl)) ?_;simp;refine⟨⟨Df t,by simp only[cV];omega⟩,?_⟩;simp[a,dJ]
theorem Qv(a t:List Nat)(v n:Nat)(f:n=a.length)(c:t≠[])(h:t.length<=1048576)(e:a.length<=1048576):cC prog 302 [.box false (.st 358 [.ptr 0 [],.sl 1 v 1 0 n]),.arr .bytes v 1 (dJ a)] [.ptr 0 [],.p (.str t)]
 [.box false (.st 358 [.ptr 0 [],.sl 1 (v+1) 1 0 (n+t.length)]),.arr .bytes (v+1) 1 (dJ (a++t))] (.p (.aE [.int .i64 t.length,.gI])):=by
 refine fk nf (i_ func302) mix (by simp[f302]) ?_;simp[f302];refine ci (ax9 (b:=0) (x:=.sl 1 v 1 0 n) rfl) ?_;simp;refine⟨⟨Df t,by rw[vK];omega,by rw[vK];simp only[cV];omega⟩,?_⟩;have d:g0 n (dJ a)=dJ a:=gt (by rw[vK];omega);simp[c,d,aJk];exact .inl rfl
theorem ayp(a:List Nat)(v n:Nat)(b:n=a.length)(d:a≠[])(g:a.length<=1048576)(e:∀c∈a,c<256):cC prog 303 [.box false (.st 358 [.ptr 0 [],.sl 1 v 1 0 n]),.arr .bytes v 1 (dJ a)] [.ptr 0 []]
 [.box false (.st 358 [.ptr 0 [],.sl 1 v 1 0 n]),.dead] (.p (.str a)):=by
 refine fk nf (i_ func303) mix (by simp[f303]) ?_;have f:0<a.length:=gw.2 d;simp[f303];refine arX (aC:=v) (es:=dJ a) rfl rfl (by rw[b];exact f) (by simp[dJ,b]) ?_;simp;refine as0 (aC:=v) (es:=dJ a) (l:=a) rfl rfl rfl o_ (by simp[vK,b]) o_ rfl ?_ ?_ ?_ ?_
 ·kernel_rfl
 ·kernel_rfl
 ·rw[gt (by rw[vK];simp[b])];exact J5 a e
 simp
 repeat' with_reducible refine And.intro ?_ ?_
 all_goals rfl
theorem CM{σ:Nat->Nat}:∀{a b:List AV},cO σ (a++b)=cO σ a++cO σ b
 |[],b=>by simp[cO]
 |x::a,b=>by simp[cO,CM (a:=a)]
theorem zR:aA wB tB=[tB]:=tT (by decide) (by decide)
theorem XX(a:NI)(hs:a.sm=true):aB prog 243 [eI a] (.str (bO a.v)):=by
 refine aJ nf (i_ func243) mix (by simp[f243]) ?_;have b:=NI.pQ hs;simp[f243,aa,mv hs,ni hs,dC,cU];refine c1 (ZR a.v b.1 b.2) ?_;simp
theorem Nr{m k A L:Nat}(e:0<m)(h:m*tB^k<=A)(a:A<wB^L):k<64*L:=by
 have b:2^k<=tB^k:=kC (by decide) k;have c:tB^k<=m*tB^k:=ls _ e;rw[show wB=2^64 from rfl,<-ko]at a;have d:2^k<2^(64*L):=h6 (h5 b (h5 c h)) a
 rwa [Nat.pow_lt_pow_iff_right (by decide)]at d
theorem XW(a:NI)(hs:a.sm=false)(W:okW a.v)(ar:(bk a.v.natAbs).length<=1000000):aB prog 243 [eI a] (.str (bO a.v)):=by
 have L:=nY (eI a) a.v (mz a);have aF:=NI.zI (a:=a) (by rw[hs];decide);have ag:=h3 (cq bm a.v.natAbs) (h2 (show 0<wB by decide) (nV W));obtain⟨c,cs,w1⟩:=oD hs;refine aJ nf (i_ func243) mix (by simp[f243]) ?_;simp[f243,aa,w1,dC,cU];refine c1 L ?_;simp;refine sy (fun s'=>∃b:List (List Nat),jW 0 b=jW a.v.natAbs []/\(∀p∈b,p≠[]/\p.length<=18)/\b≠[]/\b.length<=57600000/\aP s'.env 3=.p (.bool (decide (a.v<0)))/\aP s'.env 6=.sl 2 b.length 1 0 b.length/\∃o,s'.heap=[.hole,o,.arr .grow b.length 1 (b.map fun p=>.p (.str p))]) ?_ ?_
 ·refine lp (α:=Nat×List (List Nat)×Bool) (fun x=>⟨[(6,.sl 2 x.2.1.length 1 0 x.2.1.length),(5,.sl 1 0 1 0 1),(4,.p (eN x.1)),(3,.p (.bool (decide (a.v<0))))],[.hole,.arr (if x.2.2=true then .frozen else .exact) 0 1 [.p (.int .u64 1000000000000000000)],.arr .grow x.2.1.length 1 (x.2.1.map fun p=>.p (.str p))]⟩)
   (fun x=>x.1<=a.v.natAbs/\jW x.1 x.2.1=jW a.v.natAbs []/\(∀p∈x.2.1,p≠[]/\p.length<=18)/\x.2.1.length<=57600000/\x.1*tB^x.2.1.length<=a.v.natAbs) (fun x=>x.1) (a.v.natAbs,[],false) ⟨ix _,rfl,s_,s_,s_⟩ ?_
  rintro⟨m,b,f⟩ ⟨k1,k2,k3,k5,k4⟩;dsimp only at k1 k2 k3 k5 k4;rcases f with _|_
  ·simp only[dz,if_false];have au:(aA wB m).length<=900000:=by
    have:=dN bm _ _ (h6 k1 (cq bm a.v.natAbs));have:=nV W;omega
   by_cases hm:m=0
   ·subst hm;have Y:b≠[]:=by
     rintro rfl;rw[jW,jW,if_pos rfl,if_neg o_]at k2;have:=zg a.v.natAbs;rw[hw,hS,hj,hj]at k2;rw[<-k2]at this;simp at this
    simp[eN,lO];refine⟨b,k2,k3,Y,k5,?_⟩;simp
   ·have d:=CX m tB (by decide) o_ (by rw[zR];decide);have X:aA wB m≠[]:=mt th.1 hm;have C:0<(aA wB m).length:=gw.2 X;have aN:=Li hm b;have B:∀p∈b++[eH m],p≠[]/\p.length<=18:=by
     intro p L;rcases hW.1 L with h|h
     ·exact k3 p h
     ·rw[hO.1 h];exact⟨Kj m,Kk m⟩
    have A:m/tB<m:=li o_ (by decide);have aw:=Nr (show 0<m by omega) k4 ag;have w:m/tB*tB^(b++[eH m]).length<=a.v.natAbs:=by
     rw[g6,g7,h9,h4 (tB^b.length),<-i3];exact h5 (h8 _ (kb _ _)) k4
    have y:(b++[eH m]).length<=57600000:=by rw[g6,g7];omega
    have r:m% tB<tB:=i2 _ (by decide);have O:m/tB=0->m% tB=m:=fun h=>by have:=i0 m tB;rw[h]at this;omega
    simp only[eN]at d⊢;rw[zR]at d;have N:=th (n:=m/tB);have J:=P5 (m% tB) (i4 r (by decide));have q:=P6 [48] (18-(bk (m% tB)).length) o_ (by simp;omega);have ax:=Du r;have Z:=Ru r;rw[CL]at q;have l:eH m=if m/tB=0 then bk (m% tB)else gy (18-(bk (m% tB)).length) 48++bk (m% tB):=by
     rw[eH,Z];split
     ·rename_i h;rw[O h]
     ·rfl
    have s:ec.wrap (18-((bk (m% tB)).length:Int))=(18-(bk (m% tB)).length:Nat):=by rw[aQ _ o_ o_];omega
    have aC:((18-(bk (m% tB)).length:Nat):Int)=18-((bk (m% tB)).length:Int):=o_
    have u:∀t,t=eH m->(b.map fun p=>AV.p (.str p))++[AV.p (.str t)]=(b++[eH m]).map fun p=>AV.p (.str p):=fun t e=>by rw[e];simp
    by_cases F:m% tB=0
    ·have j:¬m/tB=0:=fun h=>hm (by rw[<-O h];exact F);have E:0<(aA wB (m/tB)).length:=gw.2 (mt N.1 j);have e:gy (18-(bk (m% tB)).length) 48++bk (m% tB)=eH m:=by rw[l,if_neg j]
     rw[F,qY]at e q s;rw[F,lO]at d;simp only[g7]at e q s;have hf:=u _ e;generalize D:aA wB (m/tB)=af at*;simp[C];refine cp d (by simp;exact⟨rfl,rfl⟩) ?_ (h1:=by simp[tB]);simp[E,s];refine c2 q ?_;simp;refine⟨by simp only[cV];omega,?_⟩;refine rd (m/tB,b++[eH m],true) ⟨o_,by rw[aN];exact k2,by simpa using B,y,w⟩ A (he:=by simp[D]) (hh:=by simp only[<-hf];simp) (hr2:=by simp only[<-hf];simp)
    ·have ac:aA wB (m% tB)=[m% tB]:=tT o_ (i4 r (by decide));rw[ac]at d
     by_cases j:m/tB=0
     ·have e:bk (m% tB)=eH m:=by rw[l,if_pos j]
      have hf:=u _ e;rw[j,lO]at d;simp[C];refine cp d (by simp;exact⟨rfl,rfl⟩) ?_ (h1:=by simp[tB]);simp;refine c2 J ?_;simp;refine⟨by simp only[cV];omega,?_⟩;refine rd (m/tB,b++[eH m],true) ⟨o_,by rw[aN];exact k2,by simpa using B,y,w⟩ A (he:=by simp[j,lO]) (hh:=by simp only[<-hf];simp) (hr2:=by simp only[<-hf];simp)
     ·have E:0<(aA wB (m/tB)).length:=gw.2 (mt N.1 j);have e:gy (18-(bk (m% tB)).length) 48++bk (m% tB)=eH m:=by rw[l,if_neg j]
      have hf:=u _ e;generalize D:aA wB (m/tB)=af at*;simp[C];refine cp d (by simp;exact⟨rfl,rfl⟩) ?_ (h1:=by simp[tB]);simp;refine c2 J ?_;simp[E,s];refine c2 q ?_;simp;refine⟨o_,by simp only[cV];omega,?_⟩;refine rd (m/tB,b++[eH m],true) ⟨o_,by rw[aN];exact k2,by simpa using B,y,w⟩ A (he:=by simp[D]) (hh:=by simp only[<-hf];simp) (hr2:=by simp only[<-hf];simp)
  ·simp only[if_true];have au:(aA wB m).length<=900000:=by
    have:=dN bm _ _ (h6 k1 (cq bm a.v.natAbs));have:=nV W;omega
   by_cases hm:m=0
   ·subst hm;have Y:b≠[]:=by
     rintro rfl;rw[jW,jW,if_pos rfl,if_neg o_]at k2;have:=zg a.v.natAbs;rw[hw,hS,hj,hj]at k2;rw[<-k2]at this;simp at this
    simp[eN,lO];refine⟨b,k2,k3,Y,k5,?_⟩;simp
   ·have d:=CX m tB (by decide) o_ (by rw[zR];decide);have X:aA wB m≠[]:=mt th.1 hm;have C:0<(aA wB m).length:=gw.2 X;have aN:=Li hm b;have B:∀p∈b++[eH m],p≠[]/\p.length<=18:=by
     intro p L;rcases hW.1 L with h|h
     ·exact k3 p h
     ·rw[hO.1 h];exact⟨Kj m,Kk m⟩
    have A:m/tB<m:=li o_ (by decide);have aw:=Nr (show 0<m by omega) k4 ag;have w:m/tB*tB^(b++[eH m]).length<=a.v.natAbs:=by
     rw[g6,g7,h9,h4 (tB^b.length),<-i3];exact h5 (h8 _ (kb _ _)) k4
    have y:(b++[eH m]).length<=57600000:=by rw[g6,g7];omega
    have r:m% tB<tB:=i2 _ (by decide);have O:m/tB=0->m% tB=m:=fun h=>by have:=i0 m tB;rw[h]at this;omega
    simp only[eN]at d⊢;rw[zR]at d;have N:=th (n:=m/tB);have J:=P5 (m% tB) (i4 r (by decide));have q:=P6 [48] (18-(bk (m% tB)).length) o_ (by simp;omega);have ax:=Du r;have Z:=Ru r;rw[CL]at q;have l:eH m=if m/tB=0 then bk (m% tB)else gy (18-(bk (m% tB)).length) 48++bk (m% tB):=by
     rw[eH,Z];split
     ·rename_i h;rw[O h]
     ·rfl
    have s:ec.wrap (18-((bk (m% tB)).length:Int))=(18-(bk (m% tB)).length:Nat):=by rw[aQ _ o_ o_];omega
    have aC:((18-(bk (m% tB)).length:Nat):Int)=18-((bk (m% tB)).length:Int):=o_
    have u:∀t,t=eH m->(b.map fun p=>AV.p (.str p))++[AV.p (.str t)]=(b++[eH m]).map fun p=>AV.p (.str p):=fun t e=>by rw[e];simp
    by_cases F:m% tB=0
    ·have j:¬m/tB=0:=fun h=>hm (by rw[<-O h];exact F);have E:0<(aA wB (m/tB)).length:=gw.2 (mt N.1 j);have e:gy (18-(bk (m% tB)).length) 48++bk (m% tB)=eH m:=by rw[l,if_neg j]
     rw[F,qY]at e q s;rw[F,lO]at d;simp only[g7]at e q s;have hf:=u _ e;generalize D:aA wB (m/tB)=af at*;simp[C];refine cp d (by simp;exact⟨rfl,rfl⟩) ?_ (h1:=by simp[tB]);simp[E,s];refine c2 q ?_;simp;refine⟨by simp only[cV];omega,?_⟩;refine rd (m/tB,b++[eH m],true) ⟨o_,by rw[aN];exact k2,by simpa using B,y,w⟩ A (he:=by simp[D]) (hh:=by simp only[<-hf];simp) (hr2:=by simp only[<-hf];simp)
    ·have ac:aA wB (m% tB)=[m% tB]:=tT o_ (i4 r (by decide));rw[ac]at d
     by_cases j:m/tB=0
     ·have e:bk (m% tB)=eH m:=by rw[l,if_pos j]
      have hf:=u _ e;rw[j,lO]at d;simp[C];refine cp d (by simp;exact⟨rfl,rfl⟩) ?_ (h1:=by simp[tB]);simp;refine c2 J ?_;simp;refine⟨by simp only[cV];omega,?_⟩;refine rd (m/tB,b++[eH m],true) ⟨o_,by rw[aN];exact k2,by simpa using B,y,w⟩ A (he:=by simp[j,lO]) (hh:=by simp only[<-hf];simp) (hr2:=by simp only[<-hf];simp)
     ·have E:0<(aA wB (m/tB)).length:=gw.2 (mt N.1 j);have e:gy (18-(bk (m% tB)).length) 48++bk (m% tB)=eH m:=by rw[l,if_neg j]
      have hf:=u _ e;generalize D:aA wB (m/tB)=af at*;simp[C];refine cp d (by simp;exact⟨rfl,rfl⟩) ?_ (h1:=by simp[tB]);simp;refine c2 J ?_;simp[E,s];refine c2 q ?_;simp;refine⟨o_,by simp only[cV];omega,?_⟩;refine rd (m/tB,b++[eH m],true) ⟨o_,by rw[aN];exact k2,by simpa using B,y,w⟩ A (he:=by simp[D]) (hh:=by simp only[<-hf];simp) (hr2:=by simp only[<-hf];simp)
 ·rintro⟨aE,aG⟩ ⟨b,q1,aD,T,q4,ao,R,o,ai⟩;dsimp only at ao R ai;subst ai;have ay:0<b.length:=gw.2 T;have ab:bk a.v.natAbs=b.reverse.flatten:=by rw[<-XM,q1,jW,if_neg o_];simp
  obtain⟨neg,K⟩:∃neg:Bool,neg=decide (a.v<0):=⟨_,rfl⟩
  obtain⟨Q,M⟩:∃Q:List Nat,Q=if neg=true then[45]else[]:=⟨_,rfl⟩
  have aj:bO a.v=Q++b.reverse.flatten:=by
   rw[bO,<-ab,M,K]
   by_cases h:a.v<0
   ·simp[h]
   ·simp[h]
  obtain⟨g,H⟩:∃g:Nat->List Nat,g=fun k=>Q++(b.reverse.take k).flatten:=⟨_,rfl⟩
  have I:g b.length=bO a.v:=by rw[H,aj];dsimp only;rw[gt s_]
  have az:∀k,(b.reverse.take k).flatten.length<=1000000:=fun k=>by
   have ap:b.reverse.flatten=(b.reverse.take k).flatten++(b.reverse.drop k).flatten:=by rw[<-hM,hd]
   rw[ab,ap,g6]at ar;omega
  have aH:Q.length<=1:=by rw[M];split<;>simp
  have U:∀k,(g k).length<=1000001:=fun k=>by rw[H];dsimp only;rw[g6];have:=az k;omega
  have l:∀k(h:k<b.length),g (k+1)=g k++b[b.length-1-k]' o_:=fun k h=>by
   rw[H];dsimp only;rw[g9 (by simpa using h),hM,List.getElem_reverse,<-List.append_assoc];simp
  have aq:∀c∈bO a.v,c<256:=by
   intro c hc;rw[bO]at hc;have d:=rP a.v.natAbs;rw[gB]at d
   split at hc
   ·rcases hn.1 hc with h|h
    ·omega
    ·exact Mk (d c h)
   ·exact Mk (d c hc)
  have ad:ec.wrap ((b.length:Int)-1)=b.length-1:=aQ _ o_ o_;have al:∀i(h:i<b.length),b[i]≠[]/\b[i].length<=18:=fun i h=>aD _ (g5 h);have G:=ayp (g b.length) (if neg=true then b.length else b.length-1) (g b.length).length rfl (by rw[I,aj];intro h;rw[List.append_eq_nil_iff,<-ab]at h;have:=zg a.v.natAbs;rw[h.2]at this;simp at this) (by have:=U b.length;omega) (by rw[I];exact aq);simp[ao,R,ad]
  by_cases S:a.v<0
  ·rw[decide_eq_true S]at K;subst K;have av:g 0=[45]:=by rw[H,M];simp
   simp only[if_true]at G;simp[S];refine cf (Qu [45] s_ s_) [3] ?_;simp[bc,sig,R,ad];refine lp (α:=Nat) (fun k=>⟨[(11,.p (.int .i64 ((b.length:Int)-1-k))),(10,.ptr 3 []),(6,.sl 2 b.length 1 0 b.length)],[.hole,.hole,.arr .grow b.length 1 (b.map fun p=>.p (.str p)),.box false (.st 358 [.ptr 3 [],.sl 4 k 1 0 (g k).length]),.arr .bytes k 1 (dJ (g k))]⟩)
    (fun k=>k<=b.length) (fun k=>b.length-k) 0 s_ ?_ (he:=by simp[R]) (hh:=by simp[av,dJ]) (hr2:=by simp[dJ])
   intro k hk
   by_cases z:k<b.length
   ·have w1:ec.wrap ((b.length:Int)-1-k-1)=b.length-1-(k+1:Nat):=by rw[aQ _ o_ o_];omega
    have e1:((b.length:Int)-1-k).toNat=b.length-1-k:=o_
    have g1:(k:Int)<=(b.length:Int)-1:=o_
    have P:b.length-1-k<b.length:=o_
    have hx:=al _ P;have ae:=Qv (g k) (b[b.length-1-k]) k (g k).length rfl hx.1 o_ (by have:=U k;omega);simp[g1,e1,P,T];refine cf ae [3,4] ?_ (al:=by simp[sig,dJ]) (aK:=by simp[sig]) (hr:=by simp[dJ]);simp[sig,dJ,bc,w1,CM];refine rd (k+1) z (he:=by simp[l k z]) (hh:=by simp[l k z,dJ]) (hr2:=by simp[dJ])
   ·have V:k=b.length:=by omega
    subst V;have g2:¬(b.length:Int)<=(b.length:Int)-1:=o_
    simp[g2];refine cf G [3,4] ?_ (al:=by simp[sig,dJ]) (aK:=by simp[sig]) (hr:=by simp[dJ]);simp[sig,bc,I]
  ·rw[decide_eq_false S]at K;subst K;simp only[dz,if_false]at G M;have ah:g 1=b[b.length-1]:=by rw[l 0 ay,H];simp[M]
   have an:b.length-1<b.length:=o_
   have am:=al _ an;have ak:=Qu (b[b.length-1]) am.1 o_;rw[<-ah]at ak am;simp[S,ad]
   refine lp (α:=Option Nat) (fun st=>match st with
     |none=>⟨[(11,.p (.int .i64 ((b.length:Int)-1))),(10,.ptr 3 []),(6,.sl 2 b.length 1 0 b.length)],[.hole,.hole,.arr .grow b.length 1 (b.map fun p=>.p (.str p)),.box false (.p (.st 358 [.dL,.aO]))]⟩
     |some k=>⟨[(11,.p (.int .i64 ((b.length:Int)-1-(k+1)))),(10,.ptr 3 []),(6,.sl 2 b.length 1 0 b.length)],[.hole,.hole,.arr .grow b.length 1 (b.map fun p=>.p (.str p)),.box false (.st 358 [.ptr 3 [],.sl 4 k 1 0 (g (k+1)).length]),.arr .bytes k 1 (dJ (g (k+1)))]⟩)
    (fun st=>match st with
     |none=>True
     |some k=>k+1<=b.length) (fun st=>match st with
     |none=>b.length+1
     |some k=>b.length-(k+1)) none trivial ?_ (he:=by simp[R])
   intro st hk;cases st with
   |none=>
    have w1:ec.wrap ((b.length:Int)-1-1)=b.length-1-(0+1):=by rw[aQ _ o_ o_];omega
    have e1:((b.length:Int)-1).toNat=b.length-1:=o_
    have g1:(1:Int)<=(b.length:Int):=o_
    simp[g1,e1,an,T,<-ah];refine cf ak [3] ?_;simp[bc,sig,w1];refine rd (some 0) (by show 0+1<=b.length;omega) (by show b.length-(0+1)<b.length+1;omega) (he:=s_) (hh:=by simp[dJ]) (hr2:=by simp[dJ])
   |some k=>
    have hk:k+1<=b.length:=hk
    by_cases z:k+1<b.length
    ·have w1:ec.wrap ((b.length:Int)-1-(k+1)-1)=b.length-1-(k+1+1):=by rw[aQ _ o_ o_];omega
     have e1:((b.length:Int)-1-(k+1)).toNat=b.length-1-(k+1):=o_
     have g1:(k:Int)+1<=(b.length:Int)-1:=o_
     have P:b.length-1-(k+1)<b.length:=o_
     have hx:=al _ P;have ae:=Qv (g (k+1)) (b[b.length-1-(k+1)]) k (g (k+1)).length rfl hx.1 o_ (by have:=U (k+1);omega);simp[g1,e1,P,T];refine cf ae [3,4] ?_ (al:=by simp[sig,dJ]) (aK:=by simp[sig]) (hr:=by simp[dJ]);simp[sig,dJ,bc,w1,CM];refine rd (some (k+1)) z (by show b.length-(k+1+1)<b.length-(k+1);omega) (he:=by simp[l (k+1) z]) (hh:=by simp[l (k+1) z,dJ]) (hr2:=by simp[dJ])
    ·have V:b.length=k+1:=by omega
     have g2:¬(k:Int)+1<=(b.length:Int)-1:=o_
     rw[V]at G I;rw[i9]at G;simp[g2];refine cf G [3,4] ?_ (al:=by simp[sig,dJ]) (aK:=by simp[sig]) (hr:=by simp[dJ]);simp[sig,bc,I]
theorem CY(a:NI)(c:okW a.v)(b:(bk a.v.natAbs).length<=1000000):aB prog 243 [eI a] (.str (bO a.v)):=by
 rcases h:a.sm with _|_
 ·exact XW a h c b
 ·exact XX a h
open Go
theorem K0:∀(r:List Nat)(a:Nat),a<=r.foldl (fun n c=>n*10+(c-48)) a
 |[],a=>ix _
 |x::r,a=>h5 (show a<=a*10+(x-48)by omega) (K0 r _)
theorem KI:∀(d:List Nat)(a:Nat),d.all ct=true->d.foldl (fun n c=>n*10+(c-48)) a<1000000000000000000->Lib.parseUint10 a (d.map nc)=.ok (d.foldl (fun n c=>n*10+(c-48)) a)
 |[],a,_,_=>rfl
 |c::r,a,h,b=>by
  simp only[hF,dp]at h;have hc:=h.1;simp only[ct,dp,decide_eq_true_eq]at hc;have f:=K0 r (a*10+(c-48));rw[hC]at b⊢;have e:(nc c).toNat=c:=by simp;omega
  rw[gE,Lib.parseUint10,e,if_pos hc,if_neg o_,if_neg o_];exact KI r _ h.2 b
theorem YY{d:List Nat}(h:d.all ct=true)(b:d≠[])(f:d.length<=18):Lib.atoiAll (d.map nc)=.ok (bd d):=by
 have i:=jK _ d rfl h;have j:10^d.length<=10^18:=h2 o_ f;cases d with
 |nil=>exact(b rfl).elim
 |cons c r=>
  have hc:=(dp ..▸(hF▸h):ct c=true/\r.all ct=true).1;simp only[ct,dp,decide_eq_true_eq]at hc;have e:(nc c).toNat=c:=by simp;omega
  have g:bd (c::r)<1000000000000000000:=o_
  have a:=KI (c::r) 0 h g;rw[<-bd]at a;rw[gE]at a;rw[gE,Lib.atoiAll];simp only[e];rw[if_neg o_,Lib.parseMag,if_neg s_,a];dsimp only;rw[if_neg o_,if_neg o_,if_neg o_]
theorem Cw:∀(b:List Nat)(x:Nat),b.foldl (fun n c=>n*10+(c-48)) x=x*10^b.length+bd b
 |[],x=>by simp[bd]
 |c::b,x=>by
  rw[bd,hC,hC,Cw b,Cw b (0*10+(c-48)),hz,h9,i8,i3,h4 10];simp[lm]
theorem Le(a b:List Nat):bd (a++b)=bd a*10^b.length+bd b:=by
 rw[bd,List.foldl_append,Cw];rfl
theorem MF(k:Nat):10^k<=2^(4*k):=by
 rw[ko];exact kC (by decide) k
theorem Ln{a K:Nat}(h:4*a<=K):10^a<=2^K:=h5 (MF a) (h2 (by decide) h)
theorem wj{n k:Nat}(h:n<2^k)(hk:k<=3*1000000):(bk n).length<=1000000:=
 El h hk (by decide)
theorem ZG(a:NF)(h:bL kB a.q):aB prog 162 [eF a] (.str (bE a.q)):=by
 have f:kB=100000:=rfl;have w:=CC a;have c:=CY a.num (iC h.1 qt) (wj h.1 o_);have d:=CY a.den (iC (by rw[kH];exact h.2) qt) (wj (by rw[kH];exact h.2) o_);rw[lN]at c;rw[jP,vi]at d;have g:=wj h.1 (show kB<=3*1000000 by omega);have i:=wj h.2 (show kB<=3*1000000 by omega);have j:=Dg a.q.num;refine aJ nf (i_ func162) mix (by simp[f162]) ?_;rw[bE]
 by_cases b:a.q.den=1
 ·have e:a.fD=true:=by simp[NF.fD,b]
  rw[e]at w;rw[if_pos b];simp[f162];refine c1 w ?_;simp[aa];refine c1 c ?_;simp
 ·have e:a.fD=false:=by simp[NF.fD,b]
  rw[e]at w;rw[if_neg b];simp[f162];refine c1 w ?_;simp[aa];refine e1 c ?_;simp[aa];refine⟨o_,?_⟩;refine e1 d ?_;simp;omega
def kR:Nat:=2800
theorem zL(s:List Nat)(i:(dd s).all ct=true)(E:(dd s).length<=700):aB prog 234 [.str s] (eI (.mk' (if b8 s=true then -(bd (dd s):Int)else bd (dd s)))):=by
 refine aJ nf (i_ func234) mix (by simp[f234]) ?_;simp[f234];refine c2 (Zj s) ?_;simp;refine c2 (KK s) ?_;simp;generalize dd s=d at*;generalize b8 s=neg at*;have w:ff 0=eI (.mk' 0):=(oJ (by decide) (by decide)).symm;rw[show PV.st 121 [.int .i64 0,.aO]=eI (.mk' 0)from w];refine lp (α:=List Nat×NI) (fun x=>⟨[(4,.ptr 1 []),(3,.p (.bool neg)),(2,.ptr 0 []),(0,.p (.str x.1))],[.box false (.p (eI (.mk' 0))),.box false (.p (eI x.2))]⟩)
  (fun x=>∃m:Nat,x.2.v=m/\m*10^x.1.length+bd x.1=bd d/\x.1.all ct=true/\x.1.length<=700/\m<2^kR) (fun x=>x.1.length) (d,.mk' 0) ⟨0,rfl,s_,i,E,i1 (by decide)⟩ ?_
 rintro⟨r,o⟩ ⟨m,k1,k2,k3,k4,k5⟩;dsimp only at k1 k2 k3 k4 k5;have S:kR=2800:=rfl;have c:o.v.natAbs<2^kR:=by rw[k1,ed];exact k5
 have I:okW o.v:=iC c (by have:kB=100000:=rfl;omega)
 by_cases f:r=[]
 ·subst f;have u:o.v=bd d:=by rw[k1];simp[bd]at k2⊢;omega
  cases neg
  ·have e:eI (.mk' (bd d:Nat))=eI o:=nr (by rw[NI.iN,u]) (fun h=>by rw[NI.iN]at h;omega);simp;rw[e];simp[aa]
  ·have e:eI (.mk' (-(bd d:Nat)))=eI o.neg:=by rw[NI.neg,u]
   simp;rw[e];refine c1 (uf o I) ?_;simp[aa]
 ·have L:0<r.length:=gw.2 f;obtain⟨n,U⟩:∃n,n=min 18 r.length:=⟨_,rfl⟩
  have j:n<=r.length:=o_
  have V:0<n:=o_
  have G:n<=18:=o_
  have H:(if(r.length:Int)<18 then(r.length:Int)else 18)=n:=by split<;>omega
  have g:(r.take n).length=n:=by rw[g4];omega
  have a:=k3;rw[<-hd n r,List.all_append,dp]at a;have N:=jK _ (r.take n) rfl a.1;have C:=ZJ (r.take n) (bd (r.take n)) (YY a.1 (by intro e;rw[e]at g;simp at g;omega) o_) o_;rw[g]at N;have q:10^n<=10^18:=h2 (by decide) G;have z:10^n<wB^1:=by rw[km];exact h6 q (by decide)
  have A:((10^n:Nat):Int).natAbs<2^64:=by rw[ed];exact h6 q (by decide)
  have O:=dN bm 1 _ z;have W:=yO c;have P:kB=100000:=rfl;have X:=jK _ d rfl i;have Q:10^d.length<=2^kR:=Ln (by have:kR=2800:=rfl;omega);have J:=ZD (.of 10) n (10^n) (by decide) rfl o_ (by decide) o_;have F:=Ak o (.mk' (10^n:Nat)) (by rw[NI.iN,ed];omega);have B:=wU (o.mul (.mk' (10^n:Nat))) (.of (bd (r.take n):Nat)) (iC (pq (x:=o.v) (y:=((10^n:Nat):Int)) c A) o_) (iC (k:=64) (show((bd (r.take n):Nat):Int).natAbs<2^64 by rw[ed];omega) o_);have l:=sv (bd (r.take n):Nat);rw[<-ui o_ o_]at l;have t:=sv 10;rw[<-ui (by decide) (by decide)]at t;have M:bd r=bd (r.take n)*10^(r.drop n).length+bd (r.drop n):=by rw[<-Le,hd]
  have K:r.length=n+(r.drop n).length:=by rw[ho];omega
  have D:(m*10^n+bd (r.take n))*10^(r.drop n).length+bd (r.drop n)=bd d:=by
   rw[<-k2,M,K,jp,i8,i3,lm]
  generalize 10^n=T at*;generalize Y:bd (r.take n)=b at*;have R:m*T+b<=bd d:=by
   have:=kp (m*T+b) (show 0<10^(r.drop n).length from i1 (by decide));omega
  simp[f,L,H];refine⟨j,?_⟩;refine c1 C ?_;simp;refine e1 t ?_;simp;refine e2 J ?_;simp[aa];refine e2 F ?_;simp;refine e1 l ?_;simp;refine e2 B ?_;simp[aa];refine⟨rfl,j,?_⟩;refine rd (r.drop n,(o.mul (.mk' T)).add (.of b)) ⟨m*T+b,by rw[NI.sf,NI.mu,NI.iN,k1];rfl,D,a.2,by dsimp only;omega,o_⟩ (by dsimp only;omega)
theorem CS{s:List Nat}(h:dI s=true):b8 s=false/\dd s=s:=by
 have b:=ke h;have:b8 s=false:=by
  rw[b8,decide_eq_false_iff_not];intro a;cases s with
  |nil=>simp at a
  |cons c r=>
   simp at a;subst a;rw[hF,dp]at b;simp[ct]at b
 exact⟨this,by rw[dd,this];rfl⟩
theorem K3(s:List Nat):b8 (cg 47 s).1=b8 s/\dd (cg 47 s).1=bH s/\(cg 47 s).2.1=bQ s/\(cg 47 s).2.2=eA s:=by
 cases s with
 |nil=>exact⟨rfl,rfl,rfl,rfl⟩
 |cons c r=>
  by_cases h:c=45
  ·subst h;have e:cg 47 (45::r)=(45::(cg 47 r).1,(cg 47 r).2.1,(cg 47 r).2.2):=by rw[cg,if_neg (by decide)]
   rw[e];exact⟨rfl,rfl,rfl,rfl⟩
  ·have b:b8 (c::r)=false:=by rw[b8,decide_eq_false_iff_not];simpa using h
   have a:dd (c::r)=c::r:=by rw[dd,b];rfl
   have d:b8 (cg 47 (c::r)).1=false:=by
    rw[b8,decide_eq_false_iff_not,cg]
    split
    ·simp
    ·simpa using h
   refine⟨by rw[b,d],?_,?_,?_⟩
   ·rw[dd,d,bH,a];rfl
   ·rw[bQ,a]
   ·rw[eA,a]
theorem Zc{s:List Nat}(h:b9 s=0):dI (bH s)=true/\(bH s).length<=600/\(bQ s).length<=600/\(eA s=true->dI (bQ s)=true):=by
 unfold b9 at h
 split at h
 ·cases h
 rename_i a
 split at h
 ·cases h
 rename_i d;have a:nq s=true:=by simpa using a
 simp only[nq,dp,ea,Bool.not_eq_true']at a;refine⟨a.1.1,o_,o_,fun c=>?_⟩;rcases a.2 with b|b
 ·rw[c]at b;cases b
 ·exact b.1.1
theorem TP(z:Int):dd (bO z)=bk z.natAbs:=by
 have:=(yB z []).2;simpa using this
theorem tG(c:Nat):∀s:List Nat,(cg c s).1.length<=s.length/\(cg c s).2.1.length<=s.length/\(∀x∈(cg c s).1,x∈s)/\(∀x∈(cg c s).2.1,x∈s)
 |[]=>by simp[cg]
 |y::r=>by
  have a:=tG c r;rw[cg]
  split
  ·simp;intro x hx;exact .inr hx
  ·simp only[hz,hn];refine⟨o_,o_,?_,fun x hx=>.inr (a.2.2.2 x hx)⟩;rintro x (rfl|hx)
   ·exact .inl rfl
   ·exact .inr (a.2.2.1 x hx)
theorem px(s:List Nat):(dd s).length<=s.length/\∀x∈dd s,x∈s:=by
 rw[dd]
 split
 ·exact⟨s_,fun x hx=>List.mem_of_mem_tail hx⟩
 ·exact⟨ix _,fun _ h=>h⟩
theorem ki(s:List Nat)(h:b9 s=0)(n:s.length<=1048576):aB prog 140 [.str s] (eF ⟨aS s,false⟩):=by
 obtain⟨l,t,u,m⟩:=Zc h;obtain⟨o,f,p,q⟩:=K3 s;obtain⟨q1,r,a⟩:=ka h;have b:=P3 s 47 n;rw[p,q]at b;have c:=zL (cg 47 s).1 (by rw[f];exact ke l) (by rw[f];omega);rw[o,f]at c;have j:eI (NF.mk (aS s) false).num=eI (.mk' (if b8 s=true then -(bd (bH s):Int)else bd (bH s))):=by
  show eI ⟨(aS s).num,false⟩=_;rw[r];rfl
 rw[<-j]at c;refine aJ nf (i_ func140) mix (by simp[f140]) ?_;cases hf:eA s
 ·rw[hf]at b a;simp only[dz,if_false]at a;have e:(NF.mk (aS s) false).den=.mk' 1:=by
   show NI.mk' ((aS s).den:Int)=_;rw[a];rfl
  have i:=DE (NF.mk (aS s) false).num;have k:eF (.whole (NF.mk (aS s) false).num)=eF ⟨aS s,false⟩:=by
   rw[eF,eF,e];rfl
  rw[k]at i;simp[f140];refine c2 b ?_;simp;refine c1 c ?_;simp;refine c1 i ?_;simp[aa]
 ·rw[hf]at b a;simp only[if_true]at a;have g:=m hf;obtain⟨d1,d2⟩:=CS g;have d:=zL (bQ s) (by rw[d2];exact ke g) (by rw[d2];omega);rw[d1,d2]at d;simp only[dz,if_false]at d;have e:eI (NF.mk (aS s) false).den=eI (.mk' (bd (bQ s):Nat)):=by
   show eI (NI.mk' ((aS s).den:Int))=_;rw[a]
  rw[<-e]at d;rw[eF];simp[f140];refine c2 b ?_;simp;refine c1 c ?_;simp;refine c1 d ?_;simp[aa]
def mF(n:Nat):Bool:=decide (600<(bk n).length)
theorem Pa(a:NI)(h:a.v.natAbs<2^kB):aB prog 229 [eI a] (.bool (mF a.v.natAbs)):=by
 have l:kB=100000:=rfl;have d:=iC h qt;have g:=Zt a d;have i:=CY a d (wj h o_);have c:=KK (bO a.v);rw[TP]at c;refine aJ nf (i_ func229) mix (by simp[f229]) ?_;simp[f229];refine c1 g ?_
 by_cases j:1800<oK a.v.natAbs
 ·have b:(1800:Int)<(oK a.v.natAbs:Nat):=by omega
  have e:decide ((600:Int)<((bk a.v.natAbs).length:Nat))=mF a.v.natAbs:=by rw[mF,decide_eq_decide];omega
  simp[b];refine c1 i ?_;simp;refine c2 c ?_;simp[mF];omega
 ·have f:=h3 (LI a.v.natAbs) (h2 (show 0<2 by decide) (show oK a.v.natAbs<=3*600 by omega));have k:=JO f (by decide);have e:mF a.v.natAbs=false:=by rw[mF,decide_eq_false_iff_not];omega
  have b:¬(1800:Int)<(oK a.v.natAbs:Nat):=o_
  simp[b,e]
def EO(q:Rat):Bool:=mF q.num.natAbs||mF q.den
theorem Zz(a:NF)(h:bL kB a.q):aB prog 129 [eF a] (.bool (EO a.q)):=by
 have b:=Pa a.num h.1;have c:=Pa a.den (by rw[kH];exact h.2);rw[lN]at b;rw[kH]at c;refine aJ nf (i_ func129) mix (by simp[f129]) ?_;rw[EO];cases hc:mF a.q.num.natAbs
 ·rw[hc]at b;simp[f129,aa];refine c1 b ?_;simp[aa];refine c1 c ?_;simp
 ·rw[hc]at b;simp[f129,aa];refine c1 b ?_;simp
def wT:List (Nat×Func)->eb->Option Func
 |[],_=>none
 |(i,g)::r,f=>bif iz i f then some g else wT r f
def Bc(P:Program):List (Nat×Func)->Prop
 |[]=>True
 |p::r=>au P p.1 p.2/\Bc P r
theorem Mf{P:Program}:∀{l:List (Nat×Func)},Bc P l->∀{f:Nat}{fn:Func},wT l f=some fn->au P f fn
 |[],_,f,fn,h=>by simp[wT]at h
 |(i,g)::r,a,f,fn,h=>by
  simp only[wT,dq]at h
  split at h
  ·rename_i hf;simp only[mm]at h;subst h;rw[<-h7 hf];exact a.1
  ·exact Mf a.2 h
noncomputable def RO:List (Nat×Func):=[(2,f2),(3,f3),(4,f4),(5,f5),(6,f6),(7,f7),(8,f8),(9,f9),(10,f10),(11,f11),(12,f12),(13,f13),(14,f14),(15,f15),(16,f16),(17,f17),(18,f18),(19,f19),(20,f20),(21,f21),(22,f22),(23,f23),(24,f24),(25,f25),(26,f26),(27,f27),(28,f28),(29,f29),(30,f30),(31,f31),(32,f32),(33,f33),(34,f34),(35,f35),(36,f36),(37,f37),(38,f38),(39,f39),(40,f40),(41,f41),(42,f42),(43,f43),(44,f44),(45,f45),(46,f46),(47,f47),(48,f48),(49,f49),(50,f50),(51,f51),(52,f52),(53,f53),(54,f54),(55,f55),(56,f56),(57,f57),(58,f58),(59,f59),(60,f60),(61,f61),(62,f62),(63,f63),(64,f64),(65,f65),(66,f66),(67,f67),(68,f68),(69,f69),(70,f70),(71,f71),(72,f72),(73,f73),(74,f74),(75,f75),(76,f76),(77,f77),(78,f78),(79,f79),(80,f80),(81,f81),(82,f82),(83,f83),(84,f84),(85,f85),(86,f86),(87,f87),(88,f88),(89,f89),(90,f90),(91,f91),(92,f92),(93,f93),(94,f94),(95,f95),(96,f96),(97,f97),(98,f98),(99,f99),(100,f100),(101,f101),(102,f102),(103,f103),(104,f104),(105,f105),(106,f106),(107,f107),(108,f108),(109,f109),(110,f110),(111,f111),(112,f112),(113,f113),(114,f114),(115,f115),(116,f116),(117,f117),(118,f118),(119,f119),(120,f120),(121,f121),(122,f122),(123,f123),(124,f124),(125,f125),(126,f126),(127,f127),(128,f128),(129,f129),(130,f130),(131,f131),(132,f132),(133,f133),(134,f134),(135,f135),(136,f136),(137,f137),(138,f138),(139,f139),(140,f140),(141,f141),(142,f142),(143,f143),(144,f144),(145,f145),(146,f146),(147,f147),(148,f148),(149,f149),(150,f150),(151,f151),(152,f152),(153,f153),(154,f154),(155,f155),(156,f156),(157,f157),(158,f158),(159,f159),(160,f160),(161,f161),(162,f162),(163,f163),(164,f164),(165,f165),(166,f166),(167,f167),(168,f168),(169,f169),(170,f170),(171,f171),(172,f172),(173,f173),(174,f174),(175,f175),(176,f176),(177,f177),(178,f178),(179,f179),(180,f180),(181,f181),(182,f182),(183,f183),(184,f184),(185,f185),(186,f186),(187,f187),(188,f188),(189,f189),(190,f190),(191,f191),(192,f192),(193,f193),(194,f194),(195,f195),(196,f196),(197,f197),(198,f198),(199,f199),(200,f200),(201,f201),(202,f202),(203,f203),(204,f204),(205,f205),(206,f206),(207,f207),(208,f208),(209,f209),(210,f210),(211,f211),(212,f212),(213,f213),(214,f214),(215,f215),(216,f216),(217,f217),(218,f218),(219,f219),(220,f220),(221,f221),(222,f222),(223,f223),(224,f224),(225,f225),(226,f226),(227,f227),(228,f228),(229,f229),(230,f230),(231,f231),(232,f232),(233,f233),(234,f234),(235,f235),(236,f236),(237,f237),(238,f238),(239,f239),(240,f240),(241,f241),(242,f242),(243,f243),(244,f244),(245,f245),(246,f246),(247,f247),(248,f248),(249,f249),(250,f250),(251,f251),(252,f252),(253,f253),(254,f254),(255,f255),(256,f256),(257,f257),(258,f258),(259,f259),(260,f260),(261,f261),(262,f262),(263,f263),(264,f264),(265,f265),(266,f266),(267,f267),(268,f268),(269,f269),(270,f270),(271,f271),(272,f272),(273,f273),(274,f274),(275,f275),(276,f276),(277,f277),(278,f278),(279,f279),(280,f280),(281,f281),(282,f282),(283,f283),(284,f284),(285,f285),(286,f286),(287,f287),(288,f288),(289,f289),(290,f290),(291,f291),(292,f292),(293,f293),(294,f294),(295,f295),(296,f296),(297,f297),(298,f298),(299,f299),(300,f300),(301,f301),(302,f302),(303,f303),(304,f304),(305,f305),(306,f306),(307,f307),(308,f308),(309,f309),(310,f310),(311,f311),(312,f312),(313,f313),(314,f314),(315,f315),(316,f316),(318,f318),(319,f319),(320,f320),(321,f321),(322,f322),(323,f323),(324,f324),(325,f325),(326,f326),(327,f327),(328,f328),(329,f329),(330,f330),(331,f331),(332,f332),(333,f333),(334,f334),(335,f335),(336,f336),(337,f337),(338,f338),(339,f339),(340,f340),(341,f341),(343,f343),(344,f344),(345,f345),(346,f346),(347,f347),(349,f349),(350,f350),(351,f351),(352,f352),(353,f353),(354,f354),(355,f355),(356,f356),(357,f357),(358,f358),(359,f359),(360,f360),(361,f361),(362,f362),(364,f364),(365,f365),(366,f366),(367,f367),(368,f368),(369,f369),(370,f370),(372,f372),(373,f373),(374,f374),(375,f375),(376,f376),(377,f377),(378,f378),(379,f379),(381,f381),(382,f382),(383,f383),(384,f384),(385,f385),(386,f386),(387,f387),(388,f388),(389,f389),(390,f390),(391,f391),(392,f392),(393,f393),(427,f427)]
theorem aIB:Bc prog RO:=⟨i_ func2,i_ func3,i_ func4,i_ func5,i_ func6,i_ func7,i_ func8,i_ func9,i_ func10,i_ func11,i_ func12,i_ func13,i_ func14,i_ func15,i_ func16,i_ func17,i_ func18,i_ func19,i_ func20,i_ func21,i_ func22,i_ func23,i_ func24,i_ func25,i_ func26,i_ func27,i_ func28,i_ func29,i_ func30,i_ func31,i_ func32,i_ func33,i_ func34,i_ func35,i_ func36,i_ func37,i_ func38,i_ func39,i_ func40,i_ func41,i_ func42,i_ func43,i_ func44,i_ func45,i_ func46,i_ func47,i_ func48,i_ func49,i_ func50,i_ func51,i_ func52,i_ func53,i_ func54,i_ func55,i_ func56,i_ func57,i_ func58,i_ func59,i_ func60,i_ func61,i_ func62,i_ func63,i_ func64,i_ func65,i_ func66,i_ func67,i_ func68,i_ func69,i_ func70,i_ func71,i_ func72,i_ func73,i_ func74,i_ func75,i_ func76,i_ func77,i_ func78,i_ func79,i_ func80,i_ func81,i_ func82,i_ func83,i_ func84,i_ func85,i_ func86,i_ func87,i_ func88,i_ func89,i_ func90,i_ func91,i_ func92,i_ func93,i_ func94,i_ func95,i_ func96,i_ func97,i_ func98,i_ func99,i_ func100,i_ func101,i_ func102,i_ func103,i_ func104,i_ func105,i_ func106,i_ func107,i_ func108,i_ func109,i_ func110,i_ func111,i_ func112,i_ func113,i_ func114,i_ func115,i_ func116,i_ func117,i_ func118,i_ func119,i_ func120,i_ func121,i_ func122,i_ func123,i_ func124,i_ func125,i_ func126,i_ func127,i_ func128,i_ func129,i_ func130,i_ func131,i_ func132,i_ func133,i_ func134,i_ func135,i_ func136,i_ func137,i_ func138,i_ func139,i_ func140,i_ func141,i_ func142,i_ func143,i_ func144,i_ func145,i_ func146,i_ func147,i_ func148,i_ func149,i_ func150,i_ func151,i_ func152,i_ func153,i_ func154,i_ func155,i_ func156,i_ func157,i_ func158,i_ func159,i_ func160,i_ func161,i_ func162,i_ func163,i_ func164,i_ func165,i_ func166,i_ func167,i_ func168,i_ func169,i_ func170,i_ func171,i_ func172,i_ func173,i_ func174,i_ func175,i_ func176,i_ func177,i_ func178,i_ func179,i_ func180,i_ func181,i_ func182,i_ func183,i_ func184,i_ func185,i_ func186,i_ func187,i_ func188,i_ func189,i_ func190,i_ func191,i_ func192,i_ func193,i_ func194,i_ func195,i_ func196,i_ func197,i_ func198,i_ func199,i_ func200,i_ func201,i_ func202,i_ func203,i_ func204,i_ func205,i_ func206,i_ func207,i_ func208,i_ func209,i_ func210,i_ func211,i_ func212,i_ func213,i_ func214,i_ func215,i_ func216,i_ func217,i_ func218,i_ func219,i_ func220,i_ func221,i_ func222,i_ func223,i_ func224,i_ func225,i_ func226,i_ func227,i_ func228,i_ func229,i_ func230,i_ func231,i_ func232,i_ func233,i_ func234,i_ func235,i_ func236,i_ func237,i_ func238,i_ func239,i_ func240,i_ func241,i_ func242,i_ func243,i_ func244,i_ func245,i_ func246,i_ func247,i_ func248,i_ func249,i_ func250,i_ func251,i_ func252,i_ func253,i_ func254,i_ func255,i_ func256,i_ func257,i_ func258,i_ func259,i_ func260,i_ func261,i_ func262,i_ func263,i_ func264,i_ func265,i_ func266,i_ func267,i_ func268,i_ func269,i_ func270,i_ func271,i_ func272,i_ func273,i_ func274,i_ func275,i_ func276,i_ func277,i_ func278,i_ func279,i_ func280,i_ func281,i_ func282,i_ func283,i_ func284,i_ func285,i_ func286,i_ func287,i_ func288,i_ func289,i_ func290,i_ func291,i_ func292,i_ func293,i_ func294,i_ func295,i_ func296,i_ func297,i_ func298,i_ func299,i_ func300,i_ func301,i_ func302,i_ func303,i_ func304,i_ func305,i_ func306,i_ func307,i_ func308,i_ func309,i_ func310,i_ func311,i_ func312,i_ func313,i_ func314,i_ func315,i_ func316,i_ func318,i_ func319,i_ func320,i_ func321,i_ func322,i_ func323,i_ func324,i_ func325,i_ func326,i_ func327,i_ func328,i_ func329,i_ func330,i_ func331,i_ func332,i_ func333,i_ func334,i_ func335,i_ func336,i_ func337,i_ func338,i_ func339,i_ func340,i_ func341,i_ func343,i_ func344,i_ func345,i_ func346,i_ func347,i_ func349,i_ func350,i_ func351,i_ func352,i_ func353,i_ func354,i_ func355,i_ func356,i_ func357,i_ func358,i_ func359,i_ func360,i_ func361,i_ func362,i_ func364,i_ func365,i_ func366,i_ func367,i_ func368,i_ func369,i_ func370,i_ func372,i_ func373,i_ func374,i_ func375,i_ func376,i_ func377,i_ func378,i_ func379,i_ func381,i_ func382,i_ func383,i_ func384,i_ func385,i_ func386,i_ func387,i_ func388,i_ func389,i_ func390,i_ func391,i_ func392,i_ func393,i_ func427,trivial⟩
noncomputable def xj(a:eb->List PV->Option PV)(lS:eb->eb->Nat):nF:=⟨wT RO,a,fun _ _ _=>none,lS,fun _ _ _=>none⟩
theorem aHn{a:eb->List PV->Option PV}{lS:eb->eb->Nat}(h:∀f vs v,a f vs=some v->aB prog f vs v):oC prog (xj a lS):=by
 refine⟨mix,fun f fn hf=>Mf aIB hf,fun f vs v hk=>h f vs v hk,fun f args H v H' hk=>?_,fun f args H al v hk=>?_⟩
 ·simp only[xj]at hk;cases hk
 ·simp only[xj]at hk;cases hk
noncomputable def RE(a:eb->List PV->Option PV)(lS:eb->eb->Nat)(f:eb)(vs:List PV):Option PV:=qy prog nf (xj a lS) (kO prog nf (xj a lS) 20) f vs
theorem MZ{facts:eb->List PV->Option PV}{lS:eb->eb->Nat}(h:∀f vs v,facts f vs=some v->aB prog f vs v){f:eb}{vs:List PV}{v:PV}(a:RE facts lS f vs=some v):aB prog f vs v:=reckon 20 (aHn h) a
def noF:eb->List PV->Option PV:=fun _ _=>none
def qz:PV:=.st 408 ((gx 256).map fun i=>.bool (ct i))
theorem LY(c:Nat)(hc:c<256):aB prog 381 [.cr qz,.int .u8 c] (.bool (ct c)):=by
 refine aJ nf (i_ func381) mix (by simp[f381]) ?_;have a:(gx 256)[c]?=some c:=hu hc;simp[f381,qz,a,hc]
theorem Vd(s:List Nat)(h:s.length<=1048576)(g:∀c∈s,c<256):aB prog 367 [.str s,.cr qz] (.str (lM s)):=by
 refine aJ nf (i_ func367) mix (by simp[f367]) ?_;simp[f367];refine lp (α:=List Nat) (fun r=>⟨[(1,.p (.cr qz)),(0,.p (.str r))],[]⟩) (fun r=>lM r=lM s/\r.length<=s.length/\∀c∈r,c<256) (fun r=>r.length) s (by exact⟨rfl,ix _,g⟩) ?_;rintro r ⟨a,f,b⟩;cases r with
 |nil=>
  have e:lM s=[]:=by rw[<-a];rfl
  simp[e]
 |cons x r=>
  have hx:=b x s_;have i:lM (x::r)=if ct x=true then lM r else x::r:=by
   rw[lM,hN];split<;>rfl
  rw[i]at a;have j:(0:Int)<(r.length:Int)+1:=o_
  simp[j];refine c2 (LY x hx) ?_;cases d:ct x
  ·rw[d]at a;simp[<-a]
  ·rw[d]at a;simp;exact rd r ⟨by simpa using a,by simp at f;omega,fun c hc=>b c (by simp[hc])⟩ (h1:=s_)
theorem UP(s:List Nat)(h:s.length<=1048576)(g:∀c∈s,c<256):aB prog 368 [.str s,.cr qz] (.str (jb s)):=by
 refine aJ nf (i_ func368) mix (by simp[f368]) ?_;simp[f368];refine lp (α:=List Nat) (fun r=>⟨[(1,.p (.cr qz)),(0,.p (.str r))],[]⟩) (fun r=>jb r=jb s/\r.length<=s.length/\∀c∈r,c<256) (fun r=>r.length) s (by exact⟨rfl,ix _,g⟩) ?_;rintro r ⟨a,b,d⟩;rcases List.eq_nil_or_concat r with rfl|⟨t,x,rfl⟩
 ·have e:jb s=[]:=by rw[<-a];rfl
  simp[e]
 ·simp only[List.concat_eq_append]at a b d⊢;have hx:=d x s_;have i:jb (t++[x])=if ct x=true then jb t else t++[x]:=by
   rw[jb,List.reverse_append,List.reverse_cons,hw,hV,List.singleton_append,hN]
   split
   ·rfl
   ·simp
  rw[i]at a;have j:(0:Int)<(t.length:Int)+1:=o_
  have w1:ec.wrap (t.length:Int)=t.length:=aQ _ o_ (by simp at b;omega);simp[j,w1];refine c2 (LY x hx) ?_;cases f:ct x
  ·rw[f]at a;simp[<-a]
  ·rw[f]at a;simp[w1];exact rd t ⟨by simpa using a,by simp at b;omega,fun c hc=>d c (by simp[hc])⟩ (h1:=s_)
def wW:List Nat:=[48,49,50,51,52,53,54,55,56,57]
theorem XV:aB prog 366 [.str wW] (.aE [qz,.bool true]):=MZ (facts:=noF) (lS:=fun _ _=>0) (fun _ _ _ h=>by cases h) k_
theorem aJe:cB prog 409=some (.st 408 (gy 256 (.bool false))):=k_
theorem Zh(s:List Nat)(h:s.length<=1048576)(d:∀c∈s,c<256):aB prog 346 [.str s,.str wW] (.str (lM (jb s))):=by
 refine aJ nf (i_ func346) mix (by simp[f346]) ?_
 by_cases b:s=[]
 ·subst b;simp[f346,wW,lM,jb]
 simp[f346,wW,b];refine c1 XV ?_;have g:(jb s).length<=s.length:=by
  rw[jb,List.length_reverse];have:=(hH ct (l:=s.reverse)).length_le;simpa using this
 have f:∀c∈jb s,c<256:=by
  intro c hc;rw[jb,List.mem_reverse]at hc;exact d c (by simpa using(hH ct (l:=s.reverse)).subset hc)
 simp[aJe];have a:aL qz=.agg 408:=rfl;refine⟨⟨⟨a.symm,by rw[a];intro e;cases e⟩,a.symm⟩,?_⟩;refine cp (UP s h d) (by simp;exact⟨rfl,rfl⟩) ?_;simp;refine cp (Vd (jb s) o_ f) (by simp;exact⟨rfl,rfl⟩) ?_;simp
def bK:List Int->Int
 |[]=>0
 |e::r=>if e=0 then bK r else e
def aU(b:Bool)(e:Int):Int:=if b=true then e else 0
theorem Zi(a:List Int)(h:a.length<=1048576):aB prog 321 [.seq (a.map (.int .i64))] (.int .i64 (bK a)):=by
 refine aJ nf (i_ func321) mix (by simp[f321]) ?_;simp[f321];refine lp (α:=Nat) (fun i=>⟨[(7,.p (.int .i64 i)),(6,.p (.int .i64 a.length)),(5,.p (.seq (a.map (.int .i64))))],[]⟩) (fun i=>i<=a.length/\bK (a.drop i)=bK a) (fun i=>a.length-i) 0 s_ ?_;rintro i ⟨d,b⟩;simp
 by_cases hi:i<a.length
 ·rw[g8 hi]at b;have c:=b6 (i:=i) o_;simp[hi]
  by_cases he:a[i]=0
  ·simp[bK,he]at b;simp[he,c];exact rd (i+1) ⟨hi,b⟩
  ·simp[bK,he]at b;simp[he,<-b]
 ·have:i=a.length:=by omega
  subst this;simp[bK]at b;simp[<-b]
theorem ID(a:List Int)(h:a.length<=1048576):aB prog 63 [.seq (a.map (.int .i64))] (.int .i64 (bK a)):=by
 refine aJ nf (i_ func63) mix (by simp[f63]) ?_;simp[f63];refine lp (α:=Nat) (fun i=>⟨[(7,.p (.int .i64 i)),(6,.p (.int .i64 a.length)),(5,.p (.seq (a.map (.int .i64))))],[]⟩) (fun i=>i<=a.length/\bK (a.drop i)=bK a) (fun i=>a.length-i) 0 s_ ?_;rintro i ⟨d,b⟩;simp
 by_cases hi:i<a.length
 ·rw[g8 hi]at b;have c:=b6 (i:=i) o_;simp[hi]
  by_cases he:a[i]=0
  ·simp[bK,he]at b;simp[he,c];exact rd (i+1) ⟨hi,b⟩
  ·simp[bK,he]at b;simp[he,<-b]
 ·have:i=a.length:=by omega
  subst this;simp[bK]at b;simp[<-b]
theorem qE(a:List Int)(h:a.length<=1048576):aB prog 200 [.seq (a.map (.int .i64))] (.int .i64 (bK a)):=by
 refine aJ nf (i_ func200) mix (by simp[f200]) ?_;simp[f200];refine lp (α:=Nat) (fun i=>⟨[(7,.p (.int .i64 i)),(6,.p (.int .i64 a.length)),(5,.p (.seq (a.map (.int .i64))))],[]⟩) (fun i=>i<=a.length/\bK (a.drop i)=bK a) (fun i=>a.length-i) 0 s_ ?_;rintro i ⟨d,b⟩;simp
 by_cases hi:i<a.length
 ·rw[g8 hi]at b;have c:=b6 (i:=i) o_;simp[hi]
  by_cases he:a[i]=0
  ·simp[bK,he]at b;simp[he,c];exact rd (i+1) ⟨hi,b⟩
  ·simp[bK,he]at b;simp[he,<-b]
 ·have:i=a.length:=by omega
  subst this;simp[bK]at b;simp[<-b]
theorem vS(b:Bool)(e:Int):aB prog 322 [.bool b,.int .i64 e] (.int .i64 (aU b e)):=by
 refine aJ nf (i_ func322) mix (by simp[f322]) ?_;cases b<;>simp[f322,aU]
theorem qS(b:Bool)(e:Int):aB prog 64 [.bool b,.int .i64 e] (.int .i64 (aU b e)):=by
 refine aJ nf (i_ func64) mix (by simp[f64]) ?_;cases b<;>simp[f64,aU]
theorem iR(b:Bool)(e:Int):aB prog 201 [.bool b,.int .i64 e] (.int .i64 (aU b e)):=by
 refine aJ nf (i_ func201) mix (by simp[f201]) ?_;cases b<;>simp[f201,aU]
theorem NT(s:List Nat)(h:s.length<=1048576)(i:∀c∈s,c<256):aB prog 320 [.str s] (.bool (dI s)):=by
 have f:=Zh s h i;have g:=V7 s;rw[show wW=[48,49,50,51,52,53,54,55,56,57]from rfl]at f;refine aJ nf (i_ func320) mix (by simp[f320]) ?_;generalize lM (jb s)=t at*;cases s with
 |nil=>simp[f320,dI]
 |cons c r=>
  have hc:=i c s_
  by_cases b:t=[]
  ·have d:=g.1 b;have e:dI (c::r)=(decide (¬c=48)||decide (r=[])):=by
    rw[dI,d]
    by_cases a:c=48
    ·subst a;simp
    ·simp[a]
   rw[e];clear e d g
   by_cases a:c=48
   ·cases r with
    |nil=>
     simp[f320];refine c2 f ?_;simp[b,a]
    |cons x r=>
     simp[f320];refine c2 f ?_;simp[b,a]
   ·have j:¬(c:Int)=48:=by omega
    simp[f320];refine c2 f ?_;simp[b,a,j]
  ·have d:¬(c::r).all ct=true:=mt g.2 b;have a:(c::r).all ct=false:=by simpa using d
   have e:dI (c::r)=false:=by rw[dI,a];simp
   rw[e];clear e d a g;simp[f320];refine c2 f ?_;simp[b]
theorem ayE{a b:Nat}:(decide (ku (eL a b) 1≠0))=decide (i7 a b≠1):=by
 rw[decide_eq_decide,ku,eL,ed,ed]
 split
 ·simp;omega
 ·split
  ·simp;omega
  ·simp;omega
theorem EX{s:List Nat}(h:s.all ct=true)(c:s.length<=700):okW (bd s:Nat):=by
 have a:=jK _ s rfl h;have b:bd s<2^kR:=h3 a (Ln (by have:kR=2800:=rfl;omega));exact iC (k:=kR) (by rw[ed];exact b) (by have:kB=100000:=rfl;have:kR=2800:=rfl;omega)
theorem Ab(s:List Nat)(h:s.length<=1048576)(K:∀c∈s,c<256):aB prog 284 [.str s] (.int .i64 (b9 s)):=by
 have X:=YT s;have A:=P3 (dd s) 47 (h5 (px s).1 h);rw[show(cg 47 (dd s)).1=bH s from rfl,show(cg 47 (dd s)).2.1=bQ s from rfl,show(cg 47 (dd s)).2.2=eA s from rfl]at A;refine aJ nf (i_ func284) mix (by simp[f284]) ?_;simp[f284,-bu];rw[bu];simp[-bu];rw[bu];simp[-bu];refine c2 X ?_;simp[-bu];rw[bu];simp[-bu];refine c2 A ?_;simp[-bu];have ab:=(px s).1;have q:=tG 47 (dd s);have ad:(bH s).length<=1048576:=by have:=q.1;rw[bH];omega
 have ac:(bQ s).length<=1048576:=by have:=q.2.1;rw[bQ];omega
 have W:∀c∈bH s,c<256:=fun c hc=>K c ((px s).2 c (q.2.2.1 c hc));have V:∀c∈bQ s,c<256:=fun c hc=>K c ((px s).2 c (q.2.2.2 c hc));clear q ab;have Z:=NT (bH s) ad W;have Y:=NT (bQ s) ac V;obtain⟨m,B⟩:∃m,m=(dI (bH s)&&!(b8 s&&decide (bH s=[48]))):=⟨_,rfl⟩
 obtain⟨f2,k⟩:∃f2,f2=(m&&(!eA s||(dI (bQ s)&&decide (bQ s≠[48])&&decide (bQ s≠[49])))):=⟨_,rfl⟩
 have L:b9 s=if f2=false then 1 else if 600<(bH s).length\/600<(bQ s).length then 4 else if eA s=true/\i7 (bd (bH s)) (bd (bQ s))≠1 then 1 else 0:=by rw[k,B];rfl
 rw[L];clear L A;generalize eA s=fr at*;refine join (fun s'=>aP s'.env 8=.p (.bool m)/\aP s'.env 7=.p (.bool fr)/\aP s'.env 6=.p (.str (bQ s))/\aP s'.env 5=.p (.str (bH s))/\s'.heap=[]) ?_ ?_
 ·simp;refine c1 Z ?_;rw[B];cases dI (bH s)
  ·simp
  ·cases b8 s
   ·simp
   ·by_cases r:bH s=[48]
    ·simp[r]
    ·simp[r]
 rintro⟨I,aa⟩ ⟨d,f,g,i,t⟩;dsimp only at d f g i t;subst t;refine join (fun s'=>aP s'.env 8=.p (.bool f2)/\aP s'.env 7=.p (.bool fr)/\aP s'.env 6=.p (.str (bQ s))/\aP s'.env 5=.p (.str (bH s))/\s'.heap=[]) ?_ ?_
 ·rw[k];cases fr
  ·simp[d,f,g,i]
  ·cases m
   ·simp[d,f,g,i]
   ·simp[d,f,g,i];refine c1 Y ?_;cases dI (bQ s)
    ·simp[d,f,g,i]
    ·by_cases r:bQ s=[48]
     ·simp[d,f,g,i,r]
     ·by_cases N:bQ s=[49]
      ·simp[d,f,g,i,N]
      ·simp[d,f,g,i,r,N]
 clear d f g i I;rintro⟨I,aa⟩ ⟨d,f,g,i,t⟩;dsimp only at d f g i t;subst t;have head:∀(n v:Bool),aB prog 321 [.seq [.int .i64 (aU n 1),.int .i64 (aU v 4)]] (.int .i64 (if n=true then 1 else if v=true then 4 else 0)):=fun n v=>by
  have:=Zi [aU n 1,aU v 4] s_;cases n<;>cases v<;>exact this
 have w0:=vS (!f2) 1;have R:=vS true 4;have wf:=vS false 4;have J:=head (!f2) true;have U:=head (!f2) false;have O:(600<(bH s).length)↔(600:Int)<((bH s).length:Nat):=o_
 have P:(600<(bQ s).length)↔(600:Int)<((bQ s).length:Nat):=o_
 by_cases u:(600:Int)<((bH s).length:Nat)
 ·simp[d,f,g,i];refine c2 w0 ?_;simp[d,f,g,i,u];refine c2 R ?_;simp;refine cp J (by simp;exact⟨rfl,rfl⟩) ?_;cases f2
  ·simp
  ·simp[O.2 u]
 by_cases x:(600:Int)<((bQ s).length:Nat)
 ·simp[d,f,g,i];refine c2 w0 ?_;simp[d,f,g,i,u,x];refine c2 R ?_;simp;refine cp J (by simp;exact⟨rfl,rfl⟩) ?_;cases f2
  ·simp
  ·simp[P.2 x]
 have E:¬600<(bH s).length:=mt O.1 u;have F:¬600<(bQ s).length:=mt P.1 x;have Q:=vS false 1;have ag:=vS true 1;simp[d,f,g,i];refine c2 w0 ?_;simp[d,f,g,i,u,x];refine c2 wf ?_;simp;refine cp U (by simp;exact⟨rfl,rfl⟩) ?_;cases f2
 ·simp
 cases fr
 ·simp[d,f,g,i,E,F];refine c2 Q ?_;simp[aU];exact⟨o_,o_⟩
 have j:dI (bH s)=true/\dI (bQ s)=true:=by
  cases S:dI (bH s)
  ·rw[B,S]at k;simp at k
  cases T:dI (bQ s)
  ·rw[T]at k;simp at k
  exact⟨rfl,rfl⟩
 obtain⟨ae,G⟩:=CS j.1;obtain⟨af,H⟩:=CS j.2;have y:=zL (bH s) (by rw[G];exact ke j.1) (by rw[G];omega);have z:=zL (bQ s) (by rw[H];exact ke j.2) (by rw[H];omega);rw[ae,G]at y;rw[af,H]at z;simp only[dz,if_false]at y z;have C:=PZ (.mk' (bd (bH s):Nat)) (.mk' (bd (bQ s):Nat)) (EX (ke j.1) o_) (EX (ke j.2) o_);rw[NI.iN,NI.iN]at C;have D:=sv 1;rw[MH]at D;have hc:=PY (.mk' (eL (bd (bH s):Nat) (bd (bQ s):Nat))) (.mk' 1) (rp (EX (ke j.2) o_) (by rw[NI.iN,eL,ed,ed,ed];exact kt _ (yS j.2 (fun e=>by rw[e]at k;simp at k)))) (by rw[okW];decide);rw[NI.iN,NI.iN]at hc;have M:=ayE (a:=bd (bH s)) (b:=bd (bQ s));generalize ku (eL (bd (bH s):Nat) (bd (bQ s):Nat)) 1=o at*
 by_cases l:i7 (bd (bH s)) (bd (bQ s))=1
 ·have w:o=0:=by simpa[l]using M
  simp[d,f,g,i,E,F,l];refine c1 y ?_;simp[d,f,g,i];refine c1 z ?_;simp;refine c2 C ?_;simp;refine c1 D ?_;simp;refine c2 hc ?_;simp[w];refine c2 Q ?_;simp[aU];rw[if_neg o_,if_pos l]
 ·have w:¬o=0:=by simpa[l]using M
  simp[d,f,g,i,E,F,l];refine c1 y ?_;simp[d,f,g,i];refine c1 z ?_;simp;refine c2 C ?_;simp;refine c1 D ?_;simp;refine c2 hc ?_;simp[w];refine c2 ag ?_ (h1:=by simp[w]);simp[aU];rw[if_neg o_,if_neg l]
def ji(s:List Nat):Prop:=s.length<=1048576/\∀c∈s,c<256
theorem YS(l:List (List Nat)):aB prog 315 [.seq (l.map .str)] (.func 344 [] [.cr (.seq (l.map .str))]):=by
 refine aJ nf (i_ func315) mix (by simp[f315]) ?_;simp[f315];exact bD.refl _
def EH(s:List Nat):List PV:=[.int .i64 (b9 s)]
theorem Yu(l:List (List Nat))(q:l.length<=1000000)(hs:∀s∈l,ji s):Stream prog 344 [] [.cr (.seq (l.map .str))] (l.map EH):=by
 intro b k c H' hk d o f;refine fk nf (i_ func344) mix (by simp[f344]) ?_;rw[hB]at hk;have g:∀i(h:i<l.length),(l.map EH)[i]?=some (EH l[i]):=fun i h=>by rw[hl,gm h];rfl
 simp[f344];refine lp (α:=Nat) (fun i=>⟨[(7,.p (.int .i64 i)),(6,.p (.int .i64 l.length)),(5,.p (.seq (l.map .str))),(0,.map b)],c i⟩) (fun i=>i<=k) (fun i=>l.length-i) 0 s_ ?_ (hr:=by simp;exact(d 0 o_).2) (hr2:=(d 0 o_).1);intro i hi;have n:=b6 (i:=i) o_
 by_cases a:i<l.length
 ·have hc:=Ab l[i] (hs _ (g5 a)).1 (hs _ (g5 a)).2;have im:(i<k/\fx prog b (c i) [.p (.int .i64 (b9 l[i]))] (c (i+1)) (.p (.bool true)))\/fx prog b (c i) [.p (.int .i64 (b9 l[i]))] H' (.p (.bool false)):=by
   by_cases e:i<k
   ·exact .inl ⟨e,o i _ e (g i a)⟩
   ·have:i=k:=by omega
    subst this;rcases f with⟨e1,_⟩|⟨y,e1,e2⟩
    ·rw[hB]at e1;omega
    ·rw[g i a]at e1;injection e1 with e1;subst e1;exact .inr e2
  simp[a];refine c1 hc ?_;simp;rcases im with⟨e,hY⟩|hY
  ·refine⟨c (i+1),_,hY,?_⟩;simp[n];exact rd (i+1) e (h1:=o_) (hr:=by simp;exact(d (i+1) o_).2) (hr2:=(d (i+1) o_).1)
  ·refine⟨H',_,hY,?_⟩;simp
 ·have m:i=l.length:=by omega
  have j:k=l.length:=o_
  rcases f with⟨e1,e2⟩|⟨y,e1,e2⟩
  ·simp[a,e2,m,j]
  ·rw[j,List.getElem?_eq_none s_]at e1;cases e1
theorem vZ(p:Nat->Bool):∀n,∃k,k<=n/\(∀j,j<k->p j=true)/\(k=n\/(k<n/\p k=false))
 |0=>⟨0,ix _,fun j h=>by omega,.inl rfl⟩
 |n+1=>by
  obtain⟨k,f,b,a⟩:=vZ p n;rcases a with a|⟨a,d⟩
  ·subst a;cases c:p k
   ·exact⟨k,o_,b,.inr ⟨o_,c⟩⟩
   ·refine⟨k+1,ix _,fun j g=>?_,.inl rfl⟩
    by_cases e:j=k
    ·subst e;exact c
    ·exact b j o_
  ·exact⟨k,o_,b,.inr ⟨o_,d⟩⟩
def my(l:List (List Nat))(i:Nat):Int:=match l[i]? with
 |some s=>b9 s
 |none=>0
theorem J2:∀(l:List (List Nat))(k:Nat),(∀j,j<k->my l j=0)->bK (l.map b9)=bK ((l.drop k).map b9)
 |[],k,_=>by simp
 |s::l,0,_=>rfl
 |s::l,k+1,h=>by
  have a:=h 0 o_;have b:b9 s=0:=a;rw[gE,bK,if_pos b,List.drop_succ_cons];exact J2 l k fun j c=>h (j+1) o_
theorem VH(l:List (List Nat))(c:l.length<=1000000)(hs:∀s∈l,ji s):aB prog 268 [.seq (l.map .str)] (.int .i64 (bK (l.map b9))):=by
 refine aJ nf (i_ func268) mix (by simp[f268]) ?_;simp[f268];refine c1 (YS l) ?_;simp;have aN:=Yu l c hs;obtain⟨k,hk,g,d⟩:=vZ (fun i=>decide (my l i=0)) l.length;have r:∀j,j<k->my l j=0:=fun j q=>by simpa using g j q
 have f:=J2 l k r;refine rf2 aN rfl s_ (fun L _=>[.box false (.p (.int .i64 0)),.loop L]) (fun L i=>[.box false (.p (.int .i64 (my l (i-1)))),.loop (L.dn .ret)]) (fun i=>decide (my l i=0)) .ret k (by simpa using hk) g (by simpa using d) (fun L=>rfl) ?_ ?_ (fun L=>rfl) ?_ ?_
 ·intro L b i hi;clear b;refine⟨rfl,s_,fun _ c=>?_⟩;simp at c⊢;exact c
 ·intro L b i x hi hx;have t:x=[.int .i64 (my l i)]:=by
   rw[hl]at hx;unfold my;cases h:l[i]? with
   |none=>rw[h]at hx;cases hx
   |some s=>rw[h]at hx;injection hx with hx;rw[<-hx];rfl
  subst t;rw[i9];refine sQ nf mix b rfl rfl k_ ?_;have m:=congrArg dK.env b;dsimp only at m;clear b;generalize my l i=e
  by_cases he:e=0
  ·subst he;simp;exact .inl rfl
  ·simp[he];exact .inl rfl
 ·intro a L;have a:k=l.length:=by simpa using a
  rw[f,a];simp[bK]
 ·intro a L;have a:k<l.length:=by simpa using a
  have o:¬my l k=0:=by
   rcases d with u|⟨_,n⟩
   ·omega
   ·simpa using n
  have e1:my l k=b9 l[k]:=by unfold my;rw[gm a]
  rw[f,g8 a,gE,bK,<-e1,if_neg o];simp[je]
structure fF where
 x:List Nat
 y:List Nat
def fX(p:fF):PV:=.st 31 [.str p.x,.str p.y]
def nA(p:fF):Prop:=ji p.x/\ji p.y
def ez(p:fF):Int:=bK [b9 p.x,b9 p.y]
@[simp] theorem aO3(p:fF):aL (fX p)=.agg 31:=rfl
@[simp] theorem aNs(p:fF):bY (fX p)=[.str p.x,.str p.y]:=rfl
@[simp] theorem aMz:prog.cellsOf 31=2:=k_
theorem T7(p:fF)(a:nA p):aB prog 206 [.seq [fX p]] (.int .i64 (ez p)):=by
 have hc:=VH [p.x,p.y] s_ (by intro s hs;simp at hs;rcases hs with rfl|rfl;exact a.1;exact a.2);refine aJ nf (i_ func206) mix (by simp[f206]) ?_;simp[f206];refine lp (α:=Nat) (fun i=>⟨[(8,.p (.int .i64 i)),(7,.p (.int .i64 1)),(6,.p (.seq [fX p])),(0,.p (.seq [fX p]))],[]⟩) (fun i=>i=0\/(i=1/\ez p=0)) (fun i=>1-i) 0 (.inl rfl) ?_;rintro i h;rcases h with rfl|⟨rfl,h⟩
 ·simp[aa];refine cp hc (by simp;exact⟨rfl,rfl⟩) ?_;have b:ec.wrap 1=1:=rfl;rw[show bK (hJ b9 [p.x,p.y])=ez p from rfl]
  by_cases h:ez p=0
  ·simp[h,b];exact rd 1 (.inr ⟨rfl,h⟩)
  ·simp[h]
 ·simp[h]
theorem u7(p:fF)(a:nA p):aB prog 106 [fX p] (.int .i64 (ez p)):=by
 refine aJ nf (i_ func106) mix (by simp[f106]) ?_;simp[f106,aa];refine cp (T7 p a) (by simp;exact⟨rfl,rfl⟩) ?_;simp
open Go.Proofs Go.Proofs.YtdjojlnnobkliaaGreatDoor
section
variable{H:Type}{W:World}{ad:Nat->Prop}
theorem Aj{n:Nat}{d:DataW H}(h:∃cs,aZ prog W ad (bF prog (n+1) 30 d) cs)(a:Rows.uptoBulk d<=1048576):∃s:List Nat,bF prog (n+1) 30 d=.str s/\ji s:=by
 obtain⟨cs,h⟩:=h;cases d with
 |lit l=>
  cases l with
  |string bytes=>
   refine⟨bytes.map (·.toNat),by simp only[bF,Fc],?_,?_⟩
   ·rw[Rows.uptoBulk]at a;rw[hB];omega
   ·intro c hc;obtain⟨u,_,rfl⟩:=ht.1 hc;exact u.toNat_lt
  |_=>simp only[bF,Fc,aZ]at h
 |_=>simp only[bF,Fc,aZ]at h
theorem aLw:∃a b:Field,prog.underlying 32=some (.struct #[a,b])/\a.type=30/\b.type=30:=⟨_,_,underlying32,rfl,rfl⟩
theorem RS:prog.underlyingId 32=31:=k_
theorem W9{m n:Nat}(q:m=n+1){d:DataW H}(h:∃cs,aZ prog W ad (bF prog (m+1) 32 d) cs)(e:Rows.uptoBulk d<=1048576):∃p:fF,bF prog (m+1) 32 d=fX p/\nA p:=by
 obtain⟨cs,h⟩:=h;obtain⟨f0,f1,i,t0,t1⟩:=aLw;cases d with
 |agg l=>
  have g:∀x∈l,Rows.uptoBulk x<=1048576:=fun x hx=>by
   have:=ql.um hx;rw[Rows.uptoBulk]at e;omega
  simp only[bF,i,aZ]at h⊢;obtain⟨t,s,f,c,_⟩:=h;rw[RS,aIy]at f;cases f
  match l,c with
  |[],c=>simp[bg]at c
  |[x],c=>simp[bg]at c
  |x::y::r,c=>
   simp only[List.zip_cons_cons,gE,bg,List.zip_nil_left,hv,t0,t1]at c⊢;obtain⟨c0,_,_,g1,_,c1,_,_,g2,_⟩:=c;subst q;obtain⟨a,j,o⟩:=Aj ⟨c0,g1⟩ (g x s_);obtain⟨b,k,e⟩:=Aj ⟨c1,g2⟩ (g y s_);exact⟨⟨a,b⟩,by rw[j,k,RS];rfl,o,e⟩
 |_=>simp only[bF,i,aZ]at h
theorem J8{n:Nat}{d:DataW H}(h:∃cs,aZ prog W ad (bF prog (n+2) 32 d) cs)(a:Rows.uptoBulk d<=1048576):∃p:fF,bF prog (n+2) 32 d=fX p/\nA p:=W9 rfl h a
end
def bT:Nat:=1000000000
theorem bf:2<=bT:=by decide
def iP(l:List Nat):List PV:=l.map fun x:Nat=>.int .i64 x
theorem RJ(w:List Nat):fa prog 1 (w.map (AV.p∘fun x:Nat=>PV.int .i64 x)):=by
 rw[vp];intro v a;obtain⟨x,_,rfl⟩:=ht.1 a;simp[aa,aL,bG]
def eT(n:Nat):PV:=.seq ((aA bT n).map fun x:Nat=>.int .i64 x)
theorem Ar:aA bT 0=[]:=by simp[aA,nw]
theorem nR{n:Nat}(b:0<n)(h:n<bT):aA bT n=[n]:=by
 have a:=jM bf (m:=1) (n:=n) (by rw[km];exact h);rw[<-a,row,hZ,gE,hv,ae,i6,js,ii h];have:=vk [] n o_
 rwa [hV]at this
theorem vx{n:Nat}:aA bT n=[]↔n=0:=by
 constructor
 ·intro h;have:=cq bf n;rw[h,List.length_nil,i6]at this;omega
 ·rintro rfl;exact Ar
theorem tV(w:List Nat)(h:w.length<=1048576):aB prog 305 [.seq (iP w)] (.seq (iP (et w))):=by
 refine aJ nf (i_ func305) mix (by simp[f305]) ?_;simp only[iP];simp[f305];refine lp (α:=Nat) (fun i=>⟨[(0,.p (.seq ((w.take i).map fun x:Nat=>.int .i64 x)))],[]⟩) (fun i=>i<=w.length/\et w=et (w.take i)) (fun i=>i) w.length s_ ?_;rintro i ⟨k1,k2⟩;have k:(w.take i).length=i:=by rw[g4];omega
 by_cases hi:0<i
 ·obtain⟨j,rfl⟩:∃j,i=j+1:=⟨i-1,o_⟩
  have f:ec.wrap (j:Int)=j:=aQ _ o_ o_;have a:j<w.length:=o_
  have e:(0:Int)<(j:Int)+1:=o_
  have k3:=k2;rw[g9 a]at k2;have c:min (j+1) w.length=j+1:=o_
  have d:min ((j:Int)+1) (w.length:Int)=j+1:=o_
  have g:¬w=[]:=by rintro rfl;simp at a
  by_cases b:w[j]=0
  ·rw[b,B6]at k2;simp[e,f,a,b,c,d,g];refine⟨by rw[<-ha];exact RJ _,?_⟩;refine rd j ⟨o_,k2⟩ (he:=?_);rw[<-ha,<-ha,hD,le o_];simp
  ·rw[vk _ _ b,<-g9 a]at k2;simp[e,f,a,b,c,d,g];rw[k2,ha];exact bD.refl _
 ·obtain rfl:i=0:=by omega
  simp[et]at k2;simp[k2]
def eG(z:Int):PV:=.st 257 [.bool (decide (z<0)),eT z.natAbs]
@[simp] theorem aOT(z:Int):aL (eG z)=.agg 257:=rfl
@[simp] theorem aNj(z:Int):bY (eG z)=[.bool (decide (z<0)),eT z.natAbs]:=rfl
@[simp] theorem aPa(n:Nat):aL (eT n)=.leaf:=rfl
theorem CV(neg:Bool)(w:List Nat)(n:Nat)(c:et w=aA bT n)(h:w.length<=1048576):aB prog 254 [.bool neg,.seq (iP w)] (eG (if neg=true then -(n:Int)else n)):=by
 have a:=tV w h;rw[c]at a;refine aJ nf (i_ func254) mix (by simp[f254]) ?_;have b:(if neg=true then -(n:Int)else n).natAbs=n:=by cases neg<;>simp
 rw[eG,b,eT];have d:=vx (n:=n);have e:decide ((if neg=true then -(n:Int)else n)<0)=(neg&&decide (0<(aA bT n).length)):=by
  cases neg
  ·simp
  ·simp;rw[gw,Ne,d];omega
 rw[e];simp only[iP]at a⊢;generalize aA bT n=x at*;cases neg
 ·simp[f254];refine c1 a ?_;simp[aa]
 ·simp[f254];refine c1 a ?_;simp[aa]
  done
theorem Ju{a b:Nat}(h:(aA bT a).length<(aA bT b).length):a<b:=by
 have d:=cq bf a;rcases ik a b with c|c
 ·exact c
 ·have:=dN bf (aA bT a).length b (h6 c d);omega
theorem JD{a b i:Nat}(h:a/bT^(i+1)=b/bT^(i+1))(e:ae bT a i<ae bT b i):a<b:=by
 rw[h9,<-ip,<-ip]at h;have e1:=i0 (a/bT^i) bT;have e2:=i0 (b/bT^i) bT;rw[ae,ae]at e;rw[h]at e1;rcases ik a b with d|d
 ·exact d
 ·have:=Nat.div_le_div_right (c:=bT^i) d;omega
theorem XR{a b i:Nat}(h:a/bT^(i+1)=b/bT^(i+1))(c:ae bT a i=ae bT b i):a/bT^i=b/bT^i:=by
 rw[h9,<-ip,<-ip]at h;have e1:=i0 (a/bT^i) bT;have e2:=i0 (b/bT^i) bT;rw[ae,ae]at c;rw[h]at e1;omega
theorem JJ(a b:Nat)(E:(aA bT a).length<=1048576)(F:(aA bT b).length<=1048576):aB prog 256 [eT a,eT b] (.int .i64 (fQ a b)):=by
 refine aJ nf (i_ func256) mix (by simp[f256]) ?_
 by_cases l:(aA bT a).length=(aA bT b).length
 case neg=>
  have q:¬((aA bT a).length:Int)=(aA bT b).length:=o_
  by_cases A:(aA bT a).length<(aA bT b).length
  ·have m:((aA bT a).length:Int)<(aA bT b).length:=by omega
   have:=Ju A;have hc:fQ a b= -1:=if_pos this;simp[f256,eT,q,m,hc]
  ·have m:¬((aA bT a).length:Int)<(aA bT b).length:=by omega
   have:=Ju (a:=b) (b:=a) o_;have hc:fQ a b=1:=by rw[fQ,if_neg o_,if_pos this]
   simp[f256,eT,q,m,hc]
 have t:∀i(h:i<(aA bT a).length),(aA bT a)[i]?=some (ae bT a i):=fun i h=>by rw[gm h,eD bf h]
 have v:∀i(h:i<(aA bT b).length),(aA bT b)[i]?=some (ae bT b i):=fun i h=>by rw[gm h,eD bf h]
 have u:∀i(h:i<(aA bT a).length),(aA bT a)[i]=ae bT a i:=fun i h=>eD bf h;have w:∀i(h:i<(aA bT b).length),(aA bT b)[i]=ae bT b i:=fun i h=>eD bf h;have s:=cq bf a;have o:=cq bf b;rw[<-l]at o;have z:a/bT^(aA bT a).length=b/bT^(aA bT a).length:=by rw[i5 s,i5 o]
 simp only[eT];generalize aA bT a=x at*;generalize aA bT b=y at*;have D:ec.wrap ((y.length:Int)-1)=y.length-1:=aQ _ o_ o_;simp[f256,l,D];refine lp (α:=Nat) (fun i=>⟨[(5,.p (.int .i64 ((i:Int)-1))),(1,.p (.seq (y.map fun x:Nat=>.int .i64 x))),(0,.p (.seq (x.map fun x:Nat=>.int .i64 x)))],[]⟩) (fun i=>i<=y.length/\a/bT^i=b/bT^i) (fun i=>i) y.length ⟨ix _,by rw[<-l];exact z⟩ ?_;rintro i ⟨k1,k2⟩
 by_cases hi:0<i
 ·obtain⟨j,rfl⟩:∃j,i=j+1:=⟨i-1,o_⟩
  have c:j<x.length:=o_
  have d:j<y.length:=o_
  have C:ec.wrap ((j:Int)-1)=j-1:=aQ _ o_ o_;have e:=t j c;have g:=v j d;have f:=u j c;have k:=w j d
  by_cases hq:ae bT a j=ae bT b j
  ·simp[c,d,e,g,f,k,hq,C];exact rd j ⟨o_,XR k2 hq⟩
  ·have r:¬(ae bT a j:Int)=ae bT b j:=by omega
   by_cases n:ae bT a j<ae bT b j
   ·have:=JD k2 n;have hc:fQ a b= -1:=if_pos this;simp[c,d,e,g,f,k,r,n,hc]
   ·have:=JD k2.symm (show ae bT b j<ae bT a j by omega);have B:ae bT b j<ae bT a j:=by omega
    have hc:fQ a b=1:=by rw[fQ,if_neg o_,if_pos this]
    simp[c,d,e,g,f,k,r,n,B,hc]
 ·obtain rfl:i=0:=by omega
  rw[i6,js,js]at k2;have hc:fQ a b=0:=by rw[fQ,if_neg o_,if_neg o_]
  simp[hc]
theorem YH{n i:Nat}(h:(aA bT n).length<=i):ae bT n i=0:=jL (h3 (cq bf n) (h2 (by decide) h))
theorem DD(a i:Nat):aB prog 307 [eT a,.int .i64 i] (.int .i64 (ae bT a i:Nat)):=by
 refine aJ nf (i_ func307) mix (by simp[f307]) ?_
 by_cases h:i<(aA bT a).length
 ·have g1:(aA bT a)[i]=ae bT a i:=eD bf h;rw[eT,<-g1];generalize aA bT a=x at*;simp[f307,h]
 ·rw[YH o_,eT];generalize aA bT a=x at*;simp[f307,h]
def eh(i n:Nat):List AV:=(gx i).map fun j=>.p (.int .i64 (ae bT n j:Nat))
theorem q8(i n:Nat):eh (i+1) n=eh i n++[.p (.int .i64 (ae bT n i:Nat))]:=by
 rw[eh,hU,hX];rfl
theorem iL(i n:Nat):(eh i n).length=i:=by simp[eh]
@[simp] theorem aOF{N:Nat×Nat->Prop}{n i:Nat}:aV N (eh i n)=True:=by
 rw[cM,eq_iff_iff,iff_true];intro v a;simp only[eh,ht]at a;obtain⟨x,_,rfl⟩:=a;trivial
theorem MB(i n:Nat):eQ (eh i n)=some ((row bT i n).map fun x:Nat=>.int .i64 x):=by
 have:eh i n=(row bT i n).map (AV.p∘fun x:Nat=>PV.int .i64 x):=by
  rw[eh,row,hG];rfl
 rw[this];exact KR
theorem N3(i n:Nat):eh i n=(row bT i n).map (AV.p∘fun x:Nat=>PV.int .i64 x):=by
 rw[eh,row,hG];rfl
theorem Y3{n i:Nat}(h:n<bT^i)(a:i=0\/bT^(i-1)<=n):row bT i n=aA bT n:=by
 have b:(aA bT n).length=i:=by
  have c:=dN bf i n h;rcases a with rfl|a
  ·omega
  ·have:=J3 bf a;omega
 have:=auN bf n;rw[b]at this;exact this.symm
theorem ZH(a b:Nat)(I:(aA bT a).length<=1000000)(J:(aA bT b).length<=1000000):aB prog 255 [eT a,eT b] (eT (a+b)):=by
 refine aJ nf (i_ func255) mix (by simp[f255]) ?_;have v:=cq bf a;have w:=cq bf b;have C:∀i,i<(aA bT a).length->bT^i<=a:=fun i h=>by
  rcases ik a (bT^i)with c|c
  ·have:=dN bf i a c;omega
  ·exact c
 have D:∀i,i<(aA bT b).length->bT^i<=b:=fun i h=>by
  rcases ik b (bT^i)with c|c
  ·have:=dN bf i b c;omega
  ·exact c
 have A:∀i,0<dh bT a b i->bT^i<=a+b:=fun i h=>by
  rw[dh]at h;have c:bT^i<=a% bT^i+b% bT^i:=by
   rcases ik (a% bT^i+b% bT^i) (bT^i)with d|d
   ·rw[i5 d]at h;omega
   ·exact d
  have:=md a (bT^i);have:=md b (bT^i);omega
 have f:=fun i=>DD a i;have g:=fun i=>DD b i;have B:∀i,(aA bT a).length<=i->(aA bT b).length<=i->dh bT a b i=0->a+b<bT^i:=fun i c d s=>by
  have g1:=h3 v (h2 (show 0<bT by decide) c);have g2:=h3 w (h2 (show 0<bT by decide) d);rw[dh,ii g1,ii g2]at s;rcases ik (a+b) (bT^i)with e|e
  ·exact e
  ·have:=j8 e (i1 (show 0<bT by decide));omega
 have E:∃M,M=max (aA bT a).length (aA bT b).length:=⟨_,rfl⟩
 obtain⟨M,H⟩:=E;simp only[eT]at f g⊢;have F:=fun i h d=>Y3 (n:=a+b) (i:=i) h d;generalize aA bT (a+b)=z at*;generalize aA bT a=x at*;generalize aA bT b=y at*;simp[f255];refine lp (α:=Nat) (fun i=>⟨[(7,.p (.int .i64 i)),(6,.p (.int .i64 (dh bT a b i:Nat))),(5,.sl 0 i 1 0 i),(1,.p (.seq (y.map fun x:Nat=>.int .i64 x))),(0,.p (.seq (x.map fun x:Nat=>.int .i64 x)))],[.arr .grow i 1 (eh i (a+b))]⟩)
  (fun i=>i<=M+1/\(i=0\/bT^(i-1)<=a+b)) (fun i=>M+1-i) 0 ⟨o_,.inl rfl⟩ ?_ (he:=by simp[ym,eh]) (hh:=by simp[eh])
 rintro i ⟨k1,k2⟩;have q:=b6 (i:=i) o_;have K:=mc bf a b i;obtain⟨g1,g2⟩:=qU bf a b i;have N:=cz bf a i;have O:=cz bf b i;have t:bT=1000000000:=rfl;have w1:ec.wrap ((ae bT a i:Int)+ae bT b i)=ae bT a i+ae bT b i:=aQ _ o_ o_;have r:ec.wrap ((ae bT a i:Int)+ae bT b i+dh bT a b i)=ae bT a i+ae bT b i+dh bT a b i:=aQ _ o_ o_;have l:((ae bT a i:Int)+ae bT b i+dh bT a b i).tmod 1000000000=(ae bT (a+b) i:Nat):=by
  rw[ee o_,<-g1,t];omega
 have m:((ae bT a i:Int)+ae bT b i+dh bT a b i).tdiv 1000000000=(dh bT a b (i+1):Nat):=by
  rw[ej o_,<-g2,t];omega
 have o:ec.wrap (dh bT a b (i+1):Nat)=(dh bT a b (i+1):Nat):=by have:=mc bf a b (i+1);exact aQ _ o_ o_
 have j:g0 i (eh i (a+b))=eh i (a+b):=gt (by rw[iL];exact ix _)
 by_cases hx:i<x.length
 ·simp[hx];refine c2 (f i) ?_;simp;refine c2 (g i) ?_;simp[w1,r,l,m,o,iL,j,<-q8];refine⟨by simp only[cV];omega,?_⟩;refine rd (i+1) ⟨o_,.inr (by rw[i9];exact h5 (C i hx) o_)⟩ o_ (he:=by simp[q])
 by_cases k:i<y.length
 ·simp[hx,k];refine c2 (f i) ?_;simp;refine c2 (g i) ?_;simp[w1,r,l,m,o,iL,j,<-q8];refine⟨by simp only[cV];omega,?_⟩;refine rd (i+1) ⟨o_,.inr (by rw[i9];exact h5 (D i k) o_)⟩ o_ (he:=by simp[q])
 by_cases hc:0<dh bT a b i
 ·have L:i=M:=by
   rcases ik M i with h|h
   ·have e0:=qU bf a b M;have c:ae bT a M=0:=jL (h3 v (h2 (by decide) o_));have d:ae bT b M=0:=jL (h3 w (h2 (by decide) o_));have s:=mc bf a b M;have e:i=M+1:=by omega
    subst e;rw[c,d]at e0;rw[<-e0.2,i5 o_]at hc;omega
   ·omega
  simp[hx,k,hc];refine c2 (f i) ?_;simp;refine c2 (g i) ?_;simp[w1,r,l,m,o,iL,j,<-q8];refine⟨by simp only[cV];omega,?_⟩;refine rd (i+1) ⟨o_,.inr (by rw[i9];exact A i hc)⟩ o_ (he:=by simp[q])
 ·have u:dh bT a b i=0:=by omega
  have G:=F i (B i o_ o_ u) k2;rw[<-G];simp[hx,k,u];refine⟨by rw[iL];exact ix _,?_⟩;rw[j,N3];simp
theorem NQ(a b:Nat)(v:b<=a)(D:(aA bT a).length<=1000000):aB prog 257 [eT a,eT b] (eT (a-b)):=by
 refine aJ nf (i_ func257) mix (by simp[f257]) ?_;have B:=cq bf a;have j:=fun i=>DD b i;have w:∀i(h:i<(aA bT a).length),(aA bT a)[i]?=some (ae bT a i):=fun i h=>by rw[gm h,eD bf h]
 have A:∀i(h:i<(aA bT a).length),(aA bT a)[i]=ae bT a i:=fun i h=>eD bf h;have C:et (row bT (aA bT a).length (a-b))=aA bT (a-b):=jM bf (h6 (lk a b) B);have e:=tV (row bT (aA bT a).length (a-b)) (by rw[M5];omega);rw[C]at e;simp only[eT]at j⊢;simp only[iP]at e;generalize aA bT (a-b)=z at*;generalize aA bT a=x at*;generalize aA bT b=y at*;simp[f257];refine lp (α:=Nat) (fun i=>⟨[(7,.p (.int .i64 i)),(6,.p (.int .i64 (fg bT a b i:Nat))),(5,.sl 0 i 1 0 i),(1,.p (.seq (y.map fun x:Nat=>.int .i64 x))),(0,.p (.seq (x.map fun x:Nat=>.int .i64 x)))],[.arr .grow i 1 (eh i (a-b))]⟩)
  (fun i=>i<=x.length) (fun i=>x.length-i) 0 s_ ?_ (he:=by simp[B4,eh]) (hh:=by simp[eh])
 intro i k1;have s:=b6 (i:=i) o_;have r:g0 i (eh i (a-b))=eh i (a-b):=gt (by rw[iL];exact ix _);have E:bT=1000000000:=rfl;have H:=cz bf a i;have I:=cz bf b i;have J:=cz bf (a-b) i;have K:fg bT a b i<=1:=by rw[fg];split<;>omega
 have w1:ec.wrap ((ae bT a i:Int)-ae bT b i)=ae bT a i-ae bT b i:=aQ _ o_ o_;have n:ec.wrap ((ae bT a i:Int)-ae bT b i-fg bT a b i)=ae bT a i-ae bT b i-fg bT a b i:=aQ _ o_ o_
 by_cases hx:i<x.length
 ·have o:=w i hx;have q:=A i hx;rcases Lo bf v i with⟨b1,g,u⟩|⟨b1,g,u⟩
  ·have m:(ae bT a i:Int)-ae bT b i-fg bT a b i<0:=by omega
   have f:ec.wrap ((ae bT a i:Int)-ae bT b i-fg bT a b i+1000000000)=(ae bT (a-b) i:Nat):=by rw[aQ _ o_ o_];omega
   simp[hx,o,q];refine e2 (j i) ?_;simp[w1,n,m,f,iL,r,<-q8];refine⟨by simp only[cV];omega,?_⟩;refine rd (i+1) hx (he:=by simp[s,g])
  ·have m:¬(ae bT a i:Int)-ae bT b i-fg bT a b i<0:=by omega
   have f:(ae bT a i:Int)-ae bT b i-fg bT a b i=(ae bT (a-b) i:Nat):=o_
   rw[f]at m n;simp[hx,o,q];refine e2 (j i) ?_;simp[w1,n,f,iL,r,<-q8];refine⟨by simp only[cV];omega,?_⟩;refine rd (i+1) hx (he:=by simp[s,g])
 ·have:i=x.length:=by omega
  subst this;have k:=N3 x.length (a-b);have d:(row bT x.length (a-b)).length=x.length:=M5;generalize row bT x.length (a-b)=l at e k d;have F:g0 x.length l=l:=gt o_;rcases l with _|⟨c,t⟩
  ·simp at d;simp[k];refine cp e (by simp[<-d];exact⟨rfl,rfl⟩) ?_;simp
  ·have G:g0 x.length (PV.int .i64 c::hJ (fun x:Nat=>PV.int .i64 x) t)=PV.int .i64 c::hJ (fun x:Nat=>PV.int .i64 x) t:=gt (by simp at d⊢;omega);simp at d;simp[k];refine cp e (by simp[<-d];exact⟨rfl,rfl⟩) ?_;simp
def dj(n:Nat)(f:Nat->Nat):List AV:=(gx n).map fun j=>.p (.int .i64 (f j:Nat))
theorem vH(n:Nat)(f:Nat->Nat):(dj n f).length=n:=by simp[dj]
theorem Lt(n:Nat):gy n (AV.p (.int .i64 0))=dj n fun _=>0:=by
 apply hp (by simp[dj]);intro i a b;simp[dj]
theorem tN{n j:Nat}(f:Nat->Nat)(h:j<n):(dj n f)[j]?=some (.p (.int .i64 (f j:Nat))):=by
 rw[dj,hl,hu h];rfl
theorem De{n i:Nat}(f g:Nat->Nat)(h:∀j,j<n->j≠i->g j=f j):(dj n f).set i (.p (.int .i64 (g i:Nat)))=dj n g:=by
 apply hp (by simp[dj]);intro j c b;rw[vH]at b;rw[hR];simp only[dj,hg,hb]
 by_cases a:i=j
 ·subst a;rw[if_pos rfl]
 ·rw[if_neg a,h j b (fun e=>a e.symm)]
@[simp] theorem aOE{N:Nat×Nat->Prop}{n:Nat}{f:Nat->Nat}:aV N (dj n f)=True:=by
 rw[cM,eq_iff_iff,iff_true];intro v a;simp only[dj,ht]at a;obtain⟨x,_,rfl⟩:=a;trivial
theorem zd{n:Nat}{f g:Nat->Nat}(h:∀j,j<n->f j=g j):dj n f=dj n g:=by
 rw[dj,dj];apply hK;intro j a;rw[h j (h0.1 a)]
theorem CK(n:Nat)(f:Nat->Nat):dj n f=((gx n).map f).map (AV.p∘fun x:Nat=>PV.int .i64 x):=by
 rw[dj,hG];rfl
theorem Wp{n:Nat}{f:Nat->Nat}(h:∀j,f j=0):gy n (AV.p (.int .i64 0))=dj n f:=by
 rw[Lt];exact zd fun j _=>(h j).symm
theorem Ec(a b:Nat)(w:(aA bT a).length+(aA bT b).length<=1000000):aB prog 258 [eT a,eT b] (eT (a*b)):=by
 refine aJ nf (i_ func258) mix (by simp[f258]) ?_;have Q:∀i(h:i<(aA bT a).length),(aA bT a)[i]=ae bT a i:=fun i h=>eD bf h;have R:∀i(h:i<(aA bT b).length),(aA bT b)[i]=ae bT b i:=fun i h=>eD bf h;have t:=cq bf a;have e:=cq bf b;have V:et ((gx ((aA bT a).length+(aA bT b).length)).map (ae bT (a*b)))=aA bT (a*b):=jM bf (by
  rw[jp];exact j3 t e)
 have c:=tV ((gx ((aA bT a).length+(aA bT b).length)).map (ae bT (a*b))) (by simp;omega);rw[V]at c;have A:bT=1000000000:=rfl;simp only[eT];simp only[iP]at c;generalize aA bT (a*b)=z at*;generalize aA bT a=x at*;generalize aA bT b=y at*;obtain⟨n,d⟩:∃n,x.length=n:=⟨_,rfl⟩
 obtain⟨m,g⟩:∃m,y.length=m:=⟨_,rfl⟩
 rw[d]at t c w;rw[g]at e c w;have B:=CK (n+m) (ae bT (a*b));have u:((gx (n+m)).map (ae bT (a*b))).length=n+m:=s_
 generalize (gx (n+m)).map (ae bT (a*b))=l at c B u;have U:((n:Int)+m).toNat=n+m:=o_
 have T:0<=(n:Int)+m:=o_
 have Z:ec.wrap ((n:Int)+m)=(n:Int)+m:=aQ _ o_ o_;simp[f258,d,g,Z,U,T];refine⟨by simp only[cV];omega,?_⟩;rw[Wp (f:=di bT a b 0 0) (by intro j;simp[pD,l4,ae])];refine lp (α:=Nat) (fun i=>⟨[(6,.p (.int .i64 i)),(5,.sl 0 0 1 0 (n+m)),(1,.p (.seq (y.map fun x:Nat=>.int .i64 x))),(0,.p (.seq (x.map fun x:Nat=>.int .i64 x)))],[.arr .exact 0 1 (dj (n+m) (di bT a b i 0))]⟩)
  (fun i=>i<=n) (fun i=>n-i) 0 s_ ?_ (he:=s_)
 intro i k1;have W:=b6 (i:=i) o_
 by_cases hi:i<n
 ·have r:i<x.length:=by rw[d];exact hi
  have hx:=Q i r;have ac:x[i]?=some (ae bT a i):=by rw[gm r,hx]
  simp[d,hi];refine lp (α:=Nat) (fun j=>⟨[(8,.p (.int .i64 j)),(7,.p (.int .i64 (mulC bT a b i j:Nat))),(6,.p (.int .i64 i)),(5,.sl 0 0 1 0 (n+m)),(1,.p (.seq (y.map fun x:Nat=>.int .i64 x))),(0,.p (.seq (x.map fun x:Nat=>.int .i64 x)))],[.arr .exact 0 1 (dj (n+m) (di bT a b i j))]⟩)
   (fun j=>j<=m) (fun j=>m-j) 0 s_ ?_ (he:=by simp[Cn])
  intro j k2;have Y:=b6 (i:=j) o_;have H:((i:Int)+j).toNat=i+j:=o_
  have G:0<=(i:Int)+j:=o_
  have X:ec.wrap ((i:Int)+j)=(i:Int)+j:=aQ _ o_ o_
  by_cases F:j<m
  ·have s:j<y.length:=by rw[g];exact F
   have I:=R j s;have ad:y[j]?=some (ae bT b j):=by rw[gm s,I]
   have E:i+j<n+m:=o_
   have q:=tN (di bT a b i j) E;have o:=C2 bf a b i j;have aj:=tQ bf a b i j;have v:=tQ bf a b i (j+1);have ak:di bT a b i j (i+j)<bT:=by rw[di];split<;>exact cz bf _ _
   have ao:=cz bf a i;have ap:=cz bf b j;have hs:=De (n:=n+m) (i:=i+j) (di bT a b i j) (di bT a b i (j+1)) (fun k _ hk=>Kp bf hk);rw[L7]at hs;rw[<-o.1]at hs;have an:ae bT a i*ae bT b j<=999999999*999999999:=kd o_ o_;rw[<-o.2]at v;have M:=o.2;clear o;have N:((ae bT a i:Int)*(ae bT b j:Int))=((ae bT a i*ae bT b j:Nat):Int):=by push_cast;rfl
   generalize ae bT a i*ae bT b j=P at*;generalize di bT a b i j (i+j)=O at*;generalize am:mulC bT a b i j=C at*;have w1:ec.wrap ((ae bT a i:Int)*(ae bT b j:Int))=P:=by rw[N];exact aQ _ o_ o_
   have ag:ec.wrap ((O:Int)+P)=O+P:=aQ _ o_ o_;have ah:ec.wrap ((O:Int)+P+C)=O+P+C:=aQ _ o_ o_;have J:((O:Int)+P+C).tmod 1000000000=((P+O+C)% bT:Nat):=by
    rw[ee o_,A];omega
   generalize (P+O+C)% bT=D at*;have K:((O:Int)+P+C).tdiv 1000000000=(mulC bT a b i (j+1):Nat):=by
    rw[ej o_,<-M,A];omega
   have L:ec.wrap ((mulC bT a b i (j+1):Nat):Int)=(mulC bT a b i (j+1):Nat):=aQ _ o_ o_;simp[d,g,F,X,H,G,E,q,hx,ac,I,ad,r,s,w1,ag,ah,J,K,L,hs,aa];exact rd (j+1) (show j+1<=m by omega) (he:=by simp[Y])
  have:j=m:=o_
  subst this;have ab:ec.wrap ((i:Int)+j)=(i:Int)+j:=aQ _ o_ o_;have al:i+j<n+j:=o_
  have af:di bT a b i j (i+j)=0:=by
   rw[di,if_neg o_];exact jL (vJ bf a i e)
  have q:=tN (di bT a b i j) al;rw[af]at q;have hs:=De (n:=n+j) (i:=i+j) (di bT a b i j) (di bT a b (i+1) 0) (fun k _ hk=>by rw[pD,L8 bf e hk]);rw[pD,<-Jc bf e]at hs;have v:=tQ bf a b i j;have ai:ec.wrap ((mulC bT a b i j:Nat):Int)=(mulC bT a b i j:Nat):=aQ _ o_ o_;simp[g,ab,H,G,hi,al,q,hs,ai,aa];exact rd (i+1) (show i+1<=n by omega) (he:=by simp[W])
 have:i=n:=o_
 subst this;have S:dj (i+m) (di bT a b i 0)=dj (i+m) (ae bT (a*b)):=zd fun k _=>by rw[pD,ii t]
 simp[d,S,B];refine cp c (by simp[u];exact⟨rfl,rfl⟩) ?_ (h1:=by simp[gt,u]);simp
theorem W2{a b i:Nat}(c:0<b):(a/bT^(i+1)% b*bT+ae bT a i)/b=ae bT (a/b) i/\(a/bT^(i+1)% b*bT+ae bT a i)% b=a/bT^i% b:=by
 have e:=s8 (B:=bT) a i;have g:=i0 (a/bT^(i+1)) b;have f:a/bT^i=(a/bT^(i+1)% b*bT+ae bT a i)+a/bT^(i+1)/b*bT*b:=by
  rw[e];generalize ae bT a i=d;generalize a/bT^(i+1)/b=Q at*;generalize a/bT^(i+1)% b=R at*;rw[<-g,i8,h4 b,kK Q b bT];omega
 have j:(a/bT^(i+1)% b*bT+ae bT a i)/b<bT:=by
  rw[ih c];have k:=cz bf a i;have h:=h8 bT (show a/bT^(i+1)% b+1<=b from i2 _ c);rw[i8,j1]at h;rw[h4 bT];omega
 constructor
 ·conv=>rhs;rw[ae,ip,h4 b,<-ip,f,Nat.add_mul_div_right _ _ c,ll,ii j]
 ·rw[f,ll]
theorem As(r x:Nat):(r:Int)*1000000000+x=((r*bT+x:Nat):Int):=by
 rw[fv,eo];rfl
def qT(Q i k:Nat):Nat:=if i<=k then ae bT Q k else 0
theorem D2{m Q i:Nat}:(dj m (qT Q (i+1))).set i (.p (.int .i64 (ae bT Q i:Nat)))=dj m (qT Q i):=by
 have:=De (n:=m) (i:=i) (qT Q (i+1)) (qT Q i) (fun k _ hk=>by
  rw[qT,qT]
  by_cases h:i<=k
  ·rw[if_pos h,if_pos o_]
  ·rw[if_neg h,if_neg o_])
 rw[<-this,qT,if_pos (ix _)]
theorem M8{m Q:Nat}:dj m (qT Q 0)=dj m (ae bT Q):=zd fun k _=>by rw[qT,if_pos (jF _)]
theorem M9{m Q:Nat}:gy m (AV.p (.int .i64 0))=dj m (qT Q m):=by
 rw[Lt];exact zd fun k hk=>by rw[qT,if_neg o_]
theorem NP{m N:Nat}(h:N<bT^m)(b:m<=1048576):∃l:List Nat,l.length=m/\dj m (ae bT N)=l.map (AV.p∘fun x:Nat=>PV.int .i64 x)/\aB prog 305 [.seq (iP l)] (eT N):=by
 refine⟨(gx m).map (ae bT N),s_,CK m _,?_⟩;have a:=tV ((gx m).map (ae bT N)) (by simp;omega);rw[show et ((gx m).map (ae bT N))=aA bT N from jM bf h]at a;exact a
theorem JI(a d:Nat)(u:0<d)(W:d<bT)(M:(aA bT a).length<=1000000):aB prog 304 [eT a,.int .i64 d] (.aE [eT (a/d),.int .i64 (a% d:Nat)]):=by
 refine aJ nf (i_ func304) mix (by simp[f304]) ?_;have K:∀i(h:i<(aA bT a).length),(aA bT a)[i]=ae bT a i:=fun i h=>eD bf h;have w:=cq bf a;obtain⟨l,o,y,g⟩:=NP (m:=(aA bT a).length) (N:=a/d) (h6 (j7 _ _) w) o_;have j:a/bT^(aA bT a).length% d=0:=by rw[i5 w,Nat.zero_mod]
 have A:a/bT^0% d=a% d:=by rw[i6,js]
 have V:bT=1000000000:=rfl;simp only[eT]at g⊢;simp only[iP]at g;generalize aA bT (a/d)=Z at*;generalize aA bT a=x at*;obtain⟨n,q⟩:∃n,x.length=n:=⟨_,rfl⟩
 rw[q]at o y j M;generalize Y:a% d=rem at*;obtain⟨f,hf⟩:∃f:Nat->Nat,∀i,a/bT^i% d=f i:=⟨_,fun _=>rfl⟩
 have z:=fun i=>W2 (a:=a) (b:=d) (i:=i) u;have v:∀i,f i<d:=fun i=>by rw[<-hf];exact i2 _ u
 simp only[hf]at j A z;have F:ec.wrap ((n:Int)-1)=n-1:=aQ _ o_ o_;simp[f304,q,F];refine⟨by simp only[cV];omega,?_⟩;rw[M9 (Q:=a/d)];refine lp (α:=Nat) (fun i=>⟨[(8,.p (.int .i64 ((i:Int)-1))),(7,.p (.int .i64 (f i:Nat))),(6,.sl 0 0 1 0 n),(1,.p (.int .i64 d)),(0,.p (.seq (x.map fun x:Nat=>.int .i64 x)))],[.arr .exact 0 1 (dj n (qT (a/d) i))]⟩)
  (fun i=>i<=n) (fun i=>i) n (ix _) ?_ (he:=by simp[j])
 intro i k1
 by_cases hi:0<i
 ·obtain⟨k,rfl⟩:∃k,i=k+1:=⟨i-1,o_⟩
  have G:ec.wrap ((k:Int)-1)=k-1:=aQ _ o_ o_;have r:k<x.length:=o_
  have hx:=K k r;have O:x[k]?=some (ae bT a k):=by rw[gm r,hx]
  obtain⟨P,R⟩:=z k;have aN:=D2 (m:=n) (Q:=a/d) (i:=k);have gk:=tN (qT (a/d) (k+1)) (show k<n by omega);have L:k<n:=o_
  have T:=v (k+1);have X:=cz bf a k;have hq:=cz bf (a/d) k;have U:=v k;generalize f (k+1)=c at*;generalize H:f k=B at*;generalize ae bT a k=e at*;generalize ae bT (a/d) k=s at*;have w1:ec.wrap ((c:Int)*1000000000)=c*1000000000:=aQ _ o_ o_;have S:ec.wrap ((c:Int)*1000000000+e)=c*1000000000+e:=aQ _ o_ o_;have t:(c:Int)*1000000000+e=((c*bT+e:Nat):Int):=As c e;have C:((c:Int)*1000000000+e).tdiv d=s:=by
   rw[t,ej (ei _),<-eq,P]
  have D:((c:Int)*1000000000+e).tmod d=B:=by
   rw[t,ee (ei _),<-en,R]
  have E:ec.wrap (s:Int)=s:=aQ _ o_ o_;have I:¬(d:Int)=0:=o_
  have J:¬d=0:=o_
  simp[q,G,hx,O,L,r,w1,S,C,D,E,I,J,gk,aN,aa];exact rd k (show k<=n by omega) (he:=by simp[H])
 ·obtain rfl:i=0:=by omega
  simp[M8,y,A];refine cp g (by simp[o];exact⟨rfl,rfl⟩) ?_ (h1:=by simp[gt,o]);simp
def lg(a b c:Nat):Nat->Nat->Nat
 |0,_=>0
 |t+1,r=>if bT<=t+1\/r*bT+c<(t+1)*b then(if bT<=r+a then t else lg a b c t (r+a))else t+1
theorem ayI{a b c t r:Nat}(h:0<t):lg a b c t r=if bT<=t\/r*bT+c<t*b then(if bT<=r+a then t-1 else lg a b c (t-1) (r+a))else t:=by
 cases t with
 |zero=>exact absurd h (Nat.lt_irrefl 0)
 |succ t=>rw[lg,i9]
theorem Kn{a b:Nat}(c:a<bT)(d:b<bT):ec.wrap ((a:Int)*b)=(a:Int)*b:=by
 have e:a*b<=999999999*999999999:=kd (by simp only[bT]at c;omega) (by simp only[bT]at d;omega);rw[<-eo];generalize a*b=P at*;exact aQ _ o_ o_
theorem RP{a b r w:Nat}:(r:Int)*1000000000+w<(a:Int)*b↔r*bT+w<a*b:=by
 rw[As,<-eo];exact Int.ofNat_lt
theorem AH{r v:Nat}:(1000000000:Int)<=(r:Int)+v↔bT<=r+v:=by simp only[bT];omega
theorem Qw{t:Nat}:(1000000000:Int)<=(t:Int)↔bT<=t:=by simp only[bT];omega
theorem aIn{t:Nat}(h:0<t)(a:t<=bT+1):ec.wrap ((t:Int)-1)=((t-1:Nat):Int):=by
 simp only[bT]at a;rw[aQ _ o_ o_];omega
theorem Pn{a v2 w0 w1 w2 Q:Nat}(u:bT<=2*a)(v:a<bT)(m:w0<=a)(w:w1<bT)(s:Q<bT)
 (d:∀q r,q*a+r=w0*bT+w1->q<bT->q*v2<=r*bT+w2->q<=Q+1)(k:∀q r,q*a+r=w0*bT+w1->r*bT+w2<q*v2->Q<q)
 (l:∀q r,bT<=r->q<bT->q*v2<=r*bT+w2):∀t r,t*a+r=w0*bT+w1->Q<=t->r<bT->t<=bT+1->Q<=lg a v2 w2 t r/\lg a v2 w2 t r<=Q+1/\lg a v2 w2 t r<bT
 |0,r,b,c,n,o=>by
  rw[lg];exact⟨c,o_,o_⟩
 |t+1,r,b,c,n,o=>by
  rw[lg]
  by_cases hc:bT<=t+1\/r*bT+w2<(t+1)*v2
  ·rw[if_pos hc];have hq:Q<=t:=by
    rcases hc with h|h
    ·omega
    ·have:=k _ _ b h;omega
   have i:t*a+(r+a)=w0*bT+w1:=by rw[i8,j1]at b;omega
   by_cases f:bT<=r+a
   ·rw[if_pos f];have g:t<bT:=by
     rcases ik t bT with h|h
     ·exact h
     ·have e:t=bT:=by omega
      subst e;have:=h8 bT m;rw[h4 a]at this;omega
    exact⟨hq,d _ _ i g (l _ _ f g),g⟩
   ·rw[if_neg f];exact Pn u v m w s d k l t (r+a) i hq o_ o_
  ·rw[if_neg hc];have j:t+1<bT:=by
    rcases ik (t+1) bT with h|h
    ·exact h
    ·exact(hc (.inl h)).elim
   have p:(t+1)*v2<=r*bT+w2:=by
    rcases ik (r*bT+w2) ((t+1)*v2)with h|h
    ·exact(hc (.inr h)).elim
    ·exact h
   exact⟨c,d _ _ b j p,j⟩
theorem ayc(W V N j n:Nat)(k:AK)(aC:Nat)(f:Nat->Nat)(an:2<=n)(ay:(aA bT V).length=n)(aO:bT<=2*ae bT V (n-1))(az:W<V*bT)(a9:N<=1000000)(aS:j+n<N)
 (hf:∀i,i<=n->f (j+i)=ae bT W i):∃t,W/V<=t/\t<=W/V+1/\t<bT/\
 cC prog 306 [.arr k aC 1 (dj N f)] [.sl 0 aC 1 0 N,.p (eT V),.p (.int .i64 j)] [.arr k aC 1 (dj N f)] (.p (.int .i64 t)):=by
 have aP:bT=1000000000:=rfl;have B:V<bT^n:=by rw[<-ay];exact cq bf V
 have P:bT^(n-1)<=V:=by
  rcases ik V (bT^(n-1))with h|h
  ·have:=dN bf (n-1) V h;omega
  ·exact h
 obtain⟨am,aR⟩:=Dn bf (show 1<=n by omega) B az;have aq:W/bT^n=ae bT W n:=by
  rw[ae,ii];have:=cz bf V (n-1);omega
 have s:W/bT^(n-1)=ae bT W n*bT+ae bT W (n-1):=by
  rw[s8,show n-1+1=n by omega,aq]
 have D:=NC bf an P B (W:=W);have X:=fun q r=>Ez bf an P B (W:=W) (q:=q) (r:=r);have U:=fun q r=>Pm bf an P B (W:=W) (q:=q) (r:=r);have aF:=fun q r=>NA bf (V:=V) (W:=W) (n:=n) (q:=q) (r:=r);rw[s]at D X U;have q1:=cz bf W n;have a3:=cz bf W (n-1);have bk:=cz bf W (n-2);have q4:=cz bf V (n-1);have a4:=cz bf V (n-2);have ax:=hf n (ix _);have f2:=hf (n-1) o_;have f3:=hf (n-2) o_;rw[aq]at am;have C:(aA bT V)[n-1]?=some (ae bT V (n-1)):=by rw[gm o_,eD bf o_]
 have S:(aA bT V)[n-2]?=some (ae bT V (n-2)):=by rw[gm o_,eD bf o_]
 have aD:∀h:n-1<(aA bT V).length,(aA bT V)[n-1]=ae bT V (n-1):=fun h=>eD bf h;have aE:∀h:n-2<(aA bT V).length,(aA bT V)[n-2]=ae bT V (n-2):=fun h=>eD bf h;simp only[eT];generalize aA bT V=y at*;generalize ba:W/V=Q at*;generalize be:ae bT W n=w0 at*;generalize bg:ae bT W (n-1)=w1 at*;generalize bh:ae bT W (n-2)=e at*;generalize bc:ae bT V (n-1)=a at*;generalize bd:ae bT V (n-2)=v2 at*;clear s aq B P az hf;have g1:=tN f (show j+n<N by omega);have g2:=tN f (show j+(n-1)<N by omega);have g3:=tN f (show j+(n-2)<N by omega);rw[ax]at g1;rw[f2]at g2;rw[f3]at g3;have E:=vH N f;have ar:∀av:Nat×Nat->Prop,aV av (dj N f):=fun av=>by simp
 generalize dj N f=u at*;obtain⟨c,l⟩:∃c,c=w0*bT+w1:=⟨_,rfl⟩
 obtain⟨b,ab⟩:∃b,b=c/a:=⟨_,rfl⟩
 obtain⟨d,Y⟩:∃d,d=c% a:=⟨_,rfl⟩
 have aT:0<a:=o_
 have aG:b*a+d=c:=by rw[ab,Y,h4];exact i0 _ _
 have ao:d<bT:=i4 (by rw[Y];exact i2 _ aT) q4;have ap:b<=bT+1:=by
  have aM:=h8 bT am;rw[h4 a]at aM;rcases ik (bT+1) b with h|h
  ·have aN:=h8 a (show bT+2<=b from h);rw[i8]at aN;omega
  ·exact h
 rw[<-l]at D X U;rw[<-ab]at D;have R:=Pn (v2:=v2) (w2:=e) aO q4 am a3 aR (by rw[<-l];exact X) (by rw[<-l];exact U) aF b d (by rw[<-l];exact aG) D ao ap;refine⟨lg a v2 e b d,R.1,R.2.1,R.2.2,?_⟩;obtain⟨T,s⟩:∃T,T=lg a v2 e b d:=⟨_,rfl⟩
 rw[<-s];clear R D X U aF;have m:y.length=n:=ay;have bl:ec.wrap ((j:Int)+n)=(j+n:Nat):=by rw[aQ _ o_ o_];omega
 have K:ec.wrap ((j:Int)+n)=(j:Int)+n:=aQ _ o_ o_;have a7:ec.wrap ((j:Int)+n-1)=(j:Int)+n-1:=aQ _ o_ o_;have z:ec.wrap ((n:Int)-1)=(n:Int)-1:=aQ _ o_ o_;have ai:ec.wrap ((n:Int)-2)=(n:Int)-2:=aQ _ o_ o_;have aj:ec.wrap ((j:Int)+n-2)=(j:Int)+n-2:=aQ _ o_ o_;have a5:((j:Int)+n).toNat=j+n:=o_
 have a6:((j:Int)+n-1).toNat=j+(n-1):=o_
 have w:((n:Int)-1).toNat=n-1:=o_
 have ah:((n:Int)-2).toNat=n-2:=o_
 have te:((j:Int)+n-2).toNat=j+(n-2):=o_
 have wf:ec.wrap ((w0:Int)*1000000000)=(w0:Int)*1000000000:=aQ _ o_ o_;have aB:(w0:Int)*1000000000+w1=(c:Nat):=by rw[l];exact As w0 w1
 have bb:c<1000000000000000000:=by rw[l,aP];omega
 have aI:ec.wrap ((w0:Int)*1000000000+w1)=(c:Nat):=by rw[aB];exact aQ _ o_ o_
 have aw:((c:Nat):Int).tdiv a=b:=by rw[ej (ei _),<-eq,<-ab]
 have dr:((c:Nat):Int).tmod a=d:=by rw[ee (ei _),<-en,<-Y]
 have aU:¬(a:Int)=0:=o_
 have aW:¬a=0:=o_
 have aJ:ec.wrap (b:Int)=b:=aQ _ o_ o_;have v:n-1<y.length:=o_
 have H:n-2<y.length:=o_
 have F:=aD v;have ac:=aE H;have aH:j+n<u.length:=o_
 have aX:j+(n-1)<u.length:=o_
 have G:j+(n-2)<u.length:=o_
 have aY:j+(n-1)<N:=o_
 have ad:j+(n-2)<N:=o_
 have aK:u[j+n]=.p (.int .i64 w0):=by rw[gm aH]at g1;exact mo g1
 have aL:u[j+(n-1)]=.p (.int .i64 w1):=by rw[gm aX]at g2;exact mo g2
 have O:u[j+(n-2)]=.p (.int .i64 e):=by rw[gm G]at g3;exact mo g3
 have J:¬u=[]:=by rintro rfl;simp at aH
 have aZ:0<=(j:Int)+n:=o_
 have a0:0<=(j:Int)+n-1:=o_
 have bi:0<=(j:Int)+n-2:=o_
 have a2:0<=(n:Int)-1:=o_
 have bj:0<=(n:Int)-2:=o_
 have a1:1<=(j:Int)+n:=o_
 have af:2<=(j:Int)+n:=o_
 have I:1<=(n:Int):=o_
 have ag:2<=(n:Int):=o_
 refine fk nf (i_ func306) mix (by simp[f306]) ?_;simp[f306,m,K,a7,z,a5,a6,w,g1,g2,C,F,wf,aI,aw,dr,aU,aW,aJ,E,aS,v,aK,aL,J,aZ,a0,a2,a1,I,aY,aa];refine lp (α:=Nat×Nat) (fun x=>⟨[(10,.p (.int .i64 x.2)),(9,.p (.int .i64 x.1)),(7,.p (.int .i64 n)),(2,.p (.int .i64 j)),(1,.p (.seq (y.map fun x:Nat=>.int .i64 x))),(0,.sl 0 aC 1 0 N)],[.arr k aC 1 u]⟩)
  (fun x=>T=lg a v2 e x.1 x.2/\x.2<bT/\x.1<=bT+1) (fun x=>x.1) (b,d) ⟨s,ao,ap⟩ ?_ (hr2:=by simp[ar])
 clear l aG ab Y aB aI aw dr s wf ao ap aJ aD aE ax f2 f3;rintro⟨t,r⟩ ⟨k1,k2,k3⟩;dsimp only at k1 k2 k3;have ak:ec.wrap ((r:Int)*1000000000)=(r:Int)*1000000000:=aQ _ o_ o_;have al:ec.wrap ((r:Int)*1000000000+e)=(r:Int)*1000000000+e:=aQ _ o_ o_;have L:ec.wrap ((r:Int)+a)=(r:Int)+a:=aQ _ o_ o_;rcases l0 t with A|A
 ·subst A;rw[lg]at k1;have c1:¬(r:Int)*1000000000+e<0:=by rw[As];exact Int.not_lt.2 (ei _)
  have a8:ec.wrap 0=0:=rfl;simp[m,a8,ai,ah,ak,al,L,aj,te,S,ac,H,g3,O,G,ad,E,J,af,ag,K,c1,k1,aa]
 rw[ayI A]at k1;have Z:=aIn A k3;have k4:∀x,x<=bT+1->x-1<=bT+1:=fun x h=>h5 (lk _ _) h;have k5:t-1<t:=Nat.sub_lt A (by decide)
 by_cases c0:bT<=t
 ·have o:=Qw.2 c0;rw[if_pos (.inl c0)]at k1
  by_cases c2:bT<=r+a
  ·have g:=AH.2 c2;rw[if_pos c2]at k1;simp[o,Z,m,z,w,C,F,v,I,L,g,k1]
  ·have g:=mt AH.1 c2;rw[if_neg c2]at k1;simp[o,Z,m,z,w,C,F,v,I,L,g];exact rd (t-1,r+a) ⟨k1,la c2,k4 _ k3⟩ k5 (he:=s_) (hr2:=by simp[ar])
 have o:=mt Qw.1 c0;have au:=Kn (la c0) a4
 by_cases c1:r*bT+e<t*v2
 ·have M:=RP.2 c1;rw[if_pos (.inr c1)]at k1
  by_cases c2:bT<=r+a
  ·have g:=AH.2 c2;rw[if_pos c2]at k1;simp[o,Z,m,z,w,C,F,v,I,L,g,k1,ai,ah,ak,al,au,aj,te,S,ac,H,g3,O,G,ad,E,J,af,ag,K,M,aa]
   done
  ·have g:=mt AH.1 c2;rw[if_neg c2]at k1;simp[o,Z,m,z,w,C,F,v,I,L,g,ai,ah,ak,al,au,aj,te,S,ac,H,g3,O,G,ad,E,J,af,ag,K,M,aa];exact rd (t-1,r+a) ⟨k1,la c2,k4 _ k3⟩ k5 (he:=s_) (hr2:=by simp[ar])
 ·have M:=mt RP.1 c1;rw[if_neg (fun h=>h.elim c0 c1)]at k1;simp[o,m,z,w,ai,ah,ak,al,au,aj,te,S,ac,H,g3,O,G,ad,E,J,af,ag,K,M,k1,aa]
theorem X5{b k f d:Nat}(n:b<bT^(k+1))(h:d=b/bT^k)(p:0<d)(hf:f=bT/(d+1)):0<f/\f<bT/\b*f<bT^(k+1)/\bT^k<=b*f/\bT<=2*ae bT (b*f) k:=by
 have e:0<bT^k:=i1 (by decide);have s:d<bT:=by
  rw[h,ih e,h4,<-h9];exact n
 have r:bT=1000000000:=rfl;have g:=kb bT (d+1);have j:=Nat.lt_div_mul_add (a:=bT) (show 0<d+1 by omega);rw[<-hf]at g j;have i:0<f:=by rw[hf];exact j8 o_ o_
 have q:f<bT:=by
  rw[hf];exact li (by decide) o_
 have o:b<(d+1)*bT^k:=by
  rw[<-ih e,<-h];omega
 have l:d*bT^k<=b:=by rw[h];exact kb _ _
 have m:b*f<bT^(k+1):=by
  rw[h9];have e1:b*f<(d+1)*bT^k*f:=kc o i;have e2:(d+1)*bT^k*f=f*(d+1)*bT^k:=by rw[h4,<-i3]
  have e3:=h8 (bT^k) g;rw[h4 (bT^k) bT];omega
 refine⟨i,q,m,?_,?_⟩
 ·have e1:1*bT^k<=d*bT^k:=h8 _ p;rw[j1]at e1;exact h5 (h5 e1 l) (kp _ i)
 ·have e1:b*f/bT^k=ae bT (b*f) k:=by
   rw[ae,ii];rw[ih e,h4 bT,<-h9];exact m
  have e2:d*f<=b*f/bT^k:=by
   rw[lu e,kK];exact h8 _ l
  rw[e1]at e2;have e3:d+f<=d*f+1:=by
   obtain⟨d',rfl⟩:∃d',d=d'+1:=⟨d-1,o_⟩
   obtain⟨c,rfl⟩:∃c,f=c+1:=⟨f-1,o_⟩
   have:(d'+1)*(c+1)=d'*c+d'+c+1:=by rw[i8,j2,j1,lb];omega
   omega
  have e4:f*(d+1)=d*f+f:=by rw[j2,lb,h4]
  rw[e4]at g j;generalize d*f=P at*;generalize ae bT (b*f) k=Z at*;omega
def gG(V R t i:Nat):Nat:=(t*(V% bT^i)+R% bT^i)/bT^i
theorem YX{V R t:Nat}:gG V R t 0=0:=by simp[gG,l4]
theorem LH{W V R t n i:Nat}(h:R+t*V=W+bT^(n+1))(hi:i<=n):ae bT R i+t*ae bT V i+gG V R t i=ae bT W i+gG V R t (i+1)*bT:=by
 have j:0<bT^i:=i1 (by decide);have k:0<bT^(i+1):=i1 (by decide);have b:(t*(V% bT^(i+1))+R% bT^(i+1))% bT^(i+1)=W% bT^(i+1):=by
  have e1:(t*V+R)% bT^(i+1)=(t*(V% bT^(i+1))+R% bT^(i+1))% bT^(i+1):=by
   have a1:=i0 V (bT^(i+1));have d:=i0 R (bT^(i+1));have e:t*V+R=t*(V% bT^(i+1))+R% bT^(i+1)+bT^(i+1)*(t*(V/bT^(i+1))+R/bT^(i+1)):=by
    have f:t*V=t*(V% bT^(i+1))+bT^(i+1)*(t*(V/bT^(i+1))):=by
     conv=>lhs;rw[<-a1]
     rw[j2,<-i3,h4 t (bT^(i+1)),i3];omega
    rw[f,j2]
    conv=>lhs;rw[<-d]
    omega
   rw[e,kk]
  rw[<-e1,j4 (t*V),h];have:bT^(i+1)∣bT^(n+1):=lc _ o_;obtain⟨c,hc⟩:=this;rw[hc,kk]
 have e2:=i0 (t*(V% bT^(i+1))+R% bT^(i+1)) (bT^(i+1));have e3:=i0 (t*(V% bT^i)+R% bT^i) (bT^i);rw[b]at e2;rw[show(t*(V% bT^(i+1))+R% bT^(i+1))/bT^(i+1)=gG V R t (i+1)from rfl]at e2;rw[show(t*(V% bT^i)+R% bT^i)/bT^i=gG V R t i from rfl]at e3;have g:(t*(V% bT^i)+R% bT^i)% bT^i=W% bT^i:=by
  have:=congrArg (·% bT^i) b
  have a:bT^i∣bT^(i+1):=lc _ o_;rw[kN _ a,kN _ a]at this;rw[<-this,mod_pow_succ,mod_pow_succ];rw[j2];have:t*(V% bT^i)+t*(bT^i*ae bT V i)+(R% bT^i+bT^i*ae bT R i)=t*(V% bT^i)+R% bT^i+bT^i*(t*ae bT V i+ae bT R i):=by
   rw[j2,<-i3 t,h4 t (bT^i),i3];omega
  rw[this,kk]
 rw[g]at e3;rw[mod_pow_succ,mod_pow_succ,mod_pow_succ,h9]at e2;have e4:bT^i*(ae bT R i+t*ae bT V i+gG V R t i)=bT^i*(ae bT W i+gG V R t (i+1)*bT):=by
  have a1:t*(V% bT^i+bT^i*ae bT V i)=t*(V% bT^i)+bT^i*(t*ae bT V i):=by
   rw[j2,<-i3 t,h4 t (bT^i),i3]
  rw[a1]at e2;rw[j2,j2,j2];rw[i3 (bT^i),h4 bT]at e2;generalize bT^i*ae bT R i=l at*;generalize bT^i*(t*ae bT V i)=m at*;generalize bT^i*gG V R t i=o at*;generalize bT^i*ae bT W i=p at*;generalize bT^i*(gG V R t (i+1)*bT)=q at*;generalize t*(V% bT^i)=r at*;omega
 exact Nat.eq_of_mul_eq_mul_left j e4
theorem YW{r p w b':Nat}(h:r+p=w+b'*bT)(j:r<bT)(k:w<bT):(w<p% bT/\r+p% bT=w+bT/\b'=p/bT+1)\/(p% bT<=w/\r+p% bT=w/\b'=p/bT):=by
 have e:=i0 p bT;have i:=i2 p (show 0<bT by decide);generalize p/bT=q at*;generalize p% bT=m at*;have b:r+m+bT*q=w+b'*bT:=o_
 rw[h4 bT]at b;rcases Nat.lt_trichotomy b' q with a|a|a
 ·have:=h8 bT (show b'+1<=q from a);rw[i8,j1]at this;omega
 ·subst a;right;omega
 ·have d:=h8 bT (show q+1<=b' from a);rw[i8,j1]at d;have f:b'=q+1:=by
   rcases ik (q+1) b' with c|c
   ·have g:=h8 bT (show q+2<=b' from c);rw[i8]at g;omega
   ·omega
  subst f;rw[i8,j1]at b;left;omega
theorem Zq{W V t n:Nat}(y:0<V)(j:V<bT^n)(l:W<bT^(n+1))(C:W/V<=t)(D:t<=W/V+1):
 ∃R,R+t*V=W+bT^(n+1)/\
 ((t=W/V/\gG V R t n=ae bT W n/\∀i,i<=n->ae bT R i=ae bT (W% V) i)\/
  (t=W/V+1/\gG V R t n=ae bT W n+1/\dh bT R V n=1/\∀i,i<=n->ae bT (R+V) i=ae bT (W% V) i)):=by
 have H:0<bT^n:=i1 (by decide);have B:0<bT^(n+1):=i1 (by decide);have k:V<bT^(n+1):=h3 j (h2 (by decide) o_);have z:=i0 W V;have o:=i2 W y;have d:bT^(n+1)=bT^n*bT:=h9 _ _;have F:bT=1000000000:=rfl;have A:W% V<bT^n:=i4 o j;have s:ae bT (W% V) n=0:=jL A;have q:ae bT V n=0:=jL j;have m:∀R,R+t*V=W+bT^(n+1)->ae bT R n+gG V R t n=ae bT W n+gG V R t (n+1)*bT:=fun R v=>by
  have:=LH v (ix n);rw[q,l1,Nat.add_zero]at this;exact this
 rcases ik t (W/V+1)with u|u
 ·have b:t=W/V:=by omega
  have r:t*V+W% V=W:=by rw[b,h4];exact z
  refine⟨W% V+bT^(n+1),o_,.inl ⟨b,?_,fun i hi=>?_⟩⟩
  ·have e:=m (W% V+bT^(n+1)) o_;have f:gG V (W% V+bT^(n+1)) t (n+1)=0:=by
    rw[gG,ii k,Nat.add_mod_right,ii (i4 o k),r,i5 l]
   have a:ae bT (W% V+bT^(n+1)) n=0:=by
    rw[<-s];exact vF o_
   rw[f,a]at e;omega
  ·exact vF o_
 ·have b:t=W/V+1:=by omega
  have r:t*V+W% V=W+V:=by rw[b,i8,j1,h4];omega
  have G:V<=bT^(n+1)+W% V:=o_
  refine⟨bT^(n+1)+W% V-V,o_,.inr ⟨b,?_,?_⟩⟩
  ·have e:=m (bT^(n+1)+W% V-V) o_;have w:bT^(n+1)+W% V-V<bT^(n+1):=by omega
   have f:gG V (bT^(n+1)+W% V-V) t (n+1)=1:=by
    rw[gG,ii k,ii w];have:t*V+(bT^(n+1)+W% V-V)=W+bT^(n+1):=o_
    rw[this,Nat.add_div_right _ B,i5 l]
   have a:ae bT (bT^(n+1)+W% V-V) n=bT-1:=by
    have g:(bT^(n+1)+W% V-V)/bT^n=bT-1:=by
     refine lw ?_ ?_
     ·rw[l2,j1,h4 bT,<-d];omega
     ·rw[show bT-1+1=bT by decide,h4 bT,<-d];omega
    rw[ae,g];decide
   rw[f,a]at e;omega
  ·have x:bT^(n+1)+W% V-V+V=W% V+bT^(n+1):=by omega
   have p:∀i,i<=n->ae bT (bT^(n+1)+W% V-V+V) i=ae bT (W% V) i:=fun i hi=>by
    rw[x];exact vF o_
   refine⟨?_,p⟩;have h:=(qU bf (bT^(n+1)+W% V-V) V n).1;have E:=mc bf (bT^(n+1)+W% V-V) V n;rw[p n (ix _),s,q]at h;have a:ae bT (bT^(n+1)+W% V-V) n=bT-1:=by
    have g:(bT^(n+1)+W% V-V)/bT^n=bT-1:=by
     refine lw ?_ ?_
     ·rw[l2,j1,h4 bT,<-d];omega
     ·rw[show bT-1+1=bT by decide,h4 bT,<-d];omega
    rw[ae,g];decide
   rw[a]at h;generalize dh bT (bT^(n+1)+W% V-V) V n=c at*;rcases ik 0 c with hc|hc
   ·omega
   ·have:c=0:=by omega
    subst this;simp only[bT]at h;omega
theorem Zp{V R t i:Nat}:gG V R t i<=t:=by
 have a:0<bT^i:=i1 (by decide);have b:=i2 V a;have c:=i2 R a;rw[gG];refine Nat.le_of_lt_succ ?_;rw[ih a];have d:=kF t (lq b);rw[Nat.succ_mul];omega
theorem aIo{t v a w r b':Nat}(h:r+(t*v+a)=w+b'*bT)(f:r<bT)(g:w<bT)(b:t<bT)(c:v<bT)(i:a<=t):
 ∃(p q m:Nat),ec.wrap ((t:Int)*v)=(t:Int)*v/\ec.wrap ((t:Int)*v+a)=p/\(p:Int).tmod 1000000000=m/\(p:Int).tdiv 1000000000=q/\q<bT/\m<bT/\
 (((w:Int)-m<0/\(w:Int)-m+1000000000=r/\b'=q+1)\/(¬(w:Int)-m<0/\(w:Int)-m=r/\b'=q)):=by
 have d:t*v<=999999999*999999999:=kd (by simp only[bT]at b;omega) (by simp only[bT]at c;omega);have j:=YW h f g;have e:=i2 (t*v+a) (show 0<bT by decide);have hq:(t*v+a)/bT<bT:=by
  rw[ih (by decide)];simp only[bT]at b⊢;omega
 refine⟨t*v+a,(t*v+a)/bT,(t*v+a)% bT,Kn b c,?_,?_,?_,hq,e,?_⟩
 ·rw[<-eo,<-fv];generalize t*v=P at*;simp only[bT]at b;exact aQ _ o_ o_
 ·rw[ee (ei _),en];rfl
 ·rw[ej (ei _),eq];rfl
 ·generalize (t*v+a)/bT=q at*;generalize (t*v+a)% bT=m at*;clear h d;simp only[bT]at*;omega
def cQ(n:Nat)(f:Nat->Int):List AV:=(gx n).map fun j=>.p (.int .i64 (f j))
theorem me(n:Nat)(f:Nat->Int):(cQ n f).length=n:=by simp[cQ]
theorem RF(n:Nat)(f:Nat->Nat):dj n f=cQ n (fun k=>(f k:Nat)):=rfl
theorem aHO{n j:Nat}(f:Nat->Int)(h:j<n):(cQ n f)[j]?=some (.p (.int .i64 (f j))):=by
 rw[cQ,hl,hu h];rfl
theorem vO{n i:Nat}{v:Int}(f g:Nat->Int)(c:g i=v)(h:∀j,j<n->j≠i->g j=f j):(cQ n f).set i (.p (.int .i64 v))=cQ n g:=by
 apply hp (by simp[cQ]);intro j d b;rw[me]at b;rw[hR];simp only[cQ,hg,hb]
 by_cases a:i=j
 ·subst a;rw[if_pos rfl,c]
 ·rw[if_neg a,h j b (fun e=>a e.symm)]
@[simp] theorem aOI{N:Nat×Nat->Prop}{n:Nat}{f:Nat->Int}:aV N (cQ n f)=True:=by
 rw[cM,eq_iff_iff,iff_true];intro v a;simp only[cQ,ht]at a;obtain⟨x,_,rfl⟩:=a;trivial
theorem MA{n:Nat}{f g:Nat->Int}(h:∀j,j<n->f j=g j):cQ n f=cQ n g:=by
 rw[cQ,cQ];apply hK;intro j a;rw[h j (h0.1 a)]
def gq(X R j i k:Nat):Int:=if j<=k/\k<j+i then(ae bT R (k-j):Nat)else(ae bT X k:Nat)
theorem win_zero{X R j k:Nat}:gq X R j 0 k=(ae bT X k:Nat):=by rw[gq,if_neg o_]
theorem DS{X R j i:Nat}:gq X R j i (j+i)=(ae bT X (j+i):Nat):=by rw[gq,if_neg o_]
theorem aLM{X R j i:Nat}:gq X R j (i+1) (j+i)=(ae bT R i:Nat):=by
 rw[gq,if_pos o_,kw]
theorem aLN{X R j i k:Nat}(h:k≠j+i):gq X R j (i+1) k=gq X R j i k:=by
 rw[gq,gq]
 by_cases a:j<=k/\k<j+i
 ·rw[if_pos a,if_pos o_]
 ·rw[if_neg a,if_neg o_]
def gW(X R S j n i k:Nat):Int:=if k=j+n then -1 else if j<=k/\k<j+i then(ae bT S (k-j):Nat)else gq X R j n k
theorem aLJ{X R S j n i:Nat}(h:i<n):gW X R S j n i (j+i)=(ae bT R i:Nat):=by
 rw[gW,if_neg o_,if_neg o_,gq,if_pos o_,kw]
theorem aLK{X R S j n i:Nat}(h:i<n):gW X R S j n (i+1) (j+i)=(ae bT S i:Nat):=by
 rw[gW,if_neg o_,if_pos o_,kw]
theorem aLL{X R S j n i k:Nat}(h:k≠j+i):gW X R S j n (i+1) k=gW X R S j n i k:=by
 rw[gW,gW]
 by_cases a:k=j+n
 ·rw[if_pos a,if_pos a]
 ·rw[if_neg a,if_neg a]
  by_cases b:j<=k/\k<j+i
  ·rw[if_pos b,if_pos o_]
  ·rw[if_neg b,if_neg o_]
theorem Yx{X V j n N:Nat}(d:0<V)(c:V<bT^n)(e:X<V*bT^(j+1)){g:Nat->Int}(h:∀k,k<N->g k=if k=j+n then 0 else if j<=k/\k<j+n then(ae bT (X/bT^j% V) (k-j):Nat)else(ae bT X k:Nat)):
 cQ N g=cQ N fun k=>(ae bT (X% (V*bT^j)) k:Nat):=by
 refine MA fun k hk=>?_;rw[h k hk,(yv (B:=bT) (R:=X) (V:=V) (j:=j)).1,Kr bf];have i:=i2 (X/bT^j) d;have f:X<bT^(n+(j+1)):=by
  rw[jp];exact i4 e (kc c (i1 (by decide)))
 by_cases a:k<j
 ·rw[if_pos a,if_neg o_,if_neg o_]
 ·rw[if_neg a]
  by_cases m:k<j+n
  ·rw[if_neg o_,if_pos o_]
  ·have l:ae bT (X/bT^j% V) (k-j)=0:=jL (h3 (i4 i c) (h2 (by decide) o_));rw[l]
   by_cases b:k=j+n
   ·rw[if_pos b]
   ·rw[if_neg b,if_neg o_];have:ae bT X k=0:=jL (h3 f (h2 (by decide) o_));rw[this]
theorem D3{f:Nat}(a:0<f)(h:f<bT):eT f=.seq [.int .i64 f]:=by rw[eT,nR a h];rfl
theorem XO{r:Nat}(h:r<bT):et [r]=aA bT r:=by
 have:=jM bf (m:=1) (n:=r) (by rw[km];exact h);rw[<-this,row,hZ,gE,hv,ae,i6,js,ii h]
@[simp] theorem aOB{σ:Nat->Nat}{n:Nat}{f:Nat->Int}:cO σ (cQ n f)=cQ n f:=by
 have:∀l:List Nat,cO σ (l.map fun j=>AV.p (.int .i64 (f j)))=l.map fun j=>AV.p (.int .i64 (f j)):=by
  intro l
  induction l with
  |nil=>rfl
  |cons a r b=>simp only[gE,cO,b];rfl
 exact this _
@[simp] theorem aOG{n j:Nat}{f:Nat->Int}(h:j<(cQ n f).length):(cQ n f)[j]=.p (.int .i64 (f j)):=by
 simp only[cQ,hg,hb]
@[simp] theorem aOD{n j:Nat}{f:Nat->Nat}(h:j<(dj n f).length):(dj n f)[j]=.p (.int .i64 (f j:Nat)):=by
 simp only[dj,hg,hb]
@[simp] theorem aOH{n:Nat}{f:Nat->Int}:(cQ (n+1) f=[])=False:=by
 rw[eq_iff_iff,iff_false];intro h;have:=congrArg hA h;rw[me]at this;simp at this
theorem Ee(a b:Nat)(K:0<b)(c5:(aA bT a).length<=400000)(b7:(aA bT b).length<=400000):aB prog 253 [eT a,eT b] (.aE [eT (a/b),eT (a% b)]):=by
 have bO:=JJ a b o_ o_;refine aJ nf (i_ func253) mix (by simp[f253]) ?_;simp[f253];refine c2 bO ?_
 by_cases S:a<b
 ·have G:=pN.2 S;simp[G,i5 S,ii S,eT,Ar]
 have G:¬fQ a b<0:=fun h=>S (pN.1 h);have a4:∀i(h:i<(aA bT b).length),(aA bT b)[i]=ae bT b i:=fun i h=>eD bf h;have C:=cq bf b
 by_cases b5:(aA bT b).length=1
 ·rw[b5,km]at C;have L:=JI a b K C o_;have cc:=i2 a K;have ch:=XO (i4 cc C);have aq:=tV [a% b] s_;rw[ch]at aq;have cY:=nR K C;rw[D3 K C];simp only[eT,iP]at L aq⊢;generalize aA bT (a/b)=cP at*;generalize aA bT (a% b)=cR at*;generalize aA bT a=x at*;generalize a% b=di at*;simp[G];refine c2 L ?_;simp;refine cp aq (by simp;exact⟨rfl,rfl⟩) ?_;simp
 have c4:2<=(aA bT b).length:=by
  rcases ik (aA bT b).length 1 with h|h
  ·have e:(aA bT b).length=0:=by omega
   rw[e,i6]at C;omega
  ·omega
 obtain⟨k,hk⟩:∃k,(aA bT b).length=k+1:=⟨(aA bT b).length-1,o_⟩
 obtain⟨n,aD⟩:∃n,n=k+1:=⟨_,rfl⟩
 rw[hk]at C;obtain⟨d,Z⟩:∃d,d=b/bT^k:=⟨_,rfl⟩
 have aw:bT^k<=b:=by
  rcases ik b (bT^k)with h|h
  ·have:=dN bf k b h;omega
  ·exact h
 have be:0<bT^k:=i1 (by decide);have bP:0<d:=by rw[Z];exact j8 aw be
 have bU:d<bT:=by rw[Z,ih be,h4,<-h9];exact C
 have a5:ae bT b k=d:=by rw[ae,<-Z,ii bU]
 obtain⟨f,hf⟩:∃f,f=bT/(d+1):=⟨_,rfl⟩
 obtain⟨f0,f1,f2,f3,f4⟩:=X5 C Z bP hf;obtain⟨V,I⟩:∃V,V=b*f:=⟨_,rfl⟩
 rw[<-I]at f2 f3 f4;have aY:(aA bT V).length=n:=by
  have H:=dN bf (k+1) V f2;have bE:=J3 bf f3;omega
 have ag:=Ec b f (by rw[nR f0 f1];simp;omega);have ah:=Ec a f (by rw[nR f0 f1];simp;omega);rw[D3 f0 f1,<-I]at ag;rw[D3 f0 f1]at ah;have bR:(aA bT b)[k]?=some d:=by rw[gm o_,a4 k o_,a5]
 have bS:∀h:k<(aA bT b).length,(aA bT b)[k]=d:=fun h=>by rw[a4 k h,a5]
 have c7:(aA bT b).length<=400000:=b7;have cX:bT=1000000000:=rfl;have cI:ec.wrap ((d:Int)+1)=(d:Int)+1:=aQ _ o_ o_;have bW:(1000000000:Int).tdiv ((d:Int)+1)=(f:Nat):=by
  rw[ej (by decide),hf,eq];rfl
 have bQ:¬(d:Int)+1=0:=o_
 have wk:ec.wrap (k:Int)=k:=aQ _ o_ o_;have wf:ec.wrap (f:Int)=f:=aQ _ o_ o_;have b6:¬(k:Int)+1=1:=o_
 have b0:¬k=0:=o_
 have bo:k<(aA bT b).length:=o_
 have b2:=bS bo;simp only[eT]at ag ah⊢;generalize ct:aA bT (a/b)=cP at*;generalize cu:aA bT (a% b)=cR at*;generalize aG:aA bT a=x at*;generalize dc:aA bT b=y at*;generalize aj:aA bT V=s at*;simp[G,hk,b6,b0,wk,bR,b2,bo,cI,bW,bQ,wf];refine cp ag (by simp;exact⟨rfl,rfl⟩) ?_;simp[aY];refine cp ah (by simp;exact⟨rfl,rfl⟩) ?_;obtain⟨u,D⟩:∃u,aA bT (a*f)=u:=⟨_,rfl⟩
 obtain⟨c,M⟩:∃c,x.length=c:=⟨_,rfl⟩
 have bh:u.length<=c+1:=by
  rw[<-D,<-M,<-aG];refine dN bf _ _ ?_;rw[h9];exact j3 (cq bf a) f1
 have cl:∀i(h:i<u.length),u[i]=ae bT (a*f) i:=fun i h=>by
  have:=eD bf (n:=a*f) (i:=i) (by rw[D];exact h);simp only[D]at this;exact this
 rw[D];have cW:b<=a*f:=h5 (Nat.le_of_not_lt S) (kp _ f0);have bj:¬u=[]:=by
  intro h;rw[h]at D;have:=vx.1 D;omega
 have a1:a*f<bT^u.length:=by rw[<-D];exact cq bf _
 have ai:hJ (AV.p∘fun x:Nat=>PV.int ec x) u=cQ u.length fun k=>(ae bT (a*f) k:Nat):=by
  apply hp (by simp[cQ]);intro i G cU;simp only[hg,Function.comp,cQ,hb];rw[cl i (by simpa using G)]
 have cj:u.length<=400001:=o_
 obtain⟨A,bi⟩:∃A,u.length=A:=⟨_,rfl⟩
 rw[bi]at a1 ai bh cj;clear ag ah;have ck:¬(cQ A fun k=>(ae bT (a*f) k:Nat))=[]:=by rw[<-ai];simpa using bj
 have ci:¬A=0:=by rw[<-bi];exact fun h=>bj (List.length_eq_zero_iff.1 h)
 simp[M,ai,ck,ci,me];refine⟨⟨by rw[<-ai];exact RJ u,by simp only[cV];omega⟩,?_⟩;have c6:c<=400000:=o_
 have bz:ec.wrap ((c:Int)+1)=c+1:=aQ _ o_ o_;refine sy (fun s'=>∃l o,aP s'.env 8=.sl 0 0 1 0 1/\aP s'.env 9=.p (.seq (s.map fun x:Nat=>.int .i64 x))/\aP s'.env 10=.p (.int .i64 n)/\aP s'.env 11=.sl 2 l 1 0 (c+1)/\s'.heap=[.arr .frozen 0 1 [.p (.int .i64 f)],o,.arr .grow l 1 (cQ (c+1) fun k=>(ae bT (a*f) k:Nat))]) ?_ ?_
 ·refine lp (α:=Nat) (fun i=>⟨[(11,.sl 2 (i-A) 1 0 i),(10,.p (.int .i64 n)),(9,.p (.seq (s.map fun x:Nat=>.int .i64 x))),(8,.sl 0 0 1 0 1),(0,.p (.seq (x.map fun x:Nat=>.int .i64 x)))],[.arr .frozen 0 1 [.p (.int .i64 f)],.hole,.arr .grow (i-A) 1 (cQ i fun k=>(ae bT (a*f) k:Nat))]⟩)
   (fun i=>A<=i/\i<=c+1) (fun i=>c+1-i) A ⟨ix _,bh⟩ ?_ (he:=s_) (hh:=s_)
  rintro i ⟨k1,k2⟩
  by_cases hi:i<c+1
  ·have bX:(i:Int)<c+1:=by omega
   have cs:ae bT (a*f) i=0:=jL (h3 a1 (h2 (by decide) k1));have ce:cQ (i+1) (fun k=>(ae bT (a*f) k:Nat))=cQ i (fun k=>(ae bT (a*f) k:Nat))++[.p (.int .i64 0)]:=by
    rw[cQ,hU,hX];simp[cs,cQ]
   have bg:i+1-A=i-A+1:=o_
   have cg:g0 i (cQ i fun k=>(ae bT (a*f) k:Nat))=cQ i fun k=>(ae bT (a*f) k:Nat):=gt (by rw[me];exact ix _);simp[M,bz,bX,me,cg];refine⟨by simp only[cV];omega,?_⟩;exact rd (i+1) ⟨o_,hi⟩ (he:=by simp[bg]) (hh:=by simp[bg,ce]) (hr2:=s_)
  ·have ab:i=c+1:=by omega
   subst ab;simp[M,bz]
 rintro⟨bC,bV⟩ ⟨l,o,E,P,Q,F,T⟩;dsimp only at E P Q F T;subst T;have db:n<=c:=by
  rw[aD];rcases ik c (k+1)with h|h
  ·have H:=cq bf a;rw[aG,M]at H;have bE:=h3 H (h2 (show 0<bT by decide) (show c<=k by omega));omega
  ·exact h
 obtain⟨m,c9⟩:∃m,m=c-n:=⟨_,rfl⟩
 have cL:ec.wrap ((c:Int)+1-n)=(m:Int)+1:=by rw[aQ _ o_ o_];omega
 have cM:((m:Int)+1).toNat=m+1:=o_
 have cN:ec.wrap (m:Int)=m:=aQ _ o_ o_;have ca:(m:Int)+1<=cV:=by simp only[cV];omega
 simp[E,P,Q,F,cL,cM,cN];refine⟨⟨o_,ca⟩,?_⟩;have au:0<V:=by rw[I];exact l3 K f0
 have W:V<bT^n:=by rw[aD];exact f2
 have a2:a<bT^c:=by rw[<-M,<-aG];exact cq bf a
 have bL:a*f% (V*bT^(m+1))=a*f:=by
  refine ii ?_;rw[I,kK];refine kc ?_ f0;refine h3 a2 ?_;rw[show c=k+(m+1)by omega,jp];exact h8 _ aw
 obtain⟨X,J⟩:∃X:Nat->Nat,∀j,X j=a*f% (V*bT^j):=⟨_,fun _=>rfl⟩
 have Y:∀j,X j<V*bT^j:=fun j=>by rw[J];exact i2 _ (l3 au (i1 (by decide)))
 have bN:∀j,X (j+1)% (V*bT^j)=X j:=fun j=>by
  rw[J,J,kN];exact Nat.mul_dvd_mul_left _ (lc _ o_)
 have bM:∀j,X (j+1)/bT^j/V=ae bT (a/b) j:=fun j=>by
  rw[J,<-(yv (B:=bT) (R:=a*f% (V*bT^(j+1))) (V:=V) (j:=j)).2,h9,<-i3,Nat.mod_mul_right_div_self,<-ip,I,Nat.mul_div_mul_right _ _ f0,ae]
 have a7:=fun j(h:j<=m)=>ayc (X (j+1)/bT^j) V (c+1) j n .grow l (ae bT (X (j+1))) o_ (by rw[aj];exact aY) (by rw[aD,i9];exact f4) (by rw[ih (i1 (by decide)),i3,h4 bT,<-h9];exact Y (j+1)) o_ o_ (fun i hi=>(rl (B:=bT) _ _ _).symm);simp only[eT,RF,aj]at a7;rw[show(gy (m+1) (AV.p (PV.int ec 0)))=dj (m+1) (qT (a/b) (m+1))from M9];rw[show(cQ (c+1) fun k=>(ae bT (a*f) k:Nat))=cQ (c+1) fun k=>(ae bT (X (m+1)) k:Nat)by rw[J,bL]];refine sy (fun s'=>∃bq,aP s'.env 8=.sl 0 0 1 0 1/\aP s'.env 10=.p (.int .i64 n)/\aP s'.env 11=.sl 2 l 1 0 (c+1)/\aP s'.env 12=.sl 3 0 1 0 (m+1)/\s'.heap=[.arr .frozen 0 1 [.p (.int .i64 f)],bq,.arr .grow l 1 (cQ (c+1) fun k=>(ae bT (X 0) k:Nat)),.arr .exact 0 1 (dj (m+1) (ae bT (a/b)))]) ?_ ?_
 ·refine lp (α:=Nat) (fun j=>⟨[(13,.p (.int .i64 ((j:Int)-1))),(12,.sl 3 0 1 0 (m+1)),(11,.sl 2 l 1 0 (c+1)),(10,.p (.int .i64 n)),(9,.p (.seq (s.map fun x:Nat=>.int .i64 x))),(8,.sl 0 0 1 0 1)],[.arr .frozen 0 1 [.p (.int .i64 f)],.hole,.arr .grow l 1 (cQ (c+1) fun k=>(ae bT (X j) k:Nat)),.arr .exact 0 1 (dj (m+1) (qT (a/b) j))]⟩)
   (fun j=>j<=m+1) (fun j=>j) (m+1) (ix _) ?_ (he:=by simp[E,P,Q,F])
  intro j cZ;rcases j with _|j
  ·simp[M8]
  ·obtain⟨t,aO,an,ao,bF⟩:=a7 j o_;have bZ:¬(j:Int)<0:=by omega
   have bK:X (j+1)/bT^j<bT^(n+1):=by
    rw[ih (i1 (by decide)),<-jp];refine h3 (Y (j+1)) ?_;rw[show n+1+j=n+(j+1)by omega,jp bT n (j+1)];exact h8 _ (lq W)
   obtain⟨R,bI,bJ⟩:=Zq au W bK aO an;have im:=fun i(hi:i<=n)=>LH (i:=i) bI hi;have av:∀i,ae bT (X (j+1)/bT^j) i=ae bT (X (j+1)) (j+i):=fun i=>rl _ _ _;have dm:((n:Nat):Int).toNat=n:=o_
   simp[-bu];rw[bu,bu];simp[-bu,bZ];rw[bu,Lz,bu];simp[-bu];refine cf bF [2] ?_;simp[-bu,sig,bc];rw[bu];simp[-bu];rw[bu,bu];simp[-bu];have aX:∀i(h:i<s.length),s[i]=ae bT V i:=fun i h=>by
    have:=eD bf (n:=V) (i:=i) (by rw[aj];exact h);simp only[aj]at this;exact this
   have aV:X (j+1)/bT^j/V=ae bT (a/b) j:=bM j;have c0:(j:Int)<=400000:=o_
   have da:(n:Int)<=400001:=o_
   have a6:∀g:Nat->Int,(∀k,k<c+1->g k=if k=j+n then 0 else if j<=k/\k<j+n then(ae bT (X (j+1)/bT^j% V) (k-j):Nat)else(ae bT (X (j+1)) k:Nat))->cQ (c+1) g=cQ (c+1) fun k=>(ae bT (X j) k:Nat):=fun g ax=>by
    rw[Yx au W (Y (j+1)) ax,bN]
   have cn:cQ (c+1) (gq (X (j+1)) R j 0)=cQ (c+1) fun k=>(ae bT (X (j+1)) k:Nat):=MA fun k _=>win_zero;refine lp (α:=Nat) (fun i=>⟨[(16,.p (.int .i64 i)),(15,.p (.int .i64 (gG V R t i:Nat))),(14,.p (.int .i64 t)),(13,.p (.int .i64 j)),(12,.sl 3 0 1 0 (m+1)),(11,.sl 2 l 1 0 (c+1)),(10,.p (.int .i64 n)),(9,.p (.seq (s.map fun x:Nat=>.int .i64 x))),(8,.sl 0 0 1 0 1)],[.arr .frozen 0 1 [.p (.int .i64 f)],.hole,.arr .grow l 1 (cQ (c+1) (gq (X (j+1)) R j i)),.arr .exact 0 1 (dj (m+1) (qT (a/b) (j+1)))]⟩)
    (fun i=>i<=n) (fun i=>n-i) 0 (jF _) ?_ (he:=by simp[YX]) (hh:=by simp[cn])
   intro i hi;have bx:ec.wrap ((i:Int)+j)=(i:Int)+j:=aQ _ o_ o_;have bv:((i:Int)+j).toNat=i+j:=o_
   have bp:¬((i:Int)+j<0):=o_
   have bw:ec.wrap ((i:Int)+1)=(i:Int)+1:=aQ _ o_ o_
   by_cases al:i<n
   ·have a9:(i:Int)<n:=by omega
    have ac:i<s.length:=o_
    have aF:=aX i ac;have aN:=im i hi;rw[av]at aN;have br:=cz bf (X (j+1)) (j+i);have cw:=cz bf R i;have cx:=cz bf V i;obtain⟨p,q,ak,s1,s2,bs,bt,dk,dl,cB⟩:=aIo (by rw[<-lm];exact aN) cw br ao cx Zp;have bn:gq (X (j+1)) R j i (i+j)=(ae bT (X (j+1)) (j+i):Nat):=by rw[j4 i j,DS]
    have a8:0<=(i:Int)+j:=o_
    have get:(cQ (c+1) (gq (X (j+1)) R j i))[i+j]?=some (.p (.int .i64 (ae bT (X (j+1)) (j+i):Nat))):=by
     rw[aHO _ o_,j4 i j,DS]
    have set:(cQ (c+1) (gq (X (j+1)) R j i)).set (i+j) (.p (.int .i64 (ae bT R i:Nat)))=cQ (c+1) (gq (X (j+1)) R j (i+1)):=by
     rw[j4 i j];exact vO _ _ aLM fun k _ hk=>aLN hk
    have ab:i+j<c+1:=o_
    have bk:s[i]?=some (ae bT V i):=by rw[gm ac,aF]
    generalize ae bT (X (j+1)) (j+i)=w at*;generalize ae bT V i=v at*;generalize ae bT R i=r at*;generalize gG V R t i=cS at*;generalize a3:gG V R t (i+1)=cT at*;have cd:¬(r:Int)<0:=o_
    have bB:ec.wrap ((w:Int)-ak)=(w:Int)-ak:=aQ _ o_ o_;have bA:ec.wrap (q:Int)=q:=aQ _ o_ o_;have aU:ec.wrap ((q:Int)+1)=(q:Int)+1:=aQ _ o_ o_;rcases cB with⟨c1,c2,c3⟩|⟨c1,c2,c3⟩
    ·have wr:ec.wrap ((w:Int)-ak+1000000000)=r:=by rw[c2];exact aQ _ o_ o_
     simp[a9,bx,bv,bp,ac,aF,bk,s1,s2,bs,bt,ab,get,bn,a8,me,bB,c1,wr,aU,set,bw,aa,aL,bG];exact rd (i+1) (show i+1<=n by omega) (he:=by simp[a3,c3,bA,aU])
    ·have wr:ec.wrap ((w:Int)-ak)=r:=by rw[bB,c2]
     simp[a9,bx,bv,bp,ac,aF,bk,s1,s2,bs,bt,ab,get,bn,a8,me,c1,wr,cd,set,bw,aa,aL,bG];exact rd (i+1) (show i+1<=n by omega) (he:=by simp[a3,c3,bA,aU])
   ·have bY:i=n:=by omega
    subst bY;have aT:ec.wrap ((j:Int)+i)=(j:Int)+i:=aQ _ o_ o_;have aR:((j:Int)+i).toNat=j+i:=o_
    have aH:0<=(j:Int)+i:=o_
    have ay:j+i<c+1:=o_
    have bm:gq (X (j+1)) R j i (j+i)=(ae bT (X (j+1)) (j+i):Nat):=DS;have br:=cz bf (X (j+1)) (j+i);have aS:ec.wrap ((j:Int)-1)=(j:Int)-1:=aQ _ o_ o_;rcases bJ with⟨aK,U,aM⟩|⟨aK,U,aM,cA⟩
    ·rw[av]at U;rw[U];generalize ae bT (X (j+1)) (j+i)=w at*;have ap:ec.wrap 0=0:=rfl;have am:ec.wrap ((w:Int)-w)=0:=by rw[gb];rfl
     have aE:t=ae bT (a/b) j:=by rw[aK,aV]
     have aI:(dj (m+1) (qT (a/b) (j+1))).set j (.p (.int .i64 t))=dj (m+1) (qT (a/b) j):=by rw[aE];exact D2
     have fs:(cQ (c+1) (gq (X (j+1)) R j i)).set (j+i) (.p (.int .i64 0))=cQ (c+1) fun k=>(ae bT (X j) k:Nat):=by
      rw[vO _ (fun k=>if k=j+i then 0 else gq (X (j+1)) R j i k) (if_pos rfl) (fun k _ hk=>if_neg hk)];refine a6 _ fun k _=>?_
      by_cases hk:k=j+i
      ·rw[if_pos hk,if_pos hk];rfl
      ·rw[if_neg hk,if_neg hk,gq]
       by_cases z:j<=k/\k<j+i
       ·rw[if_pos z,if_pos z,aM (k-j) o_]
       ·rw[if_neg z,if_neg z]
     have ad:j<m+1:=o_
     have cb:¬((ae bT (X j) (j+i):Nat):Int)<0:=o_
     simp[aT,aR,aH,ay,bm,me,vH,am,ap,aS,ad,cb,fs,aI,aa,aL,bG];exact rd j (show j<=m+1 by omega)
    ·rw[av]at U;rw[U];generalize ae bT (X (j+1)) (j+i)=w at*;have ap:ec.wrap 0=0:=rfl;have am:ec.wrap ((w:Int)-((w+1:Nat):Int))= -1:=by rw[show(w:Int)-((w+1:Nat):Int)= -1 by omega];rfl
     have cE:ec.wrap (-1)= -1:=rfl;have fs:(cQ (c+1) (gq (X (j+1)) R j i)).set (j+i) (.p (.int .i64 (-1)))=cQ (c+1) (gW (X (j+1)) R (R+V) j i 0):=by
      refine vO _ _ (by rw[gW,if_pos rfl]) fun k _ hk=>?_;rw[gW,if_neg hk,if_neg o_]
     have aE:(t:Int)-1=ae bT (a/b) j:=by rw[aK,aV];omega
     have cO:ec.wrap ((t:Int)-1)=ae bT (a/b) j:=by rw[aE];have:=cz bf (a/b) j;exact aQ _ o_ o_
     have ad:j<m+1:=o_
     have co:gW (X (j+1)) R (R+V) j i 0 (j+i)= -1:=by rw[gW,if_pos rfl]
     push_cast at am;simp[aT,aR,aH,ay,bm,me,vH,am,ap,cE,cO,aS,ad,fs,co,aa,aL,bG];refine lp (α:=Nat) (fun k=>⟨[(20,.p (.int .i64 k)),(19,.p (.int .i64 (dh bT R V k:Nat))),(14,.p (.int .i64 (ae bT (a/b) j:Nat))),(13,.p (.int .i64 j)),(12,.sl 3 0 1 0 (m+1)),(11,.sl 2 l 1 0 (c+1)),(10,.p (.int .i64 i)),(9,.p (.seq (s.map fun x:Nat=>.int .i64 x))),(8,.sl 0 0 1 0 1)],[.arr .frozen 0 1 [.p (.int .i64 f)],.hole,.arr .grow l 1 (cQ (c+1) (gW (X (j+1)) R (R+V) j i k)),.arr .exact 0 1 (dj (m+1) (qT (a/b) (j+1)))]⟩)
      (fun k=>k<=i) (fun k=>i-k) 0 (jF _) ?_ (he:=by simp[ym])
     intro k hk;have cK:ec.wrap ((k:Int)+j)=(k:Int)+j:=aQ _ o_ o_;have cD:((k:Int)+j).toNat=k+j:=o_
     have cv:0<=(k:Int)+j:=o_
     have cJ:ec.wrap ((k:Int)+1)=(k:Int)+1:=aQ _ o_ o_;obtain⟨q1,cy⟩:=qU bf R V k;have de:=mc bf R V k;have q4:=mc bf R V (k+1);have df:=cz bf R k;have dg:=cz bf V k
     by_cases ba:k<i
     ·have b1:(k:Int)<i:=by omega
      have az:k<s.length:=o_
      have bl:=aX k az;have cm:s[k]?=some (ae bT V k):=by rw[gm az,bl]
      have b4:k+j<c+1:=o_
      have ax:gW (X (j+1)) R (R+V) j i k (k+j)=(ae bT R k:Nat):=by rw[j4 k j,aLJ ba]
      have aN:(cQ (c+1) (gW (X (j+1)) R (R+V) j i k)).set (k+j) (.p (.int .i64 (ae bT (R+V) k:Nat)))=cQ (c+1) (gW (X (j+1)) R (R+V) j i (k+1)):=by
       rw[j4 k j];exact vO _ _ (aLK ba) fun x _ hx=>aLL hx
      have aO:((ae bT R k:Nat):Int)+(ae bT V k:Nat)+(dh bT R V k:Nat)=((ae bT R k+ae bT V k+dh bT R V k:Nat):Int):=o_
      have an:((ae bT R k+ae bT V k+dh bT R V k:Nat):Int).tmod 1000000000=(ae bT (R+V) k:Nat):=by
       rw[<-q1,ee (ei _),en];rfl
      have ao:((ae bT R k+ae bT V k+dh bT R V k:Nat):Int).tdiv 1000000000=(dh bT R V (k+1):Nat):=by
       rw[<-cy,ej (ei _),eq];rfl
      rw[<-aO]at an ao;have w1:ec.wrap ((ae bT R k:Nat)+(ae bT V k:Nat))=(ae bT R k:Nat)+(ae bT V k:Nat):=aQ _ o_ o_;have cF:ec.wrap ((ae bT R k:Nat)+(ae bT V k:Nat)+(dh bT R V k:Nat))=(ae bT R k:Nat)+(ae bT V k:Nat)+(dh bT R V k:Nat):=aQ _ o_ o_;have cG:ec.wrap (ae bT (R+V) k:Nat)=(ae bT (R+V) k:Nat):=by have:=cz bf (R+V) k;exact aQ _ o_ o_
      have cH:ec.wrap (dh bT R V (k+1):Nat)=(dh bT R V (k+1):Nat):=aQ _ o_ o_;simp[b1,az,bl,cm,cK,cD,cv,b4,ax,aN,me,w1,cF,cG,cH,an,ao,cJ,aa,aL,bG];exact rd (k+1) (show k+1<=i by omega)
     ·have b3:k=i:=by omega
      subst b3;have cr:gW (X (j+1)) R (R+V) j k k (j+k)= -1:=by rw[gW,if_pos rfl]
      have cC:ec.wrap (-1+1)=0:=rfl;have aI:(dj (m+1) (qT (a/b) (j+1))).set j (.p (.int .i64 (ae bT (a/b) j:Nat)))=dj (m+1) (qT (a/b) j):=D2;have bD:(cQ (c+1) (gW (X (j+1)) R (R+V) j k k)).set (j+k) (.p (.int .i64 0))=cQ (c+1) fun k=>(ae bT (X j) k:Nat):=by
       rw[vO _ (fun x=>if x=j+k then 0 else gW (X (j+1)) R (R+V) j k k x) (if_pos rfl) (fun x _ hx=>if_neg hx)];refine a6 _ fun x _=>?_
       by_cases hk:x=j+k
       ·rw[if_pos hk,if_pos hk];rfl
       ·rw[if_neg hk,if_neg hk,gW,if_neg hk]
        by_cases z:j<=x/\x<j+k
        ·rw[if_pos z,if_pos z,cA (x-j) o_]
        ·rw[if_neg z,if_neg z,gq,if_neg z]
      rw[aM];simp[aT,aR,aH,ay,cr,me,vH,cC,ap,aS,ad,bD,aI,aa,aL,bG];exact rd j (show j<=m+1 by omega)
 rintro⟨bC,bV⟩ ⟨bq,E,P,Q,F,T⟩;dsimp only at E P Q F T;subst T;have aZ:X 0=a% b*f:=by rw[J,i6,lb,I,Nat.mul_mod_mul_right]
 have bH:a/b<bT^(m+1):=by
  rw[ih K];refine h3 a2 ?_;rw[show c=m+1+k by omega,jp];exact kF _ aw
 obtain⟨dd,bb,b8,aW⟩:=NP (m:=m+1) (N:=a/b) bH o_;have a0:X 0<bT^n:=h3 (by have:=Y 0;rwa [i6,lb]at this) (lq W);obtain⟨O,c8,af,b9,ar⟩:∃O:List Nat,O=(gx (c+1)).map (ae bT (X 0))/\O.length=c+1/\dj (c+1) (ae bT (X 0))=O.map (AV.p∘fun x:Nat=>PV.int .i64 x)/\aB prog 305 [.seq (iP (O.take n))] (eT (X 0)):=by
  refine⟨_,rfl,s_,CK _ _,?_⟩;have e:((gx (c+1)).map (ae bT (X 0))).take n=(gx n).map (ae bT (X 0)):=MR o_ fun k hk=>rfl;rw[e];have H:=tV ((gx n).map (ae bT (X 0))) (by simp;omega);rw[show et ((gx n).map (ae bT (X 0)))=aA bT (X 0)from jM bf a0]at H;exact H
 have L:=JI (X 0) f f0 f1 (by
  have:=dN bf n (X 0) a0;omega)
 rw[aZ,Nat.mul_div_cancel _ f0]at L;rw[aZ]at ar;rw[<-RF,b9,b8]at*;simp only[eT,ct,cu,iP]at aW ar L⊢;have aC:¬O=[]:=by intro h;rw[h]at af;simp at af
 have bd:n<=c+1:=o_
 simp[E,P,Q,F,af,aC,bd];refine ep ar (by simp[af,bd,aC];first|exact⟨rfl,rfl⟩|rfl) (by simp[aC];first|exact⟨rfl,rfl⟩|rfl) ?_ (h1:=by simp[ha]);simp[E,aa,aL,bG];refine e2 L ?_;simp[F];refine⟨by repeat' first|rfl|apply And.intro,?_⟩;refine cp aW (by simp[bb];first|exact⟨rfl,rfl⟩|rfl) ?_ (h1:=by simp[gt,bb]);simp
theorem Wv(n:Nat):et (aA bT n)=aA bT n:=by
 have h:=Dr bf (l:=aA bT n) (fun d a=>by
  obtain⟨i,hi,rfl⟩:=hL a;rw[eD bf hi];exact cz bf _ _)
 rw[<-h,Lg bf]
theorem qP(neg:Bool)(n:Nat)(h:(aA bT n).length<=1048576):aB prog 254 [.bool neg,eT n] (eG (if neg=true then -(n:Int)else n)):=CV neg (aA bT n) n (Wv n) h
theorem LB(a b:Nat)(g:(aA bT a).length<=400000)(h:(aA bT b).length<=400000):aB prog 252 [eT a,eT b] (eT (i7 a b)):=by
 refine aJ nf (i_ func252) mix (by simp[f252]) ?_;simp[f252];refine lp (α:=Nat×Nat) (fun x=>⟨[(1,.p (eT x.2)),(0,.p (eT x.1))],[]⟩)
  (fun x=>(aA bT x.1).length<=400000/\(aA bT x.2).length<=400000/\i7 x.1 x.2=i7 a b) (fun x=>x.2) (a,b) ⟨g,h,rfl⟩ ?_
 rintro⟨x,y⟩ ⟨e,d,c⟩;dsimp only at e d c
 by_cases hy:y=0
 ·subst hy;rw[lz]at c;rw[<-c];simp[eT,Ar]
 ·have i:0<(aA bT y).length:=by
   rw[gw,Ne,vx];exact hy
  have f:=Ee x y o_ e d;have j:=i2 x (show 0<y by omega);simp[eT,i];refine c2 f ?_;simp;exact rd (y,x% y) ⟨d,by have:=dN bf _ _ (i4 j (cq bf y));dsimp only;omega,by rw[<-c,kW y,<-l5,kW]⟩ (by dsimp only;omega) (he:=by simp[eT])
theorem ZO(a b:Nat)(h:a<9223372036854775808)(i:b<9223372036854775808):aB prog 248 [.int .i64 a,.int .i64 b] (.int .i64 (i7 a b:Nat)):=by
 refine aJ nf (i_ func248) mix (by simp[f248]) ?_;simp[f248];refine lp (α:=Nat×Nat) (fun x=>⟨[(1,.p (.int .i64 x.2)),(0,.p (.int .i64 x.1))],[]⟩)
  (fun x=>x.1<9223372036854775808/\x.2<9223372036854775808/\i7 x.1 x.2=i7 a b) (fun x=>x.2) (a,b) ⟨h,i,rfl⟩ ?_
 rintro⟨x,y⟩ ⟨g,d,c⟩;dsimp only at g d c
 by_cases f:y=0
 ·subst f;rw[lz]at c;rw[<-c];simp
 ·have m:(0:Int)<y:=by omega
  have e:0<y:=o_
  have o:¬(y:Int)=0:=o_
  have n:=i2 x e;have k:(x:Int).tmod y=(x% y:Nat):=by rw[ee (ei _),en]
  have l:ec.wrap ((x% y:Nat):Int)=(x% y:Nat):=aQ _ o_ o_;generalize j:x% y=r at*;simp[e,f,k,l];exact rd (y,r) ⟨d,by dsimp only;omega,by rw[<-c,<-j,kW y,<-l5,kW]⟩ (by dsimp only;omega)
theorem Zl{B a b x y K:Nat}(c:2<=B)(d:a<B^x)(e:b<B^y)(f:B^x<=B^K)(g:B^y<=B^K):a+b<B^(K+1):=by
 rw[h9];have:=kF (B^K) c;omega
theorem Zk{a b K:Nat}(g:(aA bT a).length<=K)(h:(aA bT b).length<=K):(aA bT (a+b)).length<=K+1:=by
 have c:=cq bf a;have d:=cq bf b;have e:=h2 (show 0<bT by decide) g;have f:=h2 (show 0<bT by decide) h;exact dN bf (K+1) (a+b) (Zl bf c d e f)
theorem ZX(a b:Int)(l:(aA bT a.natAbs).length<=400000)(o:(aA bT b.natAbs).length<=400000):aB prog 181 [eG a,eG b] (eG (a+b)):=by
 have m:=ZH a.natAbs b.natAbs o_ o_;have k:=JJ a.natAbs b.natAbs o_ o_;have q:(aA bT (a.natAbs+b.natAbs)).length<=1048576:=by
  have r:=Zk l o;omega
 refine aJ nf (i_ func181) mix (by simp[f181]) ?_
 by_cases hs:(a<0↔b<0)
 ·have t:(decide (a<0)==decide (b<0))=true:=by simp[hs]
  have d:=qP (decide (a<0)) (a.natAbs+b.natAbs) q;have f:(if decide (a<0)=true then -((a.natAbs+b.natAbs:Nat):Int)else((a.natAbs+b.natAbs:Nat):Int))=a+b:=by
   by_cases h:a<0
   ·have:=hs.1 h;simp[h];omega
   ·have:¬b<0:=fun c=>h (hs.2 c);simp[h];omega
  rw[f]at d;generalize a+b=s at*;generalize a.natAbs+b.natAbs=n at*;have g:(a<0↔b<0)=True:=eq_true hs;simp only[eG]at d⊢;simp[f181,g,aa];refine e2 m ?_;simp[aa];refine e2 d ?_;simp[aa]
 ·have g:(a<0↔b<0)=False:=eq_false hs
  by_cases p:b.natAbs<=a.natAbs
  ·have i:0<=fQ a.natAbs b.natAbs:=by
    have:=pN (a:=a.natAbs) (b:=b.natAbs);omega
   have j:=NQ a.natAbs b.natAbs p o_;have d:=qP (decide (a<0)) (a.natAbs-b.natAbs) (by
    have:=dN bf _ _ (h6 (lk a.natAbs b.natAbs) (cq bf a.natAbs));omega)
   have f:(if decide (a<0)=true then -((a.natAbs-b.natAbs:Nat):Int)else((a.natAbs-b.natAbs:Nat):Int))=a+b:=by
    by_cases h:a<0
    ·have:¬b<0:=fun c=>hs ⟨fun _=>c,fun _=>h⟩;simp[h];omega
    ·have:b<0:=by
      rcases gc b 0 with c|c
      ·exact c
      ·exact(hs ⟨fun e=>(h e).elim,fun e=>by omega⟩).elim
     simp[h];omega
   rw[f]at d;generalize a+b=s at*;generalize a.natAbs-b.natAbs=n at*;simp only[eG]at d⊢;simp[f181,g,aa];refine c2 k ?_;simp[i,aa];refine e2 j ?_;simp[aa];refine e2 d ?_;simp[aa]
  ·have i:¬0<=fQ a.natAbs b.natAbs:=by
    have:=pN (a:=a.natAbs) (b:=b.natAbs);omega
   have j:=NQ b.natAbs a.natAbs o_ o_;have d:=qP (decide (b<0)) (b.natAbs-a.natAbs) (by
    have:=dN bf _ _ (h6 (lk b.natAbs a.natAbs) (cq bf b.natAbs));omega)
   have f:(if decide (b<0)=true then -((b.natAbs-a.natAbs:Nat):Int)else((b.natAbs-a.natAbs:Nat):Int))=a+b:=by
    by_cases h:b<0
    ·have:¬a<0:=fun c=>hs ⟨fun _=>h,fun _=>c⟩;simp[h];omega
    ·have:a<0:=by
      rcases gc a 0 with c|c
      ·exact c
      ·exact(hs ⟨fun e=>by omega,fun e=>(h e).elim⟩).elim
     simp[h];omega
   rw[f]at d;generalize a+b=s at*;generalize b.natAbs-a.natAbs=n at*;simp only[eG]at d⊢;simp[f181,g,aa];refine c2 k ?_;simp[i,aa];refine e2 j ?_;simp[aa];refine e2 d ?_;simp[aa]
theorem NR(a:Int)(d:(aA bT a.natAbs).length<=400000):aB prog 251 [eG a] (eG (-a)):=by
 have b:=qP (!decide (a<0)) a.natAbs o_;have c:(if(!decide (a<0))=true then -((a.natAbs:Nat):Int)else(a.natAbs:Nat))= -a:=by
  by_cases h:a<0
  ·simp[h];omega
  ·simp[h];omega
 rw[c]at b;refine aJ nf (i_ func251) mix (by simp[f251]) ?_;generalize -a=s at*;simp only[eG]at b⊢;simp[f251,aa];refine c2 b ?_;simp[aa]
theorem vQ(a b:Int)(g:(aA bT a.natAbs).length+(aA bT b.natAbs).length<=1000000):aB prog 182 [eG a,eG b] (eG (a*b)):=by
 have f:=Ec a.natAbs b.natAbs g;have j:(aA bT (a.natAbs*b.natAbs)).length<=1000000:=by
  have c:=cq bf a.natAbs;have d:=cq bf b.natAbs;have i:=dN bf ((aA bT a.natAbs).length+(aA bT b.natAbs).length) (a.natAbs*b.natAbs) (by rw[jp];exact j3 c d);omega
 have e:=qP ((!(decide (a<0)==decide (b<0)))) (a.natAbs*b.natAbs) o_;have h:(if(!(decide (a<0)==decide (b<0)))=true then -((a.natAbs*b.natAbs:Nat):Int)else((a.natAbs*b.natAbs:Nat):Int))=a*b:=by
  by_cases c:a<0<;>by_cases d:b<0
  ·simp[c,d];rw[em (e9 c),em (e9 d),Int.neg_mul_neg]
  ·simp[c,d];rw[em (e9 c),ew o_,gi,gg]
  ·simp[c,d];rw[em (e9 d),ew o_,gj,gg]
  ·simp[c,d];rw[ew o_,ew o_]
 rw[h]at e;refine aJ nf (i_ func182) mix (by simp[f182]) ?_;generalize a*b=s at*;generalize a.natAbs*b.natAbs=n at*;generalize hx:(!(decide (a<0)==decide (b<0)))=x at*;simp only[eG]at e⊢;simp[f182,aa];refine e2 f ?_;simp[hx,aa];refine e2 e ?_;simp[aa]
theorem Xg:∀d:Nat,d<10->hT d (g0 (d+1) [48,49,50,51,52,53,54,55,56,57])=[48+d]:=by decide
theorem yx(n a:Nat)(D:n<9223372036854775808)(I:a<=1000):aB prog 249 [.int .i64 n,.int .i64 a] (.str (low (max a (nd n)) n)):=by
 have K:nd n<=19:=sd (i4 D (by decide));refine aJ nf (i_ func249) mix (by simp[f249]) ?_;obtain⟨L,e⟩:∃L,L=max a (nd n):=⟨_,rfl⟩
 rw[<-e];obtain⟨g,b⟩:∃g:Nat->Nat,∀i,n/10^i=g i:=⟨_,fun _=>rfl⟩
 have A:g 0=n:=by rw[<-b,i6,js]
 simp[f249];refine lp (α:=Nat) (fun i=>⟨[(0,.p (.int .i64 (g i:Nat))),(5,.p (.str (low i n))),(1,.p (.int .i64 a))],[]⟩)
  (fun i=>i<=L) (fun i=>L-i) 0 (jF _) ?_ (he:=by simp[low,A])
 intro i hi;have q:low (i+1) n=(48+g i% 10)::low i n:=by
  rw[j4,rA,b,tF];rfl
 have hq:g (i+1)=g i/10:=by rw[<-b,<-b,h9,ip]
 have M:g i<=n:=by rw[<-b];exact j7 _ _
 have E:0<g i↔i<nd n:=by
  rw[<-b,oL,Nat.div_pos_iff];have:=i1 (n:=i) (show 0<10 by decide);omega
 have l:=rz n i;have j:=Xg (g i% 10) (i2 _ (by decide));have f:i<L↔0<g i\/i<a:=by rw[E,e];omega
 have F:=i2 (g i) (show 0<10 by decide);have r:(g i:Int).tmod 10=(g i% 10:Nat):=by rw[ee (ei _),en];rfl
 have t:(g i:Int).tdiv 10=(g (i+1):Nat):=by rw[hq,ej (ei _),eq (g i)];rfl
 have G:L<=1000:=by rw[e];omega
 generalize g i% 10=d at*;have m:hT d (48::g0 d [49,50,51,52,53,54,55,56,57])=[48+d]:=j;generalize N:g i=z at*;generalize y:g (i+1)=z2 at*;generalize hs:low i n=s at*;have x:ec.wrap (z2:Int)=z2:=aQ _ o_ o_;have v:ec.wrap (d:Int)=d:=aQ _ o_ o_;have w:ec.wrap ((d:Int)+1)=d+1:=aQ _ o_ o_;have u:((d:Int)+1).toNat=d+1:=o_
 have J:min (d+1) 10-d+i<9223372036854775808:=o_
 have H:(0:Int)<=d+1/\(d:Int)+1<=10/\(d:Int)<=max (d+1) 0:=o_
 by_cases k:i<L
 ·by_cases c:0<z
  ·simp[c,r,t,x,v,w,u,j,l];refine⟨o_,o_,?_⟩;exact rd (i+1) (show i+1<=L by omega) (he:=by simp[y,q,m])
  ·have o:i<a:=by rcases f.1 k with h|h;exact(c h).elim;exact h
   simp[c,o,r,t,x,v,w,u,j,l];refine⟨o_,o_,?_⟩;exact rd (i+1) (show i+1<=L by omega) (he:=by simp[y,q,m])
 ·have c:¬0<z:=fun h=>k (f.2 (.inl h));have o:¬i<a:=fun h=>k (f.2 (.inr h));have B:s=low L n:=by rw[<-hs];congr 1;omega
  have C:¬L<a:=o_
  simp[c,C,l,B,rz]
theorem XL{n i:Nat}(h:bT^(i+1)<=n):bk (n/bT^i)=bk (n/bT^(i+1))++low 9 (ae bT n i):=by
 have c:0<bT^i:=i1 (by decide);have b:10^9<=n/bT^i:=by
  rw[lu c,h4];rw[h9]at h;exact h
 have a:=Yk b;have e1:n/bT^i/10^9=n/bT^(i+1):=by rw[ip,h9];rfl
 have e2:n/bT^i% 10^9=ae bT n i:=rfl;rw[e1,e2]at a;have d:0<n/bT^i:=h3 (by decide) b;have e:0<n/bT^(i+1):=j8 h (i1 (by decide));rw[bk,bk,show max 1 (nd (n/bT^i))=nd (n/bT^i)by have:=zT d;omega,show max 1 (nd (n/bT^(i+1)))=nd (n/bT^(i+1))by have:=zT e;omega,a]
theorem DC(z:Int)(B:(aA bT z.natAbs).length<=1000000):aB prog 244 [eG z] (.str (bO z)):=by
 refine aJ nf (i_ func244) mix (by simp[f244]) ?_
 by_cases G:z=0
 ·subst G;have v:bO 0=[48]:=by rw[show(0:Int)=((0:Nat):Int)from rfl,vi,qY]
  simp[f244,eG,eT,Ar,aa,v]
 obtain⟨n,f⟩:∃n,z.natAbs=n:=⟨_,rfl⟩
 have M:0<n:=o_
 have L:0<(aA bT n).length:=by
  rw[gw,Ne,vx];omega
 obtain⟨k,hk⟩:∃k,(aA bT n).length=k+1:=⟨(aA bT n).length-1,o_⟩
 have g:=cq bf n;rw[hk]at g;have q:bT^k<=n:=by
  rcases ik n (bT^k)with h|h
  ·have:=dN bf k n h;omega
  ·exact h
 have m:∀i(h:i<(aA bT n).length),(aA bT n)[i]=ae bT n i:=fun i h=>eD bf h;have r:n/bT^k=ae bT n k:=by
  rw[ae,ii];rw[ih (i1 (by decide)),h4,<-h9];exact g
 have O:0<ae bT n k:=by rw[<-r];exact j8 q (i1 (by decide))
 have c:=yx (ae bT n k) 1 (i4 (cz bf n k) (by decide)) (by decide);rw[show low (max 1 (nd (ae bT n k))) (ae bT n k)=bk (n/bT^k)by rw[r];rfl]at c;have w:∀i,aB prog 249 [.int .i64 (ae bT n i:Nat),.int .i64 (9:Nat)] (.str (low 9 (ae bT n i))):=fun i=>by
  have h:=yx (ae bT n i) 9 (i4 (cz bf n i) (by decide)) (by decide);have J:nd (ae bT n i)<=9:=sd (cz bf n i)
  rwa [show max 9 (nd (ae bT n i))=9 by omega]at h
 have a:bk (n/bT^0)=bk n:=by rw[i6,js]
 have im:∀i,i+1<=k->bk (n/bT^i)=bk (n/bT^(i+1))++low 9 (ae bT n i):=fun i hi=>XL (h5 (h2 (by decide) hi) q);have K:k<=1000000:=by rw[f]at B;omega
 have D:bO z=if z<0 then 45::bk n else bk n:=by rw[bO,f]
 have N:ae bT n k<bT:=cz bf n k;have C:∀i,ae bT n i<bT:=fun i=>cz bf n i;obtain⟨T,j⟩:∃T:Nat->List Nat,∀i,bk (n/bT^i)=T i:=⟨_,fun _=>rfl⟩
 have l:∀i,(T i).length<=9000000+9:=fun i=>by
  rw[<-j];refine h5 (vh (k:=9*(k+1)) ?_ o_) o_;rw[ko];exact h6 (j7 _ _) g
 simp only[j]at c a im;rw[D];simp only[eG,f,eT,<-a];generalize hx:aA bT n=x at*;have w1:ec.wrap ((k:Int)+1-1)=k:=by rw[Int.add_sub_cancel];exact aQ _ o_ o_
 have H:ec.wrap (k:Int)=k:=aQ _ o_ o_;have u:ec.wrap ((k:Int)+1-2)=(k:Int)-1:=by rw[aQ _ o_ o_];omega
 have A:¬(k:Int)+1=0:=o_
 have e:k<x.length:=o_
 have t:=m k e;have F:x[k]?=some (ae bT n k):=by rw[gm e,t]
 simp[f244,aa,hk,A,w1,H,u,e,t,F];refine c2 c ?_;simp[aa,hk,u];refine lp (α:=Nat) (fun i=>⟨[(4,.p (.int .i64 ((i:Int)-1))),(3,.p (.str (T i))),(1,.ptr 0 [])],[.box false (.p (.st 257 [.bool (decide (z<0)),.seq (x.map fun x:Nat=>.int .i64 x)]))]⟩)
  (fun i=>i<=k) (fun i=>i) k (ix _) ?_
 rintro i hi;have P:=C i;rcases i with _|i
 ·by_cases o:z<0
  ·have b:=h6 (lv (l 0) 1) (show 9000000+9+1<9223372036854775808 by decide);rw[a,j4]at b;simp[o,aa,a,b]
  ·simp[o,aa,a]
 ·have d:i<x.length:=by omega
  have s:=m i d;have E:x[i]?=some (ae bT n i):=by rw[gm d,s]
  have y:¬(i:Int)<0:=o_
  have I:ec.wrap ((i:Int)-1)=(i:Int)-1:=aQ _ o_ o_;have b:=h6 (lv (l (i+1)) 9) (show 9000000+9+9<9223372036854775808 by decide);have aN:=im i hi;simp[y,aa,d,s,E];refine c2 (w i) ?_;simp[I,rz];refine⟨b,?_⟩;exact rd i (show i<=k by omega) (he:=by simp[aN])
theorem WM{s:List Nat}{i:Nat}(h:i<s.length):bd (s.take (i+1))=bd (s.take i)*10+(s[i]-48):=by
 rw[g9 h,yA]
theorem vz{s:List Nat}{p:Nat->Bool}(h:s.all p=true)(i:Nat):(s.take i).all p=true:=by
 rw[gB]at h⊢;intro x hx;exact h x (List.mem_of_mem_take hx)
theorem Ms{s:List Nat}{p:Nat->Bool}(h:s.all p=true)(i:Nat):(s.drop i).all p=true:=by
 rw[gB]at h⊢;intro x hx;exact h x (List.mem_of_mem_drop hx)
theorem zw{c:Nat}(h:ct c=true):48<=c/\c<=57:=by
 simpa[ct]using h
theorem zj(s:List Nat)(e:s.all ct=true)(A:s.length<=18):aB prog 247 [.str s] (.int .i64 (bd s:Nat)):=by
 refine aJ nf (i_ func247) mix (by simp[f247]) ?_;obtain⟨L,g⟩:∃L,L=s.length:=⟨_,rfl⟩
 have k:bd (s.take L)=bd s:=by rw[g,hQ]
 rw[<-k];obtain⟨v,b⟩:∃v:Nat->Nat,∀i,bd (s.take i)=v i:=⟨_,fun _=>rfl⟩
 have o:v 0=0:=by rw[<-b];rfl
 have q:∀i(h:i<s.length),v (i+1)=v i*10+(s[i]-48):=fun i h=>by rw[<-b,<-b,WM h]
 have f:∀i,i<=L->v i<10^i:=fun i hi=>by
  rw[<-b];exact jK i _ (by rw[g4];omega) (vz e i)
 rw[b];simp[f247];refine lp (α:=Nat) (fun i=>⟨[(4,.p (.int .i64 i)),(3,.p (.int .i64 (v i:Nat))),(0,.p (.str s))],[]⟩)
  (fun i=>i<=L) (fun i=>L-i) 0 (jF _) ?_ (he:=by simp[o])
 intro i hi
 by_cases m:i<L
 ·have a:i<s.length:=by omega
  have j:=f i hi;have z:=f (i+1) m;have hc:=zw (gB.1 e s[i] (g5 a));have hs:=q i a;have n:10^i<=10^17:=h2 (by decide) o_;have y:v i<100000000000000000:=h3 j (by exact n);generalize d:s[i]=c at*;generalize B:v i=x at*;have w1:ec.wrap (10*(x:Int))=10*(x:Int):=aQ _ o_ o_;have r:ec.wrap (10*(x:Int)+c)=10*(x:Int)+c:=aQ _ o_ o_;have t:ec.wrap (10*(x:Int)+c-48)=(v (i+1):Nat):=by rw[hs,aQ _ o_ o_];omega
  have u:ec.wrap ((i:Int)+1)=(i:Int)+1:=aQ _ o_ o_;have w:ec.wrap (c:Int)=c:=aQ _ o_ o_;have l:s[i]?=some c:=by rw[gm a,d]
  simp[a,d,l,w1,r,t,u,w];exact rd (i+1) (show i+1<=L by omega)
 ·have a:¬i<s.length:=by omega
  have:i=L:=o_
  subst this;simp[a]
theorem Ng(c:Nat):∀s:List Nat,c∉(cg c s).1
 |[]=>by simp[cg]
 |x::r=>by
  rw[cg]
  split
  ·simp
  ·rename_i h;simp only[hn,not_or];exact⟨fun e=>h e.symm,Ng c r⟩
theorem vR(s:List Nat)(x:s.length<=1048576):aB prog 246 [.str s] (.int .i64 ((cg 47 s).1.length:Nat)):=by
 refine aJ nf (i_ func246) mix (by simp[f246]) ?_;obtain⟨k,hk⟩:∃k,(cg 47 s).1.length=k:=⟨_,rfl⟩
 have t:=Ng 47 s;have w:k<=s.length:=by rw[<-hk];exact(tG 47 s).1
 have n:∀j(h:j<s.length),j<k->¬s[j]=47:=by
  intro j h v e;apply t;rcases pM 47 s with⟨_,b⟩|⟨_,b,_⟩
  ·have:s[j]=(cg 47 s).1[j]' o_:=by
    conv=>lhs;rw[hP b]
    rw[List.getElem_append_left]
   have d:(cg 47 s).1[j]' o_∈(cg 47 s).1:=g5 _;rw[<-this,e]at d;exact d
  ·rw[b];have d:s[j]∈s:=g5 _
   rwa [e]at d
 have b:∀(h:k<s.length),s[k]=47:=by
  intro h;rcases pM 47 s with⟨_,g⟩|⟨_,g,_⟩
  ·rw[hP g,List.getElem_append_right o_];simp[hk]
  ·rw[g]at hk;omega
 rw[hk];simp[f246];refine lp (α:=Nat) (fun i=>⟨[(3,.p (.int .i64 i)),(0,.p (.str s))],[]⟩)
  (fun i=>i<=k) (fun i=>k-i) 0 (jF _) ?_
 intro i hi;have u:ec.wrap ((i:Int)+1)=(i:Int)+1:=aQ _ o_ o_
 by_cases q:i<k
 ·have a:i<s.length:=by omega
  have f:=n i a q;generalize m:s[i]=c at*;have l:s[i]?=some c:=by rw[gm a,m]
  have o:¬(c:Int)=47:=o_
  simp[a,m,l,o,f,u];exact rd (i+1) (show i+1<=k by omega)
 ·have r:i=k:=by omega
  subst r
  by_cases a:i<s.length
  ·have f:=b a;have l:s[i]?=some 47:=by rw[gm a,f]
   simp[a,f,l]
  ·have:i=s.length:=by omega
   simp[a,this]
theorem NO(n:Int)(M:-9223372036854775808<=n)(O:n<=9223372036854775807):aB prog 245 [.int .i64 n] (eG n):=by
 refine aJ nf (i_ func245) mix (by simp[f245]) ?_;obtain⟨N,P⟩:∃N,n.natAbs=N:=⟨_,rfl⟩
 have D:N<bT^3:=by
  have:bT^3=1000000000000000000000000000:=by decide
  omega
 obtain⟨g,a⟩:∃g:Nat->Nat,∀i,N/bT^i=g i:=⟨_,fun _=>rfl⟩
 have F:g 0=N:=by rw[<-a,i6,js]
 have H:∀i,g (i+1)=g i/bT:=fun i=>by rw[<-a,<-a,ip,h9]
 have A:∀i,ae bT N i=g i% bT:=fun i=>by rw[<-a];rfl
 have G:g 3=0:=by rw[<-a,i5 D]
 have k:∀i,g i<=N:=fun i=>by rw[<-a];exact j7 _ _
 have y:∀i,i<=3->g i=0->aB prog 254 [.bool (decide (n<0)),.seq (iP (row bT i N))] (eG n):=fun i I hi=>by
  have h:=CV (decide (n<0)) (row bT i N) N (jM bf (by
   rw[<-a]at hi;rcases ik N (bT^i)with h|h
   ·exact h
   ·have:=j8 h (i1 (show 0<bT by decide));omega)) (by simp[row];omega)
  have e:(if decide (n<0)=true then -(N:Int)else N)=n:=by
   by_cases c:n<0
   ·simp[c];omega
   ·simp[c];omega
  rwa [e]at h
 obtain⟨m,f⟩:∃m:Nat->Int,∀i,(if n<0 then -(g i:Int)else g i)=m i:=⟨_,fun _=>rfl⟩
 have J:m 0=n:=by rw[<-f,F];split<;>omega
 simp only[eG]at y⊢;simp[f245];refine lp (α:=Nat) (fun i=>⟨[(0,.p (.int .i64 (m i))),(2,.ptr 0 []),(3,.sl 1 i 1 0 i),(4,.p (.bool (decide (n<0))))],[.box false (.p (.st 257 [.bool false,.aO])),.arr .grow i 1 (eh i N)]⟩)
  (fun i=>i<=3) (fun i=>3-i) 0 (jF _) ?_ (he:=by simp[J,eh]) (hh:=by simp[eh])
 intro i hi;have Q:bT=1000000000:=rfl;have L:=i2 (g i) (show 0<bT by decide);have R:=k i;have E:=i0 (g i) bT;have u:g i% bT=ae bT N i:=(A i).symm
 by_cases d:g i=0
 ·have b:m i=0:=by rw[<-f,d];split<;>rfl
  have hs:=y i hi d;rcases i with _|i
  ·simp[b];refine cp hs (by simp[eh];first|exact⟨rfl,rfl⟩|rfl) ?_ (h1:=by simp[iP,row]);simp[aa]
  ·have j:¬eh (i+1) N=[]:=by intro h;have:=congrArg hA h;rw[iL]at this;simp at this
   simp[b];refine cp hs (by simp[iL,MB,j];first|exact⟨rfl,rfl⟩|rfl) ?_ (h1:=by simp[iP,row,ha,gt]);simp[aa]
 ·have I:i<3:=by
   rcases ik i 3 with h|h
   ·exact h
   ·rw[show i=3 by omega]at d;exact(d G).elim
  have z:=H i;have K:=A i;have l:=q8 i N;have x:g0 i (eh i N)=eh i N:=gt (by rw[iL];exact ix _);rw[K]at l;obtain⟨r,B⟩:∃r,g i% bT=r:=⟨_,rfl⟩
  rw[B]at l L E;have u:=B.symm
  by_cases c:n<0
  ·have b:m i= -(g i:Int):=by rw[<-f,if_pos c]
   have o:m (i+1)= -(g (i+1):Int):=by rw[<-f,if_pos c]
   have j:¬(g i:Int)=0:=o_
   have s:((g i:Nat):Int).tmod 1000000000=r:=by rw[u,ee (ei _),en];rfl
   have q:((g i:Nat):Int).tdiv 1000000000=(g (i+1):Nat):=by rw[z,ej (ei _),eq (g i)];rfl
   have wr:ec.wrap (r:Int)=r:=aQ _ o_ o_;have C:ec.wrap (-(r:Int))= -r:=aQ _ o_ o_;have t:ec.wrap (-(g (i+1):Int))= -(g (i+1):Nat):=aQ _ (by have:=k (i+1);omega) (by have:=k (i+1);omega)
   by_cases v:r=0
   ·simp[b,d,j,s,q,wr,C,t,v,x,iL];refine⟨by simp only[cV];omega,?_⟩;exact rd (i+1) (show i+1<=3 by omega) (he:=by simp[o]) (hh:=by simp[l,v])
   ·have w:0<r:=by omega
    simp[b,d,j,s,q,wr,C,t,v,w,x,iL];refine⟨by simp only[cV];omega,?_⟩;exact rd (i+1) (show i+1<=3 by omega) (he:=by simp[o]) (hh:=by simp[l])
  ·have b:m i=(g i:Int):=by rw[<-f,if_neg c]
   have o:m (i+1)=(g (i+1):Int):=by rw[<-f,if_neg c]
   have j:¬(g i:Int)=0:=o_
   have s:((g i:Nat):Int).tmod 1000000000=r:=by rw[u,ee (ei _),en];rfl
   have q:((g i:Nat):Int).tdiv 1000000000=(g (i+1):Nat):=by rw[z,ej (ei _),eq (g i)];rfl
   have wr:ec.wrap (r:Int)=r:=aQ _ o_ o_;have t:ec.wrap (g (i+1):Int)=(g (i+1):Nat):=aQ _ (by have:=k (i+1);omega) (by have:=k (i+1);omega);have w:¬(r:Int)<0:=o_
   simp[b,d,j,s,q,wr,t,w,x,iL];refine⟨by simp only[cV];omega,?_⟩;exact rd (i+1) (show i+1<=3 by omega) (he:=by simp[o]) (hh:=by simp[l])
theorem JM{d:List Nat}(c:d.all ct=true){L i:Nat}(f:L=d.length)(h:9*(i+1)<=L):
 bd (d.take (L-9*(i+1)))=bd (d.take (L-9*i))/10^9/\bd ((d.take (L-9*i)).drop (L-9*(i+1)))=bd (d.take (L-9*i))% 10^9:=by
 have e:=hd (L-9*(i+1)) (d.take (L-9*i));rw[hD,le o_]at e;have a:=Le (d.take (L-9*(i+1))) ((d.take (L-9*i)).drop (L-9*(i+1)));rw[e]at a;have b:((d.take (L-9*i)).drop (L-9*(i+1))).length=9:=by rw[ho,g4];omega
 rw[b]at a;have g:=jK 9 _ b (Ms (vz c _) _);generalize bd ((d.take (L-9*i)).drop (L-9*(i+1)))=y at*;generalize bd (d.take (L-9*(i+1)))=x at*;rw[a];omega
theorem CW(s:List Nat)(k:(dd s).all ct=true)(J:s.length<=1000000):aB prog 250 [.str s] (eG (if b8 s=true then -(bd (dd s):Int)else bd (dd s))):=by
 refine aJ nf (i_ func250) mix (by simp[f250]) ?_;obtain⟨d,v⟩:∃d,dd s=d:=⟨_,rfl⟩
 obtain⟨neg,f⟩:∃neg,b8 s=neg:=⟨_,rfl⟩
 obtain⟨N,F⟩:∃N,bd d=N:=⟨_,rfl⟩
 have ah:d.length<=1000000:=by rw[<-v];exact h5 (px s).1 J
 rw[v]at k⊢;rw[f,F];have ai:=J;simp[f250,-bu];rw[bu];simp[-bu];refine join (fun st=>aP st.env 0=.p (.str s)/\aP st.env 2=.ptr 0 []/\aP st.env 3=.p (.bool neg)/\st.heap=[.box false (.p (.st 257 [.bool false,.aO]))]) ?_ ?_
 ·cases s with
  |nil=>simp[<-f,b8]
  |cons c r=>
   by_cases hc:c=45
   ·simp[<-f,b8,hc]
   ·have T:¬(c:Int)=45:=by omega
    simp[<-f,b8,hc,T]
 rintro⟨S,U⟩ ⟨a,b,e,n⟩;dsimp only at a b e n;subst n;refine join (fun st=>aP st.env 0=.p (.str d)/\aP st.env 2=.ptr 0 []/\aP st.env 3=.p (.bool neg)/\st.heap=[.box false (.p (.st 257 [.bool false,.aO]))]) ?_ ?_
 ·cases neg with
  |false=>
   have D:s=d:=by rw[<-v,dd,f];rfl
   simp[a,b,e,D]
  |true=>
   cases s with
   |nil=>simp[b8]at f
   |cons c r=>
    have D:r=d:=by rw[<-v,dd,f];rfl
    simp[a,b,e,D]
 clear a b e;rintro⟨S,U⟩ ⟨a,b,e,n⟩;dsimp only at a b e n;subst n;obtain⟨L,u⟩:∃L,L=d.length:=⟨_,rfl⟩
 obtain⟨g,l⟩:∃g:Nat->Nat,∀i,N/bT^i=g i:=⟨_,fun _=>rfl⟩
 have B:∀i,9*i<=L->bd (d.take (L-9*i))=g i:=by
  intro i
  induction i with
  |zero=>intro _;rw[l1,Nat.sub_zero,u,hQ,F,<-l,i6,js]
  |succ i ad=>
   intro h;rw[(JM k u h).1,ad o_,<-l,<-l,ip,h9];rfl
 have V:∀i,9*(i+1)<=L->bd ((d.take (L-9*i)).drop (L-9*(i+1)))=ae bT N i:=fun i h=>by
  rw[(JM k u h).2,B i o_,<-l];rfl
 have ac:∀i,9*(i+1)<=L->aB prog 247 [.str ((d.take (L-9*i)).drop (L-9*(i+1)))] (.int .i64 (ae bT N i:Nat)):=fun i h=>by
  rw[<-V i h];exact zj _ (Ms (vz k _) _) (by rw[ho,g4];omega)
 have I:∀i,9*i<=L->L<=9*i+9->g i=ae bT N i/\N<bT^(i+1):=fun i j q=>by
  have H:=jK _ (d.take (L-9*i)) rfl (vz k _);rw[B i j]at H;have y:g i<bT:=h3 H (by
   rw[show bT=10^9 from rfl];exact h2 (by decide) (by rw[g4];omega))
  refine⟨by rw[ae,l,ii y],?_⟩;rw[<-l,ih (i1 (by decide))]at y;rw[h9,h4];exact y
 have W:∀i,9*i<=L->L<=9*i+9->aB prog 247 [.str (d.take (L-9*i))] (.int .i64 (ae bT N i:Nat)):=fun i j q=>by
  rw[<-(I i j q).1,<-B i j];exact zj _ (vz k _) (by rw[g4];omega)
 have G:∀i,9*i<=L->L<=9*i+9->aB prog 254 [.bool neg,.seq (iP (row bT (i+1) N))] (eG (if neg=true then -(N:Int)else N)):=fun i j q=>
  CV neg (row bT (i+1) N) N (jM bf (I i j q).2) (by simp[row];omega)
 generalize (if neg=true then -(N:Int)else N)=z at*;simp only[eG]at G⊢;rw[bu];simp[a,b,e,-bu];rw[bu];simp[a,b,e];refine lp (α:=Nat) (fun i=>⟨[(0,.p (.str (d.take (L-9*i)))),(2,.ptr 0 []),(3,.p (.bool neg)),(4,.sl 1 i 1 0 i)],[.box false (.p (.st 257 [.bool false,.aO])),.arr .grow i 1 (eh i N)]⟩)
  (fun i=>9*i<=L) (fun i=>L-i) 0 (jF _) ?_ (he:=by simp[a,b,e,eh,u]) (hh:=by simp[eh])
 intro i hi;have x:(d.take (L-9*i)).length=L-9*i:=by rw[g4];omega
 have o:=ac i;have w:=W i hi;have E:(d.take (L-9*i)).take (L-9*(i+1))=d.take (L-9*(i+1)):=by rw[hD,le o_]
 rw[show L-9*(i+1)=L-9*i-9 by omega]at o E;obtain⟨m,C⟩:∃m,m=L-9*i:=⟨_,rfl⟩
 rw[<-C]at x o w E;have O:=q8 i N;have P:g0 i (eh i N)=eh i N:=gt (by rw[iL];exact ix _);have K:i+1<=cV:=by simp only[cV];omega
 by_cases af:9<m
 ·have o:=o o_;have Q:ec.wrap ((m:Int)-9)=(m:Int)-9:=aQ _ o_ o_;have R:((m:Int)-9).toNat=m-9:=by omega
  have M:(9:Int)<=m:=o_
  have Z:9*(i+1)<=L:=o_
  rw[<-C];generalize ag:g0 m d=t at*;have ab:g0 m t=t:=gt o_;have A:(9:Int)<m:=o_
  have X:m-9=L-9*(i+1):=o_
  simp[x,A,Q,R,M,ab];refine c1 o ?_;simp[P,iL,K,<-O,x,Q,R,M,E];exact rd (i+1) Z (he:=by simp[X])
 ·have w:=w o_;have hs:=G i hi o_;rw[<-C];generalize g0 m d=t at*;have A:¬(9:Int)<m:=by omega
  simp[x,A];refine c1 w ?_;simp[P,iL,K,<-O];have Y:¬eh (i+1) N=[]:=by intro h;have:=congrArg hA h;rw[iL]at this;simp at this
  refine cp hs (by simp[iL,MB,Y];first|exact⟨rfl,rfl⟩|rfl) ?_ (h1:=by simp[iP,row,ha,gt]);simp[aa]
def kq(s:List Nat):Int:=if b8 s=true then -(bd (bH s):Int)else bd (bH s)
def iM(s:List Nat):Nat:=if eA s=true then bd (bQ s)else 1
theorem LZ(s:List Nat)(q:(bH s).all ct=true)(l:(bQ s).all ct=true)(I:s.length<=1000000):aB prog 179 [.str s] (.aE [eG (kq s),eG (iM s:Nat)]):=by
 refine aJ nf (i_ func179) mix (by simp[f179]) ?_;have e:=vR s o_;obtain⟨K,f,h,D⟩:=K3 s;have H:=tG 47 s;have C:=NO 1 (by decide) (by decide);rcases pM 47 s with⟨q1,b⟩|⟨q1,b,M⟩
 ·have a:=CW (cg 47 s).1 (by rw[f];exact q) o_;rw[K,f]at a;have d:=CW (cg 47 s).2.1 (by
   rw[h];rw[gB]at l⊢;intro x hx;exact l x ((px _).2 x hx)) o_
  have J:b8 (bQ s)=false:=by
   rw[b8];cases g:bQ s with
   |nil=>simp
   |cons c r=>
    have:=zw (gB.1 l c (by rw[g];simp));simp;omega
  rw[h,dd,J]at d;have m:eA s=true:=by rw[<-D];exact q1
  have oO:kq s=if b8 s=true then -(bd (bH s):Int)else bd (bH s):=rfl
  have j:iM s=bd (bQ s):=by rw[iM,if_pos m]
  rw[<-oO]at a;simp only[dz,if_false]at d;rw[<-j]at d;generalize L:kq s=z at*;generalize iM s=dn at*;obtain⟨i,o⟩:∃i,(cg 47 s).1=i:=⟨_,rfl⟩
  obtain⟨E,p⟩:∃E,(cg 47 s).2.1=E:=⟨_,rfl⟩
  rw[o,p]at b;rw[o]at e a;rw[p]at h;obtain⟨k,n⟩:∃k,i.length=k:=⟨_,rfl⟩
  rw[n]at e;have hk:k<s.length:=by rw[b];simp;omega
  have B:s.take k=i:=by rw[b,<-n];simp
  have g:s.drop (k+1)=bQ s:=by
   rw[<-h]
   conv=>lhs;rw[b,<-n]
   simp
  clear H b o p;have wk:ec.wrap ((k:Int)+1)=(k:Int)+1:=aQ _ o_ o_;have F:((k:Int)+1).toNat=k+1:=o_
  have y:¬(k:Int)=s.length:=o_
  have u:k+1<=s.length:=hk;have w:k<=s.length:=o_
  have t:(0:Int)<=k+1:=o_
  have v:(k:Int)+1<=s.length:=o_
  simp only[eG]at a d⊢;simp[f179];refine c1 e ?_;simp[y,wk,F,B,g,u,w,t,v];refine e1 a ?_;simp[y,wk,F,B,g,u,w,t,v];refine e1 d ?_;simp[aa]
 ·have a:=CW s (by
   have A:=f;rw[b]at A;rw[A];exact q) I
  have m:eA s=false:=by rw[<-D];exact q1
  have G:dd s=bH s:=by rw[b]at f;exact f
  have oO:kq s=if b8 s=true then -(bd (bH s):Int)else bd (bH s):=rfl
  have j:iM s=1:=by rw[iM,m];rfl
  rw[G,<-oO]at a;rw[j];rw[b]at e;generalize kq s=z at*;simp only[eG]at a C⊢;simp[f179];refine c1 e ?_;simp;refine c1 a ?_;simp;refine c1 C ?_;simp[aa]
theorem JN(n:Nat):(bk n).length<=9*(aA bT n).length+1:=by
 rcases l0 n with h|h
 ·subst h;rw[qY];simp
 ·have b:0<(aA bT n).length:=by rw[gw,Ne,vx];omega
  have a:=cq bf n;rw[show bT^(aA bT n).length=10^(9*(aA bT n).length)by rw[ko];rfl]at a;exact h5 (vh a o_) o_
def jf(n d:Int):Rat:=mp n d
theorem Jy(n g:Nat):(aA bT (n/g)).length<=(aA bT n).length:=
 dN bf _ _ (h6 (j7 n g) (cq bf n))
theorem V5(n d:Nat)(a:0<d):(aA bT (i7 n d)).length<=(aA bT d).length:=
 dN bf _ _ (h6 (kt n a) (cq bf d))
theorem IV(n d:Int)(L:d≠0)(s:(aA bT n.natAbs).length<=400000)(j:(aA bT d.natAbs).length<=400000):aB prog 180 [eG n,eG d] (.str (bE (jf n d))):=by
 refine aJ nf (i_ func180) mix (by simp[f180]) ?_;simp[f180,-bu,aa];rw[bu];simp[-bu,aa];refine join (fun st=>∃(e:Int)(d':Nat),0<d'/\(aA bT e.natAbs).length<=400000/\(aA bT d').length<=400000/\jf e d'=jf n d/\aP st.env 2=.ptr 0 []/\aP st.env 3=.ptr 1 []/\st.heap=[.box false (.p (eG e)),.box false (.p (eG (d':Nat)))]) ?_ ?_
 ·have P:=NR n s;have O:=NR d j
  by_cases h:d<0
  ·simp[h,aa];refine e1 P ?_;simp[aa];refine e1 O ?_;simp[aa];refine⟨by repeat' first|rfl|apply And.intro,?_⟩;refine⟨-n,d.natAbs,o_,by rw[fb];exact s,j,?_,rfl,?_⟩
   ·rw[em o_];exact m4 _ _
   ·rw[em o_]
  ·have A:((d.natAbs:Nat):Int)=d:=ew o_;simp[h,aa];exact⟨n,d.natAbs,o_,s,j,by rw[A],rfl,by rw[A]⟩
 rintro⟨T,U⟩ ⟨e,d',k1,k2,k3,k4,l,m,D⟩;dsimp only at l m D;subst D;rw[<-k4,show jf e d'=mp e d' from rfl];clear k4 s j L;obtain⟨u,v⟩:=ma (n:=e) (show d'≠0 by omega);obtain⟨g,k⟩:∃g,i7 e.natAbs d'=g:=⟨_,rfl⟩
 have r:0<g:=by rw[<-k];exact j5 _ k1
 have B:(aA bT g).length<=400000:=by rw[<-k];exact h5 (V5 _ _ k1) k3
 rw[k]at u v;have y:=LB e.natAbs d' k2 k3;rw[k]at y;have I:=Ee e.natAbs g r k2 B;have J:=Ee d' g r k3 B;have Y:(aA bT (e.natAbs/g)).length<=400000:=h5 (Jy _ _) k2;have Z:(aA bT (d'/g)).length<=400000:=h5 (Jy _ _) k3;have w:=qP (decide (e<0)) (e.natAbs/g) o_;have f:=qP false (d'/g) o_;have t:(if decide (e<0)=true then -((e.natAbs/g:Nat):Int)else((e.natAbs/g:Nat):Int))=(mp e d').num:=by
  rw[u];have M:(g:Int)∣e:=by rw[<-k];exact e8.2 (kv _ _)
  obtain⟨c,hc⟩:=M;have N:(g:Int)≠0:=o_
  rw[hc,e7 _ N,e6,ed,Nat.mul_div_cancel_left _ r]
  by_cases K:c<0
  ·have:(g:Int)*c<0:=fl o_ K;simp[this];omega
  ·have:¬(g:Int)*c<0:=by
    have:=fd (a:=(g:Int)) (b:=c) o_ o_;omega
   simp[this];omega
 rw[t]at w;simp only[dz,if_false]at f;have z:=DC (mp e d').num (by
  rw[<-t];split
  ·rw[fb,ed];omega
  ·rw[ed];omega)
 have i:=DC ((d'/g:Nat):Int) (by rw[ed];omega);rw[vi]at i;have Q:0<d'/g:=by
  refine j8 ?_ r;rw[<-k];exact kt _ k1
 have V:(bO (mp e d').num).length<=3600002:=by
  refine h5 (Dg _) ?_;have h:=JN (mp e d').num.natAbs;have:(mp e d').num.natAbs=e.natAbs/g:=by
   rw[<-t];split
   ·rw[fb,ed]
   ·rw[ed]
  rw[this]at h⊢;omega
 have W:(bk (d'/g)).length<=3600001:=by
  have h:=JN (d'/g);omega
 have F:bE (mp e d')=if d'/g=1 then bO (mp e d').num else bO (mp e d').num++47::bk (d'/g):=by rw[bE,v]
 rw[F];clear F t u v;generalize (mp e d').num=G at*;generalize ab:d'/g=q at*;simp only[eG,ed]at w f z i⊢;simp[l,m,aa];refine c2 y ?_;simp[l,m,aa];refine c2 I ?_;simp[l,m,aa];refine c2 J ?_;simp[l,m,aa];refine c2 w ?_;simp[l,m,aa];refine c1 z ?_;have R:∀h:q=1,aA bT q=[1]:=fun h=>by rw[h];exact nR (by decide) (by decide)
 by_cases o:q=1
 ·have x:=R o;simp[o,eT,nR (show 0<1 by decide) (show 1<bT by decide)]
 ·have C:(bO G).length+1<9223372036854775808:=by omega
  have X:(bO G).length+((bk q).length+1)<9223372036854775808:=o_
  by_cases E:q<bT
  ·have x:=nR Q E;have S:¬(q:Int)=1:=by omega
   simp[o,eT,x,S];refine⟨C,?_⟩;simp only[eT,x,gE,hv]at f i;refine c2 f ?_;simp;refine c1 i ?_;simp;omega
  ·have j:¬((aA bT q).length:Int)=1:=by
    intro h;have H:(aA bT q).length=1:=o_
    have:=cq bf q;rw[H,km]at this;exact E this
   simp[o,eT,j];refine⟨C,?_⟩;simp only[eT]at f i;refine c2 f ?_;simp;refine c1 i ?_;simp;omega
theorem Wa{n:Int}{g:Nat}(a:0<g)(h:g∣n.natAbs):n.tdiv g=n/g:=by
 obtain⟨c,hc⟩:=e8.2 h;subst hc;rw[Int.mul_tdiv_cancel_left _ o_,e7 _ o_]
theorem P0(n d:Int)(M:d≠0)(S:n.natAbs<=4000000000000000000)(N:d.natAbs<=4000000000000000000):aB prog 178 [.int .i64 n,.int .i64 d] (.str (bE (jf n d))):=by
 refine aJ nf (i_ func178) mix (by simp[f178]) ?_;have a1:¬n< -4000000000000000000:=o_
 have f:¬4000000000000000000<n:=o_
 have i:¬d< -4000000000000000000:=o_
 have j:¬4000000000000000000<d:=o_
 simp[f178,a1,f,i,j,-bu];rw[bu];simp[a1,f,i,j,-bu];rw[bu,bu];simp[a1,f,i,j,-bu];refine join (fun st=>∃(b:Int)(d':Nat),0<d'/\b.natAbs<=4000000000000000000/\d'<=4000000000000000000/\jf b d'=jf n d/\aP st.env 0=.p (.int .i64 b)/\aP st.env 1=.p (.int .i64 (d':Nat))/\st.heap=[]) ?_ ?_
 ·have w1:ec.wrap (-n)= -n:=aQ _ o_ o_;have m:ec.wrap (-d)= -d:=aQ _ o_ o_
  by_cases h:d<0
  ·simp[h,w1,m,a1,f,i,j];refine⟨-n,d.natAbs,o_,o_,o_,?_,rfl,?_⟩
   ·rw[em o_];exact m4 _ _
   ·rw[em o_]
  ·have H:((d.natAbs:Nat):Int)=d:=ew o_;simp[h,a1,f,i,j];exact⟨n,d.natAbs,o_,o_,o_,by rw[H],rfl,by rw[H]⟩
 rintro⟨U,V⟩ ⟨b,d',k1,k2,k3,k4,o,r,I⟩;dsimp only at o r I;subst I;rw[<-k4,show jf b d'=mp b d' from rfl];clear k4 S N M a1 f i j;obtain⟨w,C⟩:=ma (n:=b) (show d'≠0 by omega);obtain⟨g,k⟩:∃g,i7 b.natAbs d'=g:=⟨_,rfl⟩
 have E:0<g:=by rw[<-k];exact j5 _ k1
 rw[k]at w C;have G:=ZO b.natAbs d' o_ o_;rw[k]at G;have R:(if b< -b then -b else b)=(b.natAbs:Nat):=by split<;>omega
 have w1:ec.wrap (-b)= -b:=aQ _ o_ o_;have y:b.tdiv g=(mp b d').num:=by rw[w,Wa E (by rw[<-k];exact kv _ _)]
 have z:(d':Int).tdiv g=(d'/g:Nat):=by rw[ej (ei _),eq]
 have T:(mp b d').num.natAbs<=4000000000000000000:=by
  have P:(g:Int)∣b:=by rw[<-k];exact e8.2 (kv _ _)
  obtain⟨c,hc⟩:=P;have Q:(g:Int)≠0:=o_
  rw[w,hc,e7 _ Q];rw[hc,e6,ed]at k2;exact h5 (ls _ E) k2
 have O:d'/g<=4000000000000000000:=h5 (j7 _ _) k3;have aa:0<d'/g:=by
  refine j8 ?_ E;rw[<-k];exact kt _ k1
 have K:bE (mp b d')=if d'/g=1 then bO (mp b d').num else bO (mp b d').num++47::bk (d'/g):=by rw[bE,C]
 rw[K];clear K w C;generalize (mp b d').num=a at*;generalize ab:d'/g=q at*;have x:¬g=0:=o_
 have t:=yx a.natAbs 1 o_ (by decide);have D:=yx q 1 o_ (by decide);have W:(bk a.natAbs).length<=19:=vh (h6 T (by decide)) (by decide);have X:(bk q).length<=19:=vh (h6 O (by decide)) (by decide);rw[show low (max 1 (nd a.natAbs)) a.natAbs=bk a.natAbs from rfl]at t;rw[show low (max 1 (nd q)) q=bk q from rfl]at D;have Z:(if a< -a then -a else a)=(a.natAbs:Nat):=by split<;>omega
 have m:ec.wrap (-a)= -a:=aQ _ o_ o_;have A:ec.wrap a=a:=aQ _ o_ o_;have B:ec.wrap (q:Int)=q:=aQ _ o_ o_;simp[o,r,w1,R];refine c2 G ?_;have J:(1:Int)<q↔¬q=1:=o_
 have L:ec.wrap 1=1:=rfl;have Y:(bk a.natAbs).length<9223372036854775808:=o_
 by_cases l:a<0
 ·have F:bO a=45::bk a.natAbs:=by rw[bO,if_pos l]
  rw[F];have v:a< -a:=o_
  have u:-a=(a.natAbs:Nat):=o_
  by_cases e:q=1
  ·simp[o,r,x,y,z,A,B,l,m,v,e];rw[u];refine c2 t ?_;simp[e,L];omega
  ·have s:=J.2 e;simp[o,r,x,y,z,A,B,l,m,v,e,s];rw[u];refine c2 t ?_;simp[e,s];refine⟨o_,o_,?_⟩;refine c2 D ?_;simp;omega
 ·have F:bO a=bk a.natAbs:=by rw[bO,if_neg l]
  rw[F];have u:a=(a.natAbs:Nat):=o_
  have v:¬a< -a:=o_
  by_cases e:q=1
  ·simp[o,r,x,y,z,A,B,l,m,v,e];rw[show PV.int .i64 a=.int .i64 (a.natAbs:Nat)by rw[<-u]];refine c2 t ?_;simp[e,L];omega
  ·have s:=J.2 e;simp[o,r,x,y,z,A,B,l,m,v,e,s];rw[show PV.int .i64 a=.int .i64 (a.natAbs:Nat)by rw[<-u]];refine c2 t ?_;simp[e,s];refine⟨o_,o_,?_⟩;refine c2 D ?_;simp;omega
theorem DL(n:Int)(a:-9223372036854775808<=n)(b:n<=9223372036854775807):aB prog 170 [.int .i64 n] (.str (bE (n:Rat))):=by
 have e:=NO n a b;have d:=DC n (by
  have c:n.natAbs<bT^3:=by
   have:bT^3=1000000000000000000000000000:=by decide
   omega
  have:=dN bf 3 _ c;omega)
 have hq:bE (n:Rat)=bO n:=by rw[bE,if_pos (m6 n),m5]
 rw[hq];refine aJ nf (i_ func170) mix (by simp[f170]) ?_;simp[f170];refine c1 e ?_;simp;refine c1 d ?_;simp
theorem ZY(s:List Nat)(C:(bH s).all ct=true)(J:(bQ s).all ct=true)(ai:s.length<=1000000):
 ∃(n d:Int)(b:Bool),aB prog 177 [.str s] (.aE [.int .i64 n,.int .i64 d,.bool b])/\(b=true->n=kq s/\d=(iM s:Nat)/\n.natAbs<1000000000/\iM s<1000000000):=by
 by_cases K:20<s.length
 ·refine⟨0,0,false,?_,fun h=>by cases h⟩;refine aJ nf (i_ func177) mix (by simp[f177]) ?_;have m:(20:Int)<s.length:=by omega
  simp[f177,m]
 obtain⟨d,l⟩:∃d,dd s=d:=⟨_,rfl⟩
 obtain⟨neg,g⟩:∃neg,b8 s=neg:=⟨_,rfl⟩
 have ag:d.length<=s.length:=by rw[<-l];exact(px s).1
 have i:=vR d o_;have A:(cg 47 d).1=bH s:=by rw[<-l];rfl
 have N:(cg 47 d).2.1=bQ s:=by rw[<-l];rfl
 have P:(cg 47 d).2.2=eA s:=by rw[<-l];rfl
 have q:=pM 47 d;rw[A,N,P]at q;rw[A]at i;obtain⟨k,hk⟩:∃k,(bH s).length=k:=⟨_,rfl⟩
 rw[hk]at i;have Q:k<=d.length:=by rw[<-hk,<-A];exact(tG 47 d).1
 have m:¬(20:Int)<s.length:=o_
 obtain⟨b,o⟩:∃b:Bool,b=(decide (k<=9)&&decide (d.length-k<=10)):=⟨_,rfl⟩
 have M:b=true->(kq s).natAbs<1000000000/\iM s<1000000000:=fun h=>by
  rw[o]at h;simp only[dp,decide_eq_true_eq]at h;have v:=jK _ (bH s) rfl C;rw[hk]at v;have ac:bd (bH s)<1000000000:=h3 v (h2 (n:=10) (by decide) h.1);refine⟨by rw[kq];split<;>omega,?_⟩;rcases q with⟨q1,f⟩|⟨q1,f,ae⟩
  ·have V:(bQ s).length<=9:=by
    have:=congrArg hA f;simp at this;omega
   have W:=jK _ (bQ s) rfl J;rw[iM,if_pos q1];exact h3 W (h2 (n:=10) (by decide) V)
  ·rw[iM,q1,if_neg (by decide)];decide
 refine⟨if b=true then kq s else 0,if b=true then(iM s:Nat)else 0,b,?_,fun h=>⟨if_pos h,if_pos h,by rw[if_pos h];exact(M h).1,(M h).2⟩⟩;refine aJ nf (i_ func177) mix (by simp[f177]) ?_;simp[f177,-bu];rw[bu];simp[-bu];rw[bu];simp[-bu];rw[bu,bu];simp[m,-bu];refine join (fun st=>aP st.env 5=.p (.str s)/\aP st.env 6=.p (.bool neg)/\st.heap=[]) ?_ ?_
 ·clear K m;cases s with
  |nil=>simp[<-g,b8]
  |cons c r=>
   by_cases hc:c=45
   ·simp[<-g,b8,hc]
   ·have Z:¬(c:Int)=45:=by omega
    simp[<-g,b8,hc,Z]
 rintro⟨T,aa⟩ ⟨e,a,u⟩;dsimp only at e a u;subst u;refine join (fun st=>aP st.env 5=.p (.str d)/\aP st.env 6=.p (.bool neg)/\st.heap=[]) ?_ ?_
 ·cases t:neg with
  |false=>
   have F:s=d:=by rw[<-l,dd,g,t];rfl
   simp[e,a,t,F]
  |true=>
   clear i q hk N A P K m o;cases s with
   |nil=>simp[b8]at g;rw[t]at g;cases g
   |cons c r=>
    have F:r=d:=by rw[<-l,dd,g,t];rfl
    simp[e,a,t,F]
 clear e a;rintro⟨T,aa⟩ ⟨e,a,u⟩;dsimp only at e a u;subst u;have wk:ec.wrap ((k:Int)+1)=(k:Int)+1:=aQ _ o_ o_;have G:ec.wrap ((d.length:Int)-k)=(d.length:Int)-k:=aQ _ o_ o_;have af:((k:Int)+1).toNat=k+1:=o_
 have ad:kq s=if neg=true then -(bd (bH s):Int)else bd (bH s):=by rw[kq,g]
 rw[ad];rcases ik 9 k with D|D
 ·have X:¬k<=9:=by omega
  have j:(9:Int)<k:=o_
  have E:b=false:=by rw[o];simp[X]
  simp[e,a];refine c1 i ?_;simp[e,a,j,E]
 rcases ik 10 (d.length-k)with I|I
 ·have U:¬d.length-k<=10:=by omega
  have j:¬(9:Int)<k:=o_
  have x:(10:Int)<(d.length:Int)-k:=o_
  have E:b=false:=by rw[o];simp[U]
  simp[e,a];refine c1 i ?_;simp[e,a,j,x,G,E]
 have j:¬(9:Int)<k:=o_
 have x:¬(10:Int)<(d.length:Int)-k:=o_
 have y:b=true:=by rw[o];simp[D,I]
 have R:d.take k=bH s:=by
  rcases q with⟨_,f⟩|⟨_,f,_⟩
  ·rw[f,<-hk];simp
  ·rw[<-f,<-hk];simp
 have L:=zj (bH s) C o_;have v:=jK _ (bH s) rfl C;rw[hk]at v;have ac:bd (bH s)<1000000000:=h3 v (h2 (n:=10) (by decide) D);rcases q with⟨q1,f⟩|⟨q1,f,ae⟩
 ·have z:k<d.length:=by rw[f];simp;omega
  have O:d.drop (k+1)=bQ s:=by
   conv=>lhs;rw[f,<-hk]
   simp
  have ah:(bQ s).length<=9:=by rw[<-O,ho];omega
  have Y:=zj (bQ s) J o_;have B:iM s=bd (bQ s):=by rw[iM,if_pos q1]
  rw[B];generalize bd (bQ s)=aj at*;generalize bd (bH s)=w at*;have H:ec.wrap (-(w:Int))= -(w:Int):=aQ _ o_ o_;clear f;simp[e,a];refine c1 i ?_;have a1:(0:Int)<=k+1:=o_
  have ab:k+1<=d.length:=z;have S:(k:Int)+1<=d.length:=o_
  simp[e,a,j,x,G,y,Q,R];refine c1 L ?_;cases neg<;>
  ·simp[e,a,z,ab,wk,af,O,a1,S];refine c1 Y ?_;simp[a,H,y]
 ·have z:¬k<d.length:=by rw[<-f,hk];omega
  have B:iM s=1:=by rw[iM,q1];rfl
  rw[B];generalize bd (bH s)=w at*;have H:ec.wrap (-(w:Int))= -(w:Int):=aQ _ o_ o_;simp[e,a];refine c1 i ?_;simp[e,a,j,x,G,y,Q,R];refine c1 L ?_;cases neg<;>simp[e,a,z,H,y]
theorem Cp{n k:Nat}(h:n<2^k):(aA bT n).length<=k/29+1:=by
 refine dN bf _ _ (h3 h ?_);have a:2^29<=bT:=by decide
 refine h5 ?_ (kC a _);rw[<-ko];exact h2 (by decide) o_
theorem MY(q:Rat):kq (bE q)=q.num:=by
 obtain⟨a,b,_,_⟩:=vB q;rw[kq,a,b,yR]
 by_cases h:q.num<0
 ·rw[if_pos (by simpa using h)];omega
 ·rw[if_neg (by simpa using h)];omega
theorem Ia(q:Rat):iM (bE q)=q.den:=by
 obtain⟨_,_,a,b⟩:=vB q;rw[iM,a,b]
 by_cases h:q.den=1
 ·rw[if_neg (by simpa using h),h]
 ·rw[if_pos (by simpa using h),if_neg h,yR]
theorem A8(q:Rat):(bH (bE q)).all ct=true/\(bQ (bE q)).all ct=true:=by
 obtain⟨_,a,_,b⟩:=vB q;refine⟨by rw[a];exact rP _,?_⟩;rw[b];split
 ·rfl
 ·exact rP _
theorem rh{q:Rat}(h:bL kB q):(bE q).length<=1000000:=by
 have a:(bk q.num.natAbs).length<=33334:=El (K:=kB) (k:=33334) h.1 (by decide) (by decide);have b:(bk q.den).length<=33334:=El (K:=kB) (k:=33334) h.2 (by decide) (by decide);have:=aIJ q;omega
theorem yX(q:Rat)(h:bL kB q):∃(n d:Int)(b:Bool),aB prog 177 [.str (bE q)] (.aE [.int .i64 n,.int .i64 d,.bool b])/\(b=true->n=q.num/\d=(q.den:Nat)/\n.natAbs<1000000000/\q.den<1000000000):=by
 have:=ZY (bE q) (A8 q).1 (A8 q).2 (rh h)
 rwa [MY,Ia]at this
theorem yw(q:Rat)(h:bL kB q):aB prog 179 [.str (bE q)] (.aE [eG q.num,eG (q.den:Nat)]):=by
 have:=LZ (bE q) (A8 q).1 (A8 q).2 (rh h)
 rwa [MY,Ia]at this
theorem awu(a b:Rat):jf (a.num*b.den+b.num*a.den) (a.den*b.den)=a+b:=by
 rw[Rat.add_def'];rfl
theorem aww(a b:Rat):jf (a.num*b.num) (a.den*b.den)=a*b:=by
 rw[Rat.mul_def,Rat.normalize_eq_mkRat];rfl
theorem Pq(a b:Rat):((a.den:Nat):Int)*(b.den:Nat)≠0:=by
 have c:=a.den_pos;have d:=b.den_pos;exact Int.ne_of_gt (Int.mul_pos o_ o_)
theorem wM{x y:Int}(hx:x.natAbs<1000000000)(a:y.natAbs<1000000000):(x*y).natAbs<=999999998000000001:=by
 rw[e6];exact kd (show x.natAbs<=999999999 by omega) (show y.natAbs<=999999999 by omega)
theorem vu{x y:Int}(hx:x.natAbs<2^kB)(a:y.natAbs<2^kB):(aA bT (x*y).natAbs).length<=10000:=by
 have h:=Cp (n:=(x*y).natAbs) (k:=kB+kB) (by rw[e6,jp];exact j3 hx a);exact h5 h (by decide)
theorem mU{x:Nat}(hx:x<2^kB):(aA bT x).length<=10000:=h5 (Cp hx) (by decide)
theorem PQ(a b:Rat)(h:bL kB a)(i:bL kB b):aB prog 95 [.str (bE a),.str (bE b)] (.str (bE (a+b))):=by
 obtain⟨n,d,p,A,E⟩:=yX a h;obtain⟨m,e,r,B,F⟩:=yX b i;have t:=yw a h;have u:=yw b i;refine aJ nf (i_ func95) mix (by simp[f95]) ?_;rw[<-awu];have z:=Pq a b
 by_cases j:p=true/\r=true
 ·obtain⟨rfl,rfl,k1,k2⟩:=E j.1;obtain⟨rfl,rfl,k3,k4⟩:=F j.2;have N:=wM k1 (show((b.den:Nat):Int).natAbs<1000000000 by rw[ed];exact k4);have O:=wM k3 (show((a.den:Nat):Int).natAbs<1000000000 by rw[ed];exact k2);have P:=wM (show((a.den:Nat):Int).natAbs<1000000000 by rw[ed];exact k2) (show((b.den:Nat):Int).natAbs<1000000000 by rw[ed];exact k4);have C:=P0 (a.num*b.den+b.num*a.den) (a.den*b.den) z o_ o_;have w1:ec.wrap (a.num*(b.den:Nat))=a.num*(b.den:Nat):=aQ _ o_ o_;have H:ec.wrap (b.num*(a.den:Nat))=b.num*(a.den:Nat):=aQ _ o_ o_;have I:ec.wrap (a.num*(b.den:Nat)+b.num*(a.den:Nat))=a.num*(b.den:Nat)+b.num*(a.den:Nat):=aQ _ o_ o_;have J:ec.wrap (((a.den:Nat):Int)*(b.den:Nat))=((a.den:Nat):Int)*(b.den:Nat):=aQ _ o_ o_;have g:p=true:=j.1;have q:r=true:=j.2;simp[f95];refine c1 A ?_;simp;refine c1 B ?_;simp[g,q,w1,H,I,J];refine c2 C ?_;simp
 ·have l:a.num.natAbs<2^kB:=h.1;have o:b.num.natAbs<2^kB:=i.1;have c:((a.den:Nat):Int).natAbs<2^kB:=by rw[ed];exact h.2
  have f:((b.den:Nat):Int).natAbs<2^kB:=by rw[ed];exact i.2
  have w:=vQ a.num (b.den:Nat) (by have:=mU l;have:=mU f;omega);have x:=vQ b.num (a.den:Nat) (by have:=mU o;have:=mU c;omega);have y:=vQ (a.den:Nat) (b.den:Nat) (by have:=mU c;have:=mU f;omega);have K:=vu l f;have L:=vu o c;have M:=vu c f;have v:=ZX (a.num*(b.den:Nat)) (b.num*(a.den:Nat)) o_ o_;have G:(aA bT (a.num*(b.den:Nat)+b.num*(a.den:Nat)).natAbs).length<=400000:=by
   refine h5 (Cp (k:=kB+kB+1) ?_) (by decide);have q1:(a.num*(b.den:Nat)).natAbs<2^(kB+kB):=by rw[e6,jp];exact j3 l f
   have Q:(b.num*(a.den:Nat)).natAbs<2^(kB+kB):=by rw[e6,jp];exact j3 o c
   rw[h9];omega
  have s:=IV (a.num*(b.den:Nat)+b.num*(a.den:Nat)) ((a.den:Nat)*(b.den:Nat)) z G o_;simp[f95];refine c1 A ?_;simp;refine c1 B ?_;have D:(p=false)\/(p=true/\r=false):=by cases p<;>cases r<;>simp_all
  rcases D with g|⟨g,q⟩
  ·simp[g];refine c1 t ?_;simp[aa];refine c1 u ?_;simp[aa];refine e2 w ?_;simp[aa];refine e2 x ?_;simp[aa];refine e2 v ?_;simp[aa];refine e2 y ?_;simp[aa];refine e2 s ?_;simp
  ·simp[g,q];refine c1 t ?_;simp[aa];refine c1 u ?_;simp[aa];refine e2 w ?_;simp[aa];refine e2 x ?_;simp[aa];refine e2 v ?_;simp[aa];refine e2 y ?_;simp[aa];refine e2 s ?_;simp
theorem zC(a b:Rat)(f:bL kB a)(g:bL kB b):aB prog 169 [.str (bE a),.str (bE b)] (.str (bE (a*b))):=by
 obtain⟨n,d,p,x,B⟩:=yX a f;obtain⟨m,e,r,y,C⟩:=yX b g;have s:=yw a f;have t:=yw b g;refine aJ nf (i_ func169) mix (by simp[f169]) ?_;rw[<-aww];have w:=Pq a b
 by_cases h:p=true/\r=true
 ·obtain⟨rfl,rfl,k1,k2⟩:=B h.1;obtain⟨rfl,rfl,k3,k4⟩:=C h.2;have G:=wM k1 k3;have H:=wM (show((a.den:Nat):Int).natAbs<1000000000 by rw[ed];exact k2) (show((b.den:Nat):Int).natAbs<1000000000 by rw[ed];exact k4);have z:=P0 (a.num*b.num) (a.den*b.den) w o_ o_;have w1:ec.wrap (a.num*b.num)=a.num*b.num:=aQ _ o_ o_;have D:ec.wrap (((a.den:Nat):Int)*(b.den:Nat))=((a.den:Nat):Int)*(b.den:Nat):=aQ _ o_ o_;have c:p=true:=h.1;have i:r=true:=h.2;simp[f169];refine c1 x ?_;simp;refine c1 y ?_;simp[c,i,w1,D];refine c2 z ?_;simp
 ·have j:a.num.natAbs<2^kB:=f.1;have l:b.num.natAbs<2^kB:=g.1;have k:((a.den:Nat):Int).natAbs<2^kB:=by rw[ed];exact f.2
  have o:((b.den:Nat):Int).natAbs<2^kB:=by rw[ed];exact g.2
  have u:=vQ a.num b.num (by have:=mU j;have:=mU l;omega);have v:=vQ (a.den:Nat) (b.den:Nat) (by have:=mU k;have:=mU o;omega);have E:=vu j l;have F:=vu k o;have q:=IV (a.num*b.num) ((a.den:Nat)*(b.den:Nat)) w o_ o_;simp[f169];refine c1 x ?_;simp;refine c1 y ?_;have A:(p=false)\/(p=true/\r=false):=by cases p<;>cases r<;>simp_all
  rcases A with c|⟨c,i⟩
  ·simp[c];refine c1 s ?_;simp[aa];refine c1 t ?_;simp[aa];refine e2 u ?_;simp[aa];refine e2 v ?_;simp[aa];refine e2 q ?_;simp
  ·simp[c,i];refine c1 s ?_;simp[aa];refine c1 t ?_;simp[aa];refine e2 u ?_;simp[aa];refine e2 v ?_;simp[aa];refine e2 q ?_;simp
theorem aGz{a:Rat}(h:a≠0):a.num≠0:=fun e=>h (Rat.num_eq_zero.1 e)
theorem NW(s:List Nat)(g:s.length<=1048576):aB prog 164 [.str s] (.int .i64 (if s=[48]then 0 else if b8 s=true then -1 else 1)):=by
 refine aJ nf (i_ func164) mix (by simp[f164]) ?_
 by_cases b:s=[48]
 ·simp[f164,b]
 ·cases s with
  |nil=>simp[f164,b8]
  |cons c r=>
   by_cases hc:c=45
   ·simp[f164,b8,hc]
   ·have e:¬(c:Int)=45:=by omega
    have d:¬(c=48/\r=[]):=fun h=>b (by rw[h.1,h.2])
    by_cases a:c=48
    ·have f:¬r=[]:=fun h=>d ⟨a,h⟩;simp[f164,b8,a,f]
    ·simp[f164,b8,hc,e,a]
theorem yH(q:Rat):q.num<0↔q<0:=by
 have h:=DY q
 by_cases b:q<0
 ·rw[if_pos b]at h;refine⟨fun _=>b,fun _=>?_⟩
  by_cases a:q.num<0
  ·exact a
  ·rw[if_neg a]at h;split at h<;>omega
 ·refine⟨fun a=>?_,fun a=>(b a).elim⟩;rw[if_neg b,if_pos a]at h
  split at h<;>omega
def eU(q:Rat):Int:=if q<0 then -1 else if q=0 then 0 else 1
theorem aJd:bE 0=[48]:=by
 have h:bO 0=[48]:=by rw[show(0:Int)=((0:Nat):Int)from rfl,vi,qY]
 rw[bE,if_pos (show(0:Rat).den=1 from rfl)];exact h
theorem Je(q:Rat):bE q=[48]↔q=0:=by
 rw[<-aJd];exact⟨fun h=>aII h,fun h=>by rw[h]⟩
theorem aH2(q:Rat):(if bE q=[48]then(0:Int)else if b8 (bE q)=true then -1 else 1)=eU q:=by
 have e:=(vB q).1;have c:=Je q;have d:q<0↔q.num<0:=(yH q).symm;rw[e,eU]
 by_cases b:q=0
 ·subst b;rw[if_pos (c.2 rfl),if_neg (by decide),if_pos rfl]
 ·rw[if_neg (fun h=>b (c.1 h))]
  by_cases a:q<0
  ·rw[if_pos (by simpa using d.1 a),if_pos a]
  ·rw[if_neg (by simpa using fun h=>a (d.2 h)),if_neg a,if_neg b]
theorem zl(q:Rat)(h:bL kB q):aB prog 164 [.str (bE q)] (.int .i64 (eU q)):=by
 have:=NW (bE q) (by have:=rh h;omega)
 rwa [aH2]at this
theorem NY{q:Rat}(h:q<0):bE q=45::bE (-q):=by
 have a:q.num<0:=(yH q).2 h;have e1:bO q.num=45::bk q.num.natAbs:=by rw[bO,if_pos a]
 have e2:bO (-q).num=bk q.num.natAbs:=by rw[na,bO,if_neg o_,fb]
 rw[bE,bE,Rat.neg_den,e1,e2]
 split<;>rfl
theorem ZA(q:Rat)(h:bL kB q):aB prog 167 [.str (bE q)] (.str (bE (-q))):=by
 have a:=zl q h;have f:=rh h;refine aJ nf (i_ func167) mix (by simp[f167]) ?_
 by_cases b:q<0
 ·have hs:eU q= -1:=by rw[eU,if_pos b]
  rw[hs]at a;have c:=NY b;rw[c]at a f⊢;simp[f167];refine c1 a ?_;simp
 ·by_cases d:q=0
  ·have hs:eU q=0:=by rw[eU,if_neg b,if_pos d]
   rw[hs]at a;have hq:-q=q:=by rw[d];rfl
   rw[hq];simp[f167];refine c1 a ?_;simp;refine c1 a ?_;simp
  ·have hs:eU q=1:=by rw[eU,if_neg b,if_neg d]
   rw[hs]at a;have e:-q<0:=by
    rw[<-yH,na];have g:¬q.num<0:=fun h=>b ((yH q).1 h);have i:=aGz d;omega
   have c:=NY e;rw[Rat.neg_neg]at c;rw[c];have j:(bE q).length+1<9223372036854775808:=o_
   simp[f167];refine c1 a ?_;simp;refine c1 a ?_;simp;omega
theorem zB(a b:Rat)(f:bL kB a)(d:bL kB b):aB prog 90 [.str (bE a),.str (bE b)] (.str (bE (a-b))):=by
 have e:=ZA b d;have c:=PQ a (-b) f (yV d);rw[<-Rat.sub_eq_add_neg]at c;refine aJ nf (i_ func90) mix (by simp[f90]) ?_;simp[f90];refine c1 e ?_;simp;refine c2 c ?_;simp
theorem aH1(a b:Rat):eU (a-b)=dO a b:=by
 have d:a-b<0↔a<b:=by
  rw[<-nb,<-nb,<-Rat.le_iff_sub_nonneg]
 have e:a-b=0↔a=b:=by
  constructor
  ·intro h;have f:a-b+b=0+b:=by rw[h]
   rwa [ms,m0]at f
  ·rintro rfl;exact m9
 rw[eU,dO]
 by_cases h:a<b
 ·rw[if_pos (d.2 h),if_pos h]
 ·rw[if_neg (fun x=>h (d.1 x)),if_neg h]
  by_cases c:a=b
  ·rw[if_pos (e.2 c),if_pos c]
  ·rw[if_neg (fun x=>c (e.1 x)),if_neg c]
theorem uW(a b:Rat)(d:bL (kB/3) a)(e:bL (kB/3) b):aB prog 166 [.str (bE a),.str (bE b)] (.int .i64 (dO a b)):=by
 have f:=zB a b (d.mono (by decide)) (e.mono (by decide));have c:=zl (a-b) ((tq d e).mono (by decide));rw[aH1]at c;refine aJ nf (i_ func166) mix (by simp[f166]) ?_;simp[f166];refine c2 f ?_;simp;refine c1 c ?_;simp
theorem PT{a b:Nat}(h:a<=b):10^a<=10^b:=h2 (by decide) h
theorem PS{s:List Nat}{k:Nat}(h:s.length<=k)(a:s.all ct=true):bd s<10^k:=h3 (jK _ s rfl a) (PT h)
theorem aG0{x a b:Nat}(hx:x<10^a)(h:a<=9*b):(aA bT x).length<=b:=dN bf b x (h3 hx (by
 rw[show bT^b=10^(9*b)by rw[ko];rfl];exact PT h))
theorem YV(s:List Nat)(D:s.length<=1048576):aB prog 316 [.str s] (.bool (s.all ct)):=by
 refine aJ nf (i_ func316) mix (by simp[f316]) ?_;obtain⟨k,hk,n,o⟩:=vZ (fun j=>ct (s[j]?.getD 0)) s.length;have e:∀j(h:j<s.length),s[j]?.getD 0=s[j]:=fun j h=>by rw[gm h];rfl
 have B:s.all ct=decide (k=s.length):=by
  rcases o with h|⟨a,b⟩
  ·rw[h,decide_eq_true rfl,gB];intro x hx;obtain⟨j,A,rfl⟩:=hL hx;have:=n j o_
   rwa [e j A]at this
  ·rw[decide_eq_false o_];rw[e k a]at b
   by_cases m:s.all ct=true
   ·have:=gB.1 m _ (g5 a);rw[this]at b;cases b
   ·simpa using m
 rw[B];simp[f316];refine lp (α:=Nat) (fun i=>⟨[(3,.p (.int .i64 i)),(0,.p (.str s))],[]⟩)
  (fun i=>i<=k) (fun i=>k-i) 0 (jF _) ?_
 intro i hi;have C:ec.wrap ((i:Int)+1)=(i:Int)+1:=aQ _ o_ o_
 by_cases y:i<k
 ·have l:i<s.length:=by omega
  have q:=n i y;rw[e i l]at q;have E:=zw q;generalize d:s[i]=c at*;have f:s[i]?=some c:=by rw[gm l,d]
  have a:¬(c:Int)<48:=o_
  have b:¬(57:Int)<c:=o_
  have t:¬c<48:=o_
  have u:¬57<c:=o_
  simp[l,d,f,a,b,t,u,C];exact rd (i+1) (show i+1<=k by omega)
 ·have z:i=k:=by omega
  subst z;rcases o with h|⟨a,b⟩
  ·simp[h]
  ·rw[e i a]at b;have r:¬i=s.length:=by omega
   generalize d:s[i]=c at*;have f:s[i]?=some c:=by rw[gm a,d]
   by_cases hc:c<48
   ·have g:(c:Int)<48:=by omega
    simp[a,d,f,hc,g,r]
   ·have v:57<c:=by
     simp only[ct,Bool.and_eq_false_iff,decide_eq_false_iff_not]at b;omega
    have g:¬(c:Int)<48:=o_
    have w:(57:Int)<c:=o_
    simp[a,d,f,hc,g,v,w,r]
theorem KL(s:List Nat)(j:s.length<=1048576):aB prog 274 [.str s] (.bool (dI s)):=by
 have b:=YV s j;refine aJ nf (i_ func274) mix (by simp[f274]) ?_;cases s with
 |nil=>simp[f274,dI]
 |cons c r=>
  have k:(c:Int)=48↔c=48:=o_
  by_cases a:r=[]
  ·subst a;have e:dI [c]=[c].all ct:=by
    rw[dI]
    by_cases h:c=48
    ·subst h;rfl
    ·simp[h]
   rw[e];simp[f274];refine c1 b ?_;simp
  ·have d:0<r.length:=gw.2 a;have f:¬(r.length:Int)+1=0:=by omega
   have g:(1:Int)<r.length+1:=o_
   by_cases hc:c=48
   ·have e:dI (c::r)=false:=by rw[dI,hc];simp[a]
    rw[e];simp[f274,a,hc,d,f,g]
   ·have i:¬(c:Int)=48:=by omega
    have e:dI (c::r)=(c::r).all ct:=by rw[dI];simp[hc]
    rw[e];simp[f274,a,hc,i,d,f,g];refine c1 b ?_;simp
theorem wJ(s:List Nat)(hs:ji s):aB prog 215 [.str s] (.int .i64 (b9 s)):=by
 refine aJ nf (i_ func215) mix (by simp[f215]) ?_;obtain⟨aW,aK⟩:=hs;obtain⟨d,Q⟩:∃d,dd s=d:=⟨_,rfl⟩
 obtain⟨neg,y⟩:∃neg,b8 s=neg:=⟨_,rfl⟩
 have aO:d.length<=s.length:=by rw[<-Q];exact(px s).1
 have R:=vR d o_;have W:(cg 47 d).1=bH s:=by rw[<-Q];rfl
 have U:(cg 47 d).2.1=bQ s:=by rw[<-Q];rfl
 have af:(cg 47 d).2.2=eA s:=by rw[<-Q];rfl
 have w:=pM 47 d;have D:=tG 47 d;rw[W,U,af]at w;rw[W]at R D;rw[U]at D;obtain⟨k,hk⟩:∃k,(bH s).length=k:=⟨_,rfl⟩
 rw[hk]at R;have H:k<=d.length:=by rw[<-hk];exact D.1
 have ar:d.take k=bH s:=by
  rcases w with⟨_,E⟩|⟨_,E,_⟩
  ·rw[E,<-hk];simp
  ·rw[<-E,<-hk];simp
 have K:=KL (bH s) o_;have l:=KL (bQ s) o_;simp[f215,-bu];rw[bu];simp[-bu];rw[bu];simp[-bu];refine join (fun st=>aP st.env 0=.p (.str s)/\aP st.env 3=.p (.str d)/\st.heap=[]) ?_ ?_
 ·cases ah:neg with
  |false=>
   have aq:s=d:=by rw[<-Q,dd,y,ah];rfl
   clear R w hk U W af ar K l D H;subst aq;cases s with
   |nil=>simp
   |cons c r=>
    rw[ah]at y;have hc:¬c=45:=fun h=>by rw[h]at y;simp[b8]at y
    have al:¬(c:Int)=45:=o_
    simp[hc,al]
  |true=>
   clear R w hk U W af ar K l D H;cases s with
   |nil=>simp[b8]at y;rw[ah]at y;cases y
   |cons c r=>
    have aq:r=d:=by rw[<-Q,dd,y,ah];rfl
    rw[ah]at y;have hc:c=45:=by simpa[b8]using y
    simp[hc,aq]
 rintro⟨aF,aT⟩ ⟨u,e,ai⟩;dsimp only at u e ai;subst ai;have ae:nq s=(dI (bH s)&&!(neg&&decide (bH s=[48]))&&(!eA s||(dI (bQ s)&&decide (bQ s≠[48])&&decide (bQ s≠[49])))):=by rw[nq,y]
 have a5:d.length<=1048576:=o_
 have T:(bH s).all ct=true->(bQ s).all ct=true->eA s=true->0<k->d.length<=1000000->aB prog 179 [.str d] (.aE [eG (bd (bH s):Nat),eG (bd (bQ s):Nat)]):=fun v M au az aX=>by
  have aj:b8 d=false/\dd d=d:=by
   have aE:b8 d=false:=by
    rcases w with⟨_,E⟩|⟨q1,_⟩
    ·cases V:bH s with
     |nil=>rw[V]at hk;simp at hk;omega
     |cons c r=>
      rw[V]at E v;have:=zw (gB.1 v c s_);rw[E,b8];simp;omega
    ·rw[au]at q1;cases q1
   exact⟨aE,by rw[dd,aE];rfl⟩
  have e1:bH d=bH s:=by rw[bH,aj.2,W]
  have e2:bQ d=bQ s:=by rw[bQ,aj.2,U]
  have e3:eA d=true:=by rw[eA,aj.2,af];exact au
  have:=LZ d (by rw[e1];exact v) (by rw[e2];exact M) aX;rw[kq,iM,e1,e2,aj.1,if_pos e3]at this;exact this
 rw[b9];generalize nq s=L at*;generalize bH s=t at*;generalize bQ s=f at*;generalize eA s=fr at*;have S:g0 k d=t:=ar
 by_cases I:dI t=true
 ·have az:0<k:=by
   rw[<-hk,gw];intro h;rw[h]at I;cases I
  obtain⟨c,r,hs⟩:∃c r,s=c::r:=by
   cases s with
   |nil=>
    have:d.length<=0:=by simpa using aO
    omega
   |cons c r=>exact⟨c,r,rfl⟩
  have am:c=45↔neg=true:=by rw[<-y,hs];simp[b8]
  have al:(c:Int)=45↔c=45:=o_
  rw[I]at K;clear aK aW Q y W U af
  by_cases N:neg=true/\t=[48]
  ·have hf:L=false:=by rw[ae,N.1,N.2];simp
   have aN:=am.2 N.1;rw[if_pos hf];clear w D l T am al;subst hs aN;have V:=N.2;simp[u,e];refine c1 R ?_;simp[u,e,H,S];refine c1 K ?_;simp[u,e,H,S,V]
  ·subst hs;rw[bu];simp[u,e,-bu];refine c1 R ?_;simp[u,e,-bu];refine join (fun st=>aP st.env 3=.p (.str d)/\aP st.env 4=.p (.int .i64 k)/\st.heap=[]) ?_ ?_
   ·by_cases v:c=45
    ·have V:¬t=[48]:=fun h=>N ⟨am.1 v,h⟩;subst v;clear w D l T;simp[u,e,H,S];refine c1 K ?_;simp[u,e,H,S,V]
    ·have aG:¬(c:Int)=45:=by omega
     clear w D l T;simp[u,e,H,S];refine c1 K ?_;simp[u,e,H,S,v,aG]
   clear u e;rintro⟨aF,aT⟩ ⟨e,j,ai⟩;dsimp only at e j ai;subst ai;cases ag:fr with
   |false=>
    have i:k=d.length:=by
     rcases w with⟨q1,_⟩|⟨_,E,_⟩
     ·rw[ag]at q1;cases q1
     ·rw[<-hk,E]
    have aC:¬k<d.length:=o_
    have aR:f=[]:=by
     rcases w with⟨q1,_⟩|⟨_,_,a2⟩
     ·rw[ag]at q1;cases q1
     ·exact a2
    have hf:L=true:=by
     rw[ae,I,ag];simp
     by_cases v:neg=true
     ·exact .inr fun M=>N ⟨v,M⟩
     ·exact .inl (by simpa using v)
    have X:ec.wrap ((d.length:Int)-k)=0:=by rw[i,gb];rfl
    have Y:ec.wrap (-1)= -1:=rfl;rw[hf,hk,aR];clear w D l T
    by_cases G:600<k
    ·have z:¬(k:Int)<=600:=by omega
     have A:¬k<=600:=o_
     have B:(600:Int)<k:=o_
     simp[e,j,aC,G,z,A,B]
    ·have z:(k:Int)<=600:=by omega
     have A:k<=600:=o_
     have B:¬(600:Int)<k:=o_
     simp[e,j,aC,G,z,A,B,X,Y]
   |true=>
    rw[ag]at ae T;have ap:d=t++47::f:=by
     rcases w with⟨_,E⟩|⟨q1,_⟩
     ·exact E
     ·rw[ag]at q1;cases q1
    have i:k<d.length:=by rw[ap];simp;omega
    have o:d.drop (k+1)=f:=by
     conv=>lhs;rw[ap,<-hk]
     simp
    have a6:d.length=k+1+f.length:=by rw[ap];simp;omega
    have wk:ec.wrap ((k:Int)+1)=(k:Int)+1:=aQ _ o_ o_;have q:((k:Int)+1).toNat=k+1:=o_
    have a1:(0:Int)<=k+1:=o_
    have m:(k:Int)+1<=d.length:=o_
    have n:k+1<=d.length:=i;clear w D;have ad:L=(dI f&&decide (f≠[48])&&decide (f≠[49])):=by
     rw[ae,I];have:(neg&&decide (t=[48]))=false:=by
      by_cases v:neg=true
      ·have:¬t=[48]:=fun M=>N ⟨v,M⟩;simp[this]
      ·have:neg=false:=by simpa using v
       rw[this];rfl
     rw[this];simp
    by_cases an:L=true
    ·rw[an]at ad;have aU:¬L=false:=by rw[an];decide
     rw[if_neg aU];have aI:dI f=true/\¬f=[48]/\¬f=[49]:=by
      have:=ad.symm;simp only[dp,decide_eq_true_eq]at this;exact⟨this.1.1,this.1.2,this.2⟩
     obtain⟨J,F,C⟩:=aI;rw[J]at l;rw[hk];have X:ec.wrap ((d.length:Int)-k)=(d.length:Int)-k:=aQ _ o_ o_;have Y:ec.wrap ((d.length:Int)-k-1)=f.length:=by rw[aQ _ o_ o_];omega
     by_cases G:600<k
     ·have z:¬(k:Int)<=600:=by omega
      have A:¬k<=600:=o_
      have B:(600:Int)<k:=o_
      simp[e,j,i,wk,q,a1,m,n,o];refine c1 l ?_;simp[e,j,i,wk,q,a1,m,n,o,F,C,G,z,A,B]
     by_cases Z:600<f.length
     ·have z:(k:Int)<=600:=by omega
      have A:k<=600:=o_
      have B:¬(600:Int)<k:=o_
      have ab:(600:Int)<f.length:=o_
      simp[e,j,i,wk,q,a1,m,n,o];refine c1 l ?_;simp[e,j,i,wk,q,a1,m,n,o,F,C,G,z,A,B,X,Y,Z,ab]
     have z:(k:Int)<=600:=o_
     have A:k<=600:=o_
     have B:¬(600:Int)<k:=o_
     have ab:¬(600:Int)<f.length:=o_
     have P:=T (ke I) (ke J) rfl az o_;have aS:=yS J F;have aZ:t.length<=700:=o_
     have a0:f.length<=700:=o_
     have aL:bd t<10^700:=PS (s:=t) (k:=700) aZ (ke I);have aM:bd f<10^700:=PS (s:=f) (k:=700) a0 (ke J);have aD:∀x:Nat,x<10^700->(aA bT x).length<=400000:=fun x hx=>h5 (aG0 (a:=700) (b:=78) hx (by decide)) (by decide);have O:=LB (bd t) (bd f) (aD _ aL) (aD _ aM);have ax:0<i7 (bd t) (bd f):=j5 _ aS;generalize bd t=a4 at*;generalize bd f=a3 at*;obtain⟨g,ak⟩:∃g,i7 a4 a3=g:=⟨_,rfl⟩
     simp only[ak]at O ax⊢;have aY:¬(600<k\/600<f.length):=fun h=>by rcases h with h|h;exact G h;exact Z h
     rw[if_neg aY];simp only[eG,ed]at P
     by_cases ao:g=1
     ·subst ao;have ac:aA bT 1=[1]:=nR (by decide) (by decide);simp only[eT,ac]at O P;simp[e,j,i,wk,q,a1,m,n,o];refine c1 l ?_;simp[e,j,i,wk,q,a1,m,n,o,F,C,G,z,A,B,X,Y,Z,ab];refine c1 P ?_;simp[aa];refine c2 O ?_;simp[ak]
     ·by_cases ay:g<bT
      ·have ac:aA bT g=[g]:=nR ax ay;have aV:¬(g:Int)=1:=by omega
       simp only[eT,ac]at O P;simp[e,j,i,wk,q,a1,m,n,o];refine c1 l ?_;simp[e,j,i,wk,q,a1,m,n,o,F,C,G,z,A,B,X,Y,Z,ab];refine c1 P ?_;simp[aa];refine c2 O ?_;simp[ao,aV,ak]
      ·have ac:¬((aA bT g).length:Int)=1:=by
        intro h;have M:(aA bT g).length=1:=o_
        have:=cq bf g;rw[M,km]at this;exact ay this
       simp only[eT]at O P;simp[e,j,i,wk,q,a1,m,n,o];refine c1 l ?_;simp[e,j,i,wk,q,a1,m,n,o,F,C,G,z,A,B,X,Y,Z,ab];refine c1 P ?_;simp[aa];refine c2 O ?_;simp[ao,ac,ak]
    ·have aw:L=false:=by simpa using an
     rw[if_pos aw]
     by_cases J:dI f=true
     ·rw[J]at l
      by_cases F:f=[48]
      ·simp[e,j,i,wk,q,a1,m,n,o];refine c1 l ?_;simp[e,j,i,wk,q,a1,m,n,o,F]
      ·have C:f=[49]:=by
        rw[J]at ad
        by_cases C:f=[49]
        ·exact C
        ·rw[aw]at ad;simp[F,C]at ad
       simp[e,j,i,wk,q,a1,m,n,o];refine c1 l ?_;simp[e,j,i,wk,q,a1,m,n,o,C]
     ·have aH:dI f=false:=by simpa using J
      rw[aH]at l;simp[e,j,i,wk,q,a1,m,n,o];refine c1 l ?_;simp[e,j,i,wk,q,a1,m,n,o]
 ·have av:dI t=false:=by simpa using I
  have hf:L=false:=by rw[ae,av];rfl
  rw[if_pos hf];rw[av]at K;simp[u,e];refine c1 R ?_;simp[u,e,H,S];refine c1 K ?_;simp[u,e]
theorem Vy(l:List (List Nat))(f:l.length<=1000000)(hs:∀s∈l,ji s):aB prog 114 [.seq (l.map .str)] (.int .i64 (bK (l.map b9))):=by
 refine aJ nf (i_ func114) mix (by simp[f114]) ?_;simp[f114];refine lp (α:=Nat) (fun i=>⟨[(3,.p (.int .i64 i)),(0,.p (.seq (l.map .str)))],[]⟩) (fun i=>i<=l.length/\bK ((l.drop i).map b9)=bK (l.map b9)) (fun i=>l.length-i) 0 s_ ?_;rintro i ⟨e,a⟩
 by_cases hi:i<l.length
 ·rw[g8 hi]at a;have d:=b6 (i:=i) o_;have hc:=wJ l[i] (hs _ (g5 hi));obtain⟨s,b⟩:∃s,l[i]=s:=⟨_,rfl⟩
  have c:l[i]?=some s:=by rw[gm hi,b]
  rw[b]at hc a;simp[hi,c,b];refine c1 hc ?_
  by_cases he:b9 s=0
  ·simp[bK,he]at a;simp[he,d];exact rd (i+1) ⟨hi,by simpa using a⟩
  ·simp[bK,he]at a;simp[he,<-a]
 ·have:i=l.length:=by omega
  subst this;simp[bK]at a;simp[<-a]
theorem IC(p:fF)(a:nA p):aB prog 43 [fX p] (.int .i64 (ez p)):=by
 have hc:=Vy [p.x,p.y] s_ (by intro s hs;simp at hs;rcases hs with rfl|rfl;exact a.1;exact a.2);refine aJ nf (i_ func43) mix (by simp[f43]) ?_;simp[f43,aa];refine cp hc (by simp;exact⟨rfl,rfl⟩) ?_;simp[ez]
theorem Jf(z:Int):47∉bO z:=by
 rw[bO];split
 ·simp only[hn,not_or];exact⟨by decide,Be (rP _) rfl⟩
 ·exact Be (rP _) rfl
theorem Br(q:Rat):(cg 47 (bE q)).1=bO q.num/\(q.den≠1->bE q=bO q.num++47::bk q.den)/\(q.den=1->bE q=bO q.num):=by
 by_cases h:q.den=1
 ·have e:bE q=bO q.num:=by rw[bE,if_pos h]
  refine⟨?_,fun a=>(a h).elim,fun _=>e⟩;rw[e,CB 47 _ (Jf _)]
 ·have e:bE q=bO q.num++47::bk q.den:=by rw[bE,if_neg h]
  refine⟨?_,fun _=>e,fun a=>(h a).elim⟩;rw[e,CT 47 _ _ (Jf _)]
theorem ZC(q:Rat)(h:bL kB q):aB prog 217 [.str (bE q)] (.str (bO q.num)):=by
 have i:=rh h;obtain⟨e,c,d⟩:=Br q;have hs:=vR (bE q) o_;rw[e]at hs;have g:(bE q).take (bO q.num).length=bO q.num:=by
  by_cases b:q.den=1
  ·rw[d b];simp
  ·rw[c b];simp
 have f:(bO q.num).length<=(bE q).length:=by
  by_cases b:q.den=1
  ·rw[d b];exact ix _
  ·rw[c b];simp
 refine aJ nf (i_ func217) mix (by simp[f217]) ?_;generalize bO q.num=a at*;generalize bE q=s at*;simp[f217];refine c1 hs ?_;simp[g,f]
theorem Zv(q:Rat)(h:bL kB q):aB prog 218 [.str (bE q)] (.str (bk q.den)):=by
 have d:=rh h;obtain⟨g,i,j⟩:=Br q;have hs:=vR (bE q) o_;rw[g]at hs;refine aJ nf (i_ func218) mix (by simp[f218]) ?_
 by_cases c:q.den=1
 ·have e:=j c;rw[c,aIH];rw[e]at hs⊢;generalize bO q.num=a at*;simp[f218];refine c1 hs ?_;simp
 ·have e:=i c;rw[e]at hs d⊢;generalize bO q.num=a at*;generalize bk q.den=b at*;simp only[g6,hz]at d;have l:¬(a.length:Int)=(a.length:Int)+(b.length+1):=by omega
  have wk:ec.wrap ((a.length:Int)+1)=(a.length:Int)+1:=aQ _ o_ o_;have n:((a.length:Int)+1).toNat=a.length+1:=o_
  have a1:(0:Int)<=(a.length:Int)+1:=o_
  have f:(a.length:Int)+1<=(a.length:Int)+(b.length+1):=o_
  have k:hT (a.length+1) (a++47::b)=b:=s_
  have m:g0 (a.length+(b.length+1)) (a++47::b)=a++47::b:=gt s_;simp[f218];refine c1 hs ?_;simp[l,wk,n,a1,f,k,m]
theorem Zs(z:Int)(h:(bO z).length<=1000000):aB prog 216 [.str (bO z)] (.str (bk z.natAbs)):=by
 have a:=NW (bO z) o_;have g:b8 (bO z)=decide (z<0):=by
  have:=(yB z []).1;rwa [hj]at this
 have f:bO z=[48]↔z=0:=by
  have e:bO z=bE (z:Rat):=by rw[bE,if_pos (m6 z),m5]
  rw[e,Je]
  exact_mod_cast Iff.rfl
 refine aJ nf (i_ func216) mix (by simp[f216]) ?_;rw[g]at a
 by_cases c:z<0
 ·have e:bO z=45::bk z.natAbs:=by rw[bO,if_pos c]
  rw[if_neg (fun x=>by have:=f.1 x;omega),if_pos (by simpa using c)]at a;rw[e]at a⊢;simp[f216];refine c1 a ?_;simp
 ·have e:bO z=bk z.natAbs:=by rw[bO,if_neg c]
  have b:∃v:Int,¬v<0/\aB prog 164 [.str (bO z)] (.int .i64 v):=by
   by_cases d:bO z=[48]
   ·rw[if_pos d]at a;exact⟨0,o_,a⟩
   ·rw[if_neg d,if_neg (by simpa using c)]at a;exact⟨1,o_,a⟩
  obtain⟨v,i,b⟩:=b;rw[e]at b⊢;simp[f216];refine c1 b ?_;simp[i]
def fe(s:List Nat)(D:Nat):Bool:=decide (s.length<=2*D+2)&&decide (b9 s=0)&&decide ((bk (aS s).num.natAbs).length<=D)&&decide ((bk (aS s).den).length<=D)
theorem afQ{s:List Nat}(h:b9 s=0):bL kB (aS s):=by
 obtain⟨b,c⟩:=Gi h;have a:(10:Nat)^mD<=2^kB:=h5 (MF mD) (h2 (by decide) (by decide));exact⟨h3 b a,h3 c a⟩
theorem Ay(s:List Nat)(D:Nat)(hs:ji s)(u:D<=100000):aB prog 113 [.str s,.int .i64 D] (.bool (fe s D)):=by
 have g:=wJ s hs;have v:=hs.1;refine aJ nf (i_ func113) mix (by simp[f113]) ?_;have w1:ec.wrap (2*(D:Int))=2*(D:Int):=aQ _ o_ o_;have h:ec.wrap (2*(D:Int)+2)=2*(D:Int)+2:=aQ _ o_ o_
 by_cases m:s.length<=2*D+2
 ·have f:(s.length:Int)<=2*(D:Int)+2:=by omega
  by_cases d:b9 s=0
  ·have l:=afQ d;have e:=(ka d).1;rw[d]at g;have k:=ZC (aS s) l;have o:=Zv (aS s) l;have q:(bO (aS s).num).length<=1000000:=by
    have:=rh l;obtain⟨_,r,t⟩:=Br (aS s)
    by_cases p:(aS s).den=1
    ·rw[t p]at this;exact this
    ·rw[r p]at this;simp at this;omega
   have n:=Zs (aS s).num q;rw[e]at k o;have hf:fe s D=(decide ((bk (aS s).num.natAbs).length<=D)&&decide ((bk (aS s).den).length<=D)):=by
    rw[fe,decide_eq_true m,decide_eq_true d];simp
   rw[hf];generalize bk (aS s).num.natAbs=a at*;generalize bk (aS s).den=b at*;generalize bO (aS s).num=c at*
   by_cases i:a.length<=D
   ·have j:(a.length:Int)<=D:=by omega
    simp[f113,w1,h,f];refine c1 g ?_;simp;refine c1 k ?_;simp;refine c1 n ?_;simp[i,j];refine c1 o ?_;simp[i]
   ·have j:¬(a.length:Int)<=D:=by omega
    simp[f113,w1,h,f];refine c1 g ?_;simp;refine c1 k ?_;simp;refine c1 n ?_;simp[i,j]
  ·have hf:fe s D=false:=by rw[fe,decide_eq_false d];simp
   rw[hf];simp[f113,w1,h,f];refine c1 g ?_;simp[d]
 ·have f:¬(s.length:Int)<=2*(D:Int)+2:=by omega
  have hf:fe s D=false:=by rw[fe,decide_eq_false m];simp
  rw[hf];simp[f113,w1,h,f]
structure V2 where
 x:Rat
 y:Rat
def eV(v:V2):PV:=fX ⟨bE v.x,bE v.y⟩
@[simp] theorem aPf(v:V2):aL (eV v)=.agg 31:=rfl
@[simp] theorem aND(v:V2):bY (eV v)=[.str (bE v.x),.str (bE v.y)]:=rfl
theorem Qr(x y:Rat):eV ⟨x,y⟩=.st 31 [.str (bE x),.str (bE y)]:=rfl
def bJ(k:Nat)(v:V2):Prop:=bL k v.x/\bL k v.y
theorem bJ.mono{k l:Nat}{v:V2}(h:bJ k v)(a:k<=l):bJ l v:=⟨h.1.mono a,h.2.mono a⟩
def V2.sub(v w:V2):V2:=⟨v.x-w.x,v.y-w.y⟩
def V2.add(v w:V2):V2:=⟨v.x+w.x,v.y+w.y⟩
def V2.mul(v:V2)(k:Rat):V2:=⟨v.x*k,v.y*k⟩
def V2.dot(v w:V2):Rat:=v.x*w.x+v.y*w.y
def V2.dx(v w:V2):Rat:=v.x*w.y-v.y*w.x
theorem kg{k l:Nat}{v w:V2}(h:bJ k v)(a:bJ l w):bJ (k+l+1) (v.sub w):=⟨tq h.1 a.1,tq h.2 a.2⟩
theorem Fm{k l:Nat}{v w:V2}(h:bJ k v)(a:bJ l w):bJ (k+l+1) (v.add w):=⟨wO h.1 a.1,wO h.2 a.2⟩
theorem s9{k l:Nat}{v w:V2}(h:bJ k v)(a:bJ l w):bL (k+l+(k+l)+1) (v.dot w):=wO (gC h.1 a.1) (gC h.2 a.2)
theorem Fk{k l:Nat}{v w:V2}(h:bJ k v)(a:bJ l w):bL (k+l+(k+l)+1) (v.dx w):=tq (gC h.1 a.2) (gC h.2 a.1)
theorem xt{k l:Nat}{v:V2}{a:Rat}(h:bJ k v)(b:bL l a):bJ (k+l) (v.mul a):=⟨gC h.1 b,gC h.2 b⟩
def kQ:Nat:=20000
theorem dF{q:Rat}(h:bL kQ q):bL kB q:=h.mono (by decide)
theorem Ek(v w:V2)(a:bJ kQ v)(b:bJ kQ w):aB prog 27 [eV v,eV w] (eV (v.sub w)):=by
 have c:=zB v.x w.x (dF a.1) (dF b.1);have d:=zB v.y w.y (dF a.2) (dF b.2);refine aJ nf (i_ func27) mix (by simp[f27]) ?_;rw[V2.sub,Qr];simp[f27,aa];refine e2 c ?_;simp[aa];refine e2 d ?_;simp[aa]
theorem Zw(v w:V2)(a:bJ kQ v)(b:bJ kQ w):aB prog 84 [eV v,eV w] (.str (bE (v.dot w))):=by
 have c:=zC v.x w.x (dF a.1) (dF b.1);have d:=zC v.y w.y (dF a.2) (dF b.2);have e:=PQ (v.x*w.x) (v.y*w.y) ((gC a.1 b.1).mono (by decide)) ((gC a.2 b.2).mono (by decide));refine aJ nf (i_ func84) mix (by simp[f84]) ?_;rw[V2.dot];simp[f84,aa];refine e2 c ?_;simp[aa];refine e2 d ?_;simp[aa];refine e2 e ?_;simp
theorem Sj(v w:V2)(a:bJ kQ v)(b:bJ kQ w):aB prog 163 [eV v,eV w] (.str (bE (v.dx w))):=by
 have c:=zC v.x w.y (dF a.1) (dF b.2);have d:=zC v.y w.x (dF a.2) (dF b.1);have e:=zB (v.x*w.y) (v.y*w.x) ((gC a.1 b.2).mono (by decide)) ((gC a.2 b.1).mono (by decide));refine aJ nf (i_ func163) mix (by simp[f163]) ?_;rw[V2.dx];simp[f163,aa];refine e2 c ?_;simp[aa];refine e2 d ?_;simp[aa];refine e2 e ?_;simp
theorem TT(v:V2)(a:bJ kQ v):aB prog 85 [eV v] (.str (bE (v.dot v))):=by
 refine aJ nf (i_ func85) mix (by simp[f85]) ?_;simp[f85,aa];refine c2 (Zw v v a a) ?_;simp
def jO(r:Int):Rat:=((4*r*r:Int):Rat)
theorem zy{r:Int}(a:0<=r)(b:r<=1000000):0<=4*r*r/\4*r*r<=4000000000000:=by
 have c:=fd a a;have d:=Int.mul_le_mul b b a (by decide);rw[Int.mul_assoc];omega
theorem B0{r:Int}(a:0<=r)(b:r<=1000000):bL 42 (jO r):=by
 have:=zy a b;exact nu o_ (by decide)
structure S3 where
 a:Rat
 b:Rat
 d:Rat
def eS(s:S3):PV:=.st 58 [.str (bE s.a),.str (bE s.b),.str (bE s.d)]
@[simp] theorem aO5(s:S3):aL (eS s)=.agg 58:=rfl
@[simp] theorem aNu(s:S3):bY (eS s)=[.str (bE s.a),.str (bE s.b),.str (bE s.d)]:=rfl
theorem Lw(p:fF)(D:Nat)(d:nA p)(c:D<=100000):aB prog 44 [fX p,.int .i64 D] (.bool (fe p.x D&&fe p.y D)):=by
 have a:=Ay p.x D d.1 c;have b:=Ay p.y D d.2 c;refine aJ nf (i_ func44) mix (by simp[f44]) ?_;obtain⟨x,y⟩:=p;dsimp only at a b⊢;simp only[fX];cases hx:fe x D
 ·rw[hx]at a;simp[f44,aa];refine c2 a ?_;simp
 ·rw[hx]at a;simp[f44,aa];refine c2 a ?_;simp[aa];refine c2 b ?_;simp
def xf(k:Nat)(s:S3):Prop:=bL k s.a/\bL k s.b/\bL k s.d
theorem xf.mono{k l:Nat}{s:S3}(h:xf k s)(a:k<=l):xf l s:=⟨h.1.mono a,h.2.1.mono a,h.2.2.mono a⟩
def S3.add(s t:S3):S3:=⟨s.a+t.a,s.b+t.b,s.d⟩
def S3.mul(s t:S3):S3:=⟨s.a*t.a+s.b*t.b*s.d,s.a*t.b+t.a*s.b,s.d⟩
def S3.times(x:Rat)(s:S3):S3:=⟨x*s.a,x*s.b,s.d⟩
structure P4 where
 x:S3
 y:S3
def Qp(p:P4):PV:=.st 60 [eS p.x,eS p.y]
@[simp] theorem aOZ(p:P4):aL (Qp p)=.agg 60:=rfl
@[simp] theorem aNo(p:P4):bY (Qp p)=[eS p.x,eS p.y]:=rfl
def ET(k:Nat)(p:P4):Prop:=xf k p.x/\xf k p.y
theorem ET.mono{k l:Nat}{p:P4}(h:ET k p)(a:k<=l):ET l p:=⟨h.1.mono a,h.2.mono a⟩
def P4.dot(v:V2)(p:P4):S3:=(S3.times v.x p.x).add (S3.times v.y p.y)
def sg3(a b o:Int):Int:=if 0<=a*b then(if a=0 then b else a)else a*o
def sgS(s:S3):Int:=sg3 (eU s.a) (eU s.b*eU s.d) (dO (s.a*s.a) (s.b*s.b*s.d))
namespace Hk
def kZ:Nat:=9223372036854775808
def zG:Nat:=1606938044258990275541962092341162602522202993782792835301376
def qq{α:Type}(n:Nat)(f:Nat->α):α:=match n with
 |0=>f 0
 |k+1=>f (k+1)
theorem vY{α:Type}(n:Nat)(f:Nat->α):qq n f=f n:=by cases n<;>rfl
def AG{α:Type}(z:Int)(f:Int->α):α:=match z with
 | .ofNat n=>qq n fun n=>f (.ofNat n)
 | .negSucc n=>qq n fun n=>f (.negSucc n)
theorem Nh{α:Type}(z:Int)(f:Int->α):AG z f=f z:=by cases z<;>simp[AG,vY]
def qA:Int->Bool
 | .ofNat n=>j9 n kZ
 | .negSucc n=>j9 (n+1) kZ
theorem Dh{z:Int}:qA z=true↔z.natAbs<9223372036854775808:=by
 cases z with
 |ofNat n=>simp only[qA,kh,kZ];exact Iff.rfl
 |negSucc n=>simp only[qA,kh,kZ];exact Iff.rfl
def oT:Int->Int->Bool
 | .ofNat a,.ofNat b=>iz a b
 | .negSucc a,.negSucc b=>iz a b
 |_,_=>false
theorem zQ:∀{a b:Int},oT a b=true->a=b
 | .ofNat a,.ofNat b,h=>by simp only[oT]at h;rw[h7 h]
 | .negSucc a,.negSucc b,h=>by simp only[oT]at h;rw[h7 h]
 | .ofNat a,.negSucc b,h=>by simp[oT]at h
 | .negSucc a,.ofNat b,h=>by simp[oT]at h
def uv(z:Int):Option PV:=bif qA z then some (ff z)else bif iz z.natAbs kZ then none else some (kY z)
theorem zi{z:Int}{p:PV}(h:uv z=some p)(m:Bool):eI ⟨z,m⟩=p:=by
 unfold uv at h;rw[jt];rcases hs:qA z with _|_
 ·simp only[hs,cond_false]at h;rcases a:iz z.natAbs kZ with _|_
  case true=>rw[a]at h;cases h
  ·have c:¬iz z.natAbs kZ=true:=by rw[a];decide
   rw[a,cond_false]at h;simp only[mm]at h;have b:¬z.natAbs<9223372036854775808:=fun h=>by rw[Dh.2 h]at hs;cases hs
   have d:z.natAbs≠9223372036854775808:=fun e=>c (by rw[e];rfl);rw[if_neg,h];simp only[NI.sm,ea,decide_eq_true_eq,dp,not_or,not_and];exact⟨o_,fun h=>by omega⟩
 ·simp only[hs,cond_true,mm]at h;have b:=Dh.1 hs;rw[if_pos,h];simp only[NI.sm,ea,decide_eq_true_eq,dp];exact .inl o_
def xn:List PV->Option (List Nat)
 |[]=>some []
 | .int .u64 (.ofNat x)::r=>match xn r with
  |some l=>some (x::l)
  |none=>none
 |_=>none
theorem N7:∀{l:List PV}{a:List Nat},xn l=some a->l=a.map fun x:Nat=>PV.int .u64 x
 |[],a,h=>by simp only[xn,mm]at h;subst h;rfl
 |v::r,a,h=>by
  unfold xn at h
  split at h
  ·rename_i e;cases e
  ·rename_i x c e;cases e
   split at h
   ·rename_i l b;simp only[mm]at h;subst h;rw[N7 b];rfl
   ·cases h
  ·cases h
def sK:List Nat->List Nat->Bool
 |[],[]=>true
 |x::a,y::b=>bif iz x y then sK a b else false
 |_,_=>false
theorem Dd:∀{a b:List Nat},sK a b=true->a=b
 |[],[],_=>rfl
 |[],_::_,h=>by simp[sK]at h
 |_::_,[],h=>by simp[sK]at h
 |x::a,y::b,h=>by
  simp only[sK,dq]at h
  split at h
  ·rename_i hx;rw[h7 hx,Dd h]
  ·cases h
def AD:PV->Option Int
 | .st u [.int .i64 z,.aO]=>bif iz u 121 then(bif qA z then some z else none)else none
 | .st u [.int .i64 s,.seq l]=>match xn l with
  |some a=>qq (iZ wB a) fun n=>bif iz u 121&&(j9 kZ n&&sK (aA wB n) a)then
   (bif oT s 1 then some (.ofNat n)else bif oT s (-1)then some (.negSucc (n-1))else none)else none
  |none=>none
 |_=>none
theorem Nj{p:PV}{z:Int}(h:AD p=some z):p=eI ⟨z,false⟩:=by
 unfold AD at h
 split at h
 ·rename_i u y;simp only[dq]at h
  split at h
  ·rename_i g
   split at h
   ·rename_i hs;simp only[mm]at h;subst h;rw[h7 g];exact(zi (by rw[uv,hs];rfl) false).symm
   ·cases h
  ·cases h
 ·rename_i u s l
  split at h
  ·rename_i i f;rw[vY]at h;have e:=N7 f;generalize iZ wB i=n at h;simp only[dq]at h
   split at h
   ·rename_i hc;simp only[dp,kh]at hc;obtain⟨b,j,c⟩:=hc;have d:=Dd c;have k:kZ=9223372036854775808:=rfl;rw[h7 b,e,<-d];have key:∀z:Int,z.natAbs=n->eI ⟨z,false⟩=kY z:=fun z m=>by
     refine zi ?_ false;have e1:qA z=false:=by
      rcases a:qA z with _|_
      ·rfl
      ·have:=Dh.1 a;omega
     have e2:iz z.natAbs kZ=false:=by
      rcases a:iz z.natAbs kZ with _|_
      ·rfl
      ·have:=h7 a;omega
     rw[uv,e1,e2];rfl
    split at h
    ·rename_i hs;simp only[mm]at h;subst h;rw[zQ hs,key _ rfl,kY,if_neg (by show¬((n:Int)<0);omega)];rfl
    ·split at h
     ·rename_i hs;simp only[mm]at h;subst h;rw[zQ hs,key _ (by show n-1+1=n;omega),kY,if_pos o_];have:(fm (n-1)).natAbs=n:=by show n-1+1=n;omega
      rw[this];rfl
     ·cases h
   ·cases h
  ·cases h
 ·cases h
def EW(n:Int)(d:Nat):Bool:=j9 0 d&&(j9 n.natAbs zG&&(j9 d zG&&iz (i7 n.natAbs d) 1))
def qo:PV->Option (Int×Nat)
 | .st u [a,b]=>match AD a,AD b with
  |some n,some (.ofNat d)=>bif iz u 123&&EW n d then some (n,d)else none
  |_,_=>none
 |_=>none
def fr(n:Int)(d:Nat):NF:=⟨mp n d,false⟩
theorem Wu:zG=2^200:=by decide
theorem Di{p:PV}{n:Int}{d:Nat}(h:qo p=some (n,d)):p=eF (fr n d)/\d≠0/\bL kB (fr n d).q:=by
 unfold qo at h
 split at h
 case h_2=>cases h
 rename_i u a b
 split at h
 case h_2=>cases h
 rename_i c d' g i;simp only[dq]at h
 split at h
 case isFalse=>cases h
 rename_i hc;simp only[mm,Prod.mk.injEq]at h;obtain⟨rfl,rfl⟩:=h;simp only[EW,dp,kh]at hc;obtain⟨c1,c2,c3,c4,c5⟩:=hc;have f:=h7 c5;have e:d'≠0:=o_
 obtain⟨e1,e2⟩:=ma (n:=c) e;rw[f]at e1 e2;simp only[fp,ge,js]at e1 e2;rw[Wu]at c3 c4;refine⟨?_,e,(zt e c3 c4).mono (by decide)⟩;rw[h7 c1,Nj g,Nj i,eF];have g1:(fr c d').num=⟨c,false⟩:=by rw[NF.num,fr,e1]
 have g2:(fr c d').den=⟨(d':Int),false⟩:=by rw[NF.den,fr,e2];rfl
 rw[g1,g2];rfl
def ny(n:Int)(d:Nat):Option PV:=
 qq (i7 n.natAbs d) fun g=>AG (n/g) fun n=>qq (d/g) fun d=>match uv n,uv (.ofNat d)with
  |some a,some b=>some (.st 123 [a,b])
  |_,_=>none
theorem pL{n:Int}{d:Nat}{p:PV}(f:d≠0)(h:ny n d=some p)(m:Bool):p=eF ⟨mp n d,m⟩:=by
 obtain⟨e1,e2⟩:=ma (n:=n) f;simp only[ny,vY,Nh]at h
 split at h
 case h_2=>cases h
 rename_i a b c e;simp only[mm]at h;subst h;rw[eF];have g1:(NF.num ⟨mp n d,m⟩)=⟨n/(i7 n.natAbs d:Nat),m⟩:=by rw[NF.num,e1]
 have g2:(NF.den ⟨mp n d,m⟩)=⟨((d/i7 n.natAbs d:Nat):Int),false⟩:=by rw[NF.den,e2];rfl
 rw[g1,g2,zi c,<-zi e false];rfl
def two(op:Int->Nat->Int->Nat->Option PV)(a b:PV):Option PV:=match qo a,qo b with
 |some (n,d),some (m,e)=>op n d m e
 |_,_=>none
theorem wo{op:Int->Nat->Int->Nat->Option PV}{a b p:PV}(h:two op a b=some p):
 ∃n d m e,a=eF (fr n d)/\b=eF (fr m e)/\d≠0/\e≠0/\bL kB (fr n d).q/\bL kB (fr m e).q/\op n d m e=some p:=by
 unfold two at h
 split at h
 case h_2=>cases h
 rename_i n d m e g i;obtain⟨a1,a2,a3⟩:=Di g;obtain⟨b1,c,f⟩:=Di i;exact⟨n,d,m,e,a1,b1,a2,c,a3,f,h⟩
def Rh(n:Int)(d:Nat)(m:Int)(e:Nat):Option PV:=ny (n*e+m*d) (d*e)
def Rj(n:Int)(d:Nat)(m:Int)(e:Nat):Option PV:=ny (n*e-m*d) (d*e)
def Ri(n:Int)(d:Nat)(m:Int)(e:Nat):Option PV:=ny (n*m) (d*e)
def A7:Int->Int
 | .ofNat n=>bif iz n 0 then 0 else 1
 | .negSucc _=>-1
theorem My(z:Int):A7 z=if z<0 then -1 else if z=0 then 0 else 1:=by
 cases z with
 |ofNat n=>
  rw[if_neg s_];cases n with
  |zero=>rfl
  |succ n=>rw[if_neg (by simp;omega)];rfl
 |negSucc n=>rw[if_pos o_];rfl
def ES(n:Int)(d:Nat)(m:Int)(e:Nat):Option PV:=some (.int .i64 (A7 (n*e-m*d)))
def AX(n:Int)(d:Nat)(m:Int)(e:Nat):Option PV:=match m with
 | .ofNat k=>bif iz k 0 then none else ny (n*e) (d*k)
 | .negSucc k=>ny (-(n*e)) (d*(k+1))
theorem ur{d:Nat}(h:d≠0):(d:Int)≠0:=o_
theorem ZT{n m:Int}{d e:Nat}{p:PV}(a:d≠0)(b:e≠0)(h:Rh n d m e=some p):p=eF ((fr n d).add (fr m e)):=by
 rw[NF.add,fr,fr];dsimp only;rw[m2 _ _ (ur a) (ur b)];have:=pL (j6 a b) h;rw[eo]at this;exact this _
theorem ZW{n m:Int}{d e:Nat}{p:PV}(a:d≠0)(b:e≠0)(h:Rj n d m e=some p):p=eF ((fr n d).sub (fr m e)):=by
 rw[NF.sub,NF.add,NF.neg,fr,fr];dsimp only;rw[m7,m2 _ _ (ur a) (ur b)];have:=pL (j6 a b) h;rw[eo]at this;rw[gi,<-Int.sub_eq_add_neg];exact this _
theorem ZV{n m:Int}{d e:Nat}{p:PV}(a:d≠0)(b:e≠0)(h:Ri n d m e=some p):p=eF ((fr n d).mul (fr m e)):=by
 rw[NF.mul,fr,fr];dsimp only;rw[mx];have:=pL (j6 a b) h;rw[eo]at this;exact this _
theorem YQ(x y:Rat):dO x y=if x-y<0 then -1 else if x-y=0 then 0 else 1:=by
 have b:x-y<0↔x<y:=by
  constructor
  ·intro h;have a:=(m3 (c:=y)).2 h
   rwa [ms,m0]at a
  ·intro h;refine(m3 (c:=y)).1 ?_
   rwa [ms,m0]
 have a:x-y=0↔x=y:=by
  constructor
  ·intro h;have d:=congrArg (·+y) h
   simpa[ms,m0]using d
  ·intro h;rw[h,m9]
 simp only[dO,b,a]
theorem CA(n:Int){d:Nat}(f:d≠0):(if mp n d<0 then(-1:Int)else if mp n d=0 then 0 else 1)=A7 n:=by
 rw[DY,My];obtain⟨e1,-⟩:=ma (n:=n) f;have j:0<i7 n.natAbs d:=j5 _ o_;have i:((i7 n.natAbs d:Nat):Int)∣n:=by
  rw[e8];exact kv _ _
 obtain⟨c,hc⟩:=i;rw[e1];generalize i7 n.natAbs d=g at*;have a:(0:Int)<g:=o_
 subst hc;rw[e7 _ o_];have a1:(g:Int)*c<0↔c<0:=by
  constructor
  ·intro h;refine Int.not_le.1 fun e=>?_;have:=fd (e9 a) e;omega
  ·intro h;exact fl a h
 have b:(g:Int)*c=0↔c=0:=by
  rw[Int.mul_eq_zero];constructor
  ·rintro(h|h)
   ·omega
   ·exact h
  ·exact fun h=>.inr h
 simp only[a1,b]
theorem ZU{n m:Int}{d e:Nat}{p:PV}(a:d≠0)(b:e≠0)(h:ES n d m e=some p):p=.int .i64 (dO (fr n d).q (fr m e).q):=by
 simp only[ES,mm]at h;rw[<-h,YQ,fr,fr];dsimp only;rw[Rat.divInt_sub_divInt _ _ (ur a) (ur b),<-eo,CA _ (j6 a b)]
theorem O8{n m:Int}{d e:Nat}{p:PV}(a:d≠0)(c:e≠0)(h:AX n d m e=some p):p=eF ((fr n d).div (fr m e))/\(fr m e).q≠0:=by
 have b:m≠0->(fr m e).q≠0:=fun g hq=>by
  rw[fr]at hq;dsimp only at hq;have:=CA m c;rw[hq,if_neg (by decide),if_pos rfl,My]at this
  split at this
  ·omega
  ·first
     |omega
     |(rw[if_neg g]at this;omega)
 rw[NF.div,fr,fr];dsimp only;unfold AX at h;cases m with
 |ofNat k=>
  simp only[dq]at h
  split at h
  ·cases h
  ·rename_i hk;have f:k≠0:=fun e=>hk (by rw[e];rfl);have:=pL (j6 a f) h;refine⟨?_,b (by show(k:Int)≠0;omega)⟩;have e:(mp n d:Rat)/mp (Int.ofNat k) e=mp (n*e) (d*k):=by
    rw[m1,m8,mx];rfl
   rw[e];rw[eo]at this;exact this _
 |negSucc k=>
  dsimp only at h;have:=pL (j6 a (Nat.succ_ne_zero k)) h;refine⟨?_,b o_⟩;have e:(mp n d:Rat)/mp (fm k) e=mp (-(n*e)) ((d:Int)*((k+1:Nat):Int)):=by
   rw[m1,m8,mx];rw[show fm k= -((k+1:Nat):Int)from rfl,gj];rw[Rat.divInt_neg']
  rw[e];rw[eo]at this;exact this _
def AW:Nat->Nat->Nat
 |0,_=>0
 |f+1,n=>bif iz n 0 then 0 else AW f (n/10)+1
theorem Zo{a b:Nat}(h:a<b):j9 a b=true:=by rw[kh];exact h
theorem AA{a b:Nat}(h:j9 a b=true):a<b:=by rw[kh]at h;exact h
theorem OU:∀(f n:Nat),n<10^f->AW f n=nd n
 |0,n,h=>by
  have:n=0:=by simpa using h
  subst this;rw[nd];rfl
 |f+1,n,h=>by
  rw[AW,nd]
  by_cases a:n=0
  ·subst a;rfl
  ·have b:iz n 0=false:=by
    rcases c:iz n 0 with _|_
    ·rfl
    ·exact(a (h7 c)).elim
   rw[b,cond_false,dif_neg a,OU f (n/10) (by rw[ih o_];rw[h9]at h;exact h)]
def uM(n:Nat):List Nat:=qq (AW 80 n) fun k=>bif j9 1 k then low k n else low 1 n
theorem zW{n:Nat}(h:n<10^80):uM n=bk n:=by
 rw[uM,vY,OU _ _ h,bk];rcases a:j9 1 (nd n)with _|_
 ·have:¬1<nd n:=fun b=>by rw[Zo b]at a;cases a
  rw[cond_false,Nat.max_eq_left o_]
 ·have:1<nd n:=AA a;rw[cond_true,Nat.max_eq_right o_]
def Fa:Int->List Nat
 | .ofNat n=>uM n
 | .negSucc n=>45::uM (n+1)
theorem aIW{z:Int}(h:z.natAbs<10^80):Fa z=bO z:=by
 cases z with
 |ofNat n=>rw[bO,if_neg (by show¬((n:Int)<0);omega)];exact zW h
 |negSucc n=>rw[bO,if_pos o_];exact congrArg (45::·) (zW h)
def E9(n:Int)(d:Nat):List Nat:=bif iz d 1 then Fa n else Fa n++47::uM d
theorem LL{n:Int}{d:Nat}(a:d≠0)(b:i7 n.natAbs d=1):(fr n d).q.num=n/\(fr n d).q.den=d:=by
 obtain⟨e1,e2⟩:=ma (n:=n) a;rw[b]at e1 e2;simp only[fp,ge,js]at e1 e2;exact⟨e1,e2⟩
theorem LQ{p:PV}{n:Int}{d:Nat}(h:qo p=some (n,d)):i7 n.natAbs d=1/\n.natAbs<10^80/\d<10^80:=by
 unfold qo at h
 split at h
 case h_2=>cases h
 split at h
 case h_2=>cases h
 simp only[dq]at h
 split at h
 case isFalse=>cases h
 rename_i hc;simp only[mm,Prod.mk.injEq]at h;obtain⟨rfl,rfl⟩:=h;simp only[EW,dp,kh]at hc;obtain⟨c1,c2,c3,c4,c5⟩:=hc;have a:zG<10^80:=by decide
 exact⟨h7 c5,o_,o_⟩
theorem aIK{p:PV}{n:Int}{d:Nat}(h:qo p=some (n,d))(f:d≠0):E9 n d=bE (fr n d).q:=by
 obtain⟨g,b,c⟩:=LQ h;obtain⟨e1,e2⟩:=LL f g;rw[E9,bE,e1,e2,aIW b,zW c];rcases a:iz d 1 with _|_
 ·rw[cond_false,if_neg (fun e=>by rw[e]at a;cases a)]
 ·rw[cond_true,if_pos (h7 a)]
def qm:List Nat->Nat->Bool
 |[],_=>true
 |c::r,f=>match f with
  |0=>false
  |f+1=>bif j9 c 256 then qm r f else false
theorem wz:∀{s:List Nat}{f:Nat},qm s f=true->s.length<=f/\∀c∈s,c<256
 |[],_,_=>⟨jF _,fun c hc=>by cases hc⟩
 |c::r,0,h=>by simp[qm]at h
 |c::r,f+1,h=>by
  simp only[qm,dq]at h
  split at h
  ·rename_i hc;obtain⟨b,a⟩:=wz h;refine⟨by simp;omega,fun x hx=>?_⟩;rcases hn.1 hx with rfl|hx
   ·exact AA hc
   ·exact a x hx
  ·cases h
def Q9(z:Int):Bool:=match z with
 | .ofNat n=>iz n 0
 |_=>false
theorem aFJ{z:Int}(h:Q9 z=true):z=0:=by
 cases z with
 |ofNat n=>rw[h7 (show iz n 0=true from h)];rfl
 |negSucc n=>cases h
def Eu(n:Int)(d:Nat):Option PV:=bif iz d 0 then none else ny n d
theorem axn{n:Int}{d:Nat}{p:PV}(h:Eu n d=some p)(m:Bool):p=eF ⟨mp n d,m⟩:=by
 unfold Eu at h;rcases a:iz d 0 with _|_
 ·rw[a]at h;exact pL (fun e=>by rw[e]at a;cases a) h m
 ·rw[a]at h;cases h
def Ev(s:List Nat):Option PV:=bif Q9 (b9 s)&&qm s 1000 then
 AG (if b8 s=true then -(bd (bH s):Int)else bd (bH s)) fun n=>qq (if eA s=true then bd (bQ s)else 1) fun d=>Eu n d else none
theorem axo{s:List Nat}{p:PV}(h:Ev s=some p):p=eF ⟨aS s,false⟩/\b9 s=0/\s.length<=1048576:=by
 unfold Ev at h;simp only[dq,Nh,vY]at h
 split at h
 case isFalse=>cases h
 rename_i hc;rw[dp]at hc;obtain⟨c1,c2⟩:=hc;obtain⟨a,b⟩:=wz c2;refine⟨?_,aFJ c1,o_⟩;rw[aS];exact axn h false
def QC:Int->Bool
 | .ofNat n=>j9 n kZ
 | .negSucc n=>j9 n kZ
theorem azl{z:Int}(h:QC z=true):-9223372036854775808<=z/\z<=9223372036854775807:=by
 cases z with
 |ofNat n=>have:n<9223372036854775808:=AA h;refine⟨?_,?_⟩<;>show _<=_<;>simp only[Int.ofNat_eq_natCast]<;>omega
 |negSucc n=>have:n<9223372036854775808:=AA h;omega
def EY(f:Nat)(a:PV):Option PV:=match a with
 | .int .i64 z=>bif iz f 130&&QC z then ny z 1 else none
 | .str s=>bif iz f 140 then Ev s else bif iz f 284&&qm s 1000 then some (.int .i64 (b9 s))else none
 | .st u [.str x,.str y]=>bif iz f 106&&(iz u 31&&(qm x 1000&&qm y 1000))then some (.int .i64 (ez ⟨x,y⟩))else none
 | .st u [c,e]=>match qo (.st u [c,e])with
  |some (n,d)=>bif iz f 150 then ny (-n) d else
   bif iz f 188 then some (.int .i64 (A7 n))else
   bif iz f 149 then AX 1 1 n d else
   bif iz f 162 then some (.str (E9 n d))else
   bif iz f 129 then some (.bool false)else none
  |none=>none
 |_=>none
def uL(f:Nat)(a b:PV):Option PV:=
 bif iz f 193 then two Rh a b else
 bif iz f 194 then two Rj a b else
 bif iz f 195 then two Ri a b else
 bif iz f 131 then two AX a b else
 bif iz f 120 then two ES a b else none
def hk(f:Nat):List PV->Option PV
 |[a]=>EY f a
 |[a,b]=>uL f a b
 |_=>none
theorem Qj(z:Int):mp z ((1:Nat):Int)=(z:Rat):=by
 rw[show((1:Nat):Int)=1 from rfl,Rat.divInt_eq_div];rw[show((1:Int):Rat)=1 from rfl,m1,show(1:Rat)⁻¹=1 from by decide+kernel,Rat.mul_one]
theorem bq{a b:Nat}(h:iz a b=true):a=b:=h7 h
theorem aGK{f:Nat}{a v:PV}(h:EY f a=some v):aB prog f [a] v:=by
 unfold EY at h
 split at h
 ·rename_i z;simp only[dq]at h
  split at h
  ·rename_i hc;rw[dp]at hc;obtain⟨w,A⟩:=azl hc.2;rw[bq hc.1,pL (by decide) h true];have:=kj z w A;rw[NF.int]at this;rw[Qj];exact this
  ·cases h
 ·rename_i s;simp only[dq]at h
  split at h
  ·rename_i hf;obtain⟨e1,e2,e3⟩:=axo h;rw[bq hf,e1];exact ki s e2 e3
  ·split at h
   ·rename_i hc;rw[dp]at hc;obtain⟨j,b⟩:=wz hc.2;simp only[mm]at h;subst h;rw[bq hc.1];exact Ab s o_ b
   ·cases h
 ·rename_i u x y;simp only[dq]at h
  split at h
  ·rename_i hc;simp only[dp]at hc;obtain⟨c1,c2,c3,c4⟩:=hc;obtain⟨j,b⟩:=wz c3;obtain⟨B,p⟩:=wz c4;simp only[mm]at h;subst h;rw[bq c1,bq c2];exact u7 ⟨x,y⟩ ⟨⟨by show x.length<=_;omega,b⟩,⟨by show y.length<=_;omega,p⟩⟩
  ·cases h
 ·rename_i u c e _
  split at h
  case h_2=>cases h
  rename_i n d l;obtain⟨t,g,i⟩:=Di l;rw[t];simp only[dq]at h
  split at h
  ·rename_i hf;rw[bq hf,pL g h false,<-m7];exact DJ _ i
  split at h
  ·rename_i hf;simp only[mm]at h;subst h;rw[bq hf,<-CA n g];exact ud _
  split at h
  ·rename_i hf;obtain⟨e1,e2⟩:=O8 (by decide) g h;have e3:(fr 1 1).div (fr n d)=(fr n d).inv:=by
    rw[NF.div,NF.inv,fr,fr];dsimp only;rw[Qj,m1];rw[show((1:Int):Rat)=1 from rfl,Rat.one_mul]
   rw[bq hf,e1,e3];exact DK _ i e2
  split at h
  ·rename_i hf;simp only[mm]at h;subst h;rw[bq hf,aIK l g];exact ZG _ i
  split at h
  ·rename_i hf;simp only[mm]at h;subst h;rw[bq hf];have m:=Zz _ i;obtain⟨q,j,b⟩:=LQ l;obtain⟨e1,e2⟩:=LL g q;have o:∀k,k<10^80->mF k=false:=fun k hk=>by
    rw[mF,decide_eq_false_iff_not];have C:nd k<=80:=Nat.not_lt.1 fun r=>by have:=(oL _ _).1 r;omega
    rw[rq];omega
   rw[EO,e1,e2,o _ j,o _ b]at m;exact m
  ·cases h
 ·cases h
theorem aIE{f:Nat}{a b v:PV}(h:uL f a b=some v):aB prog f [a,b] v:=by
 unfold uL at h;simp only[dq]at h
 split at h
 ·rename_i hf;obtain⟨n,d,m,e,rfl,rfl,c,g,j,k,i⟩:=wo h;rw[bq hf,ZT c g i];exact su _ _ j k
 split at h
 ·rename_i hf;obtain⟨n,d,m,e,rfl,rfl,c,g,j,k,i⟩:=wo h;rw[bq hf,ZW c g i];exact qc _ _ j k
 split at h
 ·rename_i hf;obtain⟨n,d,m,e,rfl,rfl,c,g,j,k,i⟩:=wo h;rw[bq hf,ZV c g i];exact jQ _ _ j k
 split at h
 ·rename_i hf;obtain⟨n,d,m,e,rfl,rfl,c,g,j,k,i⟩:=wo h;obtain⟨e1,e2⟩:=O8 c g i;rw[bq hf,e1];exact PO _ _ j k e2
 split at h
 ·rename_i hf;obtain⟨n,d,m,e,rfl,rfl,c,g,j,k,i⟩:=wo h;rw[bq hf,ZU c g i];exact nv _ _ j k
 ·cases h
theorem ayU{f:Nat}{vs:List PV}{v:PV}(h:hk f vs=some v):aB prog f vs v:=by
 unfold hk at h
 split at h
 ·exact aGK h
 ·exact aIE h
 ·cases h
end Hk
theorem aJc{n:Nat}(h:n<10^80):bE ((n:Nat):Rat)=Hk.uM n:=by
 rw[Hk.zW h,bE,if_pos (by rfl),bO,if_neg (by show¬((n:Int)<0);omega)];rfl
structure dS where
 x:Int
 y:Int
 deriving DecidableEq
structure cX where
 name:List Nat
 dP:Int
 a:List Nat
 b:List Nat
structure ch where
 name:List Nat
 pt:fF
structure ar where
 cs:List dS
 aR:Int
 ba:List cX
 ak:List ch
def cH(p:dS):PV:=.st 201 [.int .i64 p.x,.int .i64 p.y]
def fq(p:cX):PV:=.st 82 [.str p.name,.int .i64 p.dP,.str p.a,.str p.b]
def bC(p:ch):PV:=.st 76 [.str p.name,fX p.pt]
def df(t:ar):PV:=.st 25 [.seq (t.cs.map cH),.int .i64 t.aR,.seq (t.ba.map fq),.seq (t.ak.map bC)]
@[simp] theorem aO4(p:dS):aL (cH p)=.agg 201:=rfl
@[simp] theorem aNt(p:dS):bY (cH p)=[.int .i64 p.x,.int .i64 p.y]:=rfl
@[simp] theorem aO1(p:cX):aL (fq p)=.agg 82:=rfl
@[simp] theorem aNq(p:cX):bY (fq p)=[.str p.name,.int .i64 p.dP,.str p.a,.str p.b]:=rfl
@[simp] theorem aO8(p:ch):aL (bC p)=.agg 76:=rfl
@[simp] theorem aNx(p:ch):bY (bC p)=[.str p.name,fX p.pt]:=rfl
@[simp] theorem aPd(t:ar):aL (df t)=.agg 25:=rfl
@[simp] theorem aNB(t:ar):bY (df t)=[.seq (t.cs.map cH),.int .i64 t.aR,.seq (t.ba.map fq),.seq (t.ak.map bC)]:=rfl
@[simp] theorem aMF:prog.cellsOf 201=2:=k_
@[simp] theorem aME:prog.cellsOf 82=4:=k_
@[simp] theorem aMH:prog.cellsOf 76=3:=k_
def fR(p:dS):Bool:=decide (10000<max p.x p.y)||decide (min p.x p.y< -10000)
theorem ZL(p:dS):aB prog 208 [cH p] (.bool (fR p)):=by
 obtain⟨x,y⟩:=p;refine aJ nf (i_ func208) mix (by simp[f208]) ?_;have e1:max x y=if x<y then y else x:=by split<;>omega
 have e2:min x y=if y<x then y else x:=by split<;>omega
 rw[fR,e1,e2]
 by_cases h:(if x<y then y else x)<=10000
 ·have a:¬10000<(if x<y then y else x):=by omega
  by_cases b:(if y<x then y else x)< -10000
  ·simp[f208,aa,h,a,b]
  ·simp[f208,aa,h,a,b]
 ·have a:10000<(if x<y then y else x):=by omega
  simp[f208,aa,h,a]
def dV(p:dS):Prop:=-10000<=p.x/\p.x<=10000/\-10000<=p.y/\p.y<=10000
theorem FC{p:dS}(h:fR p=false):dV p:=by
 simp only[fR,Bool.or_eq_false_iff,decide_eq_false_iff_not]at h;unfold dV;omega
def lX(a b c:dS):Int:=(b.x-a.x)*(c.y-a.y)-(b.y-a.y)*(c.x-a.x)
theorem xy{a b:Int}{A B:Int}(c:-A<=a)(d:a<=A)(e:-B<=b)(f:b<=B):-(A*B)<=a*b/\a*b<=A*B:=by
 have k1:a.natAbs<=A.natAbs:=o_
 have k2:b.natAbs<=B.natAbs:=o_
 have k3:=kd k1 k2;rw[<-e6,<-e6]at k3;have k4:0<=A*B:=fd o_ o_;omega
theorem SI(a b c:dS)(i:dV a)(j:dV b)(hc:dV c):aB prog 270 [cH a,cH b,cH c] (.int .i64 (lX a b c)):=by
 obtain⟨d,e⟩:=a;obtain⟨bx,f⟩:=b;obtain⟨g,h⟩:=c;simp only[dV]at i j hc;have w1:ec.wrap (bx-d)=bx-d:=aQ _ o_ o_;have k:ec.wrap (h-e)=h-e:=aQ _ o_ o_;have l:ec.wrap (f-e)=f-e:=aQ _ o_ o_
 have m:ec.wrap (g-d)=g-d:=aQ _ o_ o_;have q:=xy (a:=bx-d) (b:=h-e) (A:=20000) (B:=20000) o_ o_ o_ o_;have r:=xy (a:=f-e) (b:=g-d) (A:=20000) (B:=20000) o_ o_ o_ o_;have n:ec.wrap ((bx-d)*(h-e))=(bx-d)*(h-e):=aQ _ o_ o_;have o:ec.wrap ((f-e)*(g-d))=(f-e)*(g-d):=aQ _ o_ o_;have p:ec.wrap ((bx-d)*(h-e)-(f-e)*(g-d))=(bx-d)*(h-e)-(f-e)*(g-d):=aQ _ o_ o_;refine aJ nf (i_ func270) mix (by simp[f270]) ?_;rw[lX];simp[f270,aa,w1,k,l,m,n,o,p]
def ar.nx(t:ar)(i:Nat):Nat:=(i+1)% t.cs.length
def ar.at(t:ar)(i:Nat):dS:=t.cs.getD i ⟨0,0⟩
theorem ar.get{t:ar}{i:Nat}(h:i<t.cs.length):t.cs[i]?=some (t.at i):=by
 rw[ar.at,hE,gm h];rfl
@[simp] theorem ar.aP{t:ar}{i:Nat}(h:i<t.cs.length):t.cs[i]'h=t.at i:=by
 rw[ar.at,hE,gm h];rfl
theorem ar.lY{t:ar}(h:0<t.cs.length)(i:Nat):t.nx i<t.cs.length:=i2 _ h
theorem F5(t:ar)(i:Nat)(h:i<t.cs.length)(f:t.cs.length<=1000000):aB prog 175 [df t,.int .i64 i] (cH (t.at (t.nx i))):=by
 have w1:ec.wrap ((i:Int)+1)=(i:Int)+1:=aQ _ o_ o_;have c:=t.lY o_ i;have e1:((i:Int)+1).tmod (t.cs.length:Int)=((t.nx i:Nat):Int):=by
  rw[ar.nx,en,ee o_];rfl
 have b:=ar.get c;have d:¬t.cs.length=0:=o_
 have a:¬t.cs=[]:=by intro e;rw[e]at h;simp at h
 refine aJ nf (i_ func175) mix (by simp[f175]) ?_;simp[f175,aa,w1,e1,b,d,a]
def ar.nH(t:ar)(i:Nat)(m:Nat):Prop:=∀k,k<m->k≠i->k≠t.nx i->0<lX (t.at i) (t.at (t.nx i)) (t.at k)
instance(t:ar)(i m:Nat):Decidable (t.nH i m):=inferInstanceAs (Decidable (∀k,k<m->_))
def ar.gv(t:ar):Bool:=decide (∀i,i<t.cs.length->t.nH i t.cs.length)
theorem ar.fE{t:ar}(h:∀p∈t.cs,dV p){i:Nat}(hi:i<t.cs.length):dV (t.at i):=h _ (List.mem_of_getElem? (ar.get hi))
theorem SQ(t:ar)(x:t.cs.length<=1000000)(m:∀p∈t.cs,dV p):aB prog 209 [df t] (.bool t.gv):=by
 refine aJ nf (i_ func209) mix (by simp[f209]) ?_;generalize a:t.cs.length=n at*;simp[f209,aa,a];refine lp (α:=Nat) (fun i=>⟨[(4,.p (.int .i64 i)),(3,.p (.int .i64 n)),(1,.ptr 0 [])],[.box false (.p (df t))]⟩) (fun i=>i<=n/\∀j,j<i->t.nH j n) (fun i=>n-i) 0 s_ ?_;rintro i ⟨v,q⟩
 by_cases hi:i<n
 ·simp[hi];refine lp (α:=Nat) (fun k=>⟨[(5,.p (.int .i64 k)),(4,.p (.int .i64 i)),(3,.p (.int .i64 n)),(1,.ptr 0 [])],[.box false (.p (df t))]⟩) (fun k=>k<=n/\t.nH i k) (fun k=>n-k) 0 (by simp[ar.nH]) ?_;rintro k ⟨g1,g2⟩
  by_cases hk:k<n
  ·have r:=F5 t i o_ o_;have y:t.nx i<n:=by rw[<-a];exact t.lY o_ i
   have d:=b6 (i:=i) o_;have e:=b6 (i:=k) o_;have e1:((i:Int)+1).tmod (n:Int)=((t.nx i:Nat):Int):=by
    rw[ar.nx,a,en,ee o_];rfl
   have s:=SI (t.at i) (t.at (t.nx i)) (t.at k) (ar.fE m o_) (ar.fE m o_) (ar.fE m o_);have f:=ar.get (t:=t) (i:=i) o_;have gk:=ar.get (t:=t) (i:=k) o_;have o:¬n=0:=o_
   by_cases c1:k=i
   ·subst c1;simp[hk,e];exact rd (k+1) ⟨hk,fun j g=>by
     by_cases l:j=k
     ·intro h;exact(h l).elim
     ·exact g2 j o_⟩
   ·have b:¬(k:Int)=(i:Int):=by omega
    by_cases c2:k=t.nx i
    ·rw[<-c2]at e1;simp[hk,b,d,e,e1,o];exact rd (k+1) ⟨hk,fun j g=>by
      by_cases l:j=k
      ·intro _ h;exact(h o_).elim
      ·exact g2 j o_⟩
    ·have c:¬(k:Int)=((t.nx i:Nat):Int):=by omega
     by_cases c3:lX (t.at i) (t.at (t.nx i)) (t.at k)<=0
     ·simp[hk,b,c,d,e,e1,o,f,gk,a,aa];refine Go.aq.e2 r ?_;simp[hk,a,f,gk,b,c,aa];refine Go.aq.e3 s ?_;simp[c3,b,c];have:t.gv=false:=by
       rw[ar.gv,decide_eq_false_iff_not];intro h;have:=h i o_ k o_ c1 c2;omega
      rw[this]
     ·simp[hk,b,c,d,e,e1,o,f,gk,a,aa];refine Go.aq.e2 r ?_;simp[hk,a,f,gk,b,c,aa];refine Go.aq.e3 s ?_;simp[c3,e,b,c];exact rd (k+1) ⟨hk,fun j g=>by
       by_cases l:j=k
       ·subst l;intro _ _;omega
       ·exact g2 j o_⟩
  ·have:k=n:=by omega
   subst this;have d:=b6 (i:=i) o_;simp[d];exact rd (i+1) ⟨hi,fun j g=>by
    by_cases u:j=i
    ·subst u;exact g2
    ·exact q j o_⟩
 ·have w:i=n:=by omega
  have:t.gv=true:=by
   rw[ar.gv,decide_eq_true_eq,a];intro j g;exact q j o_
  simp[hi,this]
end Go.aq
