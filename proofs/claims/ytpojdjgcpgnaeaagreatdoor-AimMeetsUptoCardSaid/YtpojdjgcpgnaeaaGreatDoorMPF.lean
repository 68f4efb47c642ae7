import Derived.Test.YtpojdjgcpgnaeaaGreatDoorMPE
import Derived.Test.YtpojdjgcpgnaeaaGreatDoorMThC
import Derived.Lib.AtoiAll
import Derived.Test.YtpojdjgcpgnaeaaGreatDoorMPC
/- Parts of a proof. -/
set_option maxRecDepth 100000
set_option maxHeartbeats 4000000
set_option linter.unusedSimpArgs false
set_option linter.unusedVariables false
set_option linter.unusedSectionVars false
open Go.Proofs.Tryz
open Bool renaming and_eq_true->da, cond_eq_ite->db, false_eq_true->dg, or_eq_true->dl
open Go renaming FuncId->dp, DataW->dq
open Go.IntKind renaming i64->dx
open Int renaming natAbs_natCast->dy, natCast_nonneg->dz, tdiv_eq_ediv_of_nonneg->ea, tmod_eq_emod_of_nonneg->eb, ofNat_natAbs_of_nonpos->ec, natCast_mul->ed, natCast_ediv->ee, natCast_emod->ei, natAbs_of_nonneg->ej, mul_ediv_cancel_left->ek, natAbs_mul->em, ofNat_dvd_left->en, le_of_lt->eo, natAbs_neg->eq, mul_nonneg->er, mul_neg_of_pos_of_neg->ew, negSucc->ey, natCast_one->eP, natCast_add->e7, sub_self->e8, lt_or_le->e9, ediv_one->fa, neg_neg->fb, neg_mul->fd, mul_neg->fi
open List renaming getElem?_eq_getElem->fl, take_of_length_le->fm, length_pos_iff->fp, range->fv, replicate->gb, all_eq_true->gc, map_cons->ge, take->gg, length_take->gi, getElem_mem->gj, length_append->gm, length_singleton->gt, drop_eq_getElem_cons->gx, take_succ_eq_append_getElem->gy, map_take->gU, getElem_range->g0, take_append_drop->g4, getElem_map->g5, append_nil->g6, getElem?_map->g7, mem_cons->g8, length_drop->g9, ext_getElem->ha, mem_map->hb, getElem?_range->hd, map_nil->hg, reverse_nil->hj, length_cons->hl, length->ho, length_map->hp, foldl_cons->ht, take_take->hu, all_cons->hv, map_map->hw, dropWhile_sublist->hA, map->hB, map_congr_left->hC, getElem_of_mem->hD, flatten_append->hE, dropWhile_cons->hF, mem_singleton->hG, getElem_of_eq->hH, take_length->hJ, getElem_set->hK, flatten_nil->hL, drop->hM, range_succ->hN, nil_append->hO, mem_append->hP, map_append->hQ, range_one->hR, mem_range->hS
open Nat renaming pow_le_pow_right->hT, lt_of_lt_of_le->hU, mul_comm->hV, le_trans->hW, lt_of_le_of_lt->hX, eq_of_beq_eq_true->hZ, mul_le_mul_right->h0, pow_succ->h2, div_lt_iff_lt_mul->h3, mod_eq_of_lt->h4, lt_or_ge->h5, div_div_eq_div_mul->h6, le_refl->h7, beq->h8, div_add_mod->h9, pow_pos->ih, mul_assoc->ii, mod_lt->ik, lt_trans->ip, div_eq_of_lt->ix, pow_zero->iy, gcd->i0, add_mul->i1, add_sub_cancel->i2, pow_add->i3, div_one->i4, zero_le->i5, one_mul->i6, mul_add->i7, mul_lt_mul''->i8, add_comm->i9, gcd_pos_of_pos_right->jh, mul_ne_zero->jp, div_le_self->js, div_pos->j0, blt->j1, div_mul_le_self->j2, mul_lt_mul_of_pos_right->j3, blt_eq->j4, add_mul_mod_self_left->j5, pow_one->j6, pow_mul->j7, le_mul_of_pos_right->j8, gcd_le_right->j9, gcd_dvd_left->kb, add_sub_cancel_left->kc, mul_le_mul->kk, pow_le_pow_left->km, mul_le_mul_left->ko, mul_right_comm->kp, mod_mod_of_dvd->kr, gcd_comm->kv, lt_of_not_le->kw, mul_one->ky, pow_dvd_pow->la, min_eq_left->lb, div_lt_self->lc, sub_le->le, add_mul_mod_self_right->li, add_assoc->lk, le_of_lt->ll, le_mul_of_pos_left->lm, le_div_iff_mul_le->lq, add_le_add_right->ls, div_eq_of_lt_le->lt, gcd_zero_right->lu, eq_zero_or_pos->lv, mul_zero->lw, sub_mul->lz, mul_pos->l0, mod_one->l1, gcd_rec->l2, mod_le->l3
open Option.some renaming injEq->l4, inj->l5
open Rat renaming divInt->mb, sub_add_cancel->md, divInt_mul_divInt->me, zero_add->mj, div_def->mm, divInt_add_divInt->mo, add_lt_add_right->mp, neg_divInt_neg->ms, num_intCast->mx, den_intCast->my, neg_divInt->m1, inv_divInt->m2, sub_self->m3, neg_num->m4, not_le->m5
open UInt8 renaming ofNat->m6
namespace Go.az
open Go.Proofs
set_option linter.unusedSectionVars false
theorem De:dw prog 307=some [1,1]:=k_
section
variable{w:World}{aa ag:Nat->Prop}{β:Bd}{H:ah}
theorem VK{aw:Nat}{c0 c1 v:Value}{T:TypeId}(h:w.heap[aw]?=some (.cells #[c0,c1] T (0,0))):w.setCell ⟨aw,0,none⟩ v=w.setRow aw #[v,c1]:=by
 obtain⟨d,a⟩:=Array.getElem?_eq_some_iff.1 h;unfold World.setCell World.setRow;congr 1;apply Array.ext
 ·simp
 ·intro i b c;simp only[Array.getElem_modify]
  by_cases hi:aw=i
  ·subst hi;simp[a]
  ·simp[hi]
theorem Vl{t x:AV}{cs:Array Value}(g:t=iM 307 [.p .fU,x]\/t=.st 307 [.p .fU,x])(h:bB prog w aa β H t cs.toList):∃y,cs=#[.pointer none,y]/\bB prog w aa β H x [y]:=by
 have a:bB prog w aa β H (.st 307 [.p .fU,x]) cs.toList:=by
  rcases g with rfl|rfl
  ·exact ND.1 h
  ·exact h
 simp only[bB,De,l4]at a;obtain⟨l,k,rfl,b,d⟩:=a;simp only[bV,bB,aX]at b;obtain⟨c,i,rfl,rfl,_,c2,j,rfl,e,f,rfl⟩:=b
 match c2,f with
 |[y],_=>exact⟨y,Array.ext' (by simpa using d),e⟩
theorem Vf{b:Nat}{x:AV}{cs:Array Value}(h:bB prog w aa β H (.st 307 [.ptr b [],x]) cs.toList):∃v y,cs=#[v,y]/\bX prog β H (.ptr b []) v:=by
 simp only[bB,De,l4]at h;obtain⟨l,j,rfl,a,d⟩:=h;simp only[bV,bB]at a;obtain⟨c,g,rfl,⟨v,rfl,f⟩,_,c2,i,rfl,k,e,rfl⟩:=a
 match c2,e with
 |[y],_=>exact⟨v,y,Array.ext' (by simpa using d),f⟩
end
theorem aoU{H:ah}{b:Nat}{t x:AV}(f:H[b]?=some (.box false t))(i:t=iM 307 [.p .fU,x]\/t= .st 307 [.p .fU,x]):
 c8 prog 287 H [.ptr b []] (H.set b (.box false (.st 307 [.ptr b [],x]))) (.p (.aD [])):=by
 refine⟨lH func287 k_,fun w aa ag β J g j K=>?_⟩;simp only[bK,aC]at j;obtain⟨v,vs,rfl,⟨_,I,L,M,rfl,m,B⟩,rfl⟩:=j;simp only[gT,l4]at m;subst m;obtain⟨rfl,rfl⟩:=B ⟨_,f,rfl⟩;obtain⟨cs,T,k1,k2,k3,_,k5⟩:=g.du b _ f;have F:ad t=.agg 307:=by
  rcases i with rfl|rfl
  ·exact D3 _ _
  ·rfl
 have q:T=308:=by
  rw[F]at k5;exact gv (by simpa[kn,Gl.bx,Qx]using k5)
 subst q;obtain⟨y,rfl,G⟩:=Vl i k2;have o:¬aa (β.aw b)/\¬ag (β.aw b):=by simpa[dD]using k3
 refine(U9 (β.aw b) w (by simp[World.cell?,k1]) (by simp[World.shape?,k1]) (by simp[World.frozen?,k1])).mono ?_;rintro e w' ⟨rfl,rfl⟩;rw[VK k1];have aS:cK β H β (H.set b (.box false (.st 307 [.ptr b [],x]))):=mq f;have aA:∀z,aN H z->aN (H.set b (.box false (.st 307 [.ptr b [],x]))) z:=pF f (fun _ h=>h);have r:b<H.length:=(List.getElem?_eq_some_iff.1 f).1;have u:(H.set b (.box false (.st 307 [.ptr b [],x])))[b]?=some (.box false (.st 307 [.ptr b [],x])):=List.getElem?_set_self r;have n:aH (aN H) x:=by
  have:=g.refs b _ f;rcases i with rfl|rfl
  ·simp only[Obj.refs]at this;unfold iM at this
   split at this
   ·rename_i l d;have d:=nq d
    match l,d with
    |[a,c],d=>simp at d;rw[d.2];simp[aH]
    |[],d=>simp at d
    |[_],d=>simp at d
    |_::_::_::_,d=>simp at d
   ·simp only[aH,aZ]at this;exact this.2.1
  ·simp only[Obj.refs,aH,aZ]at this;exact this.2.1
 have E:∀k,aa k->(w.setRow (β.aw b) #[.pointer (some ⟨β.aw b,0,none⟩),y]).heap[k]?=w.heap[k]?:=fun k A=>setRow_other w _ k _ (fun s=>o.1 (s▸A));have D:Obj.refs (aN (H.set b (.box false (.st 307 [.ptr b [],x])))) (.box false (.st 307 [.ptr b [],x])):=by
  simp only[Obj.refs,aH,aZ,and_true];exact⟨⟨_,u,trivial⟩,aH.mono aA _ n⟩
 have C:=wX g f trivial (o':=.box false (.st 307 [.ptr b [],x])) trivial (fun _ h=>h) k1 (new:=#[.pointer (some ⟨β.aw b,0,none⟩),y]) o aS
  ⟨_,308,setRow_heap w _ _ _ 308 _ k1,by
   simp only[bB,De,l4];refine⟨_,[[.pointer (some ⟨β.aw b,0,none⟩)],[y]],rfl,?_,rfl⟩;simp only[bV,bB];exact⟨_,_,rfl,⟨_,rfl,⟨rfl,_,_,0,rfl,rfl,fun _=>⟨rfl,rfl⟩⟩⟩,rfl,_,_,rfl,bB.mono (fun _ x=>x) E aS _ _ n G,rfl,rfl⟩,k3,s_,by simp[ad,kn,Gl.bx]⟩ D
 exact⟨_,β,aa,rfl,C,by simp[aC,aF,bO],by simp[aH]⟩
theorem ao4{H:ah}{b:Nat}{x:AV}(c:H[b]?=some (.box false (.st 307 [.ptr b [],x]))):c8 prog 287 H [.ptr b []] H (.p (.aD [])):=by
 refine⟨lH func287 k_,fun w aa ag β l g f m=>?_⟩;simp only[bK,aC]at f;obtain⟨v,vs,rfl,⟨_,j,n,i,rfl,a,d⟩,rfl⟩:=f;simp only[gT,l4]at a;subst a;obtain⟨rfl,rfl⟩:=d ⟨_,c,rfl⟩;obtain⟨cs,T,k1,k2,k3,_,k5⟩:=g.du b _ c;obtain⟨v,y,rfl,h⟩:=Vf k2;simp only[bX,cg]at h;obtain⟨_,k,o,i,rfl,a,d⟩:=h;simp only[gT,l4]at a;subst a;obtain⟨rfl,rfl⟩:=d ⟨_,c,rfl⟩;refine(U8 (β.aw b) w (by simp[World.cell?,k1])).mono ?_;rintro e w' ⟨rfl,rfl⟩;exact⟨_,β,aa,rfl,cd.refl g,by simp[aC,aF,bO],by simp[aH]⟩
@[simp] theorem gu8:(Gl.u8:TypeId)=5:=(rfl)
def dO(t:List Nat):List AV:=t.map fun(c:Nat)=>AV.p (.int .u8 (c:Int))
theorem xN(t:List Nat):(dO t).length=t.length:=by simp[dO]
theorem aHr(a t:List Nat):dO (a++t)=dO a++dO t:=by simp[dO]
theorem EM:∀t:List Nat,gf prog 1 (dO t)
 |[]=>by simp[dO,gf]
 |c::t=>by
  have:=EM t;simp only[dO,ge]at this⊢;simp[gf];exact this
theorem Ll:∀(t:List Nat),(∀c∈t,c<256)->bytesOf (dO t)=some t
 |[],_=>rfl
 |c::t,a=>by
  have b:=a c s_;have:=Ll t fun c hc=>a c (by simp[hc]);show bytesOf (.p (.int .u8 (c:Int))::dO t)=some (c::t);rw[bytesOf,if_pos ⟨o_,o_⟩,this];simp
theorem Qt(t:List Nat)(a:t≠[])(h:t.length<=1048576):c8 prog 246 [.box false (.p (.st 307 [.fU,.aK]))] [.ptr 0 [],.p (.str t)]
 [.box false (.st 307 [.ptr 0 [],.sl 1 0 1 0 t.length]),.arr .bytes 0 1 (dO t)] (.p (.aD [.int .i64 t.length,.ia])):=by
 refine gX nf (i_ func246) mix (by simp[f246]) ?_;simp[f246];refine ci (aoU (b:=0) (t:=.p (.st 307 [.fU,.aK])) (x:=.p .aK) rfl (.inl rfl)) ?_;simp;refine⟨⟨EM t,by simp only[dc];omega⟩,?_⟩;simp[a,dO]
theorem Qu(a t:List Nat)(v n:Nat)(hn:n=a.length)(c:t≠[])(h:t.length<=1048576)(e:a.length<=1048576):c8 prog 246 [.box false (.st 307 [.ptr 0 [],.sl 1 v 1 0 n]),.arr .bytes v 1 (dO a)] [.ptr 0 [],.p (.str t)]
 [.box false (.st 307 [.ptr 0 [],.sl 1 (v+1) 1 0 (n+t.length)]),.arr .bytes (v+1) 1 (dO (a++t))] (.p (.aD [.int .i64 t.length,.ia])):=by
 refine gX nf (i_ func246) mix (by simp[f246]) ?_;simp[f246];refine ci (ao4 (b:=0) (x:=.sl 1 v 1 0 n) rfl) ?_;simp;refine⟨⟨EM t,by rw[xN];omega,by rw[xN];simp only[dc];omega⟩,?_⟩;have d:gg n (dO a)=dO a:=fm (by rw[xN];omega);simp[c,d,aHr];exact .inl rfl
theorem apP(a:List Nat)(v n:Nat)(hn:n=a.length)(b:a≠[])(f:a.length<=1048576)(d:∀c∈a,c<256):c8 prog 247 [.box false (.st 307 [.ptr 0 [],.sl 1 v 1 0 n]),.arr .bytes v 1 (dO a)] [.ptr 0 []]
 [.box false (.st 307 [.ptr 0 [],.sl 1 v 1 0 n]),.dead] (.p (.str a)):=by
 refine gX nf (i_ func247) mix (by simp[f247]) ?_;have e:0<a.length:=fp.2 b;simp[f247];refine aku (aE:=v) (es:=dO a) rfl rfl (by rw[hn];exact e) (by simp[dO,hn]) ?_;simp;refine akF (aE:=v) (es:=dO a) (l:=a) rfl rfl rfl o_ (by simp[xN,hn]) o_ rfl ?_ ?_ ?_ ?_
 ·kernel_rfl
 ·kernel_rfl
 ·rw[fm (by rw[xN];simp[hn])];exact Ll a d
 simp
 repeat' with_reducible refine And.intro ?_ ?_
 all_goals rfl
theorem Eh{σ:Nat->Nat}:∀{a b:List AV},cU σ (a++b)=cU σ a++cU σ b
 |[],b=>by simp[cU]
 |x::a,b=>by simp[cU,Eh (a:=a)]
theorem BC:au wB tB=[tB]:=vu d_ d_
theorem Yz(a:NI)(hs:a.sm=true):aq prog 190 [eI a] (.str (bQ a.v)):=by
 refine gA_ nf func190 mix ?_;have r1:=NI.q9 hs;simp[f190,ad,nA hs,oI hs,dF,cX,c1 (adi a.v r1.1 r1.2)]
theorem Og{m k A L:Nat}(e:0<m)(h:m*tB^k<=A)(a:A<wB^L):k<64*L:=by
 have b:2^k<=tB^k:=km d_ k;have c:tB^k<=m*tB^k:=lm _ e;rw[show wB=2^64 from rfl,<-j7]at a;have d:2^k<2^(64*L):=hX (hW b (hW c h)) a
 rwa [Nat.pow_lt_pow_iff_right d_]at d
theorem Yy(a:NI)(hs:a.sm=false)(U:okW a.v)(an:(bc a.v.natAbs).length<=1000000):aq prog 190 [eI a] (.str (bQ a.v)):=by
 have L:=pJ (eI a) a.v (nD a);have aC:=NI.Bu (a:=a) (by rw[hs];decide);have ae:=hU (cC br a.v.natAbs) (hT (show 0<wB by decide) (pG U));obtain⟨c,cs,w1⟩:=pS hs;refine gA_ nf func190 mix ?_;simp[f190,ad,w1,dF,cX];refine c1 L ?_;simp;refine tO (fun s'=>∃b:List (List Nat),kN 0 b=kN a.v.natAbs []/\(∀p∈b,p≠[]/\p.length<=18)/\b≠[]/\b.length<=57600000/\aP s'.env 3=.p (.bool (decide (a.v<0)))/\aP s'.env 6=.sl 2 b.length 1 0 b.length/\∃o,s'.heap=[.hole,o,.arr .grow b.length 1 (b.map fun p=>.p (.str p))]) ?_ ?_
 ·refine lp (α:=Nat×List (List Nat)×Bool) (fun x=>⟨[(6,.sl 2 x.2.1.length 1 0 x.2.1.length),(5,.sl 1 0 1 0 1),(4,.p (eN x.1)),(3,.p (.bool (decide (a.v<0))))],[.hole,.arr (if x.2.2=true then .frozen else .exact) 0 1 [.p (.int .u64 1000000000000000000)],.arr .grow x.2.1.length 1 (x.2.1.map fun p=>.p (.str p))]⟩)
   (fun x=>x.1<=a.v.natAbs/\kN x.1 x.2.1=kN a.v.natAbs []/\(∀p∈x.2.1,p≠[]/\p.length<=18)/\x.2.1.length<=57600000/\x.1*tB^x.2.1.length<=a.v.natAbs) (fun x=>x.1) (a.v.natAbs,[],false) ⟨h7 _,rfl,s_,s_,s_⟩ ?_
  rintro⟨m,b,f⟩ ⟨k1,k2,k3,k5,k4⟩;dsimp only at k1 k2 k3 k5 k4;rcases f with _|_
  ·simp only[dg,if_false];have ao:(au wB m).length<=900000:=by
    have:=dV br _ _ (hX k1 (cC br a.v.natAbs));have:=pG U;omega
   by_cases hm:m=0
   ·subst hm;have W:b≠[]:=by
     rintro rfl;rw[kN,kN,if_pos rfl,if_neg o_]at k2;have:=A2 a.v.natAbs;rw[hj,hL,g6,g6]at k2;rw[<-k2]at this;simp at this
    simp[eN,mB];refine⟨b,k2,k3,W,k5,?_⟩;simp
   ·have d:=Et m tB d_ o_ (by rw[BC];decide);have V:au wB m≠[]:=mt uO.1 hm;have C:0<(au wB m).length:=fp.2 V;have aS:=Mq hm b;have B:∀p∈b++[fc m],p≠[]/\p.length<=18:=by
     intro p L;rcases hP.1 L with h|h
     ·exact k3 p h
     ·rw[hG.1 h];exact⟨Lx m,Ly m⟩
    have A:m/tB<m:=lc o_ d_;have ar:=Og (show 0<m by omega) k4 ae;have w:m/tB*tB^(b++[fc m]).length<=a.v.natAbs:=by
     rw[gm,gt,h2,hV (tB^b.length),<-ii];exact hW (h0 _ (j2 _ _)) k4
    have y:(b++[fc m]).length<=57600000:=by rw[gm,gt];omega
    have r:m% tB<tB:=ik _ d_;have O:m/tB=0->m% tB=m:=fun h=>by have:=h9 m tB;rw[h]at this;omega
    simp only[eN]at d⊢;rw[BC]at d;have N:=uO (n:=m/tB);have J:=Qe (m% tB) (ip r d_);have q:=Qf [48] (18-(bc (m% tB)).length) o_ (by simp;omega);have av:=E3 r;have X:=Sb r;rw[Eg]at q;have l:fc m=if m/tB=0 then bc (m% tB)else gb (18-(bc (m% tB)).length) 48++bc (m% tB):=by
     rw[fc,X];split
     ·rename_i h;rw[O h]
     ·rfl
    have s:dx.wrap (18-((bc (m% tB)).length:Int))=(18-(bc (m% tB)).length:Nat):=by rw[aR _ o_ o_];omega
    have ay:((18-(bc (m% tB)).length:Nat):Int)=18-((bc (m% tB)).length:Int):=o_
    have u:∀t,t=fc m->(b.map fun p=>AV.p (.str p))++[AV.p (.str t)]=(b++[fc m]).map fun p=>AV.p (.str p):=fun t e=>by rw[e];simp
    by_cases F:m% tB=0
    ·have j:¬m/tB=0:=fun h=>hm (by rw[<-O h];exact F);have E:0<(au wB (m/tB)).length:=fp.2 (mt N.1 j);have e:gb (18-(bc (m% tB)).length) 48++bc (m% tB)=fc m:=by rw[l,if_neg j]
     rw[F,ou]at e q s;rw[F,mB]at d;simp only[gt]at e q s;have hf:=u _ e;generalize D:au wB (m/tB)=ac at*;simp[C];refine cp d (by simp;exact⟨rfl,rfl⟩) ?_ (h1:=by simp[tB]);simp[E,s];refine c2 q ?_;simp;refine⟨by simp only[dc];omega,?_⟩;refine rd (m/tB,b++[fc m],true) ⟨o_,by rw[aS];exact k2,by simpa using B,y,w⟩ A (he:=by simp[D]) (hh:=by simp only[<-hf];simp) (hr2:=by simp only[<-hf];simp)
    ·have Z:au wB (m% tB)=[m% tB]:=vu o_ (ip r d_);rw[Z]at d
     by_cases j:m/tB=0
     ·have e:bc (m% tB)=fc m:=by rw[l,if_pos j]
      have hf:=u _ e;rw[j,mB]at d;simp[C];refine cp d (by simp;exact⟨rfl,rfl⟩) ?_ (h1:=by simp[tB]);simp;refine c2 J ?_;simp;refine⟨by simp only[dc];omega,?_⟩;refine rd (m/tB,b++[fc m],true) ⟨o_,by rw[aS];exact k2,by simpa using B,y,w⟩ A (he:=by simp[j,mB]) (hh:=by simp only[<-hf];simp) (hr2:=by simp only[<-hf];simp)
     ·have E:0<(au wB (m/tB)).length:=fp.2 (mt N.1 j);have e:gb (18-(bc (m% tB)).length) 48++bc (m% tB)=fc m:=by rw[l,if_neg j]
      have hf:=u _ e;generalize D:au wB (m/tB)=ac at*;simp[C];refine cp d (by simp;exact⟨rfl,rfl⟩) ?_ (h1:=by simp[tB]);simp;refine c2 J ?_;simp[E,s];refine c2 q ?_;simp;refine⟨o_,by simp only[dc];omega,?_⟩;refine rd (m/tB,b++[fc m],true) ⟨o_,by rw[aS];exact k2,by simpa using B,y,w⟩ A (he:=by simp[D]) (hh:=by simp only[<-hf];simp) (hr2:=by simp only[<-hf];simp)
  ·simp only[if_true];have ao:(au wB m).length<=900000:=by
    have:=dV br _ _ (hX k1 (cC br a.v.natAbs));have:=pG U;omega
   by_cases hm:m=0
   ·subst hm;have W:b≠[]:=by
     rintro rfl;rw[kN,kN,if_pos rfl,if_neg o_]at k2;have:=A2 a.v.natAbs;rw[hj,hL,g6,g6]at k2;rw[<-k2]at this;simp at this
    simp[eN,mB];refine⟨b,k2,k3,W,k5,?_⟩;simp
   ·have d:=Et m tB d_ o_ (by rw[BC];decide);have V:au wB m≠[]:=mt uO.1 hm;have C:0<(au wB m).length:=fp.2 V;have aS:=Mq hm b;have B:∀p∈b++[fc m],p≠[]/\p.length<=18:=by
     intro p L;rcases hP.1 L with h|h
     ·exact k3 p h
     ·rw[hG.1 h];exact⟨Lx m,Ly m⟩
    have A:m/tB<m:=lc o_ d_;have ar:=Og (show 0<m by omega) k4 ae;have w:m/tB*tB^(b++[fc m]).length<=a.v.natAbs:=by
     rw[gm,gt,h2,hV (tB^b.length),<-ii];exact hW (h0 _ (j2 _ _)) k4
    have y:(b++[fc m]).length<=57600000:=by rw[gm,gt];omega
    have r:m% tB<tB:=ik _ d_;have O:m/tB=0->m% tB=m:=fun h=>by have:=h9 m tB;rw[h]at this;omega
    simp only[eN]at d⊢;rw[BC]at d;have N:=uO (n:=m/tB);have J:=Qe (m% tB) (ip r d_);have q:=Qf [48] (18-(bc (m% tB)).length) o_ (by simp;omega);have av:=E3 r;have X:=Sb r;rw[Eg]at q;have l:fc m=if m/tB=0 then bc (m% tB)else gb (18-(bc (m% tB)).length) 48++bc (m% tB):=by
     rw[fc,X];split
     ·rename_i h;rw[O h]
     ·rfl
    have s:dx.wrap (18-((bc (m% tB)).length:Int))=(18-(bc (m% tB)).length:Nat):=by rw[aR _ o_ o_];omega
    have ay:((18-(bc (m% tB)).length:Nat):Int)=18-((bc (m% tB)).length:Int):=o_
    have u:∀t,t=fc m->(b.map fun p=>AV.p (.str p))++[AV.p (.str t)]=(b++[fc m]).map fun p=>AV.p (.str p):=fun t e=>by rw[e];simp
    by_cases F:m% tB=0
    ·have j:¬m/tB=0:=fun h=>hm (by rw[<-O h];exact F);have E:0<(au wB (m/tB)).length:=fp.2 (mt N.1 j);have e:gb (18-(bc (m% tB)).length) 48++bc (m% tB)=fc m:=by rw[l,if_neg j]
     rw[F,ou]at e q s;rw[F,mB]at d;simp only[gt]at e q s;have hf:=u _ e;generalize D:au wB (m/tB)=ac at*;simp[C];refine cp d (by simp;exact⟨rfl,rfl⟩) ?_ (h1:=by simp[tB]);simp[E,s];refine c2 q ?_;simp;refine⟨by simp only[dc];omega,?_⟩;refine rd (m/tB,b++[fc m],true) ⟨o_,by rw[aS];exact k2,by simpa using B,y,w⟩ A (he:=by simp[D]) (hh:=by simp only[<-hf];simp) (hr2:=by simp only[<-hf];simp)
    ·have Z:au wB (m% tB)=[m% tB]:=vu o_ (ip r d_);rw[Z]at d
     by_cases j:m/tB=0
     ·have e:bc (m% tB)=fc m:=by rw[l,if_pos j]
      have hf:=u _ e;rw[j,mB]at d;simp[C];refine cp d (by simp;exact⟨rfl,rfl⟩) ?_ (h1:=by simp[tB]);simp;refine c2 J ?_;simp;refine⟨by simp only[dc];omega,?_⟩;refine rd (m/tB,b++[fc m],true) ⟨o_,by rw[aS];exact k2,by simpa using B,y,w⟩ A (he:=by simp[j,mB]) (hh:=by simp only[<-hf];simp) (hr2:=by simp only[<-hf];simp)
     ·have E:0<(au wB (m/tB)).length:=fp.2 (mt N.1 j);have e:gb (18-(bc (m% tB)).length) 48++bc (m% tB)=fc m:=by rw[l,if_neg j]
      have hf:=u _ e;generalize D:au wB (m/tB)=ac at*;simp[C];refine cp d (by simp;exact⟨rfl,rfl⟩) ?_ (h1:=by simp[tB]);simp;refine c2 J ?_;simp[E,s];refine c2 q ?_;simp;refine⟨o_,by simp only[dc];omega,?_⟩;refine rd (m/tB,b++[fc m],true) ⟨o_,by rw[aS];exact k2,by simpa using B,y,w⟩ A (he:=by simp[D]) (hh:=by simp only[<-hf];simp) (hr2:=by simp only[<-hf];simp)
 ·rintro⟨aB,aD⟩ ⟨b,q1,az,R,q4,x1,x2,o,ag⟩;dsimp only at x1 x2 ag;subst ag;have aw:0<b.length:=fp.2 R;have Y:bc a.v.natAbs=b.reverse.flatten:=by rw[<-Yo,q1,kN,if_neg o_];simp
  obtain⟨neg,K⟩:∃neg:Bool,neg=decide (a.v<0):=⟨_,rfl⟩
  obtain⟨Q,M⟩:∃Q:List Nat,Q=if neg=true then[45]else[]:=⟨_,rfl⟩
  have ah:bQ a.v=Q++b.reverse.flatten:=by
   rw[bQ,<-Y,M,K]
   by_cases h:a.v<0
   ·simp[h]
   ·simp[h]
  obtain⟨g,H⟩:∃g:Nat->List Nat,g=fun k=>Q++(b.reverse.take k).flatten:=⟨_,rfl⟩
  have I:g b.length=bQ a.v:=by rw[H,ah];dsimp only;rw[fm s_]
  have ax:∀k,(b.reverse.take k).flatten.length<=1000000:=fun k=>by
   have al:b.reverse.flatten=(b.reverse.take k).flatten++(b.reverse.drop k).flatten:=by rw[<-hE,g4]
   rw[Y,al,gm]at an;omega
  have aE:Q.length<=1:=by rw[M];split<;>simp
  have S:∀k,(g k).length<=1000001:=fun k=>by rw[H];dsimp only;rw[gm];have:=ax k;omega
  have l:∀k(h:k<b.length),g (k+1)=g k++b[b.length-1-k]' o_:=fun k h=>by
   rw[H];dsimp only;rw[gy (by simpa using h),hE,List.getElem_reverse,<-List.append_assoc];simp
  have am:∀c∈bQ a.v,c<256:=by
   intro c hc;rw[bQ]at hc;have d:=qd a.v.natAbs;rw[gc]at d
   split at hc
   ·rcases g8.1 hc with h|h
    ·omega
    ·exact Np (d c h)
   ·exact Np (d c hc)
  have aa:dx.wrap ((b.length:Int)-1)=b.length-1:=aR _ o_ o_;have aA:∀i(h:i<b.length),b[i]≠[]/\b[i].length<=18:=fun i h=>az _ (gj h);have G:=apP (g b.length) (if neg=true then b.length else b.length-1) (g b.length).length rfl (by rw[I,ah];intro h;rw[List.append_eq_nil_iff,<-Y]at h;have:=A2 a.v.natAbs;rw[h.2]at this;simp at this) (by have:=S b.length;omega) (by rw[I];exact am);simp[x1,x2,aa]
  by_cases hn:a.v<0
  ·rw[decide_eq_true hn]at K;subst K;have ap:g 0=[45]:=by rw[H,M];simp
   simp only[if_true]at G;simp[hn];refine cf (Qt [45] s_ s_) [3] ?_;simp[bt,sig,x2,aa];refine lp (α:=Nat) (fun k=>⟨[(11,.p (.int .i64 ((b.length:Int)-1-k))),(10,.ptr 3 []),(6,.sl 2 b.length 1 0 b.length)],[.hole,.hole,.arr .grow b.length 1 (b.map fun p=>.p (.str p)),.box false (.st 307 [.ptr 3 [],.sl 4 k 1 0 (g k).length]),.arr .bytes k 1 (dO (g k))]⟩)
    (fun k=>k<=b.length) (fun k=>b.length-k) 0 s_ ?_ (he:=by simp[x2]) (hh:=by simp[ap,dO]) (hr2:=by simp[dO])
   intro k hk
   by_cases z:k<b.length
   ·have w1:dx.wrap ((b.length:Int)-1-k-1)=b.length-1-(k+1:Nat):=by rw[aR _ o_ o_];omega
    have e1:((b.length:Int)-1-k).toNat=b.length-1-k:=o_
    have g1:(k:Int)<=(b.length:Int)-1:=o_
    have P:b.length-1-k<b.length:=o_
    have hx:=aA _ P;have ab:=Qu (g k) (b[b.length-1-k]) k (g k).length rfl hx.1 o_ (by have:=S k;omega);simp[g1,e1,P,R];refine cf ab [3,4] ?_ (aA:=by simp[sig,dO]) (aO:=by simp[sig]) (hr:=by simp[dO]);simp[sig,dO,bt,w1,Eh];refine rd (k+1) z (he:=by simp[l k z]) (hh:=by simp[l k z,dO]) (hr2:=by simp[dO])
   ·have T:k=b.length:=by omega
    subst T;have g2:¬(b.length:Int)<=(b.length:Int)-1:=o_
    simp[g2];refine cf G [3,4] ?_ (aA:=by simp[sig,dO]) (aO:=by simp[sig]) (hr:=by simp[dO]);simp[sig,bt,I]
  ·rw[decide_eq_false hn]at K;subst K;simp only[dg,if_false]at G M;have af:g 1=b[b.length-1]:=by rw[l 0 aw,H];simp[M]
   have ak:b.length-1<b.length:=o_
   have aj:=aA _ ak;have ai:=Qt (b[b.length-1]) aj.1 o_;rw[<-af]at ai aj;simp[hn,aa]
   refine lp (α:=Option Nat) (fun st=>match st with
     |none=>⟨[(11,.p (.int .i64 ((b.length:Int)-1))),(10,.ptr 3 []),(6,.sl 2 b.length 1 0 b.length)],[.hole,.hole,.arr .grow b.length 1 (b.map fun p=>.p (.str p)),.box false (.p (.st 307 [.fU,.aK]))]⟩
     |some k=>⟨[(11,.p (.int .i64 ((b.length:Int)-1-(k+1)))),(10,.ptr 3 []),(6,.sl 2 b.length 1 0 b.length)],[.hole,.hole,.arr .grow b.length 1 (b.map fun p=>.p (.str p)),.box false (.st 307 [.ptr 3 [],.sl 4 k 1 0 (g (k+1)).length]),.arr .bytes k 1 (dO (g (k+1)))]⟩)
    (fun st=>match st with
     |none=>True
     |some k=>k+1<=b.length) (fun st=>match st with
     |none=>b.length+1
     |some k=>b.length-(k+1)) none trivial ?_ (he:=by simp[x2])
   intro st hk;cases st with
   |none=>
    have w1:dx.wrap ((b.length:Int)-1-1)=b.length-1-(0+1):=by rw[aR _ o_ o_];omega
    have e1:((b.length:Int)-1).toNat=b.length-1:=o_
    have g1:(1:Int)<=(b.length:Int):=o_
    simp[g1,e1,ak,R,<-af];refine cf ai [3] ?_;simp[bt,sig,w1];refine rd (some 0) (by show 0+1<=b.length;omega) (by show b.length-(0+1)<b.length+1;omega) (he:=s_) (hh:=by simp[dO]) (hr2:=by simp[dO])
   |some k=>
    have hk:k+1<=b.length:=hk
    by_cases z:k+1<b.length
    ·have w1:dx.wrap ((b.length:Int)-1-(k+1)-1)=b.length-1-(k+1+1):=by rw[aR _ o_ o_];omega
     have e1:((b.length:Int)-1-(k+1)).toNat=b.length-1-(k+1):=o_
     have g1:(k:Int)+1<=(b.length:Int)-1:=o_
     have P:b.length-1-(k+1)<b.length:=o_
     have hx:=aA _ P;have ab:=Qu (g (k+1)) (b[b.length-1-(k+1)]) k (g (k+1)).length rfl hx.1 o_ (by have:=S (k+1);omega);simp[g1,e1,P,R];refine cf ab [3,4] ?_ (aA:=by simp[sig,dO]) (aO:=by simp[sig]) (hr:=by simp[dO]);simp[sig,dO,bt,w1,Eh];refine rd (some (k+1)) z (by show b.length-(k+1+1)<b.length-(k+1);omega) (he:=by simp[l (k+1) z]) (hh:=by simp[l (k+1) z,dO]) (hr2:=by simp[dO])
    ·have T:b.length=k+1:=by omega
     have g2:¬(k:Int)+1<=(b.length:Int)-1:=o_
     rw[T]at G I;rw[i2]at G;simp[g2];refine cf G [3,4] ?_ (aA:=by simp[sig,dO]) (aO:=by simp[sig]) (hr:=by simp[dO]);simp[sig,bt,I]
theorem Eu(a:NI)(c:okW a.v)(b:(bc a.v.natAbs).length<=1000000):aq prog 190 [eI a] (.str (bQ a.v)):=by
 rcases h:a.sm with _|_
 ·exact Yy a h c b
 ·exact Yz a h
open Go
theorem Md:∀(r:List Nat)(a:Nat),a<=r.foldl (fun n c=>n*10+(c-48)) a
 |[],a=>h7 _
 |x::r,a=>hW (show a<=a*10+(x-48)by omega) (Md r _)
theorem LX:∀(d:List Nat)(a:Nat),d.all cA=true->d.foldl (fun n c=>n*10+(c-48)) a<1000000000000000000->Lib.parseUint10 a (d.map m6)=.ok (d.foldl (fun n c=>n*10+(c-48)) a)
 |[],a,_,_=>rfl
 |c::r,a,h,b=>by
  simp only[hv,da]at h;have hc:=h.1;simp only[cA,da,decide_eq_true_eq]at hc;have f:=Md r (a*10+(c-48));rw[ht]at b⊢;have e:(m6 c).toNat=c:=by simp;omega
  rw[ge,Lib.parseUint10,e,if_pos hc,if_neg o_,if_neg o_];exact LX r _ h.2 b
theorem Zq{d:List Nat}(h:d.all cA=true)(b:d≠[])(f:d.length<=18):Lib.atoiAll (d.map m6)=.ok (bf d):=by
 have i:=kA _ d rfl h;have j:10^d.length<=10^18:=hT o_ f;cases d with
 |nil=>exact(b rfl).elim
 |cons c r=>
  have hc:=(da ..▸(hv▸h):cA c=true/\r.all cA=true).1;simp only[cA,da,decide_eq_true_eq]at hc;have e:(m6 c).toNat=c:=by simp;omega
  have g:bf (c::r)<1000000000000000000:=o_
  have a:=LX (c::r) 0 h g;rw[<-bf]at a;rw[ge]at a;rw[ge,Lib.atoiAll];simp only[e];rw[if_neg o_,Lib.parseMag,if_neg s_,a];dsimp only;rw[if_neg o_,if_neg o_,if_neg o_]
theorem D1:∀(b:List Nat)(x:Nat),b.foldl (fun n c=>n*10+(c-48)) x=x*10^b.length+bf b
 |[],x=>by simp[bf]
 |c::b,x=>by
  rw[bf,ht,ht,D1 b,D1 b (0*10+(c-48)),hl,h2,i1,ii,hV 10];simp[lk]
theorem Mm(a b:List Nat):bf (a++b)=bf a*10^b.length+bf b:=by
 rw[bf,List.foldl_append,D1];rfl
theorem NP(k:Nat):10^k<=2^(4*k):=by
 rw[j7];exact km d_ k
theorem Mu{a K:Nat}(h:4*a<=K):10^a<=2^K:=hW (NP a) (hT d_ h)
theorem ya{n k:Nat}(h:n<2^k)(hk:k<=3*1000000):(bc n).length<=1000000:=
 tK h hk d_
theorem A0(a:NF)(h:aQ kB a.q):aq prog 117 [eF a] (.str (bk a.q)):=by
 have f:kB=100000:=rfl;have w:=D7 a;have c:=Eu a.num (iR h.1 rH) (ya h.1 o_);have d:=Eu a.den (iR (by rw[lG];exact h.2) rH) (ya (by rw[lG];exact h.2) o_);rw[mz]at c;rw[kH,xg]at d;have g:=ya h.1 (show kB<=3*1000000 by omega);have i:=ya h.2 (show kB<=3*1000000 by omega);have j:=EN a.q.num;refine gA_ nf func117 mix ?_;rw[bk]
 by_cases b:a.q.den=1
 ·have e:a.gh=true:=by simp[NF.gh,b]
  rw[e]at w;rw[if_pos b];simp[f117,ad,c1 w,c1 c]
 ·have e:a.gh=false:=by simp[NF.gh,b]
  rw[e]at w;rw[if_neg b];simp[f117];refine c1 w ?_;simp[ad];refine e1 c ?_;simp[ad];refine⟨o_,?_⟩;refine e1 d ?_;simp;omega
def kR:Nat:=2800
theorem Bx(s:List Nat)(i:(dh s).all cA=true)(E:(dh s).length<=700):aq prog 192 [.str s] (eI (.mk' (if b9 s=true then -(bf (dh s):Int)else bf (dh s)))):=by
 refine gA_ nf func192 mix ?_;simp[f192];refine c2 (ZF s) ?_;simp;refine c2 (LY s) ?_;simp;generalize dh s=d,b9 s=neg at*;have w:fE 0=eI (.mk' 0):=(pZ d_ d_).symm;rw[show PV.st 113 [.int .i64 0,.aK]=eI (.mk' 0)from w];refine lp (α:=List Nat×NI) (fun x=>⟨[(4,.ptr 1 []),(3,.p (.bool neg)),(2,.ptr 0 []),(0,.p (.str x.1))],[.box false (.p (eI (.mk' 0))),.box false (.p (eI x.2))]⟩)
  (fun x=>∃m:Nat,x.2.v=m/\m*10^x.1.length+bf x.1=bf d/\x.1.all cA=true/\x.1.length<=700/\m<2^kR) (fun x=>x.1.length) (d,.mk' 0) ⟨0,rfl,s_,i,E,ih d_⟩ ?_
 rintro⟨r,o⟩ ⟨m,k1,k2,k3,k4,k5⟩;dsimp only at k1 k2 k3 k4 k5;have S:kR=2800:=rfl;have c:o.v.natAbs<2^kR:=by rw[k1,dy];exact k5
 have I:okW o.v:=iR c (by have:kB=100000:=rfl;omega)
 by_cases f:r=[]
 ·subst f;have u:o.v=bf d:=by rw[k1];simp[bf]at k2⊢;omega
  cases neg
  ·have e:eI (.mk' (bf d:Nat))=eI o:=oL (by rw[NI.jm,u]) (fun h=>by rw[NI.jm]at h;omega);simp;rw[e];simp[ad]
  ·have e:eI (.mk' (-(bf d:Nat)))=eI o.neg:=by rw[NI.neg,u]
   simp;rw[e];simp[ad,c1 (vG o I)]
 ·have L:0<r.length:=fp.2 f;obtain⟨n,hn⟩:∃n,n=min 18 r.length:=⟨_,rfl⟩
  have j:n<=r.length:=o_
  have U:0<n:=o_
  have G:n<=18:=o_
  have H:(if(r.length:Int)<18 then(r.length:Int)else 18)=n:=by split<;>omega
  have g:(r.take n).length=n:=by rw[gi];omega
  have a:=k3;rw[<-g4 n r,List.all_append,da]at a;have N:=kA _ (r.take n) rfl a.1;have C:=Z6 (r.take n) (bf (r.take n)) (Zq a.1 (by intro e;rw[e]at g;simp at g;omega) o_) o_;rw[g]at N;have q:10^n<=10^18:=hT d_ G;have z:10^n<wB^1:=by rw[j6];exact hX q d_
  have A:((10^n:Nat):Int).natAbs<2^64:=by rw[dy];exact hX q d_
  have O:=dV br 1 _ z;have V:=AA c;have P:kB=100000:=rfl;have W:=kA _ d rfl i;have Q:10^d.length<=2^kR:=Mu (by have:kR=2800:=rfl;omega);have J:=Z0 (.of 10) n (10^n) d_ rfl o_ d_ o_;have F:=BV o (.mk' (10^n:Nat)) (by rw[NI.jm,dy];omega);have B:=yA (o.mul (.mk' (10^n:Nat))) (.of (bf (r.take n):Nat)) (iR (qJ (x:=o.v) (y:=((10^n:Nat):Int)) c A) o_) (iR (k:=64) (show((bf (r.take n):Nat):Int).natAbs<2^64 by rw[dy];omega) o_);have l:=tM (bf (r.take n):Nat);rw[<-vJ o_ o_]at l;have t:=tM 10;rw[<-vJ d_ d_]at t;have M:bf r=bf (r.take n)*10^(r.drop n).length+bf (r.drop n):=by rw[<-Mm,g4]
  have K:r.length=n+(r.drop n).length:=by rw[g9];omega
  have D:(m*10^n+bf (r.take n))*10^(r.drop n).length+bf (r.drop n)=bf d:=by
   rw[<-k2,M,K,i3,i1,ii,lk]
  generalize 10^n=T,X:bf (r.take n)=b at*;have R:m*T+b<=bf d:=by
   have:=j8 (m*T+b) (show 0<10^(r.drop n).length from ih d_);omega
  simp[f,L,H];refine⟨j,?_⟩;refine c1 C ?_;simp;refine e1 t ?_;simp;refine e2 J ?_;simp[ad];refine e2 F ?_;simp;refine e1 l ?_;simp;refine e2 B ?_;simp[ad];refine⟨rfl,j,?_⟩;refine rd (r.drop n,(o.mul (.mk' T)).add (.of b)) ⟨m*T+b,by rw[NI.tv,NI.ny,NI.jm,k1];rfl,D,a.2,by dsimp only;omega,o_⟩ (by dsimp only;omega)
theorem En{s:List Nat}(h:dI s=true):b9 s=false/\dh s=s:=by
 have b:=kT h;have:b9 s=false:=by
  rw[b9,decide_eq_false_iff_not];intro a;cases s with
  |nil=>simp at a
  |cons c r=>
   simp at a;subst a;rw[hv,da]at b;simp[cA]at b
 exact⟨this,by rw[dh,this];rfl⟩
theorem Me(s:List Nat):b9 (ch 47 s).1=b9 s/\dh (ch 47 s).1=bH s/\(ch 47 s).2.1=bU s/\(ch 47 s).2.2=eU s:=by
 cases s with
 |nil=>exact⟨rfl,rfl,rfl,rfl⟩
 |cons c r=>
  by_cases h:c=45
  ·subst h;have e:ch 47 (45::r)=(45::(ch 47 r).1,(ch 47 r).2.1,(ch 47 r).2.2):=by rw[ch,if_neg d_]
   rw[e];exact⟨rfl,rfl,rfl,rfl⟩
  ·have hn:b9 (c::r)=false:=by rw[b9,decide_eq_false_iff_not];simpa using h
   have a:dh (c::r)=c::r:=by rw[dh,hn];rfl
   have b:b9 (ch 47 (c::r)).1=false:=by
    rw[b9,decide_eq_false_iff_not,ch]
    split
    ·simp
    ·simpa using h
   refine⟨by rw[hn,b],?_,?_,?_⟩
   ·rw[dh,b,bH,a];rfl
   ·rw[bU,a]
   ·rw[eU,a]
theorem Zx{s:List Nat}(h:bZ s=0):dI (bH s)=true/\(bH s).length<=600/\(bU s).length<=600/\(eU s=true->dI (bU s)=true):=by
 unfold bZ at h
 split at h
 ·cases h
 rename_i a
 split at h
 ·cases h
 rename_i d;have a:mC s=true:=by simpa using a
 simp only[mC,da,dl,Bool.not_eq_true']at a;refine⟨a.1.1,o_,o_,fun c=>?_⟩;rcases a.2 with b|b
 ·rw[c]at b;cases b
 ·exact b.1.1
theorem UR(z:Int):dh (bQ z)=bc z.natAbs:=by
 have:=(An z []).2;simpa using this
theorem u5(c:Nat):∀s:List Nat,(ch c s).1.length<=s.length/\(ch c s).2.1.length<=s.length/\(∀x∈(ch c s).1,x∈s)/\(∀x∈(ch c s).2.1,x∈s)
 |[]=>by simp[ch]
 |y::r=>by
  have a:=u5 c r;rw[ch]
  split
  ·simp;intro x hx;exact .inr hx
  ·simp only[hl,g8];refine⟨o_,o_,?_,fun x hx=>.inr (a.2.2.2 x hx)⟩;rintro x (rfl|hx)
   ·exact .inl rfl
   ·exact .inr (a.2.2.1 x hx)
theorem qK(s:List Nat):(dh s).length<=s.length/\∀x∈dh s,x∈s:=by
 rw[dh]
 split
 ·exact⟨s_,fun x hx=>List.mem_of_mem_tail hx⟩
 ·exact⟨h7 _,fun _ h=>h⟩
theorem mG(s:List Nat)(h:bZ s=0)(n:s.length<=1048576):aq prog 118 [.str s] (eF ⟨bm s,false⟩):=by
 obtain⟨l,t,u,m⟩:=Zx h;obtain⟨o,f,p,q⟩:=Me s;obtain⟨q1,r,a⟩:=jx h;have b:=Qd s 47 n;rw[p,q]at b;have c:=Bx (ch 47 s).1 (by rw[f];exact kT l) (by rw[f];omega);rw[o,f]at c;have j:eI (NF.mk (bm s) false).num=eI (.mk' (if b9 s=true then -(bf (bH s):Int)else bf (bH s))):=by
  show eI ⟨(bm s).num,false⟩=_;rw[r];rfl
 rw[<-j]at c;refine gA_ nf func118 mix ?_;cases hf:eU s
 ·rw[hf]at b a;simp only[dg,if_false]at a;have e:(NF.mk (bm s) false).den=.mk' 1:=by
   show NI.mk' ((bm s).den:Int)=_;rw[a];rfl
  have i:=Fb (NF.mk (bm s) false).num;have k:eF (.whole (NF.mk (bm s) false).num)=eF ⟨bm s,false⟩:=by
   rw[eF,eF,e];rfl
  rw[k]at i;simp(maxDischargeDepth:=99) [f118,ad,c2 b,c1 c,c1 i]
 ·rw[hf]at b a;simp only[if_true]at a;have g:=m hf;obtain⟨d1,d2⟩:=En g;have d:=Bx (bU s) (by rw[d2];exact kT g) (by rw[d2];omega);rw[d1,d2]at d;simp only[dg,if_false]at d;have e:eI (NF.mk (bm s) false).den=eI (.mk' (bf (bU s):Nat)):=by
   show eI (NI.mk' ((bm s).den:Int))=_;rw[a]
  rw[<-e]at d;rw[eF];simp(maxDischargeDepth:=99) [f118,ad,c2 b,c1 c,c1 d]
def lZ(n:Nat):Bool:=decide (600<(bc n).length)
theorem Pg(a:NI)(h:a.v.natAbs<2^kB):aq prog 160 [eI a] (.bool (lZ a.v.natAbs)):=by
 have l:kB=100000:=rfl;have d:=iR h rH;have g:=ZS a d;have i:=Eu a d (ya h o_);have c:=LY (bQ a.v);rw[UR]at c;refine gA_ nf func160 mix ?_;simp[f160];refine c1 g ?_
 by_cases j:1800<p0 a.v.natAbs
 ·have b:(1800:Int)<(p0 a.v.natAbs:Nat):=by omega
  have e:decide ((600:Int)<((bc a.v.natAbs).length:Nat))=lZ a.v.natAbs:=by rw[lZ,decide_eq_decide];omega
  simp[b];refine c1 i ?_;simp;refine c2 c ?_;simp[lZ];omega
 ·have f:=hU (ML a.v.natAbs) (hT (show 0<2 by decide) (show p0 a.v.natAbs<=3*600 by omega));have k:=K6 f d_;have e:lZ a.v.natAbs=false:=by rw[lZ,decide_eq_false_iff_not];omega
  have b:¬(1800:Int)<(p0 a.v.natAbs:Nat):=o_
  simp[b,e]
def nK(q:Rat):Bool:=lZ q.num.natAbs||lZ q.den
theorem A7(a:NF)(h:aQ kB a.q):aq prog 97 [eF a] (.bool (nK a.q)):=by
 have b:=Pg a.num h.1;have c:=Pg a.den (by rw[lG];exact h.2);rw[mz]at b;rw[lG]at c;refine gA_ nf func97 mix ?_;rw[nK];cases hc:lZ a.q.num.natAbs
 ·rw[hc]at b;simp[f97,ad,ad,c1 b,c1 c]
 ·rw[hc]at b;simp[f97,ad,c1 b]
def yz:List (Nat×Func)->dp->Option Func
 |[],_=>none
 |(i,g)::r,f=>bif h8 i f then some g else yz r f
def CF(P:Program):List (Nat×Func)->Prop
 |[]=>True
 |p::r=>aB P p.1 p.2/\CF P r
theorem Ng{P:Program}:∀{l:List (Nat×Func)},CF P l->∀{f:Nat}{fn:Func},yz l f=some fn->aB P f fn
 |[],_,f,fn,h=>by simp[yz]at h
 |(i,g)::r,a,f,fn,h=>by
  simp only[yz,db]at h
  split at h
  ·rename_i hf;simp only[l4]at h;subst h;rw[<-hZ hf];exact a.1
  ·exact Ng a.2 h
noncomputable def Sx:List (Nat×Func):=[(2,f2),(3,f3),(4,f4),(5,f5),(6,f6),(7,f7),(8,f8),(9,f9),(10,f10),(11,f11),(12,f12),(13,f13),(14,f14),(15,f15),(16,f16),(17,f17),(18,f18),(19,f19),(20,f20),(21,f21),(22,f22),(23,f23),(24,f24),(25,f25),(26,f26),(27,f27),(28,f28),(29,f29),(30,f30),(31,f31),(32,f32),(33,f33),(34,f34),(35,f35),(36,f36),(37,f37),(38,f38),(39,f39),(40,f40),(41,f41),(42,f42),(43,f43),(44,f44),(45,f45),(46,f46),(47,f47),(48,f48),(49,f49),(50,f50),(51,f51),(52,f52),(53,f53),(54,f54),(55,f55),(56,f56),(57,f57),(58,f58),(59,f59),(60,f60),(61,f61),(62,f62),(63,f63),(64,f64),(65,f65),(66,f66),(67,f67),(68,f68),(69,f69),(70,f70),(71,f71),(72,f72),(73,f73),(74,f74),(75,f75),(76,f76),(77,f77),(78,f78),(79,f79),(80,f80),(81,f81),(82,f82),(83,f83),(84,f84),(85,f85),(86,f86),(87,f87),(88,f88),(89,f89),(90,f90),(91,f91),(92,f92),(93,f93),(94,f94),(95,f95),(96,f96),(97,f97),(98,f98),(99,f99),(100,f100),(101,f101),(102,f102),(103,f103),(104,f104),(105,f105),(106,f106),(107,f107),(108,f108),(109,f109),(110,f110),(111,f111),(112,f112),(113,f113),(114,f114),(115,f115),(116,f116),(117,f117),(118,f118),(119,f119),(120,f120),(121,f121),(122,f122),(123,f123),(124,f124),(125,f125),(126,f126),(127,f127),(128,f128),(129,f129),(130,f130),(131,f131),(132,f132),(133,f133),(134,f134),(135,f135),(136,f136),(137,f137),(138,f138),(139,f139),(140,f140),(141,f141),(142,f142),(143,f143),(144,f144),(145,f145),(146,f146),(147,f147),(148,f148),(149,f149),(150,f150),(151,f151),(152,f152),(153,f153),(154,f154),(155,f155),(156,f156),(157,f157),(158,f158),(159,f159),(160,f160),(161,f161),(162,f162),(163,f163),(164,f164),(165,f165),(166,f166),(167,f167),(168,f168),(169,f169),(170,f170),(171,f171),(172,f172),(173,f173),(174,f174),(175,f175),(176,f176),(177,f177),(178,f178),(179,f179),(180,f180),(181,f181),(182,f182),(183,f183),(184,f184),(185,f185),(186,f186),(187,f187),(188,f188),(189,f189),(190,f190),(191,f191),(192,f192),(193,f193),(194,f194),(195,f195),(196,f196),(197,f197),(198,f198),(199,f199),(200,f200),(201,f201),(202,f202),(203,f203),(204,f204),(205,f205),(206,f206),(207,f207),(208,f208),(209,f209),(210,f210),(211,f211),(212,f212),(213,f213),(214,f214),(215,f215),(216,f216),(217,f217),(218,f218),(219,f219),(220,f220),(221,f221),(222,f222),(223,f223),(224,f224),(225,f225),(226,f226),(227,f227),(228,f228),(229,f229),(230,f230),(231,f231),(232,f232),(233,f233),(234,f234),(235,f235),(236,f236),(237,f237),(238,f238),(239,f239),(240,f240),(241,f241),(242,f242),(243,f243),(244,f244),(245,f245),(246,f246),(247,f247),(248,f248),(249,f249),(250,f250),(251,f251),(252,f252),(253,f253),(254,f254),(255,f255),(256,f256),(257,f257),(258,f258),(259,f259),(260,f260),(261,f261),(262,f262),(264,f264),(265,f265),(266,f266),(267,f267),(268,f268),(269,f269),(270,f270),(271,f271),(272,f272),(273,f273),(274,f274),(275,f275),(276,f276),(277,f277),(278,f278),(279,f279),(280,f280),(281,f281),(282,f282),(283,f283),(284,f284),(285,f285),(286,f286),(287,f287),(288,f288),(289,f289),(290,f290),(291,f291),(293,f293),(294,f294),(295,f295),(296,f296),(297,f297),(298,f298),(299,f299),(300,f300),(301,f301),(302,f302),(303,f303),(304,f304),(305,f305),(306,f306),(308,f308),(310,f310),(311,f311),(312,f312),(313,f313),(314,f314),(315,f315),(316,f316),(317,f317),(318,f318),(319,f319),(320,f320),(321,f321),(322,f322),(323,f323),(324,f324),(325,f325),(326,f326),(327,f327),(330,f330),(331,f331),(332,f332),(333,f333),(334,f334),(335,f335),(336,f336),(337,f337),(338,f338),(339,f339),(340,f340),(341,f341),(342,f342),(343,f343),(344,f344),(345,f345),(346,f346),(380,f380)]
theorem aG9:CF prog Sx:=⟨i_ func2,i_ func3,i_ func4,i_ func5,i_ func6,i_ func7,i_ func8,i_ func9,i_ func10,i_ func11,i_ func12,i_ func13,i_ func14,i_ func15,i_ func16,i_ func17,i_ func18,i_ func19,i_ func20,i_ func21,i_ func22,i_ func23,i_ func24,i_ func25,i_ func26,i_ func27,i_ func28,i_ func29,i_ func30,i_ func31,i_ func32,i_ func33,i_ func34,i_ func35,i_ func36,i_ func37,i_ func38,i_ func39,i_ func40,i_ func41,i_ func42,i_ func43,i_ func44,i_ func45,i_ func46,i_ func47,i_ func48,i_ func49,i_ func50,i_ func51,i_ func52,i_ func53,i_ func54,i_ func55,i_ func56,i_ func57,i_ func58,i_ func59,i_ func60,i_ func61,i_ func62,i_ func63,i_ func64,i_ func65,i_ func66,i_ func67,i_ func68,i_ func69,i_ func70,i_ func71,i_ func72,i_ func73,i_ func74,i_ func75,i_ func76,i_ func77,i_ func78,i_ func79,i_ func80,i_ func81,i_ func82,i_ func83,i_ func84,i_ func85,i_ func86,i_ func87,i_ func88,i_ func89,i_ func90,i_ func91,i_ func92,i_ func93,i_ func94,i_ func95,i_ func96,i_ func97,i_ func98,i_ func99,i_ func100,i_ func101,i_ func102,i_ func103,i_ func104,i_ func105,i_ func106,i_ func107,i_ func108,i_ func109,i_ func110,i_ func111,i_ func112,i_ func113,i_ func114,i_ func115,i_ func116,i_ func117,i_ func118,i_ func119,i_ func120,i_ func121,i_ func122,i_ func123,i_ func124,i_ func125,i_ func126,i_ func127,i_ func128,i_ func129,i_ func130,i_ func131,i_ func132,i_ func133,i_ func134,i_ func135,i_ func136,i_ func137,i_ func138,i_ func139,i_ func140,i_ func141,i_ func142,i_ func143,i_ func144,i_ func145,i_ func146,i_ func147,i_ func148,i_ func149,i_ func150,i_ func151,i_ func152,i_ func153,i_ func154,i_ func155,i_ func156,i_ func157,i_ func158,i_ func159,i_ func160,i_ func161,i_ func162,i_ func163,i_ func164,i_ func165,i_ func166,i_ func167,i_ func168,i_ func169,i_ func170,i_ func171,i_ func172,i_ func173,i_ func174,i_ func175,i_ func176,i_ func177,i_ func178,i_ func179,i_ func180,i_ func181,i_ func182,i_ func183,i_ func184,i_ func185,i_ func186,i_ func187,i_ func188,i_ func189,i_ func190,i_ func191,i_ func192,i_ func193,i_ func194,i_ func195,i_ func196,i_ func197,i_ func198,i_ func199,i_ func200,i_ func201,i_ func202,i_ func203,i_ func204,i_ func205,i_ func206,i_ func207,i_ func208,i_ func209,i_ func210,i_ func211,i_ func212,i_ func213,i_ func214,i_ func215,i_ func216,i_ func217,i_ func218,i_ func219,i_ func220,i_ func221,i_ func222,i_ func223,i_ func224,i_ func225,i_ func226,i_ func227,i_ func228,i_ func229,i_ func230,i_ func231,i_ func232,i_ func233,i_ func234,i_ func235,i_ func236,i_ func237,i_ func238,i_ func239,i_ func240,i_ func241,i_ func242,i_ func243,i_ func244,i_ func245,i_ func246,i_ func247,i_ func248,i_ func249,i_ func250,i_ func251,i_ func252,i_ func253,i_ func254,i_ func255,i_ func256,i_ func257,i_ func258,i_ func259,i_ func260,i_ func261,i_ func262,i_ func264,i_ func265,i_ func266,i_ func267,i_ func268,i_ func269,i_ func270,i_ func271,i_ func272,i_ func273,i_ func274,i_ func275,i_ func276,i_ func277,i_ func278,i_ func279,i_ func280,i_ func281,i_ func282,i_ func283,i_ func284,i_ func285,i_ func286,i_ func287,i_ func288,i_ func289,i_ func290,i_ func291,i_ func293,i_ func294,i_ func295,i_ func296,i_ func297,i_ func298,i_ func299,i_ func300,i_ func301,i_ func302,i_ func303,i_ func304,i_ func305,i_ func306,i_ func308,i_ func310,i_ func311,i_ func312,i_ func313,i_ func314,i_ func315,i_ func316,i_ func317,i_ func318,i_ func319,i_ func320,i_ func321,i_ func322,i_ func323,i_ func324,i_ func325,i_ func326,i_ func327,i_ func330,i_ func331,i_ func332,i_ func333,i_ func334,i_ func335,i_ func336,i_ func337,i_ func338,i_ func339,i_ func340,i_ func341,i_ func342,i_ func343,i_ func344,i_ func345,i_ func346,i_ func380,trivial⟩
noncomputable def yR(a:dp->List PV->Option PV)(mO:dp->dp->Nat):pg:=⟨yz Sx,a,fun _ _ _=>none,mO,fun _ _ _=>none⟩
theorem aDJ{a:dp->List PV->Option PV}{mO:dp->dp->Nat}(h:∀f vs v,a f vs=some v->aq prog f vs v):pR prog (yR a mO):=by
 refine⟨mix,fun f fn hf=>Ng aG9 hf,fun f vs v hk=>h f vs v hk,fun f args H v H' hk=>?_,fun f args H aA v hk=>?_⟩
 ·simp only[yR]at hk;cases hk
 ·simp only[yR]at hk;cases hk
noncomputable def Sl(a:dp->List PV->Option PV)(mO:dp->dp->Nat)(f:dp)(vs:List PV):Option PV:=rM prog nf (yR a mO) (lK prog nf (yR a mO) 20) f vs
theorem N1{facts:dp->List PV->Option PV}{mO:dp->dp->Nat}(h:∀f vs v,facts f vs=some v->aq prog f vs v){f:dp}{vs:List PV}{v:PV}(a:Sl facts mO f vs=some v):aq prog f vs v:=reckon 20 (aDJ h) a
def noF:dp->List PV->Option PV:=fun _ _=>none
def rN:PV:=.st 365 ((fv 256).map fun i=>.bool (cA i))
theorem MV(c:Nat)(hc:c<256):aq prog 334 [.cE rN,.int .u8 c] (.bool (cA c)):=by
 refine gA_ nf func334 mix ?_;have a:(fv 256)[c]?=some c:=hd hc;simp[f334,rN,a,hc]
theorem V4(s:List Nat)(h:s.length<=1048576)(g:∀c∈s,c<256):aq prog 320 [.str s,.cE rN] (.str (mw s)):=by
 refine gA_ nf func320 mix ?_;simp[f320];refine lp (α:=List Nat) (fun r=>⟨[(1,.p (.cE rN)),(0,.p (.str r))],[]⟩) (fun r=>mw r=mw s/\r.length<=s.length/\∀c∈r,c<256) (fun r=>r.length) s (by exact⟨rfl,h7 _,g⟩) ?_;rintro r ⟨a,f,b⟩;cases r with
 |nil=>
  have e:mw s=[]:=by rw[<-a];rfl
  simp[e]
 |cons x r=>
  have hx:=b x s_;have i:mw (x::r)=if cA x=true then mw r else x::r:=by
   rw[mw,hF];split<;>rfl
  rw[i]at a;have j:(0:Int)<(r.length:Int)+1:=o_
  simp[j];refine c2 (MV x hx) ?_;cases d:cA x
  ·rw[d]at a;simp[<-a]
  ·rw[d]at a;simp;exact rd r ⟨by simpa using a,by simp at f;omega,fun c hc=>b c (by simp[hc])⟩ (h1:=s_)
theorem VN(s:List Nat)(h:s.length<=1048576)(g:∀c∈s,c<256):aq prog 321 [.str s,.cE rN] (.str (jP s)):=by
 refine gA_ nf func321 mix ?_;simp[f321];refine lp (α:=List Nat) (fun r=>⟨[(1,.p (.cE rN)),(0,.p (.str r))],[]⟩) (fun r=>jP r=jP s/\r.length<=s.length/\∀c∈r,c<256) (fun r=>r.length) s (by exact⟨rfl,h7 _,g⟩) ?_;rintro r ⟨a,b,d⟩;rcases List.eq_nil_or_concat r with rfl|⟨t,x,rfl⟩
 ·have e:jP s=[]:=by rw[<-a];rfl
  simp[e]
 ·simp only[List.concat_eq_append]at a b d⊢;have hx:=d x s_;have i:jP (t++[x])=if cA x=true then jP t else t++[x]:=by
   rw[jP,List.reverse_append,List.reverse_cons,hj,hO,List.singleton_append,hF]
   split
   ·rfl
   ·simp
  rw[i]at a;have j:(0:Int)<(t.length:Int)+1:=o_
  have w1:dx.wrap (t.length:Int)=t.length:=aR _ o_ (by simp at b;omega);simp[j,w1];refine c2 (MV x hx) ?_;cases f:cA x
  ·rw[f]at a;simp[<-a]
  ·rw[f]at a;simp[w1];exact rd t ⟨by simpa using a,by simp at b;omega,fun c hc=>d c (by simp[hc])⟩ (h1:=s_)
def yF:List Nat:=[48,49,50,51,52,53,54,55,56,57]
theorem Yx:aq prog 319 [.str yF] (.aD [rN,.bool true]):=N1 (facts:=noF) (mO:=fun _ _=>0) (fun _ _ _ h=>by cases h) k_
theorem aHq:cG prog 366=some (.st 365 (gb 256 (.bool false))):=k_
theorem ZD(s:List Nat)(h:s.length<=1048576)(d:∀c∈s,c<256):aq prog 298 [.str s,.str yF] (.str (mw (jP s))):=by
 refine gA_ nf func298 mix ?_
 by_cases b:s=[]
 ·subst b;simp[f298,yF,mw,jP]
 simp[f298,yF,b];refine c1 Yx ?_;have g:(jP s).length<=s.length:=by
  rw[jP,List.length_reverse];have:=(hA cA (l:=s.reverse)).length_le;simpa using this
 have f:∀c∈jP s,c<256:=by
  intro c hc;rw[jP,List.mem_reverse]at hc;exact d c (by simpa using(hA cA (l:=s.reverse)).subset hc)
 simp[aHq];have a:aL rN=.agg 365:=rfl;refine⟨⟨⟨a.symm,by rw[a];intro e;cases e⟩,a.symm⟩,?_⟩;refine cp (VN s h d) (by simp;exact⟨rfl,rfl⟩) ?_;simp;refine cp (V4 (jP s) o_ f) (by simp;exact⟨rfl,rfl⟩) ?_;simp
def bJ:List Int->Int
 |[]=>0
 |e::r=>if e=0 then bJ r else e
def bh(b:Bool)(e:Int):Int:=if b=true then e else 0
theorem ZE(a:List Int)(h:a.length<=1048576):aq prog 267 [.seq (a.map (.int .i64))] (.int .i64 (bJ a)):=by
 refine gA_ nf func267 mix ?_;simp[f267];refine lp (α:=Nat) (fun i=>⟨[(7,.p (.int .i64 i)),(6,.p (.int .i64 a.length)),(5,.p (.seq (a.map (.int .i64))))],[]⟩) (fun i=>i<=a.length/\bJ (a.drop i)=bJ a) (fun i=>a.length-i) 0 s_ ?_;rintro i ⟨d,b⟩;simp
 by_cases hi:i<a.length
 ·rw[gx hi]at b;have c:=cH (i:=i) o_;simp[hi]
  by_cases he:a[i]=0
  ·simp[bJ,he]at b;simp[he,c];exact rd (i+1) ⟨hi,b⟩
  ·simp[bJ,he]at b;simp[he,<-b]
 ·have:i=a.length:=by omega
  subst this;simp[bJ]at b;simp[<-b]
theorem DA(a:List Int)(h:a.length<=1048576):aq prog 61 [.seq (a.map (.int .i64))] (.int .i64 (bJ a)):=by
 refine gA_ nf func61 mix ?_;simp[f61];refine lp (α:=Nat) (fun i=>⟨[(7,.p (.int .i64 i)),(6,.p (.int .i64 a.length)),(5,.p (.seq (a.map (.int .i64))))],[]⟩) (fun i=>i<=a.length/\bJ (a.drop i)=bJ a) (fun i=>a.length-i) 0 s_ ?_;rintro i ⟨d,b⟩;simp
 by_cases hi:i<a.length
 ·rw[gx hi]at b;have c:=cH (i:=i) o_;simp[hi]
  by_cases he:a[i]=0
  ·simp[bJ,he]at b;simp[he,c];exact rd (i+1) ⟨hi,b⟩
  ·simp[bJ,he]at b;simp[he,<-b]
 ·have:i=a.length:=by omega
  subst this;simp[bJ]at b;simp[<-b]
theorem rR(a:List Int)(h:a.length<=1048576):aq prog 144 [.seq (a.map (.int .i64))] (.int .i64 (bJ a)):=by
 refine gA_ nf func144 mix ?_;simp[f144];refine lp (α:=Nat) (fun i=>⟨[(7,.p (.int .i64 i)),(6,.p (.int .i64 a.length)),(5,.p (.seq (a.map (.int .i64))))],[]⟩) (fun i=>i<=a.length/\bJ (a.drop i)=bJ a) (fun i=>a.length-i) 0 s_ ?_;rintro i ⟨d,b⟩;simp
 by_cases hi:i<a.length
 ·rw[gx hi]at b;have c:=cH (i:=i) o_;simp[hi]
  by_cases he:a[i]=0
  ·simp[bJ,he]at b;simp[he,c];exact rd (i+1) ⟨hi,b⟩
  ·simp[bJ,he]at b;simp[he,<-b]
 ·have:i=a.length:=by omega
  subst this;simp[bJ]at b;simp[<-b]
theorem xT(b:Bool)(e:Int):aq prog 268 [.bool b,.int .i64 e] (.int .i64 (bh b e)):=by
 refine gA_ nf func268 mix ?_;cases b<;>simp[f268,bh]
theorem Dr(b:Bool)(e:Int):aq prog 91 [.bool b,.int .i64 e] (.int .i64 (bh b e)):=by
 refine gA_ nf func91 mix ?_;cases b<;>simp[f91,bh]
theorem jq(b:Bool)(e:Int):aq prog 145 [.bool b,.int .i64 e] (.int .i64 (bh b e)):=by
 refine gA_ nf func145 mix ?_;cases b<;>simp[f145,bh]
theorem OC(s:List Nat)(h:s.length<=1048576)(g:∀c∈s,c<256):aq prog 266 [.str s] (.bool (dI s)):=by
 have f:=ZD s h g;have hn:=WW s;rw[show yF=[48,49,50,51,52,53,54,55,56,57]from rfl]at f;refine gA_ nf func266 mix ?_;generalize mw (jP s)=t at*;cases s with
 |nil=>simp[f266,dI]
 |cons c r=>
  have hc:=g c s_
  by_cases b:t=[]
  ·have d:=hn.1 b;have e:dI (c::r)=(decide (¬c=48)||decide (r=[])):=by
    rw[dI,d]
    by_cases a:c=48
    ·subst a;simp
    ·simp[a]
   rw[e];clear e d hn
   by_cases a:c=48
   ·cases r with
    |nil=>
     simp[f266];refine c2 f ?_;simp[b,a]
    |cons x r=>
     simp[f266];refine c2 f ?_;simp[b,a]
   ·have i:¬(c:Int)=48:=by omega
    simp[f266,b,a,i,c2 f]
  ·have d:¬(c::r).all cA=true:=mt hn.2 b;have a:(c::r).all cA=false:=by simpa using d
   have e:dI (c::r)=false:=by rw[dI,a];simp
   rw[e];clear e d a hn;simp[f266,b,c2 f]
theorem apQ{a b:Nat}:(decide (lr (ff a b) 1≠0))=decide (i0 a b≠1):=by
 rw[decide_eq_decide,lr,ff,dy,dy]
 split
 ·simp;omega
 ·split
  ·simp;omega
  ·simp;omega
theorem Gw{s:List Nat}(h:s.all cA=true)(c:s.length<=700):okW (bf s:Nat):=by
 have a:=kA _ s rfl h;have b:bf s<2^kR:=hU a (Mu (by have:kR=2800:=rfl;omega));exact iR (k:=kR) (by rw[dy];exact b) (by have:kB=100000:=rfl;have:kR=2800:=rfl;omega)
theorem BL(s:List Nat)(h:s.length<=1048576)(C:∀c∈s,c<256):aq prog 219 [.str s] (.int .i64 (bZ s)):=by
 have P:=Zl s;have u:=Qd (dh s) 47 (hW (qK s).1 h);rw[show(ch 47 (dh s)).1=bH s from rfl,show(ch 47 (dh s)).2.1=bU s from rfl,show(ch 47 (dh s)).2.2=eU s from rfl]at u;refine gA_ nf func219 mix ?_;simp[f219,-aW];rw[aW];simp[-aW];rw[aW];simp[-aW];refine c2 P ?_;simp[-aW];rw[aW];simp[-aW];refine c2 u ?_;simp[-aW];have T:=(qK s).1;have k:=u5 47 (dh s);have V:(bH s).length<=1048576:=by have:=k.1;rw[bH];omega
 have U:(bU s).length<=1048576:=by have:=k.2.1;rw[bU];omega
 have O:∀c∈bH s,c<256:=fun c hc=>C c ((qK s).2 c (k.2.2.1 c hc));have N:∀c∈bU s,c<256:=fun c hc=>C c ((qK s).2 c (k.2.2.2 c hc));clear k T;have R:=OC (bH s) V O;have Q:=OC (bU s) U N;obtain⟨i,v⟩:∃i,i=(dI (bH s)&&!(b9 s&&decide (bH s=[48]))):=⟨_,rfl⟩
 obtain⟨f2,f⟩:∃f2,f2=(i&&(!eU s||(dI (bU s)&&decide (bU s≠[48])&&decide (bU s≠[49])))):=⟨_,rfl⟩
 have D:bZ s=if f2=false then 1 else if 600<(bH s).length\/600<(bU s).length then 4 else if eU s=true/\i0 (bf (bH s)) (bf (bU s))≠1 then 1 else 0:=by rw[f,v];rfl
 rw[D];clear D u;generalize eU s=fr at*;refine join (fun s'=>aP s'.env 8=.p (.bool i)/\aP s'.env 7=.p (.bool fr)/\aP s'.env 6=.p (.str (bU s))/\aP s'.env 5=.p (.str (bH s))/\s'.heap=[]) ?_ ?_
 ·simp;refine c1 R ?_;rw[v];cases dI (bH s)
  ·simp
  ·cases b9 s
   ·simp
   ·by_cases hn:bH s=[48]
    ·simp[hn]
    ·simp[hn]
 rintro⟨A,S⟩ ⟨x1,x2,x3,x4,l⟩;dsimp only at x1 x2 x3 x4 l;subst l;refine join (fun s'=>aP s'.env 8=.p (.bool f2)/\aP s'.env 7=.p (.bool fr)/\aP s'.env 6=.p (.str (bU s))/\aP s'.env 5=.p (.str (bH s))/\s'.heap=[]) ?_ ?_
 ·rw[f];cases fr
  ·simp[x1,x2,x3,x4]
  ·cases i
   ·simp[x1,x2,x3,x4]
   ·simp[x1,x2,x3,x4];refine c1 Q ?_;cases dI (bU s)
    ·simp[x1,x2,x3,x4]
    ·by_cases hn:bU s=[48]
     ·simp[x1,x2,x3,x4,hn]
     ·by_cases F:bU s=[49]
      ·simp[x1,x2,x3,x4,F]
      ·simp[x1,x2,x3,x4,hn,F]
 clear x1 x2 x3 x4 A;rintro⟨A,S⟩ ⟨x1,x2,x3,x4,l⟩;dsimp only at x1 x2 x3 x4 l;subst l;have head:∀(j n:Bool),aq prog 267 [.seq [.int .i64 (bh j 1),.int .i64 (bh n 4)]] (.int .i64 (if j=true then 1 else if n=true then 4 else 0)):=fun j n=>by
  have:=ZE [bh j 1,bh n 4] s_;cases j<;>cases n<;>exact this
 have w0:=xT (!f2) 1;have J:=xT true 4;have wf:=xT false 4;have B:=head (!f2) true;have M:=head (!f2) false;have G:(600<(bH s).length)↔(600:Int)<((bH s).length:Nat):=o_
 have H:(600<(bU s).length)↔(600:Int)<((bU s).length:Nat):=o_
 by_cases m:(600:Int)<((bH s).length:Nat)
 ·simp[x1,x2,x3,x4];refine c2 w0 ?_;simp[x1,x2,x3,x4,m];refine c2 J ?_;simp;refine cp B (by simp;exact⟨rfl,rfl⟩) ?_;cases f2
  ·simp
  ·simp[G.2 m]
 by_cases r:(600:Int)<((bU s).length:Nat)
 ·simp[x1,x2,x3,x4];refine c2 w0 ?_;simp[x1,x2,x3,x4,m,r];refine c2 J ?_;simp;refine cp B (by simp;exact⟨rfl,rfl⟩) ?_;cases f2
  ·simp
  ·simp[H.2 r]
 have y:¬600<(bH s).length:=mt G.1 m;have z:¬600<(bU s).length:=mt H.1 r;have I:=xT false 1;have X:=xT true 1;simp[x1,x2,x3,x4];refine c2 w0 ?_;simp[x1,x2,x3,x4,m,r];refine c2 wf ?_;simp;refine cp M (by simp;exact⟨rfl,rfl⟩) ?_;cases f2
 ·simp
 cases fr
 ·simp[x1,x2,x3,x4,y,z];refine c2 I ?_;simp[bh];exact⟨o_,o_⟩
 have d:dI (bH s)=true/\dI (bU s)=true:=by
  cases K:dI (bH s)
  ·rw[v,K]at f;simp at f
  cases L:dI (bU s)
  ·rw[L]at f;simp at f
  exact⟨rfl,rfl⟩
 obtain⟨n1,n2⟩:=En d.1;obtain⟨W,n4⟩:=En d.2;have r1:=Bx (bH s) (by rw[n2];exact kT d.1) (by rw[n2];omega);have t:=Bx (bU s) (by rw[n4];exact kT d.2) (by rw[n4];omega);rw[n1,n2]at r1;rw[W,n4]at t;simp only[dg,if_false]at r1 t;have w:=P9 (.mk' (bf (bH s):Nat)) (.mk' (bf (bU s):Nat)) (Gw (kT d.1) o_) (Gw (kT d.2) o_);rw[NI.jm,NI.jm]at w;have x:=tM 1;rw[NR]at x;have hc:=P8 (.mk' (ff (bf (bH s):Nat) (bf (bU s):Nat))) (.mk' 1) (sP (Gw (kT d.2) o_) (by rw[NI.jm,ff,dy,dy,dy];exact j9 _ (AE d.2 (fun e=>by rw[e]at f;simp at f)))) (by rw[okW];decide);rw[NI.jm,NI.jm]at hc;have E:=apQ (a:=bf (bH s)) (b:=bf (bU s));generalize lr (ff (bf (bH s):Nat) (bf (bU s):Nat)) 1=o at*
 by_cases g:i0 (bf (bH s)) (bf (bU s))=1
 ·have q:o=0:=by simpa[g]using E
  simp[x1,x2,x3,x4,y,z,g];refine c1 r1 ?_;simp[x1,x2,x3,x4];refine c1 t ?_;simp;refine c2 w ?_;simp;refine c1 x ?_;simp;refine c2 hc ?_;simp[q];refine c2 I ?_;simp[bh];rw[if_neg o_,if_pos g]
 ·have q:¬o=0:=by simpa[g]using E
  simp[x1,x2,x3,x4,y,z,g];refine c1 r1 ?_;simp[x1,x2,x3,x4];refine c1 t ?_;simp;refine c2 w ?_;simp;refine c1 x ?_;simp;refine c2 hc ?_;simp[q];refine c2 X ?_ (h1:=by simp[q]);simp[bh];rw[if_neg o_,if_neg g]
def jG(s:List Nat):Prop:=s.length<=1048576/\∀c∈s,c<256
theorem Zk(l:List (List Nat)):aq prog 262 [.seq (l.map .str)] (.func 296 [] [.cE (.seq (l.map .str))]):=by
 refine gA_ nf func262 mix ?_;simp[f262];exact bY.refl _
def Gk(s:List Nat):List PV:=[.int .i64 (bZ s)]
theorem Y4(l:List (List Nat))(o:l.length<=1000000)(hs:∀s∈l,jG s):Stream prog 296 [] [.cE (.seq (l.map .str))] (l.map Gk):=by
 intro b k c H' hk d n f;refine gX nf (i_ func296) mix (by simp[f296]) ?_;rw[hp]at hk;have hit:∀i(h:i<l.length),(l.map Gk)[i]?=some (Gk l[i]):=fun i h=>by rw[g7,fl h];rfl
 simp[f296];refine lp (α:=Nat) (fun i=>⟨[(7,.p (.int .i64 i)),(6,.p (.int .i64 l.length)),(5,.p (.seq (l.map .str))),(0,.map b)],c i⟩) (fun i=>i<=k) (fun i=>l.length-i) 0 s_ ?_ (hr:=by simp;exact(d 0 o_).2) (hr2:=(d 0 o_).1);intro i hi;have m:=cH (i:=i) o_
 by_cases a:i<l.length
 ·have hc:=BL l[i] (hs _ (gj a)).1 (hs _ (gj a)).2;have iH:(i<k/\fQ prog b (c i) [.p (.int .i64 (bZ l[i]))] (c (i+1)) (.p (.bool true)))\/fQ prog b (c i) [.p (.int .i64 (bZ l[i]))] H' (.p (.bool false)):=by
   by_cases e:i<k
   ·exact .inl ⟨e,n i _ e (hit i a)⟩
   ·have:i=k:=by omega
    subst this;rcases f with⟨e1,_⟩|⟨y,e1,e2⟩
    ·rw[hp]at e1;omega
    ·rw[hit i a]at e1;injection e1 with e1;subst e1;exact .inr e2
  simp[a];refine c1 hc ?_;simp;rcases iH with⟨e,hY⟩|hY
  ·refine⟨c (i+1),_,hY,?_⟩;simp[m];exact rd (i+1) e (h1:=o_) (hr:=by simp;exact(d (i+1) o_).2) (hr2:=(d (i+1) o_).1)
  ·refine⟨H',_,hY,?_⟩;simp
 ·have j:i=l.length:=by omega
  have g:k=l.length:=o_
  rcases f with⟨e1,e2⟩|⟨y,e1,e2⟩
  ·simp[a,e2,j,g]
  ·rw[g,List.getElem?_eq_none s_]at e1;cases e1
theorem Eb(p:Nat->Bool):∀n,∃k,k<=n/\(∀j,j<k->p j=true)/\(k=n\/(k<n/\p k=false))
 |0=>⟨0,h7 _,fun j h=>by omega,.inl rfl⟩
 |n+1=>by
  obtain⟨k,f,b,a⟩:=Eb p n;rcases a with a|⟨a,d⟩
  ·subst a;cases c:p k
   ·exact⟨k,o_,b,.inr ⟨o_,c⟩⟩
   ·refine⟨k+1,h7 _,fun j g=>?_,.inl rfl⟩
    by_cases e:j=k
    ·subst e;exact c
    ·exact b j o_
  ·exact⟨k,o_,b,.inr ⟨o_,d⟩⟩
def nC(l:List (List Nat))(i:Nat):Int:=match l[i]? with
 |some s=>bZ s
 |none=>0
theorem Lh:∀(l:List (List Nat))(k:Nat),(∀j,j<k->nC l j=0)->bJ (l.map bZ)=bJ ((l.drop k).map bZ)
 |[],k,_=>by simp
 |s::l,0,_=>rfl
 |s::l,k+1,h=>by
  have a:=h 0 o_;have b:bZ s=0:=a;rw[ge,bJ,if_pos b,List.drop_succ_cons];exact Lh l k fun j c=>h (j+1) o_
theorem Ww(l:List (List Nat))(c:l.length<=1000000)(hs:∀s∈l,jG s):aq prog 208 [.seq (l.map .str)] (.int .i64 (bJ (l.map bZ))):=by
 refine gA_ nf func208 mix ?_;simp[f208];refine c1 (Zk l) ?_;simp;have aS:=Y4 l c hs;obtain⟨k,hk,g,d⟩:=Eb (fun i=>decide (nC l i=0)) l.length;have r:∀j,j<k->nC l j=0:=fun j q=>by simpa using g j q
 have f:=Lh l k r;refine rf2 aS rfl s_ (fun L _=>[.box false (.p (.int .i64 0)),.loop L]) (fun L i=>[.box false (.p (.int .i64 (nC l (i-1)))),.loop (L.dn .ret)]) (fun i=>decide (nC l i=0)) .ret k (by simpa using hk) g (by simpa using d) (fun L=>rfl) ?_ ?_ (fun L=>rfl) ?_ ?_
 ·intro L b i hi;clear b;refine⟨rfl,s_,fun _ c=>?_⟩;simp at c⊢;exact c
 ·intro L b i x hi hx;have t:x=[.int .i64 (nC l i)]:=by
   rw[g7]at hx;unfold nC;cases h:l[i]? with
   |none=>rw[h]at hx;cases hx
   |some s=>rw[h]at hx;injection hx with hx;rw[<-hx];rfl
  subst t;rw[i2];refine uf nf mix b rfl rfl k_ ?_;have m:=congrArg eA.env b;dsimp only at m;clear b;generalize nC l i=e
  by_cases he:e=0
  ·subst he;simp;exact .inl rfl
  ·simp[he];exact .inl rfl
 ·intro a L;have a:k=l.length:=by simpa using a
  rw[f,a];simp[bJ]
 ·intro a L;have a:k<l.length:=by simpa using a
  have o:¬nC l k=0:=by
   rcases d with u|⟨_,n⟩
   ·omega
   ·simpa using n
  have e1:nC l k=bZ l[k]:=by unfold nC;rw[fl a]
  rw[f,gx a,ge,bJ,<-e1,if_neg o];simp[kI]
structure bS where
 x:List Nat
 y:List Nat
def dA(p:bS):PV:=.st 31 [.str p.x,.str p.y]
def jF(p:bS):Prop:=jG p.x/\jG p.y
def dM(p:bS):Int:=bJ [bZ p.x,bZ p.y]
@[simp] theorem aNA(p:bS):aL (dA p)=.agg 31:=rfl
@[simp] theorem aLZ(p:bS):bW (dA p)=[.str p.x,.str p.y]:=rfl
@[simp] theorem aJl:prog.cellsOf 31=2:=k_
theorem Ve(p:bS)(a:jF p):aq prog 139 [.seq [dA p]] (.int .i64 (dM p)):=by
 have hc:=Ww [p.x,p.y] s_ (by intro s hs;simp at hs;rcases hs with rfl|rfl;exact a.1;exact a.2);refine gA_ nf func139 mix ?_;simp[f139];refine lp (α:=Nat) (fun i=>⟨[(8,.p (.int .i64 i)),(7,.p (.int .i64 1)),(6,.p (.seq [dA p])),(0,.p (.seq [dA p]))],[]⟩) (fun i=>i=0\/(i=1/\dM p=0)) (fun i=>1-i) 0 (.inl rfl) ?_;rintro i h;rcases h with rfl|⟨rfl,h⟩
 ·simp[ad];refine cp hc (by simp;exact⟨rfl,rfl⟩) ?_;have b:dx.wrap 1=1:=rfl;rw[show bJ (hB bZ [p.x,p.y])=dM p from rfl]
  by_cases h:dM p=0
  ·simp[h,b];exact rd 1 (.inr ⟨rfl,h⟩)
  ·simp[h]
 ·simp[h]
theorem zK(p:bS)(a:jF p):aq prog 84 [dA p] (.int .i64 (dM p)):=by
 refine gA_ nf func84 mix ?_;simp[f84,ad];refine cp (Ve p a) (by simp;exact⟨rfl,rfl⟩) ?_;simp
open Go.Proofs Go.Proofs.YtpojdjgcpgnaeaaGreatDoor
section
variable{H:Type}{W:World}{aa:Nat->Prop}
theorem BU{n:Nat}{d:dq H}(h:∃cs,aX prog W aa (bM prog (n+1) 30 d) cs)(a:Rows.uptoBulk d<=1048576):∃s:List Nat,bM prog (n+1) 30 d=.str s/\jG s:=by
 obtain⟨cs,h⟩:=h;cases d with
 |lit l=>
  cases l with
  |string bytes=>
   refine⟨bytes.map (·.toNat),by simp only[bM,GN],?_,?_⟩
   ·rw[Rows.uptoBulk]at a;rw[hp];omega
   ·intro c hc;obtain⟨u,_,rfl⟩:=hb.1 hc;exact u.toNat_lt
  |_=>simp only[bM,GN,aX]at h
 |_=>simp only[bM,GN,aX]at h
theorem aHA:∃a b:Field,prog.underlying 32=some (.struct #[a,b])/\a.type=30/\b.type=30:=⟨_,_,underlying32,rfl,rfl⟩
theorem SC:prog.underlyingId 32=31:=k_
theorem XQ{m n:Nat}(q:m=n+1){d:dq H}(h:∃cs,aX prog W aa (bM prog (m+1) 32 d) cs)(e:Rows.uptoBulk d<=1048576):∃p:bS,bM prog (m+1) 32 d=dA p/\jF p:=by
 obtain⟨cs,h⟩:=h;obtain⟨f0,f1,i,t0,t1⟩:=aHA;cases d with
 |agg l=>
  have g:∀x∈l,Rows.uptoBulk x<=1048576:=fun x hx=>by
   have:=rA.vM hx;rw[Rows.uptoBulk]at e;omega
  simp only[bM,i,aX]at h⊢;obtain⟨t,s,f,c,_⟩:=h;rw[SC,aG6]at f;cases f
  match l,c with
  |[],c=>simp[bn]at c
  |[x],c=>simp[bn]at c
  |x::y::r,c=>
   simp only[List.zip_cons_cons,ge,bn,List.zip_nil_left,hg,t0,t1]at c⊢;obtain⟨c0,_,_,g1,_,c1,_,_,g2,_⟩:=c;subst q;obtain⟨a,j,o⟩:=BU ⟨c0,g1⟩ (g x s_);obtain⟨b,k,e⟩:=BU ⟨c1,g2⟩ (g y s_);exact⟨⟨a,b⟩,by rw[j,k,SC];rfl,o,e⟩
 |_=>simp only[bM,i,aX]at h
theorem Ew{n:Nat}{d:dq H}(h:∃cs,aX prog W aa (bM prog (n+2) 32 d) cs)(a:Rows.uptoBulk d<=1048576):∃p:bS,bM prog (n+2) 32 d=dA p/\jF p:=XQ rfl h a
theorem ZG{d:dq H}(h:∃cs,aX prog W aa (bM prog 8 32 d) cs)(b:Rows.uptoBulk d<=1048576):∃p:bS,bM prog 8 32 d=dA p/\True/\jF p:=by
 obtain⟨p,e,a⟩:=Ew (n:=6) h b;exact⟨p,e,trivial,a⟩
end
def bT:Nat:=1000000000
theorem bg:2<=bT:=d_
def iP(l:List Nat):List PV:=l.map fun x:Nat=>.int .i64 x
theorem Sr(w:List Nat):gf prog 1 (w.map (AV.p∘fun x:Nat=>PV.int .i64 x)):=by
 rw[xm];intro v a;obtain⟨x,_,rfl⟩:=hb.1 a;simp[ad,aL,bP]
def eT(n:Nat):PV:=.seq ((au bT n).map fun x:Nat=>.int .i64 x)
theorem B3:au bT 0=[]:=by simp[au,oQ]
theorem pB{n:Nat}(b:0<n)(h:n<bT):au bT n=[n]:=by
 have a:=kF bg (m:=1) (n:=n) (by rw[j6];exact h);rw[<-a,row,hR,ge,hg,ae,iy,i4,h4 h];have:=xi [] n o_
 rwa [hO]at this
theorem xw{n:Nat}:au bT n=[]↔n=0:=by
 constructor
 ·intro h;have:=cC bg n;rw[h,List.length_nil,iy]at this;omega
 ·rintro rfl;exact B3
theorem vz(w:List Nat)(h:w.length<=1048576):aq prog 198 [.seq (iP w)] (.seq (iP (eQ w))):=by
 refine gA_ nf func198 mix ?_;simp only[iP];simp[f198];refine lp (α:=Nat) (fun i=>⟨[(0,.p (.seq ((w.take i).map fun x:Nat=>.int .i64 x)))],[]⟩) (fun i=>i<=w.length/\eQ w=eQ (w.take i)) (fun i=>i) w.length s_ ?_;rintro i ⟨k1,k2⟩;have g:(w.take i).length=i:=by rw[gi];omega
 by_cases hi:0<i
 ·obtain⟨j,rfl⟩:∃j,i=j+1:=⟨i-1,o_⟩
  have e:dx.wrap (j:Int)=j:=aR _ o_ o_;have a:j<w.length:=o_
  have d:(0:Int)<(j:Int)+1:=o_
  have k3:=k2;rw[gy a]at k2;have b:min (j+1) w.length=j+1:=o_
  have c:min ((j:Int)+1) (w.length:Int)=j+1:=o_
  have f:¬w=[]:=by rintro rfl;simp at a
  by_cases hz:w[j]=0
  ·rw[hz,DD]at k2;simp[d,e,a,hz,b,c,f];refine⟨by rw[<-gU];exact Sr _,?_⟩;refine rd j ⟨o_,k2⟩ (he:=?_);rw[<-gU,<-gU,hu,lb o_];simp
  ·rw[xi _ _ hz,<-gy a]at k2;simp[d,e,a,hz,b,c,f];rw[k2,gU];exact bY.refl _
 ·obtain rfl:i=0:=by omega
  simp[eQ]at k2;simp[k2]
def eG(z:Int):PV:=.st 147 [.bool (decide (z<0)),eT z.natAbs]
@[simp] theorem aNr(z:Int):aL (eG z)=.agg 147:=rfl
@[simp] theorem aLQ(z:Int):bW (eG z)=[.bool (decide (z<0)),eT z.natAbs]:=rfl
@[simp] theorem aNH(n:Nat):aL (eT n)=.leaf:=rfl
theorem Er(neg:Bool)(w:List Nat)(n:Nat)(hn:eQ w=au bT n)(h:w.length<=1048576):aq prog 133 [.bool neg,.seq (iP w)] (eG (if neg=true then -(n:Int)else n)):=by
 have a:=vz w h;rw[hn]at a;refine gA_ nf func133 mix ?_;have b:(if neg=true then -(n:Int)else n).natAbs=n:=by cases neg<;>simp
 rw[eG,b,eT];have c:=xw (n:=n);have d:decide ((if neg=true then -(n:Int)else n)<0)=(neg&&decide (0<(au bT n).length)):=by
  cases neg
  ·simp
  ·simp;rw[fp,Ne,c];omega
 rw[d];simp only[iP]at a⊢;generalize au bT n=x at*;cases neg
 ·simp[f133,ad,c1 a]
 ·simp[f133];refine c1 a ?_;simp[ad]
  done
theorem KP{a b:Nat}(h:(au bT a).length<(au bT b).length):a<b:=by
 have d:=cC bg a;rcases h5 a b with c|c
 ·exact c
 ·have:=dV bg (au bT a).length b (hX c d);omega
theorem KU{a b i:Nat}(h:a/bT^(i+1)=b/bT^(i+1))(e:ae bT a i<ae bT b i):a<b:=by
 rw[h2,<-h6,<-h6]at h;have e1:=h9 (a/bT^i) bT;have e2:=h9 (b/bT^i) bT;rw[ae,ae]at e;rw[h]at e1;rcases h5 a b with d|d
 ·exact d
 ·have:=Nat.div_le_div_right (c:=bT^i) d;omega
theorem Yt{a b i:Nat}(h:a/bT^(i+1)=b/bT^(i+1))(c:ae bT a i=ae bT b i):a/bT^i=b/bT^i:=by
 rw[h2,<-h6,<-h6]at h;have e1:=h9 (a/bT^i) bT;have e2:=h9 (b/bT^i) bT;rw[ae,ae]at c;rw[h]at e1;omega
theorem K1(a b:Nat)(E:(au bT a).length<=1048576)(F:(au bT b).length<=1048576):aq prog 195 [eT a,eT b] (.int .i64 (gC a b)):=by
 refine gA_ nf func195 mix ?_
 by_cases l:(au bT a).length=(au bT b).length
 case neg=>
  have q:¬((au bT a).length:Int)=(au bT b).length:=o_
  by_cases A:(au bT a).length<(au bT b).length
  ·have m:((au bT a).length:Int)<(au bT b).length:=by omega
   have:=KP A;have hc:gC a b= -1:=if_pos this;simp[f195,eT,q,m,hc]
  ·have m:¬((au bT a).length:Int)<(au bT b).length:=by omega
   have:=KP (a:=b) (b:=a) o_;have hc:gC a b=1:=by rw[gC,if_neg o_,if_pos this]
   simp[f195,eT,q,m,hc]
 have t:∀i(h:i<(au bT a).length),(au bT a)[i]?=some (ae bT a i):=fun i h=>by rw[fl h,eZ bg h]
 have v:∀i(h:i<(au bT b).length),(au bT b)[i]?=some (ae bT b i):=fun i h=>by rw[fl h,eZ bg h]
 have u:∀i(h:i<(au bT a).length),(au bT a)[i]=ae bT a i:=fun i h=>eZ bg h;have w:∀i(h:i<(au bT b).length),(au bT b)[i]=ae bT b i:=fun i h=>eZ bg h;have s:=cC bg a;have o:=cC bg b;rw[<-l]at o;have z:a/bT^(au bT a).length=b/bT^(au bT a).length:=by rw[ix s,ix o]
 simp only[eT];generalize au bT a=x,au bT b=y at*;have D:dx.wrap ((y.length:Int)-1)=y.length-1:=aR _ o_ o_;simp[f195,l,D];refine lp (α:=Nat) (fun i=>⟨[(5,.p (.int .i64 ((i:Int)-1))),(1,.p (.seq (y.map fun x:Nat=>.int .i64 x))),(0,.p (.seq (x.map fun x:Nat=>.int .i64 x)))],[]⟩) (fun i=>i<=y.length/\a/bT^i=b/bT^i) (fun i=>i) y.length ⟨h7 _,by rw[<-l];exact z⟩ ?_;rintro i ⟨k1,k2⟩
 by_cases hi:0<i
 ·obtain⟨j,rfl⟩:∃j,i=j+1:=⟨i-1,o_⟩
  have c:j<x.length:=o_
  have d:j<y.length:=o_
  have C:dx.wrap ((j:Int)-1)=j-1:=aR _ o_ o_;have e:=t j c;have g:=v j d;have f:=u j c;have k:=w j d
  by_cases hq:ae bT a j=ae bT b j
  ·simp[c,d,e,g,f,k,hq,C];exact rd j ⟨o_,Yt k2 hq⟩
  ·have r:¬(ae bT a j:Int)=ae bT b j:=by omega
   by_cases n:ae bT a j<ae bT b j
   ·have:=KU k2 n;have hc:gC a b= -1:=if_pos this;simp[c,d,e,g,f,k,r,n,hc]
   ·have:=KU k2.symm (show ae bT b j<ae bT a j by omega);have B:ae bT b j<ae bT a j:=by omega
    have hc:gC a b=1:=by rw[gC,if_neg o_,if_pos this]
    simp[c,d,e,g,f,k,r,n,B,hc]
 ·obtain rfl:i=0:=by omega
  rw[iy,i4,i4]at k2;have hc:gC a b=0:=by rw[gC,if_neg o_,if_neg o_]
  simp[hc]
theorem Zg{n i:Nat}(h:(au bT n).length<=i):ae bT n i=0:=kD (hU (cC bg n) (hT d_ h))
theorem Fa(a i:Nat):aq prog 255 [eT a,.int .i64 i] (.int .i64 (ae bT a i:Nat)):=by
 refine gA_ nf func255 mix ?_
 by_cases h:i<(au bT a).length
 ·have g1:(au bT a)[i]=ae bT a i:=eZ bg h;rw[eT,<-g1];generalize au bT a=x at*;simp[f255,h]
 ·rw[Zg o_,eT];generalize au bT a=x at*;simp[f255,h]
def eK(i n:Nat):List AV:=(fv i).map fun j=>.p (.int .i64 (ae bT n j:Nat))
theorem sJ(i n:Nat):eK (i+1) n=eK i n++[.p (.int .i64 (ae bT n i:Nat))]:=by
 rw[eK,hN,hQ];rfl
theorem jd(i n:Nat):(eK i n).length=i:=by simp[eK]
@[simp] theorem aNe{N:Nat×Nat->Prop}{n i:Nat}:aZ N (eK i n)=True:=by
 rw[dP,eq_iff_iff,iff_true];intro v a;simp only[eK,hb]at a;obtain⟨x,_,rfl⟩:=a;trivial
theorem NK(i n:Nat):eE (eK i n)=some ((row bT i n).map fun x:Nat=>.int .i64 x):=by
 have:eK i n=(row bT i n).map (AV.p∘fun x:Nat=>PV.int .i64 x):=by
  rw[eK,row,hw];rfl
 rw[this];exact L6
theorem OK(i n:Nat):eK i n=(row bT i n).map (AV.p∘fun x:Nat=>PV.int .i64 x):=by
 rw[eK,row,hw];rfl
theorem Zv{n i:Nat}(h:n<bT^i)(a:i=0\/bT^(i-1)<=n):row bT i n=au bT n:=by
 have b:(au bT n).length=i:=by
  have c:=dV bg i n h;rcases a with rfl|a
  ·omega
  ·have:=Li bg a;omega
 have:=alw bg n;rw[b]at this;exact this.symm
theorem Z5(a b:Nat)(G:(au bT a).length<=1000000)(H:(au bT b).length<=1000000):aq prog 194 [eT a,eT b] (eT (a+b)):=by
 refine gA_ nf func194 mix ?_;have u:=cC bg a;have v:=cC bg b;have B:∀i,i<(au bT a).length->bT^i<=a:=fun i h=>by
  rcases h5 a (bT^i)with c|c
  ·have:=dV bg i a c;omega
  ·exact c
 have C:∀i,i<(au bT b).length->bT^i<=b:=fun i h=>by
  rcases h5 b (bT^i)with c|c
  ·have:=dV bg i b c;omega
  ·exact c
 have w:∀i,0<dm bT a b i->bT^i<=a+b:=fun i h=>by
  rw[dm]at h;have c:bT^i<=a% bT^i+b% bT^i:=by
   rcases h5 (a% bT^i+b% bT^i) (bT^i)with d|d
   ·rw[ix d]at h;omega
   ·exact d
  have:=l3 a (bT^i);have:=l3 b (bT^i);omega
 have f:=fun i=>Fa a i;have g:=fun i=>Fa b i;have A:∀i,(au bT a).length<=i->(au bT b).length<=i->dm bT a b i=0->a+b<bT^i:=fun i c d r=>by
  have g1:=hU u (hT (show 0<bT by decide) c);have g2:=hU v (hT (show 0<bT by decide) d);rw[dm,h4 g1,h4 g2]at r;rcases h5 (a+b) (bT^i)with e|e
  ·exact e
  ·have:=j0 e (ih (show 0<bT by decide));omega
 have D:∃M,M=max (au bT a).length (au bT b).length:=⟨_,rfl⟩
 obtain⟨M,F⟩:=D;simp only[eT]at f g⊢;have E:=fun i h d=>Zv (n:=a+b) (i:=i) h d;generalize au bT (a+b)=z,au bT a=x,au bT b=y at*;simp[f194];refine lp (α:=Nat) (fun i=>⟨[(7,.p (.int .i64 i)),(6,.p (.int .i64 (dm bT a b i:Nat))),(5,.sl 0 i 1 0 i),(1,.p (.seq (y.map fun x:Nat=>.int .i64 x))),(0,.p (.seq (x.map fun x:Nat=>.int .i64 x)))],[.arr .grow i 1 (eK i (a+b))]⟩)
  (fun i=>i<=M+1/\(i=0\/bT^(i-1)<=a+b)) (fun i=>M+1-i) 0 ⟨o_,.inl rfl⟩ ?_ (he:=by simp[Aa,eK]) (hh:=by simp[eK])
 rintro i ⟨k1,k2⟩;have q:=cH (i:=i) o_;have I:=ng bg a b i;obtain⟨g1,g2⟩:=sC bg a b i;have K:=cF bg a i;have L:=cF bg b i;have s:bT=1000000000:=rfl;have w1:dx.wrap ((ae bT a i:Int)+ae bT b i)=ae bT a i+ae bT b i:=aR _ o_ o_;have w2:dx.wrap ((ae bT a i:Int)+ae bT b i+dm bT a b i)=ae bT a i+ae bT b i+dm bT a b i:=aR _ o_ o_;have l:((ae bT a i:Int)+ae bT b i+dm bT a b i).tmod 1000000000=(ae bT (a+b) i:Nat):=by
  rw[eb o_,<-g1,s];omega
 have m:((ae bT a i:Int)+ae bT b i+dm bT a b i).tdiv 1000000000=(dm bT a b (i+1):Nat):=by
  rw[ea o_,<-g2,s];omega
 have o:dx.wrap (dm bT a b (i+1):Nat)=(dm bT a b (i+1):Nat):=by have:=ng bg a b (i+1);exact aR _ o_ o_
 have j:gg i (eK i (a+b))=eK i (a+b):=fm (by rw[jd];exact h7 _)
 by_cases hx:i<x.length
 ·simp[hx];refine c2 (f i) ?_;simp;refine c2 (g i) ?_;simp[w1,w2,l,m,o,jd,j,<-sJ];refine⟨by simp only[dc];omega,?_⟩;refine rd (i+1) ⟨o_,.inr (by rw[i2];exact hW (B i hx) o_)⟩ o_ (he:=by simp[q])
 by_cases k:i<y.length
 ·simp[hx,k];refine c2 (f i) ?_;simp;refine c2 (g i) ?_;simp[w1,w2,l,m,o,jd,j,<-sJ];refine⟨by simp only[dc];omega,?_⟩;refine rd (i+1) ⟨o_,.inr (by rw[i2];exact hW (C i k) o_)⟩ o_ (he:=by simp[q])
 by_cases hc:0<dm bT a b i
 ·have J:i=M:=by
   rcases h5 M i with h|h
   ·have e0:=sC bg a b M;have c:ae bT a M=0:=kD (hU u (hT d_ o_));have d:ae bT b M=0:=kD (hU v (hT d_ o_));have r:=ng bg a b M;have e:i=M+1:=by omega
    subst e;rw[c,d]at e0;rw[<-e0.2,ix o_]at hc;omega
   ·omega
  simp[hx,k,hc];refine c2 (f i) ?_;simp;refine c2 (g i) ?_;simp[w1,w2,l,m,o,jd,j,<-sJ];refine⟨by simp only[dc];omega,?_⟩;refine rd (i+1) ⟨o_,.inr (by rw[i2];exact w i hc)⟩ o_ (he:=by simp[q])
 ·have t:dm bT a b i=0:=by omega
  have hz:=E i (A i o_ o_ t) k2;rw[<-hz];simp[hx,k,t];refine⟨by rw[jd];exact h7 _,?_⟩;rw[j,OK];simp
theorem OA(a b:Nat)(v:b<=a)(D:(au bT a).length<=1000000):aq prog 196 [eT a,eT b] (eT (a-b)):=by
 refine gA_ nf func196 mix ?_;have B:=cC bg a;have j:=fun i=>Fa b i;have w:∀i(h:i<(au bT a).length),(au bT a)[i]?=some (ae bT a i):=fun i h=>by rw[fl h,eZ bg h]
 have A:∀i(h:i<(au bT a).length),(au bT a)[i]=ae bT a i:=fun i h=>eZ bg h;have C:eQ (row bT (au bT a).length (a-b))=au bT (a-b):=kF bg (hX (le a b) B);have e:=vz (row bT (au bT a).length (a-b)) (by rw[N3];omega);rw[C]at e;simp only[eT]at j⊢;simp only[iP]at e;generalize au bT (a-b)=z,au bT a=x,au bT b=y at*;simp[f196];refine lp (α:=Nat) (fun i=>⟨[(7,.p (.int .i64 i)),(6,.p (.int .i64 (fG bT a b i:Nat))),(5,.sl 0 i 1 0 i),(1,.p (.seq (y.map fun x:Nat=>.int .i64 x))),(0,.p (.seq (x.map fun x:Nat=>.int .i64 x)))],[.arr .grow i 1 (eK i (a-b))]⟩)
  (fun i=>i<=x.length) (fun i=>x.length-i) 0 s_ ?_ (he:=by simp[DC,eK]) (hh:=by simp[eK])
 intro i k1;have r:=cH (i:=i) o_;have q:gg i (eK i (a-b))=eK i (a-b):=fm (by rw[jd];exact h7 _);have E:bT=1000000000:=rfl;have H:=cF bg a i;have I:=cF bg b i;have J:=cF bg (a-b) i;have K:fG bT a b i<=1:=by rw[fG];split<;>omega
 have w1:dx.wrap ((ae bT a i:Int)-ae bT b i)=ae bT a i-ae bT b i:=aR _ o_ o_;have w2:dx.wrap ((ae bT a i:Int)-ae bT b i-fG bT a b i)=ae bT a i-ae bT b i-fG bT a b i:=aR _ o_ o_
 by_cases hx:i<x.length
 ·have n:=w i hx;have o:=A i hx;rcases Mv bg v i with⟨s,g,u⟩|⟨s,g,u⟩
  ·have m:(ae bT a i:Int)-ae bT b i-fG bT a b i<0:=by omega
   have f:dx.wrap ((ae bT a i:Int)-ae bT b i-fG bT a b i+1000000000)=(ae bT (a-b) i:Nat):=by rw[aR _ o_ o_];omega
   simp[hx,n,o];refine e2 (j i) ?_;simp[w1,w2,m,f,jd,q,<-sJ];refine⟨by simp only[dc];omega,?_⟩;refine rd (i+1) hx (he:=by simp[r,g])
  ·have m:¬(ae bT a i:Int)-ae bT b i-fG bT a b i<0:=by omega
   have f:(ae bT a i:Int)-ae bT b i-fG bT a b i=(ae bT (a-b) i:Nat):=o_
   rw[f]at m w2;simp[hx,n,o];refine e2 (j i) ?_;simp[w1,w2,f,jd,q,<-sJ];refine⟨by simp only[dc];omega,?_⟩;refine rd (i+1) hx (he:=by simp[r,g])
 ·have:i=x.length:=by omega
  subst this;have k:=OK x.length (a-b);have d:(row bT x.length (a-b)).length=x.length:=N3;generalize row bT x.length (a-b)=l at e k d;have F:gg x.length l=l:=fm o_;rcases l with _|⟨c,t⟩
  ·simp at d;simp[k];refine cp e (by simp[<-d];exact⟨rfl,rfl⟩) ?_;simp
  ·have G:gg x.length (PV.int .i64 c::hB (fun x:Nat=>PV.int .i64 x) t)=PV.int .i64 c::hB (fun x:Nat=>PV.int .i64 x) t:=fm (by simp at d⊢;omega);simp at d;simp[k];refine cp e (by simp[<-d];exact⟨rfl,rfl⟩) ?_;simp
def dv(n:Nat)(f:Nat->Nat):List AV:=(fv n).map fun j=>.p (.int .i64 (f j:Nat))
theorem xK(n:Nat)(f:Nat->Nat):(dv n f).length=n:=by simp[dv]
theorem Mz(n:Nat):gb n (AV.p (.int .i64 0))=dv n fun _=>0:=by
 apply ha (by simp[dv]);intro i a b;simp[dv]
theorem vi{n j:Nat}(f:Nat->Nat)(h:j<n):(dv n f)[j]?=some (.p (.int .i64 (f j:Nat))):=by
 rw[dv,g7,hd h];rfl
theorem EL{n i:Nat}(f g:Nat->Nat)(h:∀j,j<n->j≠i->g j=f j):(dv n f).set i (.p (.int .i64 (g i:Nat)))=dv n g:=by
 apply ha (by simp[dv]);intro j c b;rw[xK]at b;rw[hK];simp only[dv,g5,g0]
 by_cases a:i=j
 ·subst a;rw[if_pos rfl]
 ·rw[if_neg a,h j b (fun e=>a e.symm)]
@[simp] theorem aNd{N:Nat×Nat->Prop}{n:Nat}{f:Nat->Nat}:aZ N (dv n f)=True:=by
 rw[dP,eq_iff_iff,iff_true];intro v a;simp only[dv,hb]at a;obtain⟨x,_,rfl⟩:=a;trivial
theorem AY{n:Nat}{f g:Nat->Nat}(h:∀j,j<n->f j=g j):dv n f=dv n g:=by
 rw[dv,dv];apply hC;intro j a;rw[h j (hS.1 a)]
theorem Ef(n:Nat)(f:Nat->Nat):dv n f=((fv n).map f).map (AV.p∘fun x:Nat=>PV.int .i64 x):=by
 rw[dv,hw];rfl
theorem Xc{n:Nat}{f:Nat->Nat}(h:∀j,f j=0):gb n (AV.p (.int .i64 0))=dv n f:=by
 rw[Mz];exact AY fun j _=>(h j).symm
theorem FI(a b:Nat)(v:(au bT a).length+(au bT b).length<=1000000):aq prog 134 [eT a,eT b] (eT (a*b)):=by
 refine gA_ nf func134 mix ?_;have N:∀i(h:i<(au bT a).length),(au bT a)[i]=ae bT a i:=fun i h=>eZ bg h;have Q:∀i(h:i<(au bT b).length),(au bT b)[i]=ae bT b i:=fun i h=>eZ bg h;have s:=cC bg a;have d:=cC bg b;have U:eQ ((fv ((au bT a).length+(au bT b).length)).map (ae bT (a*b)))=au bT (a*b):=kF bg (by
  rw[i3];exact i8 s d)
 have c:=vz ((fv ((au bT a).length+(au bT b).length)).map (ae bT (a*b))) (by simp;omega);rw[U]at c;have w:bT=1000000000:=rfl;simp only[eT];simp only[iP]at c;generalize au bT (a*b)=z,au bT a=x,au bT b=y at*;obtain⟨n,hn⟩:∃n,x.length=n:=⟨_,rfl⟩
 obtain⟨m,e⟩:∃m,y.length=m:=⟨_,rfl⟩
 rw[hn]at s c v;rw[e]at d c v;have A:=Ef (n+m) (ae bT (a*b));have t:((fv (n+m)).map (ae bT (a*b))).length=n+m:=s_
 generalize (fv (n+m)).map (ae bT (a*b))=l at c A t;have T:((n:Int)+m).toNat=n+m:=o_
 have S:0<=(n:Int)+m:=o_
 have Y:dx.wrap ((n:Int)+m)=(n:Int)+m:=aR _ o_ o_;simp[f134,hn,e,Y,T,S];refine⟨by simp only[dc];omega,?_⟩;rw[Xc (f:=dt bT a b 0 0) (by intro j;simp[qL,l1,ae])];refine lp (α:=Nat) (fun i=>⟨[(6,.p (.int .i64 i)),(5,.sl 0 0 1 0 (n+m)),(1,.p (.seq (y.map fun x:Nat=>.int .i64 x))),(0,.p (.seq (x.map fun x:Nat=>.int .i64 x)))],[.arr .exact 0 1 (dv (n+m) (dt bT a b i 0))]⟩)
  (fun i=>i<=n) (fun i=>n-i) 0 s_ ?_ (he:=s_)
 intro i k1;have V:=cH (i:=i) o_
 by_cases hi:i<n
 ·have q:i<x.length:=by rw[hn];exact hi
  have hx:=N i q;have aa:x[i]?=some (ae bT a i):=by rw[fl q,hx]
  simp[hn,hi];refine lp (α:=Nat) (fun j=>⟨[(8,.p (.int .i64 j)),(7,.p (.int .i64 (mulC bT a b i j:Nat))),(6,.p (.int .i64 i)),(5,.sl 0 0 1 0 (n+m)),(1,.p (.seq (y.map fun x:Nat=>.int .i64 x))),(0,.p (.seq (x.map fun x:Nat=>.int .i64 x)))],[.arr .exact 0 1 (dv (n+m) (dt bT a b i j))]⟩)
   (fun j=>j<=m) (fun j=>m-j) 0 s_ ?_ (he:=by simp[DS])
  intro j k2;have X:=cH (i:=j) o_;have G:((i:Int)+j).toNat=i+j:=o_
  have F:0<=(i:Int)+j:=o_
  have W:dx.wrap ((i:Int)+j)=(i:Int)+j:=aR _ o_ o_
  by_cases E:j<m
  ·have r:j<y.length:=by rw[e];exact E
   have H:=Q j r;have ab:y[j]?=some (ae bT b j):=by rw[fl r,H]
   have B:i+j<n+m:=o_
   have o:=vi (dt bT a b i j) B;have g:=Ez bg a b i j;have ac:=vq bg a b i j;have u:=vq bg a b i (j+1);have af:dt bT a b i j (i+j)<bT:=by rw[dt];split<;>exact cF bg _ _
   have ai:=cF bg a i;have aj:=cF bg b j;have hs:=EL (n:=n+m) (i:=i+j) (dt bT a b i j) (dt bT a b i (j+1)) (fun k _ hk=>LD bg hk);rw[M7]at hs;rw[<-g.1]at hs;have ah:ae bT a i*ae bT b j<=999999999*999999999:=kk o_ o_;rw[<-g.2]at u;have L:=g.2;clear g;have M:((ae bT a i:Int)*(ae bT b j:Int))=((ae bT a i*ae bT b j:Nat):Int):=by push_cast;rfl
   generalize ae bT a i*ae bT b j=P,dt bT a b i j (i+j)=O,ag:mulC bT a b i j=C at*;have w1:dx.wrap ((ae bT a i:Int)*(ae bT b j:Int))=P:=by rw[M];exact aR _ o_ o_
   have w2:dx.wrap ((O:Int)+P)=O+P:=aR _ o_ o_;have w3:dx.wrap ((O:Int)+P+C)=O+P+C:=aR _ o_ o_;have I:((O:Int)+P+C).tmod 1000000000=((P+O+C)% bT:Nat):=by
    rw[eb o_,w];omega
   generalize (P+O+C)% bT=D at*;have J:((O:Int)+P+C).tdiv 1000000000=(mulC bT a b i (j+1):Nat):=by
    rw[ea o_,<-L,w];omega
   have K:dx.wrap ((mulC bT a b i (j+1):Nat):Int)=(mulC bT a b i (j+1):Nat):=aR _ o_ o_;simp[hn,e,E,W,G,F,B,o,hx,aa,H,ab,q,r,w1,w2,w3,I,J,K,hs,ad];exact rd (j+1) (show j+1<=m by omega) (he:=by simp[X])
  have:j=m:=o_
  subst this;have Z:dx.wrap ((i:Int)+j)=(i:Int)+j:=aR _ o_ o_;have aA:i+j<n+j:=o_
  have hz:dt bT a b i j (i+j)=0:=by
   rw[dt,if_neg o_];exact kD (xM bg a i d)
  have o:=vi (dt bT a b i j) aA;rw[hz]at o;have hs:=EL (n:=n+j) (i:=i+j) (dt bT a b i j) (dt bT a b (i+1) 0) (fun k _ hk=>by rw[qL,M8 bg d hk]);rw[qL,<-Kz bg d]at hs;have u:=vq bg a b i j;have w4:dx.wrap ((mulC bT a b i j:Nat):Int)=(mulC bT a b i j:Nat):=aR _ o_ o_;simp[e,Z,G,F,hi,aA,o,hs,w4,ad];exact rd (i+1) (show i+1<=n by omega) (he:=by simp[V])
 have:i=n:=o_
 subst this;have R:dv (i+m) (dt bT a b i 0)=dv (i+m) (ae bT (a*b)):=AY fun k _=>by rw[qL,h4 s]
 simp[hn,R,A];refine cp c (by simp[t];exact⟨rfl,rfl⟩) ?_ (h1:=by simp[fm,t]);simp
theorem XJ{a b i:Nat}(c:0<b):(a/bT^(i+1)% b*bT+ae bT a i)/b=ae bT (a/b) i/\(a/bT^(i+1)% b*bT+ae bT a i)% b=a/bT^i% b:=by
 have e:=uH (B:=bT) a i;have g:=h9 (a/bT^(i+1)) b;have f:a/bT^i=(a/bT^(i+1)% b*bT+ae bT a i)+a/bT^(i+1)/b*bT*b:=by
  rw[e];generalize ae bT a i=d;generalize a/bT^(i+1)/b=Q,a/bT^(i+1)% b=R at*;rw[<-g,i1,hV b,kp Q b bT];omega
 have j:(a/bT^(i+1)% b*bT+ae bT a i)/b<bT:=by
  rw[h3 c];have k:=cF bg a i;have h:=h0 bT (show a/bT^(i+1)% b+1<=b from ik _ c);rw[i1,i6]at h;rw[hV bT];omega
 constructor
 ·conv=>rhs;rw[ae,h6,hV b,<-h6,f,Nat.add_mul_div_right _ _ c,li,h4 j]
 ·rw[f,li]
theorem B4(r x:Nat):(r:Int)*1000000000+x=((r*bT+x:Nat):Int):=by
 rw[e7,ed];rfl
def qT(Q i k:Nat):Nat:=if i<=k then ae bT Q k else 0
theorem Fy{m Q i:Nat}:(dv m (qT Q (i+1))).set i (.p (.int .i64 (ae bT Q i:Nat)))=dv m (qT Q i):=by
 have:=EL (n:=m) (i:=i) (qT Q (i+1)) (qT Q i) (fun k _ hk=>by
  rw[qT,qT]
  by_cases h:i<=k
  ·rw[if_pos h,if_pos o_]
  ·rw[if_neg h,if_neg o_])
 rw[<-this,qT,if_pos (h7 _)]
theorem N6{m Q:Nat}:dv m (qT Q 0)=dv m (ae bT Q):=AY fun k _=>by rw[qT,if_pos (i5 _)]
theorem N7{m Q:Nat}:gb m (AV.p (.int .i64 0))=dv m (qT Q m):=by
 rw[Mz];exact AY fun k hk=>by rw[qT,if_neg o_]
theorem Oz{m N:Nat}(h:N<bT^m)(b:m<=1048576):∃l:List Nat,l.length=m/\dv m (ae bT N)=l.map (AV.p∘fun x:Nat=>PV.int .i64 x)/\aq prog 198 [.seq (iP l)] (eT N):=by
 refine⟨(fv m).map (ae bT N),s_,Ef m _,?_⟩;have a:=vz ((fv m).map (ae bT N)) (by simp;omega);rw[show eQ ((fv m).map (ae bT N))=au bT N from kF bg h]at a;exact a
theorem K0(a d:Nat)(s:0<d)(S:d<bT)(K:(au bT a).length<=1000000):aq prog 197 [eT a,.int .i64 d] (.aD [eT (a/d),.int .i64 (a% d:Nat)]):=by
 refine gA_ nf func197 mix ?_;have I:∀i(h:i<(au bT a).length),(au bT a)[i]=ae bT a i:=fun i h=>eZ bg h;have u:=cC bg a;obtain⟨l,j,v,e⟩:=Oz (m:=(au bT a).length) (N:=a/d) (hX (js _ _) u) o_;have g:a/bT^(au bT a).length% d=0:=by rw[ix u,Nat.zero_mod]
 have y:a/bT^0% d=a% d:=by rw[iy,i4]
 have R:bT=1000000000:=rfl;simp only[eT]at e⊢;simp only[iP]at e;generalize au bT (a/d)=V,au bT a=x at*;obtain⟨n,hn⟩:∃n,x.length=n:=⟨_,rfl⟩
 rw[hn]at j v g K;generalize U:a% d=rem at*;obtain⟨f,hf⟩:∃f:Nat->Nat,∀i,a/bT^i% d=f i:=⟨_,fun _=>rfl⟩
 have w:=fun i=>XJ (a:=a) (b:=d) (i:=i) s;have t:∀i,f i<d:=fun i=>by rw[<-hf];exact ik _ s
 simp only[hf]at g y w;have D:dx.wrap ((n:Int)-1)=n-1:=aR _ o_ o_;simp[f197,hn,D];refine⟨by simp only[dc];omega,?_⟩;rw[N7 (Q:=a/d)];refine lp (α:=Nat) (fun i=>⟨[(8,.p (.int .i64 ((i:Int)-1))),(7,.p (.int .i64 (f i:Nat))),(6,.sl 0 0 1 0 n),(1,.p (.int .i64 d)),(0,.p (.seq (x.map fun x:Nat=>.int .i64 x)))],[.arr .exact 0 1 (dv n (qT (a/d) i))]⟩)
  (fun i=>i<=n) (fun i=>i) n (h7 _) ?_ (he:=by simp[g])
 intro i k1
 by_cases hi:0<i
 ·obtain⟨k,rfl⟩:∃k,i=k+1:=⟨i-1,o_⟩
  have E:dx.wrap ((k:Int)-1)=k-1:=aR _ o_ o_;have o:k<x.length:=o_
  have hx:=I k o;have L:x[k]?=some (ae bT a k):=by rw[fl o,hx]
  obtain⟨r1,M⟩:=w k;have aS:=Fy (m:=n) (Q:=a/d) (i:=k);have gk:=vi (qT (a/d) (k+1)) (show k<n by omega);have J:k<n:=o_
  have O:=t (k+1);have T:=cF bg a k;have hq:=cF bg (a/d) k;have P:=t k;generalize f (k+1)=c,F:f k=z,ae bT a k=dk,ae bT (a/d) k=q at*;have w1:dx.wrap ((c:Int)*1000000000)=c*1000000000:=aR _ o_ o_;have w2:dx.wrap ((c:Int)*1000000000+dk)=c*1000000000+dk:=aR _ o_ o_;have r:(c:Int)*1000000000+dk=((c*bT+dk:Nat):Int):=B4 c dk;have A:((c:Int)*1000000000+dk).tdiv d=q:=by
   rw[r,ea (dz _),<-ee,r1]
  have B:((c:Int)*1000000000+dk).tmod d=z:=by
   rw[r,eb (dz _),<-ei,M]
  have C:dx.wrap (q:Int)=q:=aR _ o_ o_;have G:¬(d:Int)=0:=o_
  have H:¬d=0:=o_
  simp[hn,E,hx,L,J,o,w1,w2,A,B,C,G,H,gk,aS,ad];exact rd k (show k<=n by omega) (he:=by simp[F])
 ·obtain rfl:i=0:=by omega
  simp[N6,v,y];refine cp e (by simp[j];exact⟨rfl,rfl⟩) ?_ (h1:=by simp[fm,j]);simp
def lX(a b w2:Nat):Nat->Nat->Nat
 |0,_=>0
 |t+1,r=>if bT<=t+1\/r*bT+w2<(t+1)*b then(if bT<=r+a then t else lX a b w2 t (r+a))else t+1
theorem apT{a b w2 t r:Nat}(h:0<t):lX a b w2 t r=if bT<=t\/r*bT+w2<t*b then(if bT<=r+a then t-1 else lX a b w2 (t-1) (r+a))else t:=by
 cases t with
 |zero=>exact absurd h (Nat.lt_irrefl 0)
 |succ t=>rw[lX,i2]
theorem LB{a b:Nat}(c:a<bT)(d:b<bT):dx.wrap ((a:Int)*b)=(a:Int)*b:=by
 have e:a*b<=999999999*999999999:=kk (by simp only[bT]at c;omega) (by simp only[bT]at d;omega);rw[<-ed];generalize a*b=P at*;exact aR _ o_ o_
theorem Sy{a b r w:Nat}:(r:Int)*1000000000+w<(a:Int)*b↔r*bT+w<a*b:=by
 rw[B4,<-ed];exact Int.ofNat_lt
theorem Cf{r v:Nat}:(1000000000:Int)<=(r:Int)+v↔bT<=r+v:=by simp only[bT];omega
theorem Qw{t:Nat}:(1000000000:Int)<=(t:Int)↔bT<=t:=by simp only[bT];omega
theorem aGT{t:Nat}(h:0<t)(a:t<=bT+1):dx.wrap ((t:Int)-1)=((t-1:Nat):Int):=by
 simp only[bT]at a;rw[aR _ o_ o_];omega
theorem Px{a v2 w0 w1 w2 Q:Nat}(u:bT<=2*a)(v:a<bT)(m:w0<=a)(w:w1<bT)(s:Q<bT)
 (d:∀q r,q*a+r=w0*bT+w1->q<bT->q*v2<=r*bT+w2->q<=Q+1)(k:∀q r,q*a+r=w0*bT+w1->r*bT+w2<q*v2->Q<q)
 (l:∀q r,bT<=r->q<bT->q*v2<=r*bT+w2):∀t r,t*a+r=w0*bT+w1->Q<=t->r<bT->t<=bT+1->Q<=lX a v2 w2 t r/\lX a v2 w2 t r<=Q+1/\lX a v2 w2 t r<bT
 |0,r,b,c,n,o=>by
  rw[lX];exact⟨c,o_,o_⟩
 |t+1,r,b,c,n,o=>by
  rw[lX]
  by_cases hc:bT<=t+1\/r*bT+w2<(t+1)*v2
  ·rw[if_pos hc];have hq:Q<=t:=by
    rcases hc with h|h
    ·omega
    ·have:=k _ _ b h;omega
   have i:t*a+(r+a)=w0*bT+w1:=by rw[i1,i6]at b;omega
   by_cases f:bT<=r+a
   ·rw[if_pos f];have g:t<bT:=by
     rcases h5 t bT with h|h
     ·exact h
     ·have e:t=bT:=by omega
      subst e;have:=h0 bT m;rw[hV a]at this;omega
    exact⟨hq,d _ _ i g (l _ _ f g),g⟩
   ·rw[if_neg f];exact Px u v m w s d k l t (r+a) i hq o_ o_
  ·rw[if_neg hc];have j:t+1<bT:=by
    rcases h5 (t+1) bT with h|h
    ·exact h
    ·exact(hc (.inl h)).elim
   have p:(t+1)*v2<=r*bT+w2:=by
    rcases h5 (r*bT+w2) ((t+1)*v2)with h|h
    ·exact(hc (.inr h)).elim
    ·exact h
   exact⟨c,d _ _ b j p,j⟩
theorem ao7(W V N j n:Nat)(k:AK)(aE:Nat)(f:Nat->Nat)(hn:2<=n)(aw:(au bT V).length=n)(aL:bT<=2*ae bT V (n-1))(ax:W<V*bT)(a6:N<=1000000)(aO:j+n<N)
 (hf:∀i,i<=n->f (j+i)=ae bT W i):∃t,W/V<=t/\t<=W/V+1/\t<bT/\
 c8 prog 199 [.arr k aE 1 (dv N f)] [.sl 0 aE 1 0 N,.p (eT V),.p (.int .i64 j)] [.arr k aE 1 (dv N f)] (.p (.int .i64 t)):=by
 have aM:bT=1000000000:=rfl;have z:V<bT^n:=by rw[<-aw];exact cC bg V
 have M:bT^(n-1)<=V:=by
  rcases h5 V (bT^(n-1))with h|h
  ·have:=dV bg (n-1) V h;omega
  ·exact h
 obtain⟨ak,aN⟩:=EV bg (show 1<=n by omega) z ax;have an:W/bT^n=ae bT W n:=by
  rw[ae,h4];have:=cF bg V (n-1);omega
 have m:W/bT^(n-1)=ae bT W n*bT+ae bT W (n-1):=by
  rw[uH,show n-1+1=n by omega,an]
 have B:=Oq bg hn M z (W:=W);have S:=fun q r=>Gc bg hn M z (W:=W) (q:=q) (r:=r);have R:=fun q r=>Pw bg hn M z (W:=W) (q:=q) (r:=r);have aB:=fun q r=>Oo bg (V:=V) (W:=W) (n:=n) (q:=q) (r:=r);rw[m]at B S R;have q1:=cF bg W n;have a0:=cF bg W (n-1);have bh:=cF bg W (n-2);have q4:=cF bg V (n-1);have a1:=cF bg V (n-2);have av:=hf n (h7 _);have f2:=hf (n-1) o_;have f3:=hf (n-2) o_;rw[an]at ak;have A:(au bT V)[n-1]?=some (ae bT V (n-1)):=by rw[fl o_,eZ bg o_]
 have P:(au bT V)[n-2]?=some (ae bT V (n-2)):=by rw[fl o_,eZ bg o_]
 have az:∀h:n-1<(au bT V).length,(au bT V)[n-1]=ae bT V (n-1):=fun h=>eZ bg h;have aA:∀h:n-2<(au bT V).length,(au bT V)[n-2]=ae bT V (n-2):=fun h=>eZ bg h;simp only[eT];generalize au bT V=y,a7:W/V=Q,bb:ae bT W n=w0,bc:ae bT W (n-1)=w1,bd:ae bT W (n-2)=w2,a9:ae bT V (n-1)=a,ba:ae bT V (n-2)=v2 at*;clear m an z M ax hf;have g1:=vi f (show j+n<N by omega);have g2:=vi f (show j+(n-1)<N by omega);have g3:=vi f (show j+(n-2)<N by omega);rw[av]at g1;rw[f2]at g2;rw[f3]at g3;have C:=xK N f;have ao:∀aq:Nat×Nat->Prop,aZ aq (dv N f):=fun aq=>by simp
 generalize dv N f=u at*;obtain⟨c,e⟩:∃c,c=w0*bT+w1:=⟨_,rfl⟩
 obtain⟨b,Y⟩:∃b,b=c/a:=⟨_,rfl⟩
 obtain⟨r0,U⟩:∃r0,r0=c% a:=⟨_,rfl⟩
 have aP:0<a:=o_
 have aC:b*a+r0=c:=by rw[Y,U,hV];exact h9 _ _
 have al:r0<bT:=ip (by rw[U];exact ik _ aP) q4;have am:b<=bT+1:=by
  have aJ:=h0 bT ak;rw[hV a]at aJ;rcases h5 (bT+1) b with h|h
  ·have aK:=h0 a (show bT+2<=b from h);rw[i1]at aK;omega
  ·exact h
 rw[<-e]at B S R;rw[<-Y]at B;have O:=Px (v2:=v2) (w2:=w2) aL q4 ak a0 aN (by rw[<-e];exact S) (by rw[<-e];exact R) aB b r0 (by rw[<-e];exact aC) B al am;refine⟨lX a v2 w2 b r0,O.1,O.2.1,O.2.2,?_⟩;obtain⟨T,m⟩:∃T,T=lX a v2 w2 b r0:=⟨_,rfl⟩
 rw[<-m];clear O B S R aB;have g:y.length=n:=aw;have bi:dx.wrap ((j:Int)+n)=(j+n:Nat):=by rw[aR _ o_ o_];omega
 have I:dx.wrap ((j:Int)+n)=(j:Int)+n:=aR _ o_ o_;have a4:dx.wrap ((j:Int)+n-1)=(j:Int)+n-1:=aR _ o_ o_;have v:dx.wrap ((n:Int)-1)=(n:Int)-1:=aR _ o_ o_;have ag:dx.wrap ((n:Int)-2)=(n:Int)-2:=aR _ o_ o_;have ah:dx.wrap ((j:Int)+n-2)=(j:Int)+n-2:=aR _ o_ o_;have a2:((j:Int)+n).toNat=j+n:=o_
 have a3:((j:Int)+n-1).toNat=j+(n-1):=o_
 have s:((n:Int)-1).toNat=n-1:=o_
 have af:((n:Int)-2).toNat=n-2:=o_
 have te:((j:Int)+n-2).toNat=j+(n-2):=o_
 have wf:dx.wrap ((w0:Int)*1000000000)=(w0:Int)*1000000000:=aR _ o_ o_;have ay:(w0:Int)*1000000000+w1=(c:Nat):=by rw[e];exact B4 w0 w1
 have a8:c<1000000000000000000:=by rw[e,aM];omega
 have aF:dx.wrap ((w0:Int)*1000000000+w1)=(c:Nat):=by rw[ay];exact aR _ o_ o_
 have ar:((c:Nat):Int).tdiv a=b:=by rw[ea (dz _),<-ee,<-Y]
 have dr:((c:Nat):Int).tmod a=r0:=by rw[eb (dz _),<-ei,<-U]
 have aQ:¬(a:Int)=0:=o_
 have aS:¬a=0:=o_
 have aG:dx.wrap (b:Int)=b:=aR _ o_ o_;have o:n-1<y.length:=o_
 have F:n-2<y.length:=o_
 have D:=az o;have Z:=aA F;have aD:j+n<u.length:=o_
 have aT:j+(n-1)<u.length:=o_
 have E:j+(n-2)<u.length:=o_
 have aU:j+(n-1)<N:=o_
 have aa:j+(n-2)<N:=o_
 have aH:u[j+n]=.p (.int .i64 w0):=by rw[fl aD]at g1;exact l5 g1
 have aI:u[j+(n-1)]=.p (.int .i64 w1):=by rw[fl aT]at g2;exact l5 g2
 have L:u[j+(n-2)]=.p (.int .i64 w2):=by rw[fl E]at g3;exact l5 g3
 have H:¬u=[]:=by rintro rfl;simp at aD
 have aV:0<=(j:Int)+n:=o_
 have aW:0<=(j:Int)+n-1:=o_
 have be:0<=(j:Int)+n-2:=o_
 have aY:0<=(n:Int)-1:=o_
 have bf:0<=(n:Int)-2:=o_
 have aX:1<=(j:Int)+n:=o_
 have ab:2<=(j:Int)+n:=o_
 have G:1<=(n:Int):=o_
 have ac:2<=(n:Int):=o_
 refine gX nf (i_ func199) mix (by simp[f199]) ?_;simp[f199,g,I,a4,v,a2,a3,s,g1,g2,A,D,wf,aF,ar,dr,aQ,aS,aG,C,aO,o,aH,aI,H,aV,aW,aY,aX,G,aU,ad];refine lp (α:=Nat×Nat) (fun x=>⟨[(10,.p (.int .i64 x.2)),(9,.p (.int .i64 x.1)),(7,.p (.int .i64 n)),(2,.p (.int .i64 j)),(1,.p (.seq (y.map fun x:Nat=>.int .i64 x))),(0,.sl 0 aE 1 0 N)],[.arr k aE 1 u]⟩)
  (fun x=>T=lX a v2 w2 x.1 x.2/\x.2<bT/\x.1<=bT+1) (fun x=>x.1) (b,r0) ⟨m,al,am⟩ ?_ (hr2:=by simp[ao])
 clear e aC Y U ay aF ar dr m wf al am aG az aA av f2 f3;rintro⟨t,r⟩ ⟨k1,k2,k3⟩;dsimp only at k1 k2 k3;have ai:dx.wrap ((r:Int)*1000000000)=(r:Int)*1000000000:=aR _ o_ o_;have aj:dx.wrap ((r:Int)*1000000000+w2)=(r:Int)*1000000000+w2:=aR _ o_ o_;have J:dx.wrap ((r:Int)+a)=(r:Int)+a:=aR _ o_ o_;rcases lv t with w|w
 ·subst w;rw[lX]at k1;have c1:¬(r:Int)*1000000000+w2<0:=by rw[B4];exact Int.not_lt.2 (dz _)
  have a5:dx.wrap 0=0:=rfl;simp[g,a5,ag,af,ai,aj,J,ah,te,P,Z,F,g3,L,E,aa,C,H,ab,ac,I,c1,k1,ad]
 rw[apT w]at k1;have X:=aGT w k3;have k4:∀x,x<=bT+1->x-1<=bT+1:=fun x h=>hW (le _ _) h;have k5:t-1<t:=Nat.sub_lt w d_
 by_cases c0:bT<=t
 ·have l:=Qw.2 c0;rw[if_pos (.inl c0)]at k1
  by_cases c2:bT<=r+a
  ·have d:=Cf.2 c2;rw[if_pos c2]at k1;simp[l,X,g,v,s,A,D,o,G,J,d,k1]
  ·have d:=mt Cf.1 c2;rw[if_neg c2]at k1;simp[l,X,g,v,s,A,D,o,G,J,d];exact rd (t-1,r+a) ⟨k1,kw c2,k4 _ k3⟩ k5 (he:=s_) (hr2:=by simp[ao])
 have l:=mt Qw.1 c0;have ap:=LB (kw c0) a1
 by_cases c1:r*bT+w2<t*v2
 ·have K:=Sy.2 c1;rw[if_pos (.inr c1)]at k1
  by_cases c2:bT<=r+a
  ·have d:=Cf.2 c2;rw[if_pos c2]at k1;simp[l,X,g,v,s,A,D,o,G,J,d,k1,ag,af,ai,aj,ap,ah,te,P,Z,F,g3,L,E,aa,C,H,ab,ac,I,K,ad]
   done
  ·have d:=mt Cf.1 c2;rw[if_neg c2]at k1;simp[l,X,g,v,s,A,D,o,G,J,d,ag,af,ai,aj,ap,ah,te,P,Z,F,g3,L,E,aa,C,H,ab,ac,I,K,ad];exact rd (t-1,r+a) ⟨k1,kw c2,k4 _ k3⟩ k5 (he:=s_) (hr2:=by simp[ao])
 ·have K:=mt Sy.1 c1;rw[if_neg (fun h=>h.elim c0 c1)]at k1;simp[l,g,v,s,ag,af,ai,aj,ap,ah,te,P,Z,F,g3,L,E,aa,C,H,ab,ac,I,K,k1,ad]
theorem YH{b k f d:Nat}(n:b<bT^(k+1))(h:d=b/bT^k)(p:0<d)(hf:f=bT/(d+1)):0<f/\f<bT/\b*f<bT^(k+1)/\bT^k<=b*f/\bT<=2*ae bT (b*f) k:=by
 have e:0<bT^k:=ih d_;have s:d<bT:=by
  rw[h,h3 e,hV,<-h2];exact n
 have r:bT=1000000000:=rfl;have g:=j2 bT (d+1);have j:=Nat.lt_div_mul_add (a:=bT) (show 0<d+1 by omega);rw[<-hf]at g j;have i:0<f:=by rw[hf];exact j0 o_ o_
 have q:f<bT:=by
  rw[hf];exact lc d_ o_
 have o:b<(d+1)*bT^k:=by
  rw[<-h3 e,<-h];omega
 have l:d*bT^k<=b:=by rw[h];exact j2 _ _
 have m:b*f<bT^(k+1):=by
  rw[h2];have e1:b*f<(d+1)*bT^k*f:=j3 o i;have e2:(d+1)*bT^k*f=f*(d+1)*bT^k:=by rw[hV,<-ii]
  have e3:=h0 (bT^k) g;rw[hV (bT^k) bT];omega
 refine⟨i,q,m,?_,?_⟩
 ·have e1:1*bT^k<=d*bT^k:=h0 _ p;rw[i6]at e1;exact hW (hW e1 l) (j8 _ i)
 ·have e1:b*f/bT^k=ae bT (b*f) k:=by
   rw[ae,h4];rw[h3 e,hV bT,<-h2];exact m
  have e2:d*f<=b*f/bT^k:=by
   rw[lq e,kp];exact h0 _ l
  rw[e1]at e2;have e3:d+f<=d*f+1:=by
   obtain⟨d',rfl⟩:∃d',d=d'+1:=⟨d-1,o_⟩
   obtain⟨c,rfl⟩:∃c,f=c+1:=⟨f-1,o_⟩
   have:(d'+1)*(c+1)=d'*c+d'+c+1:=by rw[i1,i7,i6,ky];omega
   omega
  have e4:f*(d+1)=d*f+f:=by rw[i7,ky,hV]
  rw[e4]at g j;generalize d*f=P,ae bT (b*f) k=Z at*;omega
def gZ(V R t i:Nat):Nat:=(t*(V% bT^i)+R% bT^i)/bT^i
theorem Zp{V R t:Nat}:gZ V R t 0=0:=by simp[gZ,l1]
theorem MK{W V R t n i:Nat}(h:R+t*V=W+bT^(n+1))(hi:i<=n):ae bT R i+t*ae bT V i+gZ V R t i=ae bT W i+gZ V R t (i+1)*bT:=by
 have j:0<bT^i:=ih d_;have k:0<bT^(i+1):=ih d_;have b:(t*(V% bT^(i+1))+R% bT^(i+1))% bT^(i+1)=W% bT^(i+1):=by
  have e1:(t*V+R)% bT^(i+1)=(t*(V% bT^(i+1))+R% bT^(i+1))% bT^(i+1):=by
   have a1:=h9 V (bT^(i+1));have d:=h9 R (bT^(i+1));have e:t*V+R=t*(V% bT^(i+1))+R% bT^(i+1)+bT^(i+1)*(t*(V/bT^(i+1))+R/bT^(i+1)):=by
    have f:t*V=t*(V% bT^(i+1))+bT^(i+1)*(t*(V/bT^(i+1))):=by
     conv=>lhs;rw[<-a1]
     rw[i7,<-ii,hV t (bT^(i+1)),ii];omega
    rw[f,i7]
    conv=>lhs;rw[<-d]
    omega
   rw[e,j5]
  rw[<-e1,i9 (t*V),h];have:bT^(i+1)∣bT^(n+1):=la _ o_;obtain⟨c,hc⟩:=this;rw[hc,j5]
 have e2:=h9 (t*(V% bT^(i+1))+R% bT^(i+1)) (bT^(i+1));have e3:=h9 (t*(V% bT^i)+R% bT^i) (bT^i);rw[b]at e2;rw[show(t*(V% bT^(i+1))+R% bT^(i+1))/bT^(i+1)=gZ V R t (i+1)from rfl]at e2;rw[show(t*(V% bT^i)+R% bT^i)/bT^i=gZ V R t i from rfl]at e3;have g:(t*(V% bT^i)+R% bT^i)% bT^i=W% bT^i:=by
  have:=congrArg (·% bT^i) b
  have a:bT^i∣bT^(i+1):=la _ o_;rw[kr _ a,kr _ a]at this;rw[<-this,mod_pow_succ,mod_pow_succ];rw[i7];have:t*(V% bT^i)+t*(bT^i*ae bT V i)+(R% bT^i+bT^i*ae bT R i)=t*(V% bT^i)+R% bT^i+bT^i*(t*ae bT V i+ae bT R i):=by
   rw[i7,<-ii t,hV t (bT^i),ii];omega
  rw[this,j5]
 rw[g]at e3;rw[mod_pow_succ,mod_pow_succ,mod_pow_succ,h2]at e2;have e4:bT^i*(ae bT R i+t*ae bT V i+gZ V R t i)=bT^i*(ae bT W i+gZ V R t (i+1)*bT):=by
  have a1:t*(V% bT^i+bT^i*ae bT V i)=t*(V% bT^i)+bT^i*(t*ae bT V i):=by
   rw[i7,<-ii t,hV t (bT^i),ii]
  rw[a1]at e2;rw[i7,i7,i7];rw[ii (bT^i),hV bT]at e2;generalize bT^i*ae bT R i=x1,bT^i*(t*ae bT V i)=x2,bT^i*gZ V R t i=x3,bT^i*ae bT W i=x4,bT^i*(gZ V R t (i+1)*bT)=x5,t*(V% bT^i)=l at*;omega
 exact Nat.eq_of_mul_eq_mul_left j e4
theorem Zo{r p w b':Nat}(h:r+p=w+b'*bT)(j:r<bT)(k:w<bT):(w<p% bT/\r+p% bT=w+bT/\b'=p/bT+1)\/(p% bT<=w/\r+p% bT=w/\b'=p/bT):=by
 have e:=h9 p bT;have i:=ik p (show 0<bT by decide);generalize p/bT=q,p% bT=m at*;have b:r+m+bT*q=w+b'*bT:=o_
 rw[hV bT]at b;rcases Nat.lt_trichotomy b' q with a|a|a
 ·have:=h0 bT (show b'+1<=q from a);rw[i1,i6]at this;omega
 ·subst a;right;omega
 ·have d:=h0 bT (show q+1<=b' from a);rw[i1,i6]at d;have f:b'=q+1:=by
   rcases h5 (q+1) b' with c|c
   ·have g:=h0 bT (show q+2<=b' from c);rw[i1]at g;omega
   ·omega
  subst f;rw[i1,i6]at b;left;omega
theorem ZP{W V t n:Nat}(x:0<V)(j:V<bT^n)(l:W<bT^(n+1))(B:W/V<=t)(C:t<=W/V+1):
 ∃R,R+t*V=W+bT^(n+1)/\
 ((t=W/V/\gZ V R t n=ae bT W n/\∀i,i<=n->ae bT R i=ae bT (W% V) i)\/
  (t=W/V+1/\gZ V R t n=ae bT W n+1/\dm bT R V n=1/\∀i,i<=n->ae bT (R+V) i=ae bT (W% V) i)):=by
 have G:0<bT^n:=ih d_;have A:0<bT^(n+1):=ih d_;have k:V<bT^(n+1):=hU j (hT d_ o_);have y:=h9 W V;have o:=ik W x;have d:bT^(n+1)=bT^n*bT:=h2 _ _;have E:bT=1000000000:=rfl;have z:W% V<bT^n:=ip o j;have hz:ae bT (W% V) n=0:=kD z;have q:ae bT V n=0:=kD j;have m:∀R,R+t*V=W+bT^(n+1)->ae bT R n+gZ V R t n=ae bT W n+gZ V R t (n+1)*bT:=fun R u=>by
  have:=MK u (h7 n);rw[q,lw,Nat.add_zero]at this;exact this
 rcases h5 t (W/V+1)with s|s
 ·have b:t=W/V:=by omega
  have r:t*V+W% V=W:=by rw[b,hV];exact y
  refine⟨W% V+bT^(n+1),o_,.inl ⟨b,?_,fun i hi=>?_⟩⟩
  ·have e:=m (W% V+bT^(n+1)) o_;have f:gZ V (W% V+bT^(n+1)) t (n+1)=0:=by
    rw[gZ,h4 k,Nat.add_mod_right,h4 (ip o k),r,ix l]
   have a:ae bT (W% V+bT^(n+1)) n=0:=by
    rw[<-hz];exact xF o_
   rw[f,a]at e;omega
  ·exact xF o_
 ·have b:t=W/V+1:=by omega
  have r:t*V+W% V=W+V:=by rw[b,i1,i6,hV];omega
  have F:V<=bT^(n+1)+W% V:=o_
  refine⟨bT^(n+1)+W% V-V,o_,.inr ⟨b,?_,?_⟩⟩
  ·have e:=m (bT^(n+1)+W% V-V) o_;have v:bT^(n+1)+W% V-V<bT^(n+1):=by omega
   have f:gZ V (bT^(n+1)+W% V-V) t (n+1)=1:=by
    rw[gZ,h4 k,h4 v];have:t*V+(bT^(n+1)+W% V-V)=W+bT^(n+1):=o_
    rw[this,Nat.add_div_right _ A,ix l]
   have a:ae bT (bT^(n+1)+W% V-V) n=bT-1:=by
    have g:(bT^(n+1)+W% V-V)/bT^n=bT-1:=by
     refine lt ?_ ?_
     ·rw[lz,i6,hV bT,<-d];omega
     ·rw[show bT-1+1=bT by decide,hV bT,<-d];omega
    rw[ae,g];decide
   rw[f,a]at e;omega
  ·have w:bT^(n+1)+W% V-V+V=W% V+bT^(n+1):=by omega
   have p:∀i,i<=n->ae bT (bT^(n+1)+W% V-V+V) i=ae bT (W% V) i:=fun i hi=>by
    rw[w];exact xF o_
   refine⟨?_,p⟩;have h:=(sC bg (bT^(n+1)+W% V-V) V n).1;have D:=ng bg (bT^(n+1)+W% V-V) V n;rw[p n (h7 _),hz,q]at h;have a:ae bT (bT^(n+1)+W% V-V) n=bT-1:=by
    have g:(bT^(n+1)+W% V-V)/bT^n=bT-1:=by
     refine lt ?_ ?_
     ·rw[lz,i6,hV bT,<-d];omega
     ·rw[show bT-1+1=bT by decide,hV bT,<-d];omega
    rw[ae,g];decide
   rw[a]at h;generalize dm bT (bT^(n+1)+W% V-V) V n=c at*;rcases h5 0 c with hc|hc
   ·omega
   ·have:c=0:=by omega
    subst this;simp only[bT]at h;omega
theorem ZO{V R t i:Nat}:gZ V R t i<=t:=by
 have a:0<bT^i:=ih d_;have b:=ik V a;have c:=ik R a;rw[gZ];refine Nat.le_of_lt_succ ?_;rw[h3 a];have d:=ko t (ll b);rw[Nat.succ_mul];omega
theorem aGZ{t v a w r b':Nat}(h:r+(t*v+a)=w+b'*bT)(f:r<bT)(g:w<bT)(b:t<bT)(c:v<bT)(i:a<=t):
 ∃(p q m:Nat),dx.wrap ((t:Int)*v)=(t:Int)*v/\dx.wrap ((t:Int)*v+a)=p/\(p:Int).tmod 1000000000=m/\(p:Int).tdiv 1000000000=q/\q<bT/\m<bT/\
 (((w:Int)-m<0/\(w:Int)-m+1000000000=r/\b'=q+1)\/(¬(w:Int)-m<0/\(w:Int)-m=r/\b'=q)):=by
 have d:t*v<=999999999*999999999:=kk (by simp only[bT]at b;omega) (by simp only[bT]at c;omega);have j:=Zo h f g;have e:=ik (t*v+a) (show 0<bT by decide);have hq:(t*v+a)/bT<bT:=by
  rw[h3 d_];simp only[bT]at b⊢;omega
 refine⟨t*v+a,(t*v+a)/bT,(t*v+a)% bT,LB b c,?_,?_,?_,hq,e,?_⟩
 ·rw[<-ed,<-e7];generalize t*v=P at*;simp only[bT]at b;exact aR _ o_ o_
 ·rw[eb (dz _),ei];rfl
 ·rw[ea (dz _),ee];rfl
 ·generalize (t*v+a)/bT=q at*;generalize (t*v+a)% bT=m at*;clear h d;simp only[bT]at*;omega
def cR(n:Nat)(f:Nat->Int):List AV:=(fv n).map fun j=>.p (.int .i64 (f j))
theorem nh(n:Nat)(f:Nat->Int):(cR n f).length=n:=by simp[cR]
theorem Sm(n:Nat)(f:Nat->Nat):dv n f=cR n (fun k=>(f k:Nat)):=rfl
theorem aE4{n j:Nat}(f:Nat->Int)(h:j<n):(cR n f)[j]?=some (.p (.int .i64 (f j))):=by
 rw[cR,g7,hd h];rfl
theorem xQ{n i:Nat}{v:Int}(f g:Nat->Int)(c:g i=v)(h:∀j,j<n->j≠i->g j=f j):(cR n f).set i (.p (.int .i64 v))=cR n g:=by
 apply ha (by simp[cR]);intro j d b;rw[nh]at b;rw[hK];simp only[cR,g5,g0]
 by_cases a:i=j
 ·subst a;rw[if_pos rfl,c]
 ·rw[if_neg a,h j b (fun e=>a e.symm)]
@[simp] theorem aNh{N:Nat×Nat->Prop}{n:Nat}{f:Nat->Int}:aZ N (cR n f)=True:=by
 rw[dP,eq_iff_iff,iff_true];intro v a;simp only[cR,hb]at a;obtain⟨x,_,rfl⟩:=a;trivial
theorem NJ{n:Nat}{f g:Nat->Int}(h:∀j,j<n->f j=g j):cR n f=cR n g:=by
 rw[cR,cR];apply hC;intro j a;rw[h j (hS.1 a)]
def gQ(X R j i k:Nat):Int:=if j<=k/\k<j+i then(ae bT R (k-j):Nat)else(ae bT X k:Nat)
theorem win_zero{X R j k:Nat}:gQ X R j 0 k=(ae bT X k:Nat):=by rw[gQ,if_neg o_]
theorem Fq{X R j i:Nat}:gQ X R j i (j+i)=(ae bT X (j+i):Nat):=by rw[gQ,if_neg o_]
theorem aH9{X R j i:Nat}:gQ X R j (i+1) (j+i)=(ae bT R i:Nat):=by
 rw[gQ,if_pos o_,kc]
theorem aIa{X R j i k:Nat}(h:k≠j+i):gQ X R j (i+1) k=gQ X R j i k:=by
 rw[gQ,gQ]
 by_cases a:j<=k/\k<j+i
 ·rw[if_pos a,if_pos o_]
 ·rw[if_neg a,if_neg o_]
def iv(X R S j n i k:Nat):Int:=if k=j+n then -1 else if j<=k/\k<j+i then(ae bT S (k-j):Nat)else gQ X R j n k
theorem aH4{X R S j n i:Nat}(h:i<n):iv X R S j n i (j+i)=(ae bT R i:Nat):=by
 rw[iv,if_neg o_,if_neg o_,gQ,if_pos o_,kc]
theorem aH6{X R S j n i:Nat}(h:i<n):iv X R S j n (i+1) (j+i)=(ae bT S i:Nat):=by
 rw[iv,if_neg o_,if_pos o_,kc]
theorem aH7{X R S j n i k:Nat}(h:k≠j+i):iv X R S j n (i+1) k=iv X R S j n i k:=by
 rw[iv,iv]
 by_cases a:k=j+n
 ·rw[if_pos a,if_pos a]
 ·rw[if_neg a,if_neg a]
  by_cases b:j<=k/\k<j+i
  ·rw[if_pos b,if_pos o_]
  ·rw[if_neg b,if_neg o_]
theorem Y7{X V j n N:Nat}(d:0<V)(c:V<bT^n)(e:X<V*bT^(j+1)){g:Nat->Int}(h:∀k,k<N->g k=if k=j+n then 0 else if j<=k/\k<j+n then(ae bT (X/bT^j% V) (k-j):Nat)else(ae bT X k:Nat)):
 cR N g=cR N fun k=>(ae bT (X% (V*bT^j)) k:Nat):=by
 refine NJ fun k hk=>?_;rw[h k hk,(Af (B:=bT) (R:=X) (V:=V) (j:=j)).1,LG bg];have i:=ik (X/bT^j) d;have f:X<bT^(n+(j+1)):=by
  rw[i3];exact ip e (j3 c (ih d_))
 by_cases a:k<j
 ·rw[if_pos a,if_neg o_,if_neg o_]
 ·rw[if_neg a]
  by_cases l:k<j+n
  ·rw[if_neg o_,if_pos o_]
  ·have hz:ae bT (X/bT^j% V) (k-j)=0:=kD (hU (ip i c) (hT d_ o_));rw[hz]
   by_cases b:k=j+n
   ·rw[if_pos b]
   ·rw[if_neg b,if_neg o_];have:ae bT X k=0:=kD (hU f (hT d_ o_));rw[this]
theorem Fz{f:Nat}(a:0<f)(h:f<bT):eT f=.seq [.int .i64 f]:=by rw[eT,pB a h];rfl
theorem Yq{r:Nat}(h:r<bT):eQ [r]=au bT r:=by
 have:=kF bg (m:=1) (n:=r) (by rw[j6];exact h);rw[<-this,row,hR,ge,hg,ae,iy,i4,h4 h]
@[simp] theorem aNa{σ:Nat->Nat}{n:Nat}{f:Nat->Int}:cU σ (cR n f)=cR n f:=by
 have:∀l:List Nat,cU σ (l.map fun j=>AV.p (.int .i64 (f j)))=l.map fun j=>AV.p (.int .i64 (f j)):=by
  intro l
  induction l with
  |nil=>rfl
  |cons a r b=>simp only[ge,cU,b];rfl
 exact this _
@[simp] theorem aNf{n j:Nat}{f:Nat->Int}(h:j<(cR n f).length):(cR n f)[j]=.p (.int .i64 (f j)):=by
 simp only[cR,g5,g0]
@[simp] theorem aNc{n j:Nat}{f:Nat->Nat}(h:j<(dv n f).length):(dv n f)[j]=.p (.int .i64 (f j:Nat)):=by
 simp only[dv,g5,g0]
@[simp] theorem aNg{n:Nat}{f:Nat->Int}:(cR (n+1) f=[])=False:=by
 rw[eq_iff_iff,iff_false];intro h;have:=congrArg ho h;rw[nh]at this;simp at this
theorem FK(a b:Nat)(I:0<b)(cQ:(au bT a).length<=400000)(b1:(au bT b).length<=400000):aq prog 132 [eT a,eT b] (.aD [eT (a/b),eT (a% b)]):=by
 have bH:=K1 a b o_ o_;refine gA_ nf func132 mix ?_;simp[f132];refine c2 bH ?_
 by_cases M:a<b
 ·have E:=q7.2 M;simp[E,ix M,h4 M,eT,B3]
 have E:¬gC a b<0:=fun h=>M (q7.1 h);have aZ:∀i(h:i<(au bT b).length),(au bT b)[i]=ae bT b i:=fun i h=>eZ bg h;have C:=cC bg b
 by_cases bZ:(au bT b).length=1
 ·rw[bZ,j6]at C;have J:=K0 a b I C o_;have b6:=ik a I;have ca:=Yq (ip b6 C);have al:=vz [a% b] s_;rw[ca]at al;have cM:=pB I C;rw[Fz I C];simp only[eT,iP]at J al⊢;generalize au bT (a/b)=cE,au bT (a% b)=cG,au bT a=x,a% b=c6 at*;simp[E];refine c2 J ?_;simp;refine cp al (by simp;exact⟨rfl,rfl⟩) ?_;simp
 have cP:2<=(au bT b).length:=by
  rcases h5 (au bT b).length 1 with h|h
  ·have e:(au bT b).length=0:=by omega
   rw[e,iy]at C;omega
  ·omega
 obtain⟨k,hk⟩:∃k,(au bT b).length=k+1:=⟨(au bT b).length-1,o_⟩
 obtain⟨n,hn⟩:∃n,n=k+1:=⟨_,rfl⟩
 rw[hk]at C;obtain⟨d,T⟩:∃d,d=b/bT^k:=⟨_,rfl⟩
 have ap:bT^k<=b:=by
  rcases h5 b (bT^k)with h|h
  ·have:=dV bg k b h;omega
  ·exact h
 have a8:0<bT^k:=ih d_;have bI:0<d:=by rw[T];exact j0 ap a8
 have bM:d<bT:=by rw[T,h3 a8,hV,<-h2];exact C
 have a0:ae bT b k=d:=by rw[ae,<-T,h4 bM]
 obtain⟨f,hf⟩:∃f,f=bT/(d+1):=⟨_,rfl⟩
 obtain⟨f0,f1,f2,f3,f4⟩:=YH C T bI hf;obtain⟨V,G⟩:∃V,V=b*f:=⟨_,rfl⟩
 rw[<-G]at f2 f3 f4;have aQ:(au bT V).length=n:=by
  have F:=dV bg (k+1) V f2;have bx:=Li bg f3;omega
 have aa:=FI b f (by rw[pB f0 f1];simp;omega);have ab:=FI a f (by rw[pB f0 f1];simp;omega);rw[Fz f0 f1,<-G]at aa;rw[Fz f0 f1]at ab;have bK:(au bT b)[k]?=some d:=by rw[fl o_,aZ k o_,a0]
 have bL:∀h:k<(au bT b).length,(au bT b)[k]=d:=fun h=>by rw[aZ k h,a0]
 have cT:(au bT b).length<=400000:=b1;have cL:bT=1000000000:=rfl;have cv:dx.wrap ((d:Int)+1)=(d:Int)+1:=aR _ o_ o_;have bO:(1000000000:Int).tdiv ((d:Int)+1)=(f:Nat):=by
  rw[ea d_,hf,ee];rfl
 have bJ:¬(d:Int)+1=0:=o_
 have cw:dx.wrap (k:Int)=k:=aR _ o_ o_;have wf:dx.wrap (f:Int)=f:=aR _ o_ o_;have b0:¬(k:Int)+1=1:=o_
 have bU:¬k=0:=o_
 have bi:k<(au bT b).length:=o_
 have bW:=bL bi;simp only[eT]at aa ab⊢;generalize ck:au bT (a/b)=cE,cl:au bT (a% b)=cG,aB:au bT a=x,cY:au bT b=y,af:au bT V=s at*;simp[E,hk,b0,bU,cw,bK,bW,bi,cv,bO,bJ,wf];refine cp aa (by simp;exact⟨rfl,rfl⟩) ?_;simp[aQ];refine cp ab (by simp;exact⟨rfl,rfl⟩) ?_;obtain⟨u,D⟩:∃u,au bT (a*f)=u:=⟨_,rfl⟩
 obtain⟨c,K⟩:∃c,x.length=c:=⟨_,rfl⟩
 have ba:u.length<=c+1:=by
  rw[<-D,<-K,<-aB];refine dV bg _ _ ?_;rw[h2];exact i8 (cC bg a) f1
 have ce:∀i(h:i<u.length),u[i]=ae bT (a*f) i:=fun i h=>by
  have:=eZ bg (n:=a*f) (i:=i) (by rw[D];exact h);simp only[D]at this;exact this
 rw[D];have cK:b<=a*f:=hW (Nat.le_of_not_lt M) (j8 _ f0);have bc:¬u=[]:=by
  intro h;rw[h]at D;have:=xw.1 D;omega
 have aV:a*f<bT^u.length:=by rw[<-D];exact cC bg _
 have ac:hB (AV.p∘fun x:Nat=>PV.int dx x) u=cR u.length fun k=>(ae bT (a*f) k:Nat):=by
  apply ha (by simp[cR]);intro i E cJ;simp only[g5,Function.comp,cR,g0];rw[ce i (by simpa using E)]
 have cc:u.length<=400001:=o_
 obtain⟨A,bb⟩:∃A,u.length=A:=⟨_,rfl⟩
 rw[bb]at aV ac ba cc;clear aa ab;have cd:¬(cR A fun k=>(ae bT (a*f) k:Nat))=[]:=by rw[<-ac];simpa using bc
 have cb:¬A=0:=by rw[<-bb];exact fun h=>bc (List.length_eq_zero_iff.1 h)
 simp[K,ac,cd,cb,nh];refine⟨⟨by rw[<-ac];exact Sr u,by simp only[dc];omega⟩,?_⟩;have cS:c<=400000:=o_
 have br:dx.wrap ((c:Int)+1)=c+1:=aR _ o_ o_;refine tO (fun s'=>∃l o,aP s'.env 8=.sl 0 0 1 0 1/\aP s'.env 9=.p (.seq (s.map fun x:Nat=>.int .i64 x))/\aP s'.env 10=.p (.int .i64 n)/\aP s'.env 11=.sl 2 l 1 0 (c+1)/\s'.heap=[.arr .frozen 0 1 [.p (.int .i64 f)],o,.arr .grow l 1 (cR (c+1) fun k=>(ae bT (a*f) k:Nat))]) ?_ ?_
 ·refine lp (α:=Nat) (fun i=>⟨[(11,.sl 2 (i-A) 1 0 i),(10,.p (.int .i64 n)),(9,.p (.seq (s.map fun x:Nat=>.int .i64 x))),(8,.sl 0 0 1 0 1),(0,.p (.seq (x.map fun x:Nat=>.int .i64 x)))],[.arr .frozen 0 1 [.p (.int .i64 f)],.hole,.arr .grow (i-A) 1 (cR i fun k=>(ae bT (a*f) k:Nat))]⟩)
   (fun i=>A<=i/\i<=c+1) (fun i=>c+1-i) A ⟨h7 _,ba⟩ ?_ (he:=s_) (hh:=s_)
  rintro i ⟨k1,k2⟩
  by_cases hi:i<c+1
  ·have bQ:(i:Int)<c+1:=by omega
   have hz:ae bT (a*f) i=0:=kD (hU aV (hT d_ k1));have b8:cR (i+1) (fun k=>(ae bT (a*f) k:Nat))=cR i (fun k=>(ae bT (a*f) k:Nat))++[.p (.int .i64 0)]:=by
    rw[cR,hN,hQ];simp[hz,cR]
   have a9:i+1-A=i-A+1:=o_
   have b9:gg i (cR i fun k=>(ae bT (a*f) k:Nat))=cR i fun k=>(ae bT (a*f) k:Nat):=fm (by rw[nh];exact h7 _);simp[K,br,bQ,nh,b9];refine⟨by simp only[dc];omega,?_⟩;exact rd (i+1) ⟨o_,hi⟩ (he:=by simp[a9]) (hh:=by simp[a9,b8]) (hr2:=s_)
  ·have U:i=c+1:=by omega
   subst U;simp[K,br]
 rintro⟨bv,bN⟩ ⟨l,o,x1,x2,x3,x4,O⟩;dsimp only at x1 x2 x3 x4 O;subst O;have cX:n<=c:=by
  rw[hn];rcases h5 c (k+1)with h|h
  ·have F:=cC bg a;rw[aB,K]at F;have bx:=hU F (hT (show 0<bT by decide) (show c<=k by omega));omega
  ·exact h
 obtain⟨m,cV⟩:∃m,m=c-n:=⟨_,rfl⟩
 have cz:dx.wrap ((c:Int)+1-n)=(m:Int)+1:=by rw[aR _ o_ o_];omega
 have cA:((m:Int)+1).toNat=m+1:=o_
 have cB:dx.wrap (m:Int)=m:=aR _ o_ o_;have b4:(m:Int)+1<=dc:=by simp only[dc];omega
 simp[x1,x2,x3,x4,cz,cA,cB];refine⟨⟨o_,b4⟩,?_⟩;have an:0<V:=by rw[G];exact l0 I f0
 have Q:V<bT^n:=by rw[hn];exact f2
 have aX:a<bT^c:=by rw[<-K,<-aB];exact cC bg a
 have bE:a*f% (V*bT^(m+1))=a*f:=by
  refine h4 ?_;rw[G,kp];refine j3 ?_ f0;refine hU aX ?_;rw[show c=k+(m+1)by omega,i3];exact h0 _ ap
 obtain⟨X,H⟩:∃X:Nat->Nat,∀j,X j=a*f% (V*bT^j):=⟨_,fun _=>rfl⟩
 have S:∀j,X j<V*bT^j:=fun j=>by rw[H];exact ik _ (l0 an (ih d_))
 have bG:∀j,X (j+1)% (V*bT^j)=X j:=fun j=>by
  rw[H,H,kr];exact Nat.mul_dvd_mul_left _ (la _ o_)
 have bF:∀j,X (j+1)/bT^j/V=ae bT (a/b) j:=fun j=>by
  rw[H,<-(Af (B:=bT) (R:=a*f% (V*bT^(j+1))) (V:=V) (j:=j)).2,h2,<-ii,Nat.mod_mul_right_div_self,<-h6,G,Nat.mul_div_mul_right _ _ f0,ae]
 have a2:=fun j(h:j<=m)=>ao7 (X (j+1)/bT^j) V (c+1) j n .grow l (ae bT (X (j+1))) o_ (by rw[af];exact aQ) (by rw[hn,i2];exact f4) (by rw[h3 (ih d_),ii,hV bT,<-h2];exact S (j+1)) o_ o_ (fun i hi=>(sO (B:=bT) _ _ _).symm);simp only[eT,Sm,af]at a2;rw[show(gb (m+1) (AV.p (PV.int dx 0)))=dv (m+1) (qT (a/b) (m+1))from N7];rw[show(cR (c+1) fun k=>(ae bT (a*f) k:Nat))=cR (c+1) fun k=>(ae bT (X (m+1)) k:Nat)by rw[H,bE]];refine tO (fun s'=>∃bk,aP s'.env 8=.sl 0 0 1 0 1/\aP s'.env 10=.p (.int .i64 n)/\aP s'.env 11=.sl 2 l 1 0 (c+1)/\aP s'.env 12=.sl 3 0 1 0 (m+1)/\s'.heap=[.arr .frozen 0 1 [.p (.int .i64 f)],bk,.arr .grow l 1 (cR (c+1) fun k=>(ae bT (X 0) k:Nat)),.arr .exact 0 1 (dv (m+1) (ae bT (a/b)))]) ?_ ?_
 ·refine lp (α:=Nat) (fun j=>⟨[(13,.p (.int .i64 ((j:Int)-1))),(12,.sl 3 0 1 0 (m+1)),(11,.sl 2 l 1 0 (c+1)),(10,.p (.int .i64 n)),(9,.p (.seq (s.map fun x:Nat=>.int .i64 x))),(8,.sl 0 0 1 0 1)],[.arr .frozen 0 1 [.p (.int .i64 f)],.hole,.arr .grow l 1 (cR (c+1) fun k=>(ae bT (X j) k:Nat)),.arr .exact 0 1 (dv (m+1) (qT (a/b) j))]⟩)
   (fun j=>j<=m+1) (fun j=>j) (m+1) (h7 _) ?_ (he:=by simp[x1,x2,x3,x4])
  intro j cN;rcases j with _|j
  ·simp[N6]
  ·obtain⟨t,aF,ai,aj,bz⟩:=a2 j o_;have bS:¬(j:Int)<0:=by omega
   have bD:X (j+1)/bT^j<bT^(n+1):=by
    rw[h3 (ih d_),<-i3];refine hU (S (j+1)) ?_;rw[show n+1+j=n+(j+1)by omega,i3 bT n (j+1)];exact h0 _ (ll Q)
   obtain⟨R,bB,bC⟩:=ZP an Q bD aF ai;have iH:=fun i(hi:i<=n)=>MK (i:=i) bB hi;have ao:∀i,ae bT (X (j+1)/bT^j) i=ae bT (X (j+1)) (j+i):=fun i=>sO _ _ _;have c9:((n:Nat):Int).toNat=n:=o_
   simp[-aW];rw[aW,aW];simp[-aW,bS];rw[aW,MD,aW];simp[-aW];refine cf bz [2] ?_;simp[-aW,sig,bt];rw[aW];simp[-aW];rw[aW,aW];simp[-aW];have aO:∀i(h:i<s.length),s[i]=ae bT V i:=fun i h=>by
    have:=eZ bg (n:=V) (i:=i) (by rw[af];exact h);simp only[af]at this;exact this
   have aM:X (j+1)/bT^j/V=ae bT (a/b) j:=bF j;have cO:(j:Int)<=400000:=o_
   have cW:(n:Int)<=400001:=o_
   have a1:∀g:Nat->Int,(∀k,k<c+1->g k=if k=j+n then 0 else if j<=k/\k<j+n then(ae bT (X (j+1)/bT^j% V) (k-j):Nat)else(ae bT (X (j+1)) k:Nat))->cR (c+1) g=cR (c+1) fun k=>(ae bT (X j) k:Nat):=fun g ar=>by
    rw[Y7 an Q (S (j+1)) ar,bG]
   have ch:cR (c+1) (gQ (X (j+1)) R j 0)=cR (c+1) fun k=>(ae bT (X (j+1)) k:Nat):=NJ fun k _=>win_zero;refine lp (α:=Nat) (fun i=>⟨[(16,.p (.int .i64 i)),(15,.p (.int .i64 (gZ V R t i:Nat))),(14,.p (.int .i64 t)),(13,.p (.int .i64 j)),(12,.sl 3 0 1 0 (m+1)),(11,.sl 2 l 1 0 (c+1)),(10,.p (.int .i64 n)),(9,.p (.seq (s.map fun x:Nat=>.int .i64 x))),(8,.sl 0 0 1 0 1)],[.arr .frozen 0 1 [.p (.int .i64 f)],.hole,.arr .grow l 1 (cR (c+1) (gQ (X (j+1)) R j i)),.arr .exact 0 1 (dv (m+1) (qT (a/b) (j+1)))]⟩)
    (fun i=>i<=n) (fun i=>n-i) 0 (i5 _) ?_ (he:=by simp[Zp]) (hh:=by simp[ch])
   intro i hi;have bq:dx.wrap ((i:Int)+j)=(i:Int)+j:=aR _ o_ o_;have bo:((i:Int)+j).toNat=i+j:=o_
   have bj:¬((i:Int)+j<0):=o_
   have bp:dx.wrap ((i:Int)+1)=(i:Int)+1:=aR _ o_ o_
   by_cases aA:i<n
   ·have a4:(i:Int)<n:=by omega
    have W:i<s.length:=o_
    have az:=aO i W;have aS:=iH i hi;rw[ao]at aS;have bl:=cF bg (X (j+1)) (j+i);have cn:=cF bg R i;have pv:=cF bg V i;obtain⟨p,q,ag,s1,s2,bm,bn,c7,c8,cr⟩:=aGZ (by rw[<-lk];exact aS) cn bl aj pv ZO;have bh:gQ (X (j+1)) R j i (i+j)=(ae bT (X (j+1)) (j+i):Nat):=by rw[i9 i j,Fq]
    have a3:0<=(i:Int)+j:=o_
    have get:(cR (c+1) (gQ (X (j+1)) R j i))[i+j]?=some (.p (.int .i64 (ae bT (X (j+1)) (j+i):Nat))):=by
     rw[aE4 _ o_,i9 i j,Fq]
    have set:(cR (c+1) (gQ (X (j+1)) R j i)).set (i+j) (.p (.int .i64 (ae bT R i:Nat)))=cR (c+1) (gQ (X (j+1)) R j (i+1)):=by
     rw[i9 i j];exact xQ _ _ aH9 fun k _ hk=>aIa hk
    have U:i+j<c+1:=o_
    have bd:s[i]?=some (ae bT V i):=by rw[fl W,az]
    generalize ae bT (X (j+1)) (j+i)=w,ae bT V i=v,ae bT R i=r,gZ V R t i=cH,aY:gZ V R t (i+1)=cI at*;have b7:¬(r:Int)<0:=o_
    have bu:dx.wrap ((w:Int)-ag)=(w:Int)-ag:=aR _ o_ o_;have bs:dx.wrap (q:Int)=q:=aR _ o_ o_;have aK:dx.wrap ((q:Int)+1)=(q:Int)+1:=aR _ o_ o_;rcases cr with⟨c1,c2,c3⟩|⟨c1,c2,c3⟩
    ·have wr:dx.wrap ((w:Int)-ag+1000000000)=r:=by rw[c2];exact aR _ o_ o_
     simp[a4,bq,bo,bj,W,az,bd,s1,s2,bm,bn,U,get,bh,a3,nh,bu,c1,wr,aK,set,bp,ad,aL,bP];exact rd (i+1) (show i+1<=n by omega) (he:=by simp[aY,c3,bs,aK])
    ·have wr:dx.wrap ((w:Int)-ag)=r:=by rw[bu,c2]
     simp[a4,bq,bo,bj,W,az,bd,s1,s2,bm,bn,U,get,bh,a3,nh,c1,wr,b7,set,bp,ad,aL,bP];exact rd (i+1) (show i+1<=n by omega) (he:=by simp[aY,c3,bs,aK])
   ·have bR:i=n:=by omega
    subst bR;have aI:dx.wrap ((j:Int)+i)=(j:Int)+i:=aR _ o_ o_;have aG:((j:Int)+i).toNat=j+i:=o_
    have aC:0<=(j:Int)+i:=o_
    have av:j+i<c+1:=o_
    have bf:gQ (X (j+1)) R j i (j+i)=(ae bT (X (j+1)) (j+i):Nat):=Fq;have bl:=cF bg (X (j+1)) (j+i);have aH:dx.wrap ((j:Int)-1)=(j:Int)-1:=aR _ o_ o_;rcases bC with⟨r1,P,aE⟩|⟨r1,P,aE,cq⟩
    ·rw[ao]at P;rw[P];generalize ae bT (X (j+1)) (j+i)=w at*;have ak:dx.wrap 0=0:=rfl;have ah:dx.wrap ((w:Int)-w)=0:=by rw[e8];rfl
     have ay:t=ae bT (a/b) j:=by rw[r1,aM]
     have aD:(dv (m+1) (qT (a/b) (j+1))).set j (.p (.int .i64 t))=dv (m+1) (qT (a/b) j):=by rw[ay];exact Fy
     have fs:(cR (c+1) (gQ (X (j+1)) R j i)).set (j+i) (.p (.int .i64 0))=cR (c+1) fun k=>(ae bT (X j) k:Nat):=by
      rw[xQ _ (fun k=>if k=j+i then 0 else gQ (X (j+1)) R j i k) (if_pos rfl) (fun k _ hk=>if_neg hk)];refine a1 _ fun k _=>?_
      by_cases hk:k=j+i
      ·rw[if_pos hk,if_pos hk];rfl
      ·rw[if_neg hk,if_neg hk,gQ]
       by_cases z:j<=k/\k<j+i
       ·rw[if_pos z,if_pos z,aE (k-j) o_]
       ·rw[if_neg z,if_neg z]
     have Y:j<m+1:=o_
     have b5:¬((ae bT (X j) (j+i):Nat):Int)<0:=o_
     simp[aI,aG,aC,av,bf,nh,xK,ah,ak,aH,Y,b5,fs,aD,ad,aL,bP];exact rd j (show j<=m+1 by omega)
    ·rw[ao]at P;rw[P];generalize ae bT (X (j+1)) (j+i)=w at*;have ak:dx.wrap 0=0:=rfl;have ah:dx.wrap ((w:Int)-((w+1:Nat):Int))= -1:=by rw[show(w:Int)-((w+1:Nat):Int)= -1 by omega];rfl
     have cu:dx.wrap (-1)= -1:=rfl;have fs:(cR (c+1) (gQ (X (j+1)) R j i)).set (j+i) (.p (.int .i64 (-1)))=cR (c+1) (iv (X (j+1)) R (R+V) j i 0):=by
      refine xQ _ _ (by rw[iv,if_pos rfl]) fun k _ hk=>?_;rw[iv,if_neg hk,if_neg o_]
     have ay:(t:Int)-1=ae bT (a/b) j:=by rw[r1,aM];omega
     have cD:dx.wrap ((t:Int)-1)=ae bT (a/b) j:=by rw[ay];have:=cF bg (a/b) j;exact aR _ o_ o_
     have Y:j<m+1:=o_
     have ci:iv (X (j+1)) R (R+V) j i 0 (j+i)= -1:=by rw[iv,if_pos rfl]
     push_cast at ah;simp[aI,aG,aC,av,bf,nh,xK,ah,ak,cu,cD,aH,Y,fs,ci,ad,aL,bP];refine lp (α:=Nat) (fun k=>⟨[(20,.p (.int .i64 k)),(19,.p (.int .i64 (dm bT R V k:Nat))),(14,.p (.int .i64 (ae bT (a/b) j:Nat))),(13,.p (.int .i64 j)),(12,.sl 3 0 1 0 (m+1)),(11,.sl 2 l 1 0 (c+1)),(10,.p (.int .i64 i)),(9,.p (.seq (s.map fun x:Nat=>.int .i64 x))),(8,.sl 0 0 1 0 1)],[.arr .frozen 0 1 [.p (.int .i64 f)],.hole,.arr .grow l 1 (cR (c+1) (iv (X (j+1)) R (R+V) j i k)),.arr .exact 0 1 (dv (m+1) (qT (a/b) (j+1)))]⟩)
      (fun k=>k<=i) (fun k=>i-k) 0 (i5 _) ?_ (he:=by simp[Aa])
     intro k hk;have cy:dx.wrap ((k:Int)+j)=(k:Int)+j:=aR _ o_ o_;have ct:((k:Int)+j).toNat=k+j:=o_
     have cm:0<=(k:Int)+j:=o_
     have cx:dx.wrap ((k:Int)+1)=(k:Int)+1:=aR _ o_ o_;obtain⟨q1,co⟩:=sC bg R V k;have c0:=ng bg R V k;have q4:=ng bg R V (k+1);have c4:=cF bg R k;have c5:=cF bg V k
     by_cases a5:k<i
     ·have bV:(k:Int)<i:=by omega
      have aw:k<s.length:=o_
      have be:=aO k aw;have cg:s[k]?=some (ae bT V k):=by rw[fl aw,be]
      have bY:k+j<c+1:=o_
      have ar:iv (X (j+1)) R (R+V) j i k (k+j)=(ae bT R k:Nat):=by rw[i9 k j,aH4 a5]
      have aS:(cR (c+1) (iv (X (j+1)) R (R+V) j i k)).set (k+j) (.p (.int .i64 (ae bT (R+V) k:Nat)))=cR (c+1) (iv (X (j+1)) R (R+V) j i (k+1)):=by
       rw[i9 k j];exact xQ _ _ (aH6 a5) fun x _ hx=>aH7 hx
      have aF:((ae bT R k:Nat):Int)+(ae bT V k:Nat)+(dm bT R V k:Nat)=((ae bT R k+ae bT V k+dm bT R V k:Nat):Int):=o_
      have ai:((ae bT R k+ae bT V k+dm bT R V k:Nat):Int).tmod 1000000000=(ae bT (R+V) k:Nat):=by
       rw[<-q1,eb (dz _),ei];rfl
      have aj:((ae bT R k+ae bT V k+dm bT R V k:Nat):Int).tdiv 1000000000=(dm bT R V (k+1):Nat):=by
       rw[<-co,ea (dz _),ee];rfl
      rw[<-aF]at ai aj;have w1:dx.wrap ((ae bT R k:Nat)+(ae bT V k:Nat))=(ae bT R k:Nat)+(ae bT V k:Nat):=aR _ o_ o_;have w2:dx.wrap ((ae bT R k:Nat)+(ae bT V k:Nat)+(dm bT R V k:Nat))=(ae bT R k:Nat)+(ae bT V k:Nat)+(dm bT R V k:Nat):=aR _ o_ o_;have w3:dx.wrap (ae bT (R+V) k:Nat)=(ae bT (R+V) k:Nat):=by have:=cF bg (R+V) k;exact aR _ o_ o_
      have w4:dx.wrap (dm bT R V (k+1):Nat)=(dm bT R V (k+1):Nat):=aR _ o_ o_;simp[bV,aw,be,cg,cy,ct,cm,bY,ar,aS,nh,w1,w2,w3,w4,ai,aj,cx,ad,aL,bP];exact rd (k+1) (show k+1<=i by omega)
     ·have bX:k=i:=by omega
      subst bX;have cj:iv (X (j+1)) R (R+V) j k k (j+k)= -1:=by rw[iv,if_pos rfl]
      have cs:dx.wrap (-1+1)=0:=rfl;have aD:(dv (m+1) (qT (a/b) (j+1))).set j (.p (.int .i64 (ae bT (a/b) j:Nat)))=dv (m+1) (qT (a/b) j):=Fy;have bw:(cR (c+1) (iv (X (j+1)) R (R+V) j k k)).set (j+k) (.p (.int .i64 0))=cR (c+1) fun k=>(ae bT (X j) k:Nat):=by
       rw[xQ _ (fun x=>if x=j+k then 0 else iv (X (j+1)) R (R+V) j k k x) (if_pos rfl) (fun x _ hx=>if_neg hx)];refine a1 _ fun x _=>?_
       by_cases hk:x=j+k
       ·rw[if_pos hk,if_pos hk];rfl
       ·rw[if_neg hk,if_neg hk,iv,if_neg hk]
        by_cases z:j<=x/\x<j+k
        ·rw[if_pos z,if_pos z,cq (x-j) o_]
        ·rw[if_neg z,if_neg z,gQ,if_neg z]
      rw[aE];simp[aI,aG,aC,av,cj,nh,xK,cs,ak,aH,Y,bw,aD,ad,aL,bP];exact rd j (show j<=m+1 by omega)
 rintro⟨bv,bN⟩ ⟨bk,x1,x2,x3,x4,O⟩;dsimp only at x1 x2 x3 x4 O;subst O;have aT:X 0=a% b*f:=by rw[H,iy,ky,G,Nat.mul_mod_mul_right]
 have bA:a/b<bT^(m+1):=by
  rw[h3 I];refine hU aX ?_;rw[show c=m+1+k by omega,i3];exact ko _ ap
 obtain⟨cZ,a6,b2,aN⟩:=Oz (m:=m+1) (N:=a/b) bA o_;have aU:X 0<bT^n:=hU (by have:=S 0;rwa [iy,ky]at this) (ll Q);obtain⟨L,cU,Z,b3,am⟩:∃L:List Nat,L=(fv (c+1)).map (ae bT (X 0))/\L.length=c+1/\dv (c+1) (ae bT (X 0))=L.map (AV.p∘fun x:Nat=>PV.int .i64 x)/\aq prog 198 [.seq (iP (L.take n))] (eT (X 0)):=by
  refine⟨_,rfl,s_,Ef _ _,?_⟩;have e:((fv (c+1)).map (ae bT (X 0))).take n=(fv n).map (ae bT (X 0)):=NX o_ fun k hk=>rfl;rw[e];have F:=vz ((fv n).map (ae bT (X 0))) (by simp;omega);rw[show eQ ((fv n).map (ae bT (X 0)))=au bT (X 0)from kF bg aU]at F;exact F
 have J:=K0 (X 0) f f0 f1 (by
  have:=dV bg n (X 0) aU;omega)
 rw[aT,Nat.mul_div_cancel _ f0]at J;rw[aT]at am;rw[<-Sm,b3,b2]at*;simp only[eT,ck,cl,iP]at aN am J⊢;have ax:¬L=[]:=by intro h;rw[h]at Z;simp at Z
 have a7:n<=c+1:=o_
 simp[x1,x2,x3,x4,Z,ax,a7];refine ep am (by simp[Z,a7,ax];first|exact⟨rfl,rfl⟩|rfl) (by simp[ax];first|exact⟨rfl,rfl⟩|rfl) ?_ (h1:=by simp[gU]);simp[x1,ad,aL,bP];refine e2 J ?_;simp[x4];refine⟨r_,?_⟩;refine cp aN (by simp[a6];first|exact⟨rfl,rfl⟩|rfl) ?_ (h1:=by simp[fm,a6]);simp
theorem Xj(n:Nat):eQ (au bT n)=au bT n:=by
 have h:=EY bg (l:=au bT n) (fun d a=>by
  obtain⟨i,hi,rfl⟩:=hD a;rw[eZ bg hi];exact cF bg _ _)
 rw[<-h,Mo bg]
theorem sA(neg:Bool)(n:Nat)(h:(au bT n).length<=1048576):aq prog 133 [.bool neg,eT n] (eG (if neg=true then -(n:Int)else n)):=Er neg (au bT n) n (Xj n) h
theorem MF(a b:Nat)(g:(au bT a).length<=400000)(h:(au bT b).length<=400000):aq prog 131 [eT a,eT b] (eT (i0 a b)):=by
 refine gA_ nf func131 mix ?_;simp[f131];refine lp (α:=Nat×Nat) (fun x=>⟨[(1,.p (eT x.2)),(0,.p (eT x.1))],[]⟩)
  (fun x=>(au bT x.1).length<=400000/\(au bT x.2).length<=400000/\i0 x.1 x.2=i0 a b) (fun x=>x.2) (a,b) ⟨g,h,rfl⟩ ?_
 rintro⟨x,y⟩ ⟨e,d,c⟩;dsimp only at e d c
 by_cases hy:y=0
 ·subst hy;rw[lu]at c;rw[<-c];simp[eT,B3]
 ·have i:0<(au bT y).length:=by
   rw[fp,Ne,xw];exact hy
  have f:=FK x y o_ e d;have j:=ik x (show 0<y by omega);simp[eT,i];refine c2 f ?_;simp;exact rd (y,x% y) ⟨d,by have:=dV bg _ _ (ip j (cC bg y));dsimp only;omega,by rw[<-c,kv y,<-l2,kv]⟩ (by dsimp only;omega) (he:=by simp[eT])
theorem acW(a b:Nat)(h:a<9223372036854775808)(i:b<9223372036854775808):aq prog 127 [.int .i64 a,.int .i64 b] (.int .i64 (i0 a b:Nat)):=by
 refine gA_ nf func127 mix ?_;simp[f127];refine lp (α:=Nat×Nat) (fun x=>⟨[(1,.p (.int .i64 x.2)),(0,.p (.int .i64 x.1))],[]⟩)
  (fun x=>x.1<9223372036854775808/\x.2<9223372036854775808/\i0 x.1 x.2=i0 a b) (fun x=>x.2) (a,b) ⟨h,i,rfl⟩ ?_
 rintro⟨x,y⟩ ⟨g,d,c⟩;dsimp only at g d c
 by_cases f:y=0
 ·subst f;rw[lu]at c;rw[<-c];simp
 ·have m:(0:Int)<y:=by omega
  have e:0<y:=o_
  have o:¬(y:Int)=0:=o_
  have n:=ik x e;have k:(x:Int).tmod y=(x% y:Nat):=by rw[eb (dz _),ei]
  have l:dx.wrap ((x% y:Nat):Int)=(x% y:Nat):=aR _ o_ o_;generalize j:x% y=r at*;simp[e,f,k,l];exact rd (y,r) ⟨d,by dsimp only;omega,by rw[<-c,<-j,kv y,<-l2,kv]⟩ (by dsimp only;omega)
theorem ZJ{B a b x y K:Nat}(c:2<=B)(d:a<B^x)(e:b<B^y)(f:B^x<=B^K)(g:B^y<=B^K):a+b<B^(K+1):=by
 rw[h2];have:=ko (B^K) c;omega
theorem ZI{a b K:Nat}(g:(au bT a).length<=K)(h:(au bT b).length<=K):(au bT (a+b)).length<=K+1:=by
 have c:=cC bg a;have d:=cC bg b;have e:=hT (show 0<bT by decide) g;have f:=hT (show 0<bT by decide) h;exact dV bg (K+1) (a+b) (ZJ bg c d e f)
theorem agN(a b:Int)(l:(au bT a.natAbs).length<=400000)(o:(au bT b.natAbs).length<=400000):aq prog 123 [eG a,eG b] (eG (a+b)):=by
 have m:=Z5 a.natAbs b.natAbs o_ o_;have k:=K1 a.natAbs b.natAbs o_ o_;have q:(au bT (a.natAbs+b.natAbs)).length<=1048576:=by
  have r:=ZI l o;omega
 refine gA_ nf func123 mix ?_
 by_cases hs:(a<0↔b<0)
 ·have t:(decide (a<0)==decide (b<0))=true:=by simp[hs]
  have d:=sA (decide (a<0)) (a.natAbs+b.natAbs) q;have f:(if decide (a<0)=true then -((a.natAbs+b.natAbs:Nat):Int)else((a.natAbs+b.natAbs:Nat):Int))=a+b:=by
   by_cases h:a<0
   ·have:=hs.1 h;simp[h];omega
   ·have:¬b<0:=fun c=>h (hs.2 c);simp[h];omega
  rw[f]at d;generalize a+b=s,a.natAbs+b.natAbs=n at*;have g:(a<0↔b<0)=True:=eq_true hs;simp only[eG]at d⊢;simp(maxDischargeDepth:=99) [f123,g,ad,e2 m,e2 d]
 ·have g:(a<0↔b<0)=False:=eq_false hs
  by_cases p:b.natAbs<=a.natAbs
  ·have i:0<=gC a.natAbs b.natAbs:=by
    have:=q7 (a:=a.natAbs) (b:=b.natAbs);omega
   have j:=OA a.natAbs b.natAbs p o_;have d:=sA (decide (a<0)) (a.natAbs-b.natAbs) (by
    have:=dV bg _ _ (hX (le a.natAbs b.natAbs) (cC bg a.natAbs));omega)
   have f:(if decide (a<0)=true then -((a.natAbs-b.natAbs:Nat):Int)else((a.natAbs-b.natAbs:Nat):Int))=a+b:=by
    by_cases h:a<0
    ·have:¬b<0:=fun c=>hs ⟨fun _=>c,fun _=>h⟩;simp[h];omega
    ·have:b<0:=by
      rcases e9 b 0 with c|c
      ·exact c
      ·exact(hs ⟨fun e=>(h e).elim,fun e=>by omega⟩).elim
     simp[h];omega
   rw[f]at d;generalize a+b=s,a.natAbs-b.natAbs=n at*;simp only[eG]at d⊢;simp(maxDischargeDepth:=99) [f123,g,ad,i,c2 k,e2 j,e2 d]
  ·have i:¬0<=gC a.natAbs b.natAbs:=by
    have:=q7 (a:=a.natAbs) (b:=b.natAbs);omega
   have j:=OA b.natAbs a.natAbs o_ o_;have d:=sA (decide (b<0)) (b.natAbs-a.natAbs) (by
    have:=dV bg _ _ (hX (le b.natAbs a.natAbs) (cC bg b.natAbs));omega)
   have f:(if decide (b<0)=true then -((b.natAbs-a.natAbs:Nat):Int)else((b.natAbs-a.natAbs:Nat):Int))=a+b:=by
    by_cases h:b<0
    ·have:¬a<0:=fun c=>hs ⟨fun _=>h,fun _=>c⟩;simp[h];omega
    ·have:a<0:=by
      rcases e9 a 0 with c|c
      ·exact c
      ·exact(hs ⟨fun e=>by omega,fun e=>(h e).elim⟩).elim
     simp[h];omega
   rw[f]at d;generalize a+b=s,b.natAbs-a.natAbs=n at*;simp only[eG]at d⊢;simp(maxDischargeDepth:=99) [f123,g,ad,i,c2 k,e2 j,e2 d]
theorem OB(a:Int)(d:(au bT a.natAbs).length<=400000):aq prog 130 [eG a] (eG (-a)):=by
 have b:=sA (!decide (a<0)) a.natAbs o_;have c:(if(!decide (a<0))=true then -((a.natAbs:Nat):Int)else(a.natAbs:Nat))= -a:=by
  by_cases h:a<0
  ·simp[h];omega
  ·simp[h];omega
 rw[c]at b;refine gA_ nf func130 mix ?_;generalize -a=s at*;simp only[eG]at b⊢;simp[f130,ad,c2 b]
theorem xR(a b:Int)(g:(au bT a.natAbs).length+(au bT b.natAbs).length<=1000000):aq prog 73 [eG a,eG b] (eG (a*b)):=by
 have f:=FI a.natAbs b.natAbs g;have j:(au bT (a.natAbs*b.natAbs)).length<=1000000:=by
  have c:=cC bg a.natAbs;have d:=cC bg b.natAbs;have i:=dV bg ((au bT a.natAbs).length+(au bT b.natAbs).length) (a.natAbs*b.natAbs) (by rw[i3];exact i8 c d);omega
 have e:=sA ((!(decide (a<0)==decide (b<0)))) (a.natAbs*b.natAbs) o_;have h:(if(!(decide (a<0)==decide (b<0)))=true then -((a.natAbs*b.natAbs:Nat):Int)else((a.natAbs*b.natAbs:Nat):Int))=a*b:=by
  by_cases c:a<0<;>by_cases d:b<0
  ·simp[c,d];rw[ec (eo c),ec (eo d),Int.neg_mul_neg]
  ·simp[c,d];rw[ec (eo c),ej o_,fd,fb]
  ·simp[c,d];rw[ec (eo d),ej o_,fi,fb]
  ·simp[c,d];rw[ej o_,ej o_]
 rw[h]at e;refine gA_ nf func73 mix ?_;generalize a*b=s,a.natAbs*b.natAbs=n,hx:(!(decide (a<0)==decide (b<0)))=x at*;simp only[eG]at e⊢;simp(maxDischargeDepth:=99) [f73,ad,hx,e2 f,e2 e]
theorem XV:∀d:Nat,d<10->hM d (gg (d+1) [48,49,50,51,52,53,54,55,56,57])=[48+d]:=d_
theorem Ai(n a:Nat)(hn:n<9223372036854775808)(H:a<=1000):aq prog 128 [.int .i64 n,.int .i64 a] (.str (low (max a (nd n)) n)):=by
 have J:nd n<=19:=tu (ip hn d_);refine gA_ nf func128 mix ?_;obtain⟨L,e⟩:∃L,L=max a (nd n):=⟨_,rfl⟩
 rw[<-e];obtain⟨g,b⟩:∃g:Nat->Nat,∀i,n/10^i=g i:=⟨_,fun _=>rfl⟩
 have A:g 0=n:=by rw[<-b,iy,i4]
 simp[f128];refine lp (α:=Nat) (fun i=>⟨[(0,.p (.int .i64 (g i:Nat))),(5,.p (.str (low i n))),(1,.p (.int .i64 a))],[]⟩)
  (fun i=>i<=L) (fun i=>L-i) 0 (i5 _) ?_ (he:=by simp[low,A])
 intro i hi;have q:low (i+1) n=(48+g i% 10)::low i n:=by
  rw[i9,sS,b,u4];rfl
 have hq:g (i+1)=g i/10:=by rw[<-b,<-b,h2,h6]
 have K:g i<=n:=by rw[<-b];exact js _ _
 have D:0<g i↔i<nd n:=by
  rw[<-b,oO,Nat.div_pos_iff];have:=ih (n:=i) (show 0<10 by decide);omega
 have l:=sR n i;have j:=XV (g i% 10) (ik _ d_);have f:i<L↔0<g i\/i<a:=by rw[D,e];omega
 have E:=ik (g i) (show 0<10 by decide);have r:(g i:Int).tmod 10=(g i% 10:Nat):=by rw[eb (dz _),ei];rfl
 have t:(g i:Int).tdiv 10=(g (i+1):Nat):=by rw[hq,ea (dz _),ee (g i)];rfl
 have F:L<=1000:=by rw[e];omega
 generalize g i% 10=d at*;have m:hM d (48::gg d [49,50,51,52,53,54,55,56,57])=[48+d]:=j;generalize hz:g i=z,y:g (i+1)=z2,hs:low i n=s at*;have x:dx.wrap (z2:Int)=z2:=aR _ o_ o_;have v:dx.wrap (d:Int)=d:=aR _ o_ o_;have w:dx.wrap ((d:Int)+1)=d+1:=aR _ o_ o_;have u:((d:Int)+1).toNat=d+1:=o_
 have I:min (d+1) 10-d+i<9223372036854775808:=o_
 have G:(0:Int)<=d+1/\(d:Int)+1<=10/\(d:Int)<=max (d+1) 0:=o_
 by_cases k:i<L
 ·by_cases c:0<z
  ·simp[c,r,t,x,v,w,u,j,l];refine⟨o_,o_,?_⟩;exact rd (i+1) (show i+1<=L by omega) (he:=by simp[y,q,m])
  ·have o:i<a:=by rcases f.1 k with h|h;exact(c h).elim;exact h
   simp[c,o,r,t,x,v,w,u,j,l];refine⟨o_,o_,?_⟩;exact rd (i+1) (show i+1<=L by omega) (he:=by simp[y,q,m])
 ·have c:¬0<z:=fun h=>k (f.2 (.inl h));have o:¬i<a:=fun h=>k (f.2 (.inr h));have B:s=low L n:=by rw[<-hs];congr 1;omega
  have C:¬L<a:=o_
  simp[c,C,l,B,sR]
theorem Yn{n i:Nat}(h:bT^(i+1)<=n):bc (n/bT^i)=bc (n/bT^(i+1))++low 9 (ae bT n i):=by
 have c:0<bT^i:=ih d_;have b:10^9<=n/bT^i:=by
  rw[lq c,hV];rw[h2]at h;exact h
 have a:=YU b;have e1:n/bT^i/10^9=n/bT^(i+1):=by rw[h6,h2];rfl
 have e2:n/bT^i% 10^9=ae bT n i:=rfl;rw[e1,e2]at a;have n1:0<n/bT^i:=hU d_ b;have n2:0<n/bT^(i+1):=j0 h (ih d_);rw[bc,bc,show max 1 (nd (n/bT^i))=nd (n/bT^i)by have:=yu n1;omega,show max 1 (nd (n/bT^(i+1)))=nd (n/bT^(i+1))by have:=yu n2;omega,a]
theorem E9(z:Int)(y:(au bT z.natAbs).length<=1000000):aq prog 121 [eG z] (.str (bQ z)):=by
 refine gA_ nf func121 mix ?_
 by_cases hz:z=0
 ·subst hz;have t:bQ 0=[48]:=by rw[show(0:Int)=((0:Nat):Int)from rfl,xg,ou]
  simp[f121,eG,eT,B3,ad,t]
 obtain⟨n,hn⟩:∃n,z.natAbs=n:=⟨_,rfl⟩
 have J:0<n:=o_
 have I:0<(au bT n).length:=by
  rw[fp,Ne,xw];omega
 obtain⟨k,hk⟩:∃k,(au bT n).length=k+1:=⟨(au bT n).length-1,o_⟩
 have f:=cC bg n;rw[hk]at f;have o:bT^k<=n:=by
  rcases h5 n (bT^k)with h|h
  ·have:=dV bg k n h;omega
  ·exact h
 have l:∀i(h:i<(au bT n).length),(au bT n)[i]=ae bT n i:=fun i h=>eZ bg h;have q:n/bT^k=ae bT n k:=by
  rw[ae,h4];rw[h3 (ih d_),hV,<-h2];exact f
 have L:0<ae bT n k:=by rw[<-q];exact j0 o (ih d_)
 have c:=Ai (ae bT n k) 1 (ip (cF bg n k) d_) d_;rw[show low (max 1 (nd (ae bT n k))) (ae bT n k)=bc (n/bT^k)by rw[q];rfl]at c;have u:∀i,aq prog 128 [.int .i64 (ae bT n i:Nat),.int .i64 (9:Nat)] (.str (low 9 (ae bT n i))):=fun i=>by
  have h:=Ai (ae bT n i) 9 (ip (cF bg n i) d_) d_;have G:nd (ae bT n i)<=9:=tu (cF bg n i)
  rwa [show max 9 (nd (ae bT n i))=9 by omega]at h
 have a:bc (n/bT^0)=bc n:=by rw[iy,i4]
 have iH:∀i,i+1<=k->bc (n/bT^i)=bc (n/bT^(i+1))++low 9 (ae bT n i):=fun i hi=>Yn (hW (hT d_ hi) o);have H:k<=1000000:=by rw[hn]at y;omega
 have B:bQ z=if z<0 then 45::bc n else bc n:=by rw[bQ,hn]
 have K:ae bT n k<bT:=cF bg n k;have A:∀i,ae bT n i<bT:=fun i=>cF bg n i;obtain⟨T,g⟩:∃T:Nat->List Nat,∀i,bc (n/bT^i)=T i:=⟨_,fun _=>rfl⟩
 have j:∀i,(T i).length<=9000000+9:=fun i=>by
  rw[<-g];refine hW (xf (k:=9*(k+1)) ?_ o_) o_;rw[j7];exact hX (js _ _) f
 simp only[g]at c a iH;rw[B];simp only[eG,hn,eT,<-a];generalize hx:au bT n=x at*;have w1:dx.wrap ((k:Int)+1-1)=k:=by rw[Int.add_sub_cancel];exact aR _ o_ o_
 have E:dx.wrap (k:Int)=k:=aR _ o_ o_;have w2:dx.wrap ((k:Int)+1-2)=(k:Int)-1:=by rw[aR _ o_ o_];omega
 have w:¬(k:Int)+1=0:=o_
 have e:k<x.length:=o_
 have s:=l k e;have D:x[k]?=some (ae bT n k):=by rw[fl e,s]
 simp[f121,ad,hk,w,w1,E,w2,e,s,D];refine c2 c ?_;simp[ad,hk,w2];refine lp (α:=Nat) (fun i=>⟨[(4,.p (.int .i64 ((i:Int)-1))),(3,.p (.str (T i))),(1,.ptr 0 [])],[.box false (.p (.st 147 [.bool (decide (z<0)),.seq (x.map fun x:Nat=>.int .i64 x)]))]⟩)
  (fun i=>i<=k) (fun i=>i) k (h7 _) ?_
 rintro i hi;have M:=A i;rcases i with _|i
 ·by_cases m:z<0
  ·have b:=hX (ls (j 0) 1) (show 9000000+9+1<9223372036854775808 by decide);rw[a,i9]at b;simp[m,ad,a,b]
  ·simp[m,ad,a]
 ·have d:i<x.length:=by omega
  have r:=l i d;have C:x[i]?=some (ae bT n i):=by rw[fl d,r]
  have v:¬(i:Int)<0:=o_
  have F:dx.wrap ((i:Int)-1)=(i:Int)-1:=aR _ o_ o_;have b:=hX (ls (j (i+1)) 9) (show 9000000+9+9<9223372036854775808 by decide);have aS:=iH i hi;simp[v,ad,d,r,C];refine c2 (u i) ?_;simp[F,sR];refine⟨b,?_⟩;exact rd i (show i<=k by omega) (he:=by simp[aS])
theorem Xz{s:List Nat}{i:Nat}(h:i<s.length):bf (s.take (i+1))=bf (s.take i)*10+(s[i]-48):=by
 rw[gy h,Am]
theorem xA{s:List Nat}{p:Nat->Bool}(h:s.all p=true)(i:Nat):(s.take i).all p=true:=by
 rw[gc]at h⊢;intro x hx;exact h x (List.mem_of_mem_take hx)
theorem Nx{s:List Nat}{p:Nat->Bool}(h:s.all p=true)(i:Nat):(s.drop i).all p=true:=by
 rw[gc]at h⊢;intro x hx;exact h x (List.mem_of_mem_drop hx)
theorem Bf{c:Nat}(h:cA c=true):48<=c/\c<=57:=by
 simpa[cA]using h
theorem A5(s:List Nat)(e:s.all cA=true)(u:s.length<=18):aq prog 126 [.str s] (.int .i64 (bf s:Nat)):=by
 refine gA_ nf func126 mix ?_;obtain⟨L,g⟩:∃L,L=s.length:=⟨_,rfl⟩
 have k:bf (s.take L)=bf s:=by rw[g,hJ]
 rw[<-k];obtain⟨v,b⟩:∃v:Nat->Nat,∀i,bf (s.take i)=v i:=⟨_,fun _=>rfl⟩
 have o:v 0=0:=by rw[<-b];rfl
 have q:∀i(h:i<s.length),v (i+1)=v i*10+(s[i]-48):=fun i h=>by rw[<-b,<-b,Xz h]
 have f:∀i,i<=L->v i<10^i:=fun i hi=>by
  rw[<-b];exact kA i _ (by rw[gi];omega) (xA e i)
 rw[b];simp[f126];refine lp (α:=Nat) (fun i=>⟨[(4,.p (.int .i64 i)),(3,.p (.int .i64 (v i:Nat))),(0,.p (.str s))],[]⟩)
  (fun i=>i<=L) (fun i=>L-i) 0 (i5 _) ?_ (he:=by simp[o])
 intro i hi
 by_cases m:i<L
 ·have a:i<s.length:=by omega
  have j:=f i hi;have t:=f (i+1) m;have hc:=Bf (gc.1 e s[i] (gj a));have hs:=q i a;have n:10^i<=10^17:=hT d_ o_;have r:v i<100000000000000000:=hU j (by exact n);generalize d:s[i]=c,w:v i=x at*;have w1:dx.wrap (10*(x:Int))=10*(x:Int):=aR _ o_ o_;have w2:dx.wrap (10*(x:Int)+c)=10*(x:Int)+c:=aR _ o_ o_;have w3:dx.wrap (10*(x:Int)+c-48)=(v (i+1):Nat):=by rw[hs,aR _ o_ o_];omega
  have w4:dx.wrap ((i:Int)+1)=(i:Int)+1:=aR _ o_ o_;have w5:dx.wrap (c:Int)=c:=aR _ o_ o_;have l:s[i]?=some c:=by rw[fl a,d]
  simp[a,d,l,w1,w2,w3,w4,w5];exact rd (i+1) (show i+1<=L by omega)
 ·have a:¬i<s.length:=by omega
  have:i=L:=o_
  subst this;simp[a]
theorem Ob(c:Nat):∀s:List Nat,c∉(ch c s).1
 |[]=>by simp[ch]
 |x::r=>by
  rw[ch]
  split
  ·simp
  ·rename_i h;simp only[g8,not_or];exact⟨fun e=>h e.symm,Ob c r⟩
theorem xS(s:List Nat)(v:s.length<=1048576):aq prog 125 [.str s] (.int .i64 ((ch 47 s).1.length:Nat)):=by
 refine gA_ nf func125 mix ?_;obtain⟨k,hk⟩:∃k,(ch 47 s).1.length=k:=⟨_,rfl⟩
 have r:=Ob 47 s;have u:k<=s.length:=by rw[<-hk];exact(u5 47 s).1
 have m:∀j(h:j<s.length),j<k->¬s[j]=47:=by
  intro j h t e;apply r;rcases qZ 47 s with⟨_,b⟩|⟨_,b,_⟩
  ·have:s[j]=(ch 47 s).1[j]' o_:=by
    conv=>lhs;rw[hH b]
    rw[List.getElem_append_left]
   have d:(ch 47 s).1[j]' o_∈(ch 47 s).1:=gj _;rw[<-this,e]at d;exact d
  ·rw[b];have d:s[j]∈s:=gj _
   rwa [e]at d
 have b:∀(h:k<s.length),s[k]=47:=by
  intro h;rcases qZ 47 s with⟨_,f⟩|⟨_,f,_⟩
  ·rw[hH f,List.getElem_append_right o_];simp[hk]
  ·rw[f]at hk;omega
 rw[hk];simp[f125];refine lp (α:=Nat) (fun i=>⟨[(3,.p (.int .i64 i)),(0,.p (.str s))],[]⟩)
  (fun i=>i<=k) (fun i=>k-i) 0 (i5 _) ?_
 intro i hi;have w4:dx.wrap ((i:Int)+1)=(i:Int)+1:=aR _ o_ o_
 by_cases o:i<k
 ·have a:i<s.length:=by omega
  have hn:=m i a o;generalize l:s[i]=c at*;have g:s[i]?=some c:=by rw[fl a,l]
  have n:¬(c:Int)=47:=o_
  simp[a,l,g,n,hn,w4];exact rd (i+1) (show i+1<=k by omega)
 ·have q:i=k:=by omega
  subst q
  by_cases a:i<s.length
  ·have hn:=b a;have g:s[i]?=some 47:=by rw[fl a,hn]
   simp[a,hn,g]
  ·have:i=s.length:=by omega
   simp[a,this]
theorem Oy(n:Int)(K:-9223372036854775808<=n)(L:n<=9223372036854775807):aq prog 122 [.int .i64 n] (eG n):=by
 refine gA_ nf func122 mix ?_;obtain⟨N,M⟩:∃N,n.natAbs=N:=⟨_,rfl⟩
 have B:N<bT^3:=by
  have:bT^3=1000000000000000000000000000:=d_
  omega
 obtain⟨g,a⟩:∃g:Nat->Nat,∀i,N/bT^i=g i:=⟨_,fun _=>rfl⟩
 have D:g 0=N:=by rw[<-a,iy,i4]
 have F:∀i,g (i+1)=g i/bT:=fun i=>by rw[<-a,<-a,h6,h2]
 have y:∀i,ae bT N i=g i% bT:=fun i=>by rw[<-a];rfl
 have E:g 3=0:=by rw[<-a,ix B]
 have f:∀i,g i<=N:=fun i=>by rw[<-a];exact js _ _
 have w:∀i,i<=3->g i=0->aq prog 133 [.bool (decide (n<0)),.seq (iP (row bT i N))] (eG n):=fun i G hi=>by
  have h:=Er (decide (n<0)) (row bT i N) N (kF bg (by
   rw[<-a]at hi;rcases h5 N (bT^i)with h|h
   ·exact h
   ·have:=j0 h (ih (show 0<bT by decide));omega)) (by simp[row];omega)
  have e:(if decide (n<0)=true then -(N:Int)else N)=n:=by
   by_cases hn:n<0
   ·simp[hn];omega
   ·simp[hn];omega
  rwa [e]at h
 obtain⟨m,c⟩:∃m:Nat->Int,∀i,(if n<0 then -(g i:Int)else g i)=m i:=⟨_,fun _=>rfl⟩
 have H:m 0=n:=by rw[<-c,D];split<;>omega
 simp only[eG]at w⊢;simp[f122];refine lp (α:=Nat) (fun i=>⟨[(0,.p (.int .i64 (m i))),(2,.ptr 0 []),(3,.sl 1 i 1 0 i),(4,.p (.bool (decide (n<0))))],[.box false (.p (.st 147 [.bool false,.aK])),.arr .grow i 1 (eK i N)]⟩)
  (fun i=>i<=3) (fun i=>3-i) 0 (i5 _) ?_ (he:=by simp[H,eK]) (hh:=by simp[eK])
 intro i hi;have O:bT=1000000000:=rfl;have J:=ik (g i) (show 0<bT by decide);have P:=f i;have C:=h9 (g i) bT;have s:g i% bT=ae bT N i:=(y i).symm
 by_cases hz:g i=0
 ·have b:m i=0:=by rw[<-c,hz];split<;>rfl
  have hs:=w i hi hz;rcases i with _|i
  ·simp[b];refine cp hs (by simp[eK];first|exact⟨rfl,rfl⟩|rfl) ?_ (h1:=by simp[iP,row]);simp[ad]
  ·have d:¬eK (i+1) N=[]:=by intro h;have:=congrArg ho h;rw[jd]at this;simp at this
   simp[b];refine cp hs (by simp[jd,NK,d];first|exact⟨rfl,rfl⟩|rfl) ?_ (h1:=by simp[iP,row,gU,fm]);simp[ad]
 ·have G:i<3:=by
   rcases h5 i 3 with h|h
   ·exact h
   ·rw[show i=3 by omega]at hz;exact(hz E).elim
  have x:=F i;have I:=y i;have j:=sJ i N;have v:gg i (eK i N)=eK i N:=fm (by rw[jd];exact h7 _);rw[I]at j;obtain⟨r,z⟩:∃r,g i% bT=r:=⟨_,rfl⟩
  rw[z]at j J C;have s:=z.symm
  by_cases hn:n<0
  ·have b:m i= -(g i:Int):=by rw[<-c,if_pos hn]
   have k:m (i+1)= -(g (i+1):Int):=by rw[<-c,if_pos hn]
   have d:¬(g i:Int)=0:=o_
   have o:((g i:Nat):Int).tmod 1000000000=r:=by rw[s,eb (dz _),ei];rfl
   have l:((g i:Nat):Int).tdiv 1000000000=(g (i+1):Nat):=by rw[x,ea (dz _),ee (g i)];rfl
   have wr:dx.wrap (r:Int)=r:=aR _ o_ o_;have A:dx.wrap (-(r:Int))= -r:=aR _ o_ o_;have q:dx.wrap (-(g (i+1):Int))= -(g (i+1):Nat):=aR _ (by have:=f (i+1);omega) (by have:=f (i+1);omega)
   by_cases t:r=0
   ·simp[b,hz,d,o,l,wr,A,q,t,v,jd];refine⟨by simp only[dc];omega,?_⟩;exact rd (i+1) (show i+1<=3 by omega) (he:=by simp[k]) (hh:=by simp[j,t])
   ·have u:0<r:=by omega
    simp[b,hz,d,o,l,wr,A,q,t,u,v,jd];refine⟨by simp only[dc];omega,?_⟩;exact rd (i+1) (show i+1<=3 by omega) (he:=by simp[k]) (hh:=by simp[j])
  ·have b:m i=(g i:Int):=by rw[<-c,if_neg hn]
   have k:m (i+1)=(g (i+1):Int):=by rw[<-c,if_neg hn]
   have d:¬(g i:Int)=0:=o_
   have o:((g i:Nat):Int).tmod 1000000000=r:=by rw[s,eb (dz _),ei];rfl
   have l:((g i:Nat):Int).tdiv 1000000000=(g (i+1):Nat):=by rw[x,ea (dz _),ee (g i)];rfl
   have wr:dx.wrap (r:Int)=r:=aR _ o_ o_;have q:dx.wrap (g (i+1):Int)=(g (i+1):Nat):=aR _ (by have:=f (i+1);omega) (by have:=f (i+1);omega);have u:¬(r:Int)<0:=o_
   simp[b,hz,d,o,l,wr,q,u,v,jd];refine⟨by simp only[dc];omega,?_⟩;exact rd (i+1) (show i+1<=3 by omega) (he:=by simp[k]) (hh:=by simp[j])
theorem K4{d:List Nat}(c:d.all cA=true){L i:Nat}(f:L=d.length)(h:9*(i+1)<=L):
 bf (d.take (L-9*(i+1)))=bf (d.take (L-9*i))/10^9/\bf ((d.take (L-9*i)).drop (L-9*(i+1)))=bf (d.take (L-9*i))% 10^9:=by
 have e:=g4 (L-9*(i+1)) (d.take (L-9*i));rw[hu,lb o_]at e;have a:=Mm (d.take (L-9*(i+1))) ((d.take (L-9*i)).drop (L-9*(i+1)));rw[e]at a;have b:((d.take (L-9*i)).drop (L-9*(i+1))).length=9:=by rw[g9,gi];omega
 rw[b]at a;have g:=kA 9 _ b (Nx (xA c _) _);generalize bf ((d.take (L-9*i)).drop (L-9*(i+1)))=y,bf (d.take (L-9*(i+1)))=x at*;rw[a];omega
theorem Es(s:List Nat)(f:(dh s).all cA=true)(H:s.length<=1000000):aq prog 129 [.str s] (eG (if b9 s=true then -(bf (dh s):Int)else bf (dh s))):=by
 refine gA_ nf func129 mix ?_;obtain⟨d,q⟩:∃d,dh s=d:=⟨_,rfl⟩
 obtain⟨neg,b⟩:∃neg,b9 s=neg:=⟨_,rfl⟩
 obtain⟨N,D⟩:∃N,bf d=N:=⟨_,rfl⟩
 have af:d.length<=1000000:=by rw[<-q];exact hW (qK s).1 H
 rw[q]at f⊢;rw[b,D];have ag:=H;simp[f129,-aW];rw[aW];simp[-aW];refine join (fun st=>aP st.env 0=.p (.str s)/\aP st.env 2=.ptr 0 []/\aP st.env 3=.p (.bool neg)/\st.heap=[.box false (.p (.st 147 [.bool false,.aK]))]) ?_ ?_
 ·cases s with
  |nil=>simp[<-b,b9]
  |cons c r=>
   by_cases hc:c=45
   ·simp[<-b,b9,hc]
   ·have R:¬(c:Int)=45:=by omega
    simp[<-b,b9,hc,R]
 rintro⟨Q,S⟩ ⟨a,x2,x3,k⟩;dsimp only at a x2 x3 k;subst k;refine join (fun st=>aP st.env 0=.p (.str d)/\aP st.env 2=.ptr 0 []/\aP st.env 3=.p (.bool neg)/\st.heap=[.box false (.p (.st 147 [.bool false,.aK]))]) ?_ ?_
 ·cases neg with
  |false=>
   have B:s=d:=by rw[<-q,dh,b];rfl
   simp[a,x2,x3,B]
  |true=>
   cases s with
   |nil=>simp[b9]at b
   |cons c r=>
    have B:r=d:=by rw[<-q,dh,b];rfl
    simp[a,x2,x3,B]
 clear a x2 x3;rintro⟨Q,S⟩ ⟨a,x2,x3,k⟩;dsimp only at a x2 x3 k;subst k;obtain⟨L,o⟩:∃L,L=d.length:=⟨_,rfl⟩
 obtain⟨g,j⟩:∃g:Nat->Nat,∀i,N/bT^i=g i:=⟨_,fun _=>rfl⟩
 have y:∀i,9*i<=L->bf (d.take (L-9*i))=g i:=by
  intro i
  induction i with
  |zero=>intro _;rw[lw,Nat.sub_zero,o,hJ,D,<-j,iy,i4]
  |succ i aa=>
   intro h;rw[(K4 f o h).1,aa o_,<-j,<-j,h6,h2];rfl
 have T:∀i,9*(i+1)<=L->bf ((d.take (L-9*i)).drop (L-9*(i+1)))=ae bT N i:=fun i h=>by
  rw[(K4 f o h).2,y i o_,<-j];rfl
 have Z:∀i,9*(i+1)<=L->aq prog 126 [.str ((d.take (L-9*i)).drop (L-9*(i+1)))] (.int .i64 (ae bT N i:Nat)):=fun i h=>by
  rw[<-T i h];exact A5 _ (Nx (xA f _) _) (by rw[g9,gi];omega)
 have G:∀i,9*i<=L->L<=9*i+9->g i=ae bT N i/\N<bT^(i+1):=fun i e n=>by
  have F:=kA _ (d.take (L-9*i)) rfl (xA f _);rw[y i e]at F;have w:g i<bT:=hU F (by
   rw[show bT=10^9 from rfl];exact hT d_ (by rw[gi];omega))
  refine⟨by rw[ae,j,h4 w],?_⟩;rw[<-j,h3 (ih d_)]at w;rw[h2,hV];exact w
 have U:∀i,9*i<=L->L<=9*i+9->aq prog 126 [.str (d.take (L-9*i))] (.int .i64 (ae bT N i:Nat)):=fun i e n=>by
  rw[<-(G i e n).1,<-y i e];exact A5 _ (xA f _) (by rw[gi];omega)
 have E:∀i,9*i<=L->L<=9*i+9->aq prog 133 [.bool neg,.seq (iP (row bT (i+1) N))] (eG (if neg=true then -(N:Int)else N)):=fun i e n=>
  Er neg (row bT (i+1) N) N (kF bg (G i e n).2) (by simp[row];omega)
 generalize (if neg=true then -(N:Int)else N)=z at*;simp only[eG]at E⊢;rw[aW];simp[a,x2,x3,-aW];rw[aW];simp[a,x2,x3];refine lp (α:=Nat) (fun i=>⟨[(0,.p (.str (d.take (L-9*i)))),(2,.ptr 0 []),(3,.p (.bool neg)),(4,.sl 1 i 1 0 i)],[.box false (.p (.st 147 [.bool false,.aK])),.arr .grow i 1 (eK i N)]⟩)
  (fun i=>9*i<=L) (fun i=>L-i) 0 (i5 _) ?_ (he:=by simp[a,x2,x3,eK,o]) (hh:=by simp[eK])
 intro i hi;have v:(d.take (L-9*i)).length=L-9*i:=by rw[gi];omega
 have l:=Z i;have u:=U i hi;have C:(d.take (L-9*i)).take (L-9*(i+1))=d.take (L-9*(i+1)):=by rw[hu,lb o_]
 rw[show L-9*(i+1)=L-9*i-9 by omega]at l C;obtain⟨m,A⟩:∃m,m=L-9*i:=⟨_,rfl⟩
 rw[<-A]at v l u C;have K:=sJ i N;have M:gg i (eK i N)=eK i N:=fm (by rw[jd];exact h7 _);have I:i+1<=dc:=by simp only[dc];omega
 by_cases ab:9<m
 ·have l:=l o_;have O:dx.wrap ((m:Int)-9)=(m:Int)-9:=aR _ o_ o_;have P:((m:Int)-9).toNat=m-9:=by omega
  have J:(9:Int)<=m:=o_
  have X:9*(i+1)<=L:=o_
  rw[<-A];generalize ac:gg m d=t at*;have Y:gg m t=t:=fm o_;have x:(9:Int)<m:=o_
  have V:m-9=L-9*(i+1):=o_
  simp[v,x,O,P,J,Y];refine c1 l ?_;simp[M,jd,I,<-K,v,O,P,J,C];exact rd (i+1) X (he:=by simp[V])
 ·have u:=u o_;have hs:=E i hi o_;rw[<-A];generalize gg m d=t at*;have x:¬(9:Int)<m:=by omega
  simp[v,x];refine c1 u ?_;simp[M,jd,I,<-K];have W:¬eK (i+1) N=[]:=by intro h;have:=congrArg ho h;rw[jd]at this;simp at this
  refine cp hs (by simp[jd,NK,W];first|exact⟨rfl,rfl⟩|rfl) ?_ (h1:=by simp[iP,row,gU,fm]);simp[ad]
def ln(s:List Nat):Int:=if b9 s=true then -(bf (bH s):Int)else bf (bH s)
def jg(s:List Nat):Nat:=if eU s=true then bf (bU s)else 1
theorem MW(s:List Nat)(q:(bH s).all cA=true)(j:(bU s).all cA=true)(F:s.length<=1000000):aq prog 71 [.str s] (.aD [eG (ln s),eG (jg s:Nat)]):=by
 refine gA_ nf func71 mix ?_;have e:=xS s o_;obtain⟨J,f,g,v⟩:=Me s;have A:=u5 47 s;have u:=Oy 1 d_ d_;rcases qZ 47 s with⟨q1,b⟩|⟨q1,b,M⟩
 ·have a:=Es (ch 47 s).1 (by rw[f];exact q) o_;rw[J,f]at a;have d:=Es (ch 47 s).2.1 (by
   rw[g];rw[gc]at j⊢;intro x hx;exact j x ((qK _).2 x hx)) o_
  have H:b9 (bU s)=false:=by
   rw[b9];cases l:bU s with
   |nil=>simp
   |cons c r=>
    have:=Bf (gc.1 j c (by rw[l];simp));simp;omega
  rw[g,dh,H]at d;have m:eU s=true:=by rw[<-v];exact q1
  have qh:ln s=if b9 s=true then -(bf (bH s):Int)else bf (bH s):=rfl
  have i:jg s=bf (bU s):=by rw[jg,if_pos m]
  rw[<-qh]at a;simp only[dg,if_false]at d;rw[<-i]at d;generalize hz:ln s=z,jg s=dn at*;obtain⟨h,o⟩:∃h,(ch 47 s).1=h:=⟨_,rfl⟩
  obtain⟨w,p⟩:∃w,(ch 47 s).2.1=w:=⟨_,rfl⟩
  rw[o,p]at b;rw[o]at e a;rw[p]at g;obtain⟨k,n⟩:∃k,h.length=k:=⟨_,rfl⟩
  rw[n]at e;have hk:k<s.length:=by rw[b];simp;omega
  have I:s.take k=h:=by rw[b,<-n];simp
  have l:s.drop (k+1)=bU s:=by
   rw[<-g]
   conv=>lhs;rw[b,<-n]
   simp
  clear A b o p;have L:dx.wrap ((k:Int)+1)=(k:Int)+1:=aR _ o_ o_;have K:((k:Int)+1).toNat=k+1:=o_
  have G:¬(k:Int)=s.length:=o_
  have C:k+1<=s.length:=hk;have E:k<=s.length:=o_
  have B:(0:Int)<=k+1:=o_
  have D:(k:Int)+1<=s.length:=o_
  simp only[eG]at a d⊢;simp(maxDischargeDepth:=99) [f71,G,L,K,I,l,C,E,B,D,ad,c1 e,e1 a,e1 d]
 ·have a:=Es s (by
   have t:=f;rw[b]at t;rw[t];exact q) F
  have m:eU s=false:=by rw[<-v];exact q1
  have y:dh s=bH s:=by rw[b]at f;exact f
  have qh:ln s=if b9 s=true then -(bf (bH s):Int)else bf (bH s):=rfl
  have i:jg s=1:=by rw[jg,m];rfl
  rw[y,<-qh]at a;rw[i];rw[b]at e;generalize ln s=z at*;simp only[eG]at a u⊢;simp(maxDischargeDepth:=99) [f71,ad,c1 e,c1 a,c1 u]
theorem K5(n:Nat):(bc n).length<=9*(au bT n).length+1:=by
 rcases lv n with h|h
 ·subst h;rw[ou];simp
 ·have b:0<(au bT n).length:=by rw[fp,Ne,xw];omega
  have a:=cC bg n;rw[show bT^(au bT n).length=10^(9*(au bT n).length)by rw[j7];rfl]at a;exact hW (xf a o_) o_
def oT(n d:Int):Rat:=mb n d
theorem KR(n g:Nat):(au bT (n/g)).length<=(au bT n).length:=
 dV bg _ _ (hX (js n g) (cC bg n))
theorem WU(n d:Nat)(a:0<d):(au bT (i0 n d)).length<=(au bT d).length:=
 dV bg _ _ (hX (j9 n a) (cC bg d))
theorem Kn(n d:Int)(H:d≠0)(hn:(au bT n.natAbs).length<=400000)(j:(au bT d.natAbs).length<=400000):aq prog 72 [eG n,eG d] (.str (bk (oT n d))):=by
 refine gA_ nf func72 mix ?_;simp[f72,-aW,ad];rw[aW];simp[-aW,ad];refine join (fun st=>∃(e:Int)(d':Nat),0<d'/\(au bT e.natAbs).length<=400000/\(au bT d').length<=400000/\oT e d'=oT n d/\aP st.env 2=.ptr 0 []/\aP st.env 3=.ptr 1 []/\st.heap=[.box false (.p (eG e)),.box false (.p (eG (d':Nat)))]) ?_ ?_
 ·have L:=OB n hn;have K:=OB d j
  by_cases h:d<0
  ·simp[h,ad];refine e1 L ?_;simp[ad];refine e1 K ?_;simp[ad];refine⟨r_,?_⟩;refine⟨-n,d.natAbs,o_,by rw[eq];exact hn,j,?_,rfl,?_⟩
   ·rw[ec o_];exact ms _ _
   ·rw[ec o_]
  ·have x:((d.natAbs:Nat):Int)=d:=ej o_;simp[h,ad];exact⟨n,d.natAbs,o_,hn,j,by rw[x],rfl,by rw[x]⟩
 rintro⟨P,Q⟩ ⟨e,d',k1,k2,k3,k4,x2,x3,A⟩;dsimp only at x2 x3 A;subst A;rw[<-k4,show oT e d'=mb e d' from rfl];clear k4 hn j H;obtain⟨r,s⟩:=mY (n:=e) (show d'≠0 by omega);obtain⟨g,k⟩:∃g,i0 e.natAbs d'=g:=⟨_,rfl⟩
 have m:0<g:=by rw[<-k];exact jh _ k1
 have y:(au bT g).length<=400000:=by rw[<-k];exact hW (WU _ _ k1) k3
 rw[k]at r s;have v:=MF e.natAbs d' k2 k3;rw[k]at v;have E:=FK e.natAbs g m k2 y;have F:=FK d' g m k3 y;have U:(au bT (e.natAbs/g)).length<=400000:=hW (KR _ _) k2;have V:(au bT (d'/g)).length<=400000:=hW (KR _ _) k3;have t:=sA (decide (e<0)) (e.natAbs/g) o_;have f:=sA false (d'/g) o_;have o:(if decide (e<0)=true then -((e.natAbs/g:Nat):Int)else((e.natAbs/g:Nat):Int))=(mb e d').num:=by
  rw[r];have I:(g:Int)∣e:=by rw[<-k];exact en.2 (kb _ _)
  obtain⟨c,hc⟩:=I;have J:(g:Int)≠0:=o_
  rw[hc,ek _ J,em,dy,Nat.mul_div_cancel_left _ m]
  by_cases G:c<0
  ·have:(g:Int)*c<0:=ew o_ G;simp[this];omega
  ·have:¬(g:Int)*c<0:=by
    have:=er (a:=(g:Int)) (b:=c) o_ o_;omega
   simp[this];omega
 rw[o]at t;simp only[dg,if_false]at f;have w:=E9 (mb e d').num (by
  rw[<-o];split
  ·rw[eq,dy];omega
  ·rw[dy];omega)
 have i:=E9 ((d'/g:Nat):Int) (by rw[dy];omega);rw[xg]at i;have M:0<d'/g:=by
  refine j0 ?_ m;rw[<-k];exact j9 _ k1
 have R:(bQ (mb e d').num).length<=3600002:=by
  refine hW (EN _) ?_;have h:=K5 (mb e d').num.natAbs;have:(mb e d').num.natAbs=e.natAbs/g:=by
   rw[<-o];split
   ·rw[eq,dy]
   ·rw[dy]
  rw[this]at h⊢;omega
 have S:(bc (d'/g)).length<=3600001:=by
  have h:=K5 (d'/g);omega
 have C:bk (mb e d')=if d'/g=1 then bQ (mb e d').num else bQ (mb e d').num++47::bc (d'/g):=by rw[bk,s]
 rw[C];clear C o r s;generalize (mb e d').num=nn,W:d'/g=q at*;simp only[eG,dy]at t f w i⊢;simp[x2,x3,ad];refine c2 v ?_;simp[x2,x3,ad];refine c2 E ?_;simp[x2,x3,ad];refine c2 F ?_;simp[x2,x3,ad];refine c2 t ?_;simp[x2,x3,ad];refine c1 w ?_;have N:∀h:q=1,au bT q=[1]:=fun h=>by rw[h];exact pB d_ d_
 by_cases l:q=1
 ·have u:=N l;simp[l,eT,pB (show 0<1 by decide) (show 1<bT by decide)]
 ·have z:(bQ nn).length+1<9223372036854775808:=by omega
  have T:(bQ nn).length+((bc q).length+1)<9223372036854775808:=o_
  by_cases B:q<bT
  ·have u:=pB M B;have O:¬(q:Int)=1:=by omega
   simp[l,eT,u,O];refine⟨z,?_⟩;simp only[eT,u,ge,hg]at f i;refine c2 f ?_;simp;refine c1 i ?_;simp;omega
  ·have j:¬((au bT q).length:Int)=1:=by
    intro h;have D:(au bT q).length=1:=o_
    have:=cC bg q;rw[D,j6]at this;exact B this
   simp[l,eT,j];refine⟨z,?_⟩;simp only[eT]at f i;refine c2 f ?_;simp;refine c1 i ?_;simp;omega
theorem WZ{n:Int}{g:Nat}(a:0<g)(h:g∣n.natAbs):n.tdiv g=n/g:=by
 obtain⟨c,hc⟩:=en.2 h;subst hc;rw[Int.mul_tdiv_cancel_left _ o_,ek _ o_]
theorem Qa(n d:Int)(H:d≠0)(hn:n.natAbs<=4000000000000000000)(I:d.natAbs<=4000000000000000000):aq prog 70 [.int .i64 n,.int .i64 d] (.str (bk (oT n d))):=by
 refine gA_ nf func70 mix ?_;have a1:¬n< -4000000000000000000:=o_
 have e:¬4000000000000000000<n:=o_
 have f:¬d< -4000000000000000000:=o_
 have i:¬4000000000000000000<d:=o_
 simp[f70,a1,e,f,i,-aW];rw[aW];simp[a1,e,f,i,-aW];rw[aW,aW];simp[a1,e,f,i,-aW];refine join (fun st=>∃(a:Int)(d':Nat),0<d'/\a.natAbs<=4000000000000000000/\d'<=4000000000000000000/\oT a d'=oT n d/\aP st.env 0=.p (.int .i64 a)/\aP st.env 1=.p (.int .i64 (d':Nat))/\st.heap=[]) ?_ ?_
 ·have w1:dx.wrap (-n)= -n:=aR _ o_ o_;have w2:dx.wrap (-d)= -d:=aR _ o_ o_
  by_cases h:d<0
  ·simp[h,w1,w2,a1,e,f,i];refine⟨-n,d.natAbs,o_,o_,o_,?_,rfl,?_⟩
   ·rw[ec o_];exact ms _ _
   ·rw[ec o_]
  ·have C:((d.natAbs:Nat):Int)=d:=ej o_;simp[h,a1,e,f,i];exact⟨n,d.natAbs,o_,o_,o_,by rw[C],rfl,by rw[C]⟩
 rintro⟨O,P⟩ ⟨a,d',k1,k2,k3,k4,l,x1,D⟩;dsimp only at l x1 D;subst D;rw[<-k4,show oT a d'=mb a d' from rfl];clear k4 hn I H a1 e f i;obtain⟨t,x⟩:=mY (n:=a) (show d'≠0 by omega);obtain⟨g,j⟩:∃g,i0 a.natAbs d'=g:=⟨_,rfl⟩
 have z:0<g:=by rw[<-j];exact jh _ k1
 rw[j]at t x;have B:=acW a.natAbs d' o_ o_;rw[j]at B;have M:(if a< -a then -a else a)=(a.natAbs:Nat):=by split<;>omega
 have w1:dx.wrap (-a)= -a:=aR _ o_ o_;have v:a.tdiv g=(mb a d').num:=by rw[t,WZ z (by rw[<-j];exact kb _ _)]
 have w:(d':Int).tdiv g=(d'/g:Nat):=by rw[ea (dz _),ee]
 have N:(mb a d').num.natAbs<=4000000000000000000:=by
  have K:(g:Int)∣a:=by rw[<-j];exact en.2 (kb _ _)
  obtain⟨c,hc⟩:=K;have L:(g:Int)≠0:=o_
  rw[t,hc,ek _ L];rw[hc,em,dy]at k2;exact hW (lm _ z) k2
 have J:d'/g<=4000000000000000000:=hW (js _ _) k3;have U:0<d'/g:=by
  refine j0 ?_ z;rw[<-j];exact j9 _ k1
 have F:bk (mb a d')=if d'/g=1 then bQ (mb a d').num else bQ (mb a d').num++47::bc (d'/g):=by rw[bk,x]
 rw[F];clear F t x;generalize (mb a d').num=nn,V:d'/g=q at*;have u:¬g=0:=o_
 have o:=Ai nn.natAbs 1 o_ d_;have y:=Ai q 1 o_ d_;have Q:(bc nn.natAbs).length<=19:=xf (hX N d_) d_;have R:(bc q).length<=19:=xf (hX J d_) d_;rw[show low (max 1 (nd nn.natAbs)) nn.natAbs=bc nn.natAbs from rfl]at o;rw[show low (max 1 (nd q)) q=bc q from rfl]at y;have T:(if nn< -nn then -nn else nn)=(nn.natAbs:Nat):=by split<;>omega
 have w2:dx.wrap (-nn)= -nn:=aR _ o_ o_;have w3:dx.wrap nn=nn:=aR _ o_ o_;have w4:dx.wrap (q:Int)=q:=aR _ o_ o_;simp[l,x1,w1,M];refine c2 B ?_;have E:(1:Int)<q↔¬q=1:=o_
 have G:dx.wrap 1=1:=rfl;have S:(bc nn.natAbs).length<9223372036854775808:=o_
 by_cases k:nn<0
 ·have A:bQ nn=45::bc nn.natAbs:=by rw[bQ,if_pos k]
  rw[A];have s:nn< -nn:=o_
  have r:-nn=(nn.natAbs:Nat):=o_
  by_cases b:q=1
  ·simp[l,x1,u,v,w,w3,w4,k,w2,s,b];rw[r];refine c2 o ?_;simp[b,G];omega
  ·have m:=E.2 b;simp[l,x1,u,v,w,w3,w4,k,w2,s,b,m];rw[r];refine c2 o ?_;simp[b,m];refine⟨o_,o_,?_⟩;refine c2 y ?_;simp;omega
 ·have A:bQ nn=bc nn.natAbs:=by rw[bQ,if_neg k]
  rw[A];have r:nn=(nn.natAbs:Nat):=o_
  have s:¬nn< -nn:=o_
  by_cases b:q=1
  ·simp[l,x1,u,v,w,w3,w4,k,w2,s,b];rw[show PV.int .i64 nn=.int .i64 (nn.natAbs:Nat)by rw[<-r]];refine c2 o ?_;simp[b,G];omega
  ·have m:=E.2 b;simp[l,x1,u,v,w,w3,w4,k,w2,s,b,m];rw[show PV.int .i64 nn=.int .i64 (nn.natAbs:Nat)by rw[<-r]];refine c2 o ?_;simp[b,m];refine⟨o_,o_,?_⟩;refine c2 y ?_;simp;omega
theorem Fj(n:Int)(a:-9223372036854775808<=n)(b:n<=9223372036854775807):aq prog 65 [.int .i64 n] (.str (bk (n:Rat))):=by
 have e:=Oy n a b;have d:=E9 n (by
  have c:n.natAbs<bT^3:=by
   have:bT^3=1000000000000000000000000000:=d_
   omega
  have:=dV bg 3 _ c;omega)
 have hq:bk (n:Rat)=bQ n:=by rw[bk,if_pos (my n),mx]
 rw[hq];refine gA_ nf func65 mix ?_;simp[f65,c1 e,c1 d]
theorem aht(s:List Nat)(A:(bH s).all cA=true)(H:(bU s).all cA=true)(ag:s.length<=1000000):
 ∃(n d:Int)(b:Bool),aq prog 69 [.str s] (.aD [.int .i64 n,.int .i64 d,.bool b])/\(b=true->n=ln s/\d=(jg s:Nat)/\n.natAbs<1000000000/\jg s<1000000000):=by
 by_cases I:20<s.length
 ·refine⟨0,0,false,?_,fun h=>by cases h⟩;refine gA_ nf func69 mix ?_;have l:(20:Int)<s.length:=by omega
  simp[f69,l]
 obtain⟨d,j⟩:∃d,dh s=d:=⟨_,rfl⟩
 obtain⟨neg,f⟩:∃neg,b9 s=neg:=⟨_,rfl⟩
 have ae:d.length<=s.length:=by rw[<-j];exact(qK s).1
 have g:=xS d o_;have y:(ch 47 d).1=bH s:=by rw[<-j];rfl
 have L:(ch 47 d).2.1=bU s:=by rw[<-j];rfl
 have N:(ch 47 d).2.2=eU s:=by rw[<-j];rfl
 have o:=qZ 47 d;rw[y,L,N]at o;rw[y]at g;obtain⟨k,hk⟩:∃k,(bH s).length=k:=⟨_,rfl⟩
 rw[hk]at g;have O:k<=d.length:=by rw[<-hk,<-y];exact(u5 47 d).1
 have l:¬(20:Int)<s.length:=o_
 obtain⟨b,m⟩:∃b:Bool,b=(decide (k<=9)&&decide (d.length-k<=10)):=⟨_,rfl⟩
 have K:b=true->(ln s).natAbs<1000000000/\jg s<1000000000:=fun h=>by
  rw[m]at h;simp only[da,decide_eq_true_eq]at h;have t:=kA _ (bH s) rfl A;rw[hk]at t;have aa:bf (bH s)<1000000000:=hU t (hT (n:=10) d_ h.1);refine⟨by rw[ln];split<;>omega,?_⟩;rcases o with⟨q1,e⟩|⟨q1,e,ab⟩
  ·have T:(bU s).length<=9:=by
    have:=congrArg ho e;simp at this;omega
   have U:=kA _ (bU s) rfl H;rw[jg,if_pos q1];exact hU U (hT (n:=10) d_ T)
  ·rw[jg,q1,if_neg d_];decide
 refine⟨if b=true then ln s else 0,if b=true then(jg s:Nat)else 0,b,?_,fun h=>⟨if_pos h,if_pos h,by rw[if_pos h];exact(K h).1,(K h).2⟩⟩;refine gA_ nf func69 mix ?_;simp[f69,-aW];rw[aW];simp[-aW];rw[aW];simp[-aW];rw[aW,aW];simp[l,-aW];refine join (fun st=>aP st.env 5=.p (.str s)/\aP st.env 6=.p (.bool neg)/\st.heap=[]) ?_ ?_
 ·clear I l;cases s with
  |nil=>simp[<-f,b9]
  |cons c r=>
   by_cases hc:c=45
   ·simp[<-f,b9,hc]
   ·have X:¬(c:Int)=45:=by omega
    simp[<-f,b9,hc,X]
 rintro⟨R,Y⟩ ⟨x5,a,q⟩;dsimp only at x5 a q;subst q;refine join (fun st=>aP st.env 5=.p (.str d)/\aP st.env 6=.p (.bool neg)/\st.heap=[]) ?_ ?_
 ·cases hn:neg with
  |false=>
   have D:s=d:=by rw[<-j,dh,f,hn];rfl
   simp[x5,a,hn,D]
  |true=>
   clear g o hk L y N I l m;cases s with
   |nil=>simp[b9]at f;rw[hn]at f;cases f
   |cons c r=>
    have D:r=d:=by rw[<-j,dh,f,hn];rfl
    simp[x5,a,hn,D]
 clear x5 a;rintro⟨R,Y⟩ ⟨x5,a,q⟩;dsimp only at x5 a q;subst q;have ad:dx.wrap ((k:Int)+1)=(k:Int)+1:=aR _ o_ o_;have E:dx.wrap ((d.length:Int)-k)=(d.length:Int)-k:=aR _ o_ o_;have ac:((k:Int)+1).toNat=k+1:=o_
 have nz:ln s=if neg=true then -(bf (bH s):Int)else bf (bH s):=by rw[ln,f]
 rw[nz];rcases h5 9 k with B|B
 ·have V:¬k<=9:=by omega
  have i:(9:Int)<k:=o_
  have C:b=false:=by rw[m];simp[V]
  simp[x5,a,i,C,c1 g]
 rcases h5 10 (d.length-k)with G|G
 ·have S:¬d.length-k<=10:=by omega
  have i:¬(9:Int)<k:=o_
  have v:(10:Int)<(d.length:Int)-k:=o_
  have C:b=false:=by rw[m];simp[S]
  simp[x5,a,i,v,E,C,c1 g]
 have i:¬(9:Int)<k:=o_
 have v:¬(10:Int)<(d.length:Int)-k:=o_
 have w:b=true:=by rw[m];simp[B,G]
 have P:d.take k=bH s:=by
  rcases o with⟨_,e⟩|⟨_,e,_⟩
  ·rw[e,<-hk];simp
  ·rw[<-e,<-hk];simp
 have J:=A5 (bH s) A o_;have t:=kA _ (bH s) rfl A;rw[hk]at t;have aa:bf (bH s)<1000000000:=hU t (hT (n:=10) d_ B);rcases o with⟨q1,e⟩|⟨q1,e,ab⟩
 ·have x:k<d.length:=by rw[e];simp;omega
  have M:d.drop (k+1)=bU s:=by
   conv=>lhs;rw[e,<-hk]
   simp
  have af:(bU s).length<=9:=by rw[<-M,g9];omega
  have W:=A5 (bU s) H o_;have z:jg s=bf (bU s):=by rw[jg,if_pos q1]
  rw[z];generalize bf (bU s)=ah,bf (bH s)=u at*;have F:dx.wrap (-(u:Int))= -(u:Int):=aR _ o_ o_;clear e;simp[x5,a];refine c1 g ?_;have a1:(0:Int)<=k+1:=o_
  have Z:k+1<=d.length:=x;have Q:(k:Int)+1<=d.length:=o_
  simp[x5,a,i,v,E,w,O,P];refine c1 J ?_;cases neg<;>
  ·simp[x5,a,x,Z,ad,ac,M,a1,Q,F,w,c1 W]
 ·have x:¬k<d.length:=by rw[<-e,hk];omega
  have z:jg s=1:=by rw[jg,q1];rfl
  rw[z];generalize bf (bH s)=u at*;have F:dx.wrap (-(u:Int))= -(u:Int):=aR _ o_ o_;simp[x5,a];refine c1 g ?_;simp[x5,a,i,v,E,w,O,P];refine c1 J ?_;cases neg<;>simp[x5,a,x,F,w]
theorem DU{n k:Nat}(h:n<2^k):(au bT n).length<=k/29+1:=by
 refine dV bg _ _ (hU h ?_);have a:2^29<=bT:=d_
 refine hW ?_ (km a _);rw[<-j7];exact hT d_ o_
theorem NZ(q:Rat):ln (bk q)=q.num:=by
 obtain⟨a,b,_,_⟩:=vm q;rw[ln,a,b,ri]
 by_cases h:q.num<0
 ·rw[if_pos (by simpa using h)];omega
 ·rw[if_neg (by simpa using h)];omega
theorem IK(q:Rat):jg (bk q)=q.den:=by
 obtain⟨_,_,a,b⟩:=vm q;rw[jg,a,b]
 by_cases h:q.den=1
 ·rw[if_neg (by simpa using h),h]
 ·rw[if_pos (by simpa using h),if_neg h,ri]
theorem CA(q:Rat):(bH (bk q)).all cA=true/\(bU (bk q)).all cA=true:=by
 obtain⟨_,a,_,b⟩:=vm q;refine⟨by rw[a];exact qd _,?_⟩;rw[b];split
 ·rfl
 ·exact qd _
theorem sL{q:Rat}(h:aQ kB q):(bk q).length<=1000000:=by
 have a:(bc q.num.natAbs).length<=33334:=tK (K:=kB) (k:=33334) h.1 d_ d_;have b:(bc q.den).length<=33334:=tK (K:=kB) (k:=33334) h.2 d_ d_;have:=GY q;omega
theorem AL(q:Rat)(h:aQ kB q):∃(n d:Int)(b:Bool),aq prog 69 [.str (bk q)] (.aD [.int .i64 n,.int .i64 d,.bool b])/\(b=true->n=q.num/\d=(q.den:Nat)/\n.natAbs<1000000000/\q.den<1000000000):=by
 have:=aht (bk q) (CA q).1 (CA q).2 (sL h)
 rwa [NZ,IK]at this
theorem Ah(q:Rat)(h:aQ kB q):aq prog 71 [.str (bk q)] (.aD [eG q.num,eG (q.den:Nat)]):=by
 have:=MW (bk q) (CA q).1 (CA q).2 (sL h)
 rwa [NZ,IK]at this
theorem alA(a b:Rat):oT (a.num*b.den+b.num*a.den) (a.den*b.den)=a+b:=by
 rw[Rat.add_def'];rfl
theorem alB(a b:Rat):oT (a.num*b.num) (a.den*b.den)=a*b:=by
 rw[Rat.mul_def,Rat.normalize_eq_mkRat];rfl
theorem PA(a b:Rat):((a.den:Nat):Int)*(b.den:Nat)≠0:=by
 have c:=a.den_pos;have d:=b.den_pos;exact Int.ne_of_gt (Int.mul_pos o_ o_)
theorem yw{x y:Int}(hx:x.natAbs<1000000000)(a:y.natAbs<1000000000):(x*y).natAbs<=999999998000000001:=by
 rw[em];exact kk (show x.natAbs<=999999999 by omega) (show y.natAbs<=999999999 by omega)
theorem xt{x y:Int}(hx:x.natAbs<2^kB)(a:y.natAbs<2^kB):(au bT (x*y).natAbs).length<=10000:=by
 have h:=DU (n:=(x*y).natAbs) (k:=kB+kB) (by rw[em,i3];exact i8 hx a);exact hW h d_
theorem om{x:Nat}(hx:x<2^kB):(au bT x).length<=10000:=hW (DU hx) d_
theorem tJ(a b:Rat)(h:aQ kB a)(i:aQ kB b):aq prog 66 [.str (bk a),.str (bk b)] (.str (bk (a+b))):=by
 obtain⟨n,d,p,A,E⟩:=AL a h;obtain⟨m,e,r,B,F⟩:=AL b i;have t:=Ah a h;have u:=Ah b i;refine gA_ nf func66 mix ?_;rw[<-alA];have z:=PA a b
 by_cases j:p=true/\r=true
 ·obtain⟨rfl,rfl,k1,k2⟩:=E j.1;obtain⟨rfl,rfl,k3,k4⟩:=F j.2;have K:=yw k1 (show((b.den:Nat):Int).natAbs<1000000000 by rw[dy];exact k4);have L:=yw k3 (show((a.den:Nat):Int).natAbs<1000000000 by rw[dy];exact k2);have M:=yw (show((a.den:Nat):Int).natAbs<1000000000 by rw[dy];exact k2) (show((b.den:Nat):Int).natAbs<1000000000 by rw[dy];exact k4);have C:=Qa (a.num*b.den+b.num*a.den) (a.den*b.den) z o_ o_;have w1:dx.wrap (a.num*(b.den:Nat))=a.num*(b.den:Nat):=aR _ o_ o_;have w2:dx.wrap (b.num*(a.den:Nat))=b.num*(a.den:Nat):=aR _ o_ o_;have w3:dx.wrap (a.num*(b.den:Nat)+b.num*(a.den:Nat))=a.num*(b.den:Nat)+b.num*(a.den:Nat):=aR _ o_ o_;have w4:dx.wrap (((a.den:Nat):Int)*(b.den:Nat))=((a.den:Nat):Int)*(b.den:Nat):=aR _ o_ o_;have g:p=true:=j.1;have q:r=true:=j.2;simp(maxDischargeDepth:=99) [f66,g,q,w1,w2,w3,w4,c1 A,c1 B,c2 C]
 ·have l:a.num.natAbs<2^kB:=h.1;have o:b.num.natAbs<2^kB:=i.1;have c:((a.den:Nat):Int).natAbs<2^kB:=by rw[dy];exact h.2
  have f:((b.den:Nat):Int).natAbs<2^kB:=by rw[dy];exact i.2
  have w:=xR a.num (b.den:Nat) (by have:=om l;have:=om f;omega);have x:=xR b.num (a.den:Nat) (by have:=om o;have:=om c;omega);have y:=xR (a.den:Nat) (b.den:Nat) (by have:=om c;have:=om f;omega);have H:=xt l f;have I:=xt o c;have J:=xt c f;have v:=agN (a.num*(b.den:Nat)) (b.num*(a.den:Nat)) o_ o_;have G:(au bT (a.num*(b.den:Nat)+b.num*(a.den:Nat)).natAbs).length<=400000:=by
   refine hW (DU (k:=kB+kB+1) ?_) d_;have q1:(a.num*(b.den:Nat)).natAbs<2^(kB+kB):=by rw[em,i3];exact i8 l f
   have N:(b.num*(a.den:Nat)).natAbs<2^(kB+kB):=by rw[em,i3];exact i8 o c
   rw[h2];omega
  have s:=Kn (a.num*(b.den:Nat)+b.num*(a.den:Nat)) ((a.den:Nat)*(b.den:Nat)) z G o_;simp[f66];refine c1 A ?_;simp;refine c1 B ?_;have D:(p=false)\/(p=true/\r=false):=by cases p<;>cases r<;>simp_all
  rcases D with g|⟨g,q⟩
  ·simp(maxDischargeDepth:=99) [g,ad,c1 t,c1 u,e2 w,e2 x,e2 v,e2 y,e2 s]
  ·simp(maxDischargeDepth:=99) [g,q,ad,c1 t,c1 u,e2 w,e2 x,e2 v,e2 y,e2 s]
theorem gF(a b:Rat)(f:aQ kB a)(g:aQ kB b):aq prog 26 [.str (bk a),.str (bk b)] (.str (bk (a*b))):=by
 obtain⟨n,d,p,x,B⟩:=AL a f;obtain⟨m,e,r,y,C⟩:=AL b g;have s:=Ah a f;have t:=Ah b g;refine gA_ nf func26 mix ?_;rw[<-alB];have w:=PA a b
 by_cases h:p=true/\r=true
 ·obtain⟨rfl,rfl,k1,k2⟩:=B h.1;obtain⟨rfl,rfl,k3,k4⟩:=C h.2;have F:=yw k1 k3;have G:=yw (show((a.den:Nat):Int).natAbs<1000000000 by rw[dy];exact k2) (show((b.den:Nat):Int).natAbs<1000000000 by rw[dy];exact k4);have z:=Qa (a.num*b.num) (a.den*b.den) w o_ o_;have w1:dx.wrap (a.num*b.num)=a.num*b.num:=aR _ o_ o_;have w4:dx.wrap (((a.den:Nat):Int)*(b.den:Nat))=((a.den:Nat):Int)*(b.den:Nat):=aR _ o_ o_;have c:p=true:=h.1;have i:r=true:=h.2;simp(maxDischargeDepth:=99) [f26,c,i,w1,w4,c1 x,c1 y,c2 z]
 ·have j:a.num.natAbs<2^kB:=f.1;have l:b.num.natAbs<2^kB:=g.1;have k:((a.den:Nat):Int).natAbs<2^kB:=by rw[dy];exact f.2
  have o:((b.den:Nat):Int).natAbs<2^kB:=by rw[dy];exact g.2
  have u:=xR a.num b.num (by have:=om j;have:=om l;omega);have v:=xR (a.den:Nat) (b.den:Nat) (by have:=om k;have:=om o;omega);have D:=xt j l;have E:=xt k o;have q:=Kn (a.num*b.num) ((a.den:Nat)*(b.den:Nat)) w o_ o_;simp[f26];refine c1 x ?_;simp;refine c1 y ?_;have A:(p=false)\/(p=true/\r=false):=by cases p<;>cases r<;>simp_all
  rcases A with c|⟨c,i⟩
  ·simp(maxDischargeDepth:=99) [c,ad,c1 s,c1 t,e2 u,e2 v,e2 q]
  ·simp(maxDischargeDepth:=99) [c,i,ad,c1 s,c1 t,e2 u,e2 v,e2 q]
theorem aAv{a:Rat}(h:a≠0):a.num≠0:=fun e=>h (Rat.num_eq_zero.1 e)
theorem OE(s:List Nat)(g:s.length<=1048576):aq prog 63 [.str s] (.int .i64 (if s=[48]then 0 else if b9 s=true then -1 else 1)):=by
 refine gA_ nf func63 mix ?_
 by_cases b:s=[48]
 ·simp[f63,b]
 ·cases s with
  |nil=>simp[f63,b9]
  |cons c r=>
   by_cases hc:c=45
   ·simp[f63,b9,hc]
   ·have e:¬(c:Int)=45:=by omega
    have d:¬(c=48/\r=[]):=fun h=>b (by rw[h.1,h.2])
    by_cases a:c=48
    ·have f:¬r=[]:=fun h=>d ⟨a,h⟩;simp[f63,b9,a,f]
    ·simp[f63,b9,hc,e,a]
theorem As(q:Rat):q.num<0↔q<0:=by
 have h:=Fv q
 by_cases b:q<0
 ·rw[if_pos b]at h;refine⟨fun _=>b,fun _=>?_⟩
  by_cases a:q.num<0
  ·exact a
  ·rw[if_neg a]at h;split at h<;>omega
 ·refine⟨fun a=>?_,fun a=>(b a).elim⟩;rw[if_neg b,if_pos a]at h
  split at h<;>omega
def bL(q:Rat):Int:=if q<0 then -1 else if q=0 then 0 else 1
theorem lP:bk 0=[48]:=by
 have h:bQ 0=[48]:=by rw[show(0:Int)=((0:Nat):Int)from rfl,xg,ou]
 rw[bk,if_pos (show(0:Rat).den=1 from rfl)];exact h
theorem KB(q:Rat):bk q=[48]↔q=0:=by
 rw[<-lP];exact⟨fun h=>aHl h,fun h=>by rw[h]⟩
theorem aGb(q:Rat):(if bk q=[48]then(0:Int)else if b9 (bk q)=true then -1 else 1)=bL q:=by
 have c:=(vm q).1;have a:=KB q;have b:q<0↔q.num<0:=(As q).symm;rw[c,bL]
 by_cases hz:q=0
 ·subst hz;rw[if_pos (a.2 rfl),if_neg d_,if_pos rfl]
 ·rw[if_neg (fun h=>hz (a.1 h))]
  by_cases hn:q<0
  ·rw[if_pos (by simpa using b.1 hn),if_pos hn]
  ·rw[if_neg (by simpa using fun h=>hn (b.2 h)),if_neg hn,if_neg hz]
theorem oN(q:Rat)(h:aQ kB q):aq prog 63 [.str (bk q)] (.int .i64 (bL q)):=by
 have:=OE (bk q) (by have:=sL h;omega)
 rwa [aGb]at this
theorem OH{q:Rat}(h:q<0):bk q=45::bk (-q):=by
 have a:q.num<0:=(As q).2 h;have e1:bQ q.num=45::bc q.num.natAbs:=by rw[bQ,if_pos a]
 have e2:bQ (-q).num=bc q.num.natAbs:=by rw[m4,bQ,if_neg o_,eq]
 rw[bk,bk,Rat.neg_den,e1,e2]
 split<;>rfl
theorem ZY(q:Rat)(h:aQ kB q):aq prog 67 [.str (bk q)] (.str (bk (-q))):=by
 have a:=oN q h;have d:=sL h;refine gA_ nf func67 mix ?_
 by_cases hn:q<0
 ·have hs:bL q= -1:=by rw[bL,if_pos hn]
  rw[hs]at a;have b:=OH hn;rw[b]at a d⊢;simp[f67,c1 a]
 ·by_cases hz:q=0
  ·have hs:bL q=0:=by rw[bL,if_neg hn,if_pos hz]
   rw[hs]at a;have hq:-q=q:=by rw[hz];rfl
   rw[hq];simp[f67,c1 a]
  ·have hs:bL q=1:=by rw[bL,if_neg hn,if_neg hz]
   rw[hs]at a;have c:-q<0:=by
    rw[<-As,m4];have e:¬q.num<0:=fun h=>hn ((As q).1 h);have f:=aAv hz;omega
   have b:=OH c;rw[Rat.neg_neg]at b;rw[b];have g:(bk q).length+1<9223372036854775808:=o_
   simp[f67];refine c1 a ?_;simp;refine c1 a ?_;simp;omega
theorem rl(a b:Rat)(f:aQ kB a)(d:aQ kB b):aq prog 18 [.str (bk a),.str (bk b)] (.str (bk (a-b))):=by
 have e:=ZY b d;have c:=tJ a (-b) f (kU d);rw[<-Rat.sub_eq_add_neg]at c;refine gA_ nf func18 mix ?_;simp[f18,c1 e,c2 c]
theorem aF9(a b:Rat):bL (a-b)=cT a b:=by
 have c:a-b<0↔a<b:=by
  rw[<-m5,<-m5,<-Rat.le_iff_sub_nonneg]
 have d:a-b=0↔a=b:=by
  constructor
  ·intro h;have e:a-b+b=0+b:=by rw[h]
   rwa [md,mj]at e
  ·rintro rfl;exact m3
 rw[bL,cT]
 by_cases h:a<b
 ·rw[if_pos (c.2 h),if_pos h]
 ·rw[if_neg (fun x=>h (c.1 x)),if_neg h]
  by_cases hz:a=b
  ·rw[if_pos (d.2 hz),if_pos hz]
  ·rw[if_neg (fun x=>hz (d.1 x)),if_neg hz]
theorem ur(a b:Rat)(d:aQ (kB/3) a)(e:aQ (kB/3) b):aq prog 64 [.str (bk a),.str (bk b)] (.int .i64 (cT a b)):=by
 have f:=rl a b (d.mono d_) (e.mono d_);have c:=oN (a-b) ((fA d e).mono d_);rw[aF9]at c;refine gA_ nf func64 mix ?_;simp[f64,c2 f,c1 c]
theorem PZ{a b:Nat}(h:a<=b):10^a<=10^b:=hT d_ h
theorem PY{s:List Nat}{k:Nat}(h:s.length<=k)(a:s.all cA=true):bf s<10^k:=hU (kA _ s rfl a) (PZ h)
theorem aCn{x a b:Nat}(hx:x<10^a)(h:a<=9*b):(au bT x).length<=b:=dV bg b x (hU hx (by
 rw[show bT^b=10^(9*b)by rw[j7];rfl];exact PZ h))
theorem Zn(s:List Nat)(B:s.length<=1048576):aq prog 207 [.str s] (.bool (s.all cA)):=by
 refine gA_ nf func207 mix ?_;obtain⟨k,hk,n,o⟩:=Eb (fun j=>cA (s[j]?.getD 0)) s.length;have e:∀j(h:j<s.length),s[j]?.getD 0=s[j]:=fun j h=>by rw[fl h];rfl
 have A:s.all cA=decide (k=s.length):=by
  rcases o with h|⟨a,b⟩
  ·rw[h,decide_eq_true rfl,gc];intro x hx;obtain⟨j,z,rfl⟩:=hD hx;have:=n j o_
   rwa [e j z]at this
  ·rw[decide_eq_false o_];rw[e k a]at b
   by_cases m:s.all cA=true
   ·have:=gc.1 m _ (gj a);rw[this]at b;cases b
   ·simpa using m
 rw[A];simp[f207];refine lp (α:=Nat) (fun i=>⟨[(3,.p (.int .i64 i)),(0,.p (.str s))],[]⟩)
  (fun i=>i<=k) (fun i=>k-i) 0 (i5 _) ?_
 intro i hi;have w4:dx.wrap ((i:Int)+1)=(i:Int)+1:=aR _ o_ o_
 by_cases w:i<k
 ·have l:i<s.length:=by omega
  have hn:=n i w;rw[e i l]at hn;have C:=Bf hn;generalize d:s[i]=c at*;have f:s[i]?=some c:=by rw[fl l,d]
  have a:¬(c:Int)<48:=o_
  have b:¬(57:Int)<c:=o_
  have r:¬c<48:=o_
  have t:¬57<c:=o_
  simp[l,d,f,a,b,r,t,w4];exact rd (i+1) (show i+1<=k by omega)
 ·have y:i=k:=by omega
  subst y;rcases o with h|⟨a,b⟩
  ·simp[h]
  ·rw[e i a]at b;have q:¬i=s.length:=by omega
   generalize d:s[i]=c at*;have f:s[i]?=some c:=by rw[fl a,d]
   by_cases hc:c<48
   ·have g:(c:Int)<48:=by omega
    simp[a,d,f,hc,g,q]
   ·have u:57<c:=by
     simp only[cA,Bool.and_eq_false_iff,decide_eq_false_iff_not]at b;omega
    have g:¬(c:Int)<48:=o_
    have v:(57:Int)<c:=o_
    simp[a,d,f,hc,g,u,v,q]
theorem LZ(s:List Nat)(i:s.length<=1048576):aq prog 138 [.str s] (.bool (dI s)):=by
 have b:=Zn s i;refine gA_ nf func138 mix ?_;cases s with
 |nil=>simp[f138,dI]
 |cons c r=>
  have j:(c:Int)=48↔c=48:=o_
  by_cases a:r=[]
  ·subst a;have e:dI [c]=[c].all cA:=by
    rw[dI]
    by_cases h:c=48
    ·subst h;rfl
    ·simp[h]
   rw[e];simp[f138,c1 b]
  ·have d:0<r.length:=fp.2 a;have hz:¬(r.length:Int)+1=0:=by omega
   have f:(1:Int)<r.length+1:=o_
   by_cases hc:c=48
   ·have e:dI (c::r)=false:=by rw[dI,hc];simp[a]
    rw[e];simp[f138,a,hc,d,hz,f]
   ·have g:¬(c:Int)=48:=by omega
    have e:dI (c::r)=(c::r).all cA:=by rw[dI];simp[hc]
    rw[e];simp[f138,a,hc,g,d,hz,f];refine c1 b ?_;simp
theorem yr(s:List Nat)(hs:jG s):aq prog 77 [.str s] (.int .i64 (bZ s)):=by
 refine gA_ nf func77 mix ?_;obtain⟨aU,aH⟩:=hs;obtain⟨d,O⟩:∃d,dh s=d:=⟨_,rfl⟩
 obtain⟨neg,n⟩:∃neg,b9 s=neg:=⟨_,rfl⟩
 have aM:d.length<=s.length:=by rw[<-O];exact(qK s).1
 have Q:=xS d o_;have U:(ch 47 d).1=bH s:=by rw[<-O];rfl
 have S:(ch 47 d).2.1=bU s:=by rw[<-O];rfl
 have ac:(ch 47 d).2.2=eU s:=by rw[<-O];rfl
 have l:=qZ 47 d;have y:=u5 47 d;rw[U,S,ac]at l;rw[U]at Q y;rw[S]at y;obtain⟨k,hk⟩:∃k,(bH s).length=k:=⟨_,rfl⟩
 rw[hk]at Q;have P:k<=d.length:=by rw[<-hk];exact y.1
 have ap:d.take k=bH s:=by
  rcases l with⟨_,A⟩|⟨_,A,_⟩
  ·rw[A,<-hk];simp
  ·rw[<-A,<-hk];simp
 have I:=LZ (bH s) o_;have f:=LZ (bU s) o_;simp[f77,-aW];rw[aW];simp[-aW];rw[aW];simp[-aW];refine join (fun st=>aP st.env 0=.p (.str s)/\aP st.env 3=.p (.str d)/\st.heap=[]) ?_ ?_
 ·cases hn:neg with
  |false=>
   have ao:s=d:=by rw[<-O,dh,n,hn];rfl
   clear Q l hk S U ac ap I f y P;subst ao;cases s with
   |nil=>simp
   |cons c r=>
    rw[hn]at n;have hc:¬c=45:=fun h=>by rw[h]at n;simp[b9]at n
    have aj:¬(c:Int)=45:=o_
    simp[hc,aj]
  |true=>
   clear Q l hk S U ac ap I f y P;cases s with
   |nil=>simp[b9]at n;rw[hn]at n;cases n
   |cons c r=>
    have ao:r=d:=by rw[<-O,dh,n,hn];rfl
    rw[hn]at n;have hc:c=45:=by simpa[b9]using n
    simp[hc,ao]
 rintro⟨aD,aQ⟩ ⟨D,x3,af⟩;dsimp only at D x3 af;subst af;have ab:mC s=(dI (bH s)&&!(neg&&decide (bH s=[48]))&&(!eU s||(dI (bU s)&&decide (bU s≠[48])&&decide (bU s≠[49])))):=by rw[mC,n]
 have a4:d.length<=1048576:=o_
 have R:(bH s).all cA=true->(bU s).all cA=true->eU s=true->0<k->d.length<=1000000->aq prog 71 [.str d] (.aD [eG (bf (bH s):Nat),eG (bf (bU s):Nat)]):=fun j K ar az aV=>by
  have ah:b9 d=false/\dh d=d:=by
   have aC:b9 d=false:=by
    rcases l with⟨_,A⟩|⟨q1,_⟩
    ·cases T:bH s with
     |nil=>rw[T]at hk;simp at hk;omega
     |cons c r=>
      rw[T]at A j;have:=Bf (gc.1 j c s_);rw[A,b9];simp;omega
    ·rw[ar]at q1;cases q1
   exact⟨aC,by rw[dh,aC];rfl⟩
  have e1:bH d=bH s:=by rw[bH,ah.2,U]
  have e2:bU d=bU s:=by rw[bU,ah.2,S]
  have e3:eU d=true:=by rw[eU,ah.2,ac];exact ar
  have:=MW d (by rw[e1];exact j) (by rw[e2];exact K) aV;rw[ln,jg,e1,e2,ah.1,if_pos e3]at this;exact this
 rw[bZ];generalize mC s=J,bH s=i,bU s=e,eU s=fr at*;have ag:gg k d=i:=ap
 by_cases G:dI i=true
 ·have az:0<k:=by
   rw[<-hk,fp];intro h;rw[h]at G;cases G
  obtain⟨c,r,hs⟩:∃c r,s=c::r:=by
   cases s with
   |nil=>
    have:d.length<=0:=by simpa using aM
    omega
   |cons c r=>exact⟨c,r,rfl⟩
  have ak:c=45↔neg=true:=by rw[<-n,hs];simp[b9]
  have aj:(c:Int)=45↔c=45:=o_
  rw[G]at I;clear aH aU O n U S ac
  by_cases L:neg=true/\i=[48]
  ·have hf:J=false:=by rw[ab,L.1,L.2];simp
   have aL:=ak.2 L.1;rw[if_pos hf];clear l y f R ak aj;subst hs aL;have T:=L.2;simp[D,x3];refine c1 Q ?_;simp[D,x3,P,ag];refine c1 I ?_;simp[D,x3,P,ag,T]
  ·subst hs;rw[aW];simp[D,x3,-aW];refine c1 Q ?_;simp[D,x3,-aW];refine join (fun st=>aP st.env 3=.p (.str d)/\aP st.env 4=.p (.int .i64 k)/\st.heap=[]) ?_ ?_
   ·by_cases j:c=45
    ·have T:¬i=[48]:=fun h=>L ⟨ak.1 j,h⟩;subst j;clear l y f R;simp[D,x3,P,ag,T,c1 I]
    ·have aE:¬(c:Int)=45:=by omega
     clear l y f R;simp[D,x3,P,ag,j,aE,c1 I]
   clear D x3;rintro⟨aD,aQ⟩ ⟨x3,x4,af⟩;dsimp only at x3 x4 af;subst af;cases ae:fr with
   |false=>
    have m:k=d.length:=by
     rcases l with⟨q1,_⟩|⟨_,A,_⟩
     ·rw[ae]at q1;cases q1
     ·rw[<-hk,A]
    have aA:¬k<d.length:=o_
    have aN:e=[]:=by
     rcases l with⟨q1,_⟩|⟨_,_,a0⟩
     ·rw[ae]at q1;cases q1
     ·exact a0
    have hf:J=true:=by
     rw[ab,G,ae];simp
     by_cases j:neg=true
     ·exact .inr fun K=>L ⟨j,K⟩
     ·exact .inl (by simpa using j)
    have V:dx.wrap ((d.length:Int)-k)=0:=by rw[m,e8];rfl
    have W:dx.wrap (-1)= -1:=rfl;rw[hf,hk,aN];clear l y f R
    by_cases F:600<k
    ·have o:¬(k:Int)<=600:=by omega
     have q:¬k<=600:=o_
     have t:(600:Int)<k:=o_
     simp[x3,x4,aA,F,o,q,t]
    ·have o:(k:Int)<=600:=by omega
     have q:k<=600:=o_
     have t:¬(600:Int)<k:=o_
     simp[x3,x4,aA,F,o,q,t,V,W]
   |true=>
    rw[ae]at ab R;have an:d=i++47::e:=by
     rcases l with⟨_,A⟩|⟨q1,_⟩
     ·exact A
     ·rw[ae]at q1;cases q1
    have m:k<d.length:=by rw[an];simp;omega
    have z:d.drop (k+1)=e:=by
     conv=>lhs;rw[an,<-hk]
     simp
    have a5:d.length=k+1+e.length:=by rw[an];simp;omega
    have C:dx.wrap ((k:Int)+1)=(k:Int)+1:=aR _ o_ o_;have B:((k:Int)+1).toNat=k+1:=o_
    have a1:(0:Int)<=k+1:=o_
    have u:(k:Int)+1<=d.length:=o_
    have v:k+1<=d.length:=m;clear l y;have aa:J=(dI e&&decide (e≠[48])&&decide (e≠[49])):=by
     rw[ab,G];have:(neg&&decide (i=[48]))=false:=by
      by_cases j:neg=true
      ·have:¬i=[48]:=fun K=>L ⟨j,K⟩;simp[this]
      ·have:neg=false:=by simpa using j
       rw[this];rfl
     rw[this];simp
    by_cases al:J=true
    ·rw[al]at aa;have aS:¬J=false:=by rw[al];decide
     rw[if_neg aS];have aG:dI e=true/\¬e=[48]/\¬e=[49]:=by
      have:=aa.symm;simp only[da,decide_eq_true_eq]at this;exact⟨this.1.1,this.1.2,this.2⟩
     obtain⟨H,E,w⟩:=aG;rw[H]at f;rw[hk];have V:dx.wrap ((d.length:Int)-k)=(d.length:Int)-k:=aR _ o_ o_;have W:dx.wrap ((d.length:Int)-k-1)=e.length:=by rw[aR _ o_ o_];omega
     by_cases F:600<k
     ·have o:¬(k:Int)<=600:=by omega
      have q:¬k<=600:=o_
      have t:(600:Int)<k:=o_
      simp[x3,x4,m,C,B,a1,u,v,z,E,w,F,o,q,t,c1 f]
     by_cases X:600<e.length
     ·have o:(k:Int)<=600:=by omega
      have q:k<=600:=o_
      have t:¬(600:Int)<k:=o_
      have Y:(600:Int)<e.length:=o_
      simp[x3,x4,m,C,B,a1,u,v,z,E,w,F,o,q,t,V,W,X,Y,c1 f]
     have o:(k:Int)<=600:=o_
     have q:k<=600:=o_
     have t:¬(600:Int)<k:=o_
     have Y:¬(600:Int)<e.length:=o_
     have N:=R (kT G) (kT H) rfl az o_;have aO:=AE H E;have aY:i.length<=700:=o_
     have aZ:e.length<=700:=o_
     have aI:bf i<10^700:=PY (s:=i) (k:=700) aY (kT G);have aK:bf e<10^700:=PY (s:=e) (k:=700) aZ (kT H);have aB:∀x:Nat,x<10^700->(au bT x).length<=400000:=fun x hx=>hW (aCn (a:=700) (b:=78) hx d_) d_;have M:=MF (bf i) (bf e) (aB _ aI) (aB _ aK);have ax:0<i0 (bf i) (bf e):=jh _ aO;generalize bf i=a3,bf e=a2 at*;obtain⟨g,ai⟩:∃g,i0 a3 a2=g:=⟨_,rfl⟩
     simp only[ai]at M ax⊢;have aX:¬(600<k\/600<e.length):=fun h=>by rcases h with h|h;exact F h;exact X h
     rw[if_neg aX];simp only[eG,dy]at N
     by_cases am:g=1
     ·subst am;have Z:au bT 1=[1]:=pB d_ d_;simp only[eT,Z]at M N;simp(maxDischargeDepth:=99) [x3,x4,m,C,B,a1,u,v,z,E,w,F,o,q,t,V,W,X,Y,ad,ai,c1 f,c1 N,c2 M]
     ·by_cases ay:g<bT
      ·have Z:au bT g=[g]:=pB ax ay;have aT:¬(g:Int)=1:=by omega
       simp only[eT,Z]at M N;simp(maxDischargeDepth:=99) [x3,x4,m,C,B,a1,u,v,z,E,w,F,o,q,t,V,W,X,Y,ad,am,aT,ai,c1 f,c1 N,c2 M]
      ·have Z:¬((au bT g).length:Int)=1:=by
        intro h;have K:(au bT g).length=1:=o_
        have:=cC bg g;rw[K,j6]at this;exact ay this
       simp only[eT]at M N;simp(maxDischargeDepth:=99) [x3,x4,m,C,B,a1,u,v,z,E,w,F,o,q,t,V,W,X,Y,ad,am,Z,ai,c1 f,c1 N,c2 M]
    ·have aw:J=false:=by simpa using al
     rw[if_pos aw]
     by_cases H:dI e=true
     ·rw[H]at f
      by_cases E:e=[48]
      ·simp[x3,x4,m,C,B,a1,u,v,z];refine c1 f ?_;simp[x3,x4,m,C,B,a1,u,v,z,E]
      ·have w:e=[49]:=by
        rw[H]at aa
        by_cases w:e=[49]
        ·exact w
        ·rw[aw]at aa;simp[E,w]at aa
       simp[x3,x4,m,C,B,a1,u,v,z];refine c1 f ?_;simp[x3,x4,m,C,B,a1,u,v,z,w]
     ·have aF:dI e=false:=by simpa using H
      rw[aF]at f;simp[x3,x4,m,C,B,a1,u,v,z,c1 f]
 ·have av:dI i=false:=by simpa using G
  have hf:J=false:=by rw[ab,av];rfl
  rw[if_pos hf];rw[av]at I;simp(maxDischargeDepth:=99) [D,x3,P,ag,c1 Q,c1 I]
theorem MC(l:List (List Nat))(f:l.length<=1000000)(hs:∀s∈l,jG s):aq prog 62 [.seq (l.map .str)] (.int .i64 (bJ (l.map bZ))):=by
 refine gA_ nf func62 mix ?_;simp[f62];refine lp (α:=Nat) (fun i=>⟨[(3,.p (.int .i64 i)),(0,.p (.seq (l.map .str)))],[]⟩) (fun i=>i<=l.length/\bJ ((l.drop i).map bZ)=bJ (l.map bZ)) (fun i=>l.length-i) 0 s_ ?_;rintro i ⟨e,a⟩
 by_cases hi:i<l.length
 ·rw[gx hi]at a;have d:=cH (i:=i) o_;have hc:=yr l[i] (hs _ (gj hi));obtain⟨s,b⟩:∃s,l[i]=s:=⟨_,rfl⟩
  have c:l[i]?=some s:=by rw[fl hi,b]
  rw[b]at hc a;simp[hi,c,b];refine c1 hc ?_
  by_cases he:bZ s=0
  ·simp[bJ,he]at a;simp[he,d];exact rd (i+1) ⟨hi,by simpa using a⟩
  ·simp[bJ,he]at a;simp[he,<-a]
 ·have:i=l.length:=by omega
  subst this;simp[bJ]at a;simp[<-a]
theorem Dn(p:bS)(a:jF p):aq prog 30 [dA p] (.int .i64 (dM p)):=by
 have hc:=MC [p.x,p.y] s_ (by intro s hs;simp at hs;rcases hs with rfl|rfl;exact a.1;exact a.2);refine gA_ nf func30 mix ?_;simp[f30,ad];refine cp hc (by simp;exact⟨rfl,rfl⟩) ?_;simp[dM]
theorem KC(z:Int):47∉bQ z:=by
 rw[bQ];split
 ·simp only[g8,not_or];exact⟨d_,CG (qd _) rfl⟩
 ·exact CG (qd _) rfl
theorem CW(q:Rat):(ch 47 (bk q)).1=bQ q.num/\(q.den≠1->bk q=bQ q.num++47::bc q.den)/\(q.den=1->bk q=bQ q.num):=by
 by_cases h:q.den=1
 ·have e:bk q=bQ q.num:=by rw[bk,if_pos h]
  refine⟨?_,fun a=>(a h).elim,fun _=>e⟩;rw[e,D5 47 _ (KC _)]
 ·have e:bk q=bQ q.num++47::bc q.den:=by rw[bk,if_neg h]
  refine⟨?_,fun _=>e,fun a=>(h a).elim⟩;rw[e,Eo 47 _ _ (KC _)]
theorem ZZ(q:Rat)(h:aQ kB q):aq prog 79 [.str (bk q)] (.str (bQ q.num)):=by
 have i:=sL h;obtain⟨e,c,d⟩:=CW q;have hs:=xS (bk q) o_;rw[e]at hs;have g:(bk q).take (bQ q.num).length=bQ q.num:=by
  by_cases b:q.den=1
  ·rw[d b];simp
  ·rw[c b];simp
 have f:(bQ q.num).length<=(bk q).length:=by
  by_cases b:q.den=1
  ·rw[d b];exact h7 _
  ·rw[c b];simp
 refine gA_ nf func79 mix ?_;generalize bQ q.num=a,bk q=s at*;simp[f79,g,f,c1 hs]
theorem ZT(q:Rat)(h:aQ kB q):aq prog 80 [.str (bk q)] (.str (bc q.den)):=by
 have d:=sL h;obtain⟨g,i,j⟩:=CW q;have hs:=xS (bk q) o_;rw[g]at hs;refine gA_ nf func80 mix ?_
 by_cases c:q.den=1
 ·have e:=j c;rw[c,GZ];rw[e]at hs⊢;generalize bQ q.num=a at*;simp[f80,c1 hs]
 ·have e:=i c;rw[e]at hs d⊢;generalize bQ q.num=a,bc q.den=b at*;simp only[gm,hl]at d;have l:¬(a.length:Int)=(a.length:Int)+(b.length+1):=by omega
  have o:dx.wrap ((a.length:Int)+1)=(a.length:Int)+1:=aR _ o_ o_;have n:((a.length:Int)+1).toNat=a.length+1:=o_
  have a1:(0:Int)<=(a.length:Int)+1:=o_
  have f:(a.length:Int)+1<=(a.length:Int)+(b.length+1):=o_
  have k:hM (a.length+1) (a++47::b)=b:=s_
  have m:gg (a.length+(b.length+1)) (a++47::b)=a++47::b:=fm s_;simp[f80,l,o,n,a1,f,k,m,c1 hs]
theorem ZR(z:Int)(h:(bQ z).length<=1000000):aq prog 78 [.str (bQ z)] (.str (bc z.natAbs)):=by
 have a:=OE (bQ z) o_;have f:b9 (bQ z)=decide (z<0):=by
  have:=(An z []).1;rwa [g6]at this
 have d:bQ z=[48]↔z=0:=by
  have e:bQ z=bk (z:Rat):=by rw[bk,if_pos (my z),mx]
  rw[e,KB]
  exact_mod_cast Iff.rfl
 refine gA_ nf func78 mix ?_;rw[f]at a
 by_cases hz:z<0
 ·have e:bQ z=45::bc z.natAbs:=by rw[bQ,if_pos hz]
  rw[if_neg (fun x=>by have:=d.1 x;omega),if_pos (by simpa using hz)]at a;rw[e]at a⊢;simp[f78,c1 a]
 ·have e:bQ z=bc z.natAbs:=by rw[bQ,if_neg hz]
  have b:∃v:Int,¬v<0/\aq prog 63 [.str (bQ z)] (.int .i64 v):=by
   by_cases c:bQ z=[48]
   ·rw[if_pos c]at a;exact⟨0,o_,a⟩
   ·rw[if_neg c,if_neg (by simpa using hz)]at a;exact⟨1,o_,a⟩
  obtain⟨v,g,b⟩:=b;rw[e]at b⊢;simp[f78,g,c1 b]
def eH(s:List Nat)(D:Nat):Bool:=decide (s.length<=2*D+2)&&decide (bZ s=0)&&decide ((bc (bm s).num.natAbs).length<=D)&&decide ((bc (bm s).den).length<=D)
theorem ai0{s:List Nat}(h:bZ s=0):aQ kB (bm s):=by
 obtain⟨b,c⟩:=H3 h;have a:(10:Nat)^mD<=2^kB:=hW (NP mD) (hT d_ d_);exact⟨hU b a,hU c a⟩
theorem B8(s:List Nat)(D:Nat)(hs:jG s)(t:D<=100000):aq prog 29 [.str s,.int .i64 D] (.bool (eH s D)):=by
 have g:=yr s hs;have u:=hs.1;refine gA_ nf func29 mix ?_;have w1:dx.wrap (2*(D:Int))=2*(D:Int):=aR _ o_ o_;have w2:dx.wrap (2*(D:Int)+2)=2*(D:Int)+2:=aR _ o_ o_
 by_cases k:s.length<=2*D+2
 ·have f:(s.length:Int)<=2*(D:Int)+2:=by omega
  by_cases d:bZ s=0
  ·have j:=ai0 d;have e:=(jx d).1;rw[d]at g;have i:=ZZ (bm s) j;have n:=ZT (bm s) j;have p:(bQ (bm s).num).length<=1000000:=by
    have:=sL j;obtain⟨_,q,r⟩:=CW (bm s)
    by_cases o:(bm s).den=1
    ·rw[r o]at this;exact this
    ·rw[q o]at this;simp at this;omega
   have m:=ZR (bm s).num p;rw[e]at i n;have hf:eH s D=(decide ((bc (bm s).num.natAbs).length<=D)&&decide ((bc (bm s).den).length<=D)):=by
    rw[eH,decide_eq_true k,decide_eq_true d];simp
   rw[hf];generalize bc (bm s).num.natAbs=a,bc (bm s).den=b,bQ (bm s).num=c at*
   by_cases l:a.length<=D
   ·have h:(a.length:Int)<=D:=by omega
    simp(maxDischargeDepth:=99) [f29,w1,w2,f,l,h,c1 g,c1 i,c1 m,c1 n]
   ·have h:¬(a.length:Int)<=D:=by omega
    simp(maxDischargeDepth:=99) [f29,w1,w2,f,l,h,c1 g,c1 i,c1 m]
  ·have hf:eH s D=false:=by rw[eH,decide_eq_false d];simp
   rw[hf];simp[f29,w1,w2,f,d,c1 g]
 ·have f:¬(s.length:Int)<=2*(D:Int)+2:=by omega
  have hf:eH s D=false:=by rw[eH,decide_eq_false k];simp
  rw[hf];simp[f29,w1,w2,f]
structure V2 where
 x:Rat
 y:Rat
def eV(v:V2):PV:=dA ⟨bk v.x,bk v.y⟩
@[simp] theorem aNM(v:V2):aL (eV v)=.agg 31:=rfl
@[simp] theorem aMa(v:V2):bW (eV v)=[.str (bk v.x),.str (bk v.y)]:=rfl
theorem Bm(x y:Rat):eV ⟨x,y⟩=.st 31 [.str (bk x),.str (bk y)]:=rfl
def bd(k:Nat)(v:V2):Prop:=aQ k v.x/\aQ k v.y
theorem bd.mono{k l:Nat}{v:V2}(h:bd k v)(a:k<=l):bd l v:=⟨h.1.mono a,h.2.mono a⟩
def V2.sub(v w:V2):V2:=⟨v.x-w.x,v.y-w.y⟩
def V2.add(v w:V2):V2:=⟨v.x+w.x,v.y+w.y⟩
def V2.mul(v:V2)(k:Rat):V2:=⟨v.x*k,v.y*k⟩
def V2.dot(v w:V2):Rat:=v.x*w.x+v.y*w.y
def V2.bu(v w:V2):Rat:=v.x*w.y-v.y*w.x
theorem gY{k l:Nat}{v w:V2}(h:bd k v)(a:bd l w):bd (k+l+1) (v.sub w):=⟨fA h.1 a.1,fA h.2 a.2⟩
theorem aAE{k l:Nat}{v w:V2}(h:bd k v)(a:bd l w):bd (k+l+1) (v.add w):=⟨kl h.1 a.1,kl h.2 a.2⟩
theorem fe{k l:Nat}{v w:V2}(h:bd k v)(a:bd l w):aQ (k+l+(k+l)+1) (v.dot w):=kl (bC h.1 a.1) (bC h.2 a.2)
theorem mS{k l:Nat}{v w:V2}(h:bd k v)(a:bd l w):aQ (k+l+(k+l)+1) (v.bu w):=fA (bC h.1 a.2) (bC h.2 a.1)
theorem CI{k l:Nat}{v:V2}{a:Rat}(h:bd k v)(b:aQ l a):bd (k+l) (v.mul a):=⟨bC h.1 b,bC h.2 b⟩
def kQ:Nat:=20000
theorem dH{q:Rat}(h:aQ kQ q):aQ kB q:=h.mono d_
theorem FV(v w:V2)(a:bd kQ v)(b:bd kQ w):aq prog 261 [eV v,eV w] (eV (v.sub w)):=by
 have c:=rl v.x w.x (dH a.1) (dH b.1);have d:=rl v.y w.y (dH a.2) (dH b.2);refine gA_ nf func261 mix ?_;rw[V2.sub,Bm];simp(maxDischargeDepth:=99) [f261,ad,e2 c,e2 d]
theorem ZV(v w:V2)(a:bd kQ v)(b:bd kQ w):aq prog 295 [eV v,eV w] (.str (bk (v.dot w))):=by
 have c:=gF v.x w.x (dH a.1) (dH b.1);have d:=gF v.y w.y (dH a.2) (dH b.2);have e:=tJ (v.x*w.x) (v.y*w.y) ((bC a.1 b.1).mono d_) ((bC a.2 b.2).mono d_);refine gA_ nf func295 mix ?_;rw[V2.dot];simp(maxDischargeDepth:=99) [f295,ad,e2 c,e2 d,e2 e]
theorem S7(v w:V2)(a:bd kQ v)(b:bd kQ w):aq prog 294 [eV v,eV w] (.str (bk (v.bu w))):=by
 have c:=gF v.x w.y (dH a.1) (dH b.2);have d:=gF v.y w.x (dH a.2) (dH b.1);have e:=rl (v.x*w.y) (v.y*w.x) ((bC a.1 b.2).mono d_) ((bC a.2 b.1).mono d_);refine gA_ nf func294 mix ?_;rw[V2.bu];simp(maxDischargeDepth:=99) [f294,ad,e2 c,e2 d,e2 e]
theorem UY(v:V2)(a:bd kQ v):aq prog 260 [eV v] (.str (bk (v.dot v))):=by
 refine gA_ nf func260 mix ?_;simp[f260,ad,c2 (ZV v v a a)]
def bR(r:Int):Rat:=((4*r*r:Int):Rat)
theorem yc{r:Int}(a:0<=r)(b:r<=1000000):0<=4*r*r/\4*r*r<=4000000000000:=by
 have c:=er a a;have d:=Int.mul_le_mul b b a d_;rw[Int.mul_assoc];omega
theorem qP{r:Int}(a:0<=r)(b:r<=1000000):aQ 42 (bR r):=by
 have:=yc a b;exact Bb o_ d_
def dC(r:Int)(w d:V2):Rat:=w.dot d*w.dot d-d.dot d*(w.dot w-bR r)
def mE(r:Int)(w d:V2):Bool:=decide (0<bL (w.dot d))&&decide (0<bL (dC r w d))
structure S3 where
 a:Rat
 b:Rat
 d:Rat
def eS(s:S3):PV:=.st 44 [.str (bk s.a),.str (bk s.b),.str (bk s.d)]
@[simp] theorem aNC(s:S3):aL (eS s)=.agg 44:=rfl
@[simp] theorem aL1(s:S3):bW (eS s)=[.str (bk s.a),.str (bk s.b),.str (bk s.d)]:=rfl
theorem kY(a b d:Rat):eS ⟨a,b,d⟩=.st 44 [.str (bk a),.str (bk b),.str (bk d)]:=rfl
def xe(r:Int)(w d:V2):S3:=⟨w.dot d/d.dot d,-(d.dot d)⁻¹,dC r w d⟩
theorem X9:prog.stoodInHeld 32=false:=k_
@[simp] theorem aLw:tP prog 32=true:=k_
def vc(a b c d:List Nat):Bool:=decide (a=c/\b=d)
@[simp] theorem aLx{a b c d:List Nat}:iW prog 9 32 (.st 31 [.str a,.str b]) (.st 31 [.str c,.str d])=some (vc a b c d):=by
 have e:=underlying32;have:((a==c)&&((b==d)&&true))=vc a b c d:=by
  rw[vc,Bool.eq_iff_iff];simp
 rw[<-this];simp[iW,e,X9,jS,aL]
theorem Z3:aq prog 31 [] (eV ⟨0,0⟩):=by
 refine gA_ nf func31 mix ?_;rw[Bm,lP];simp[f31,ad]
def lV(p:bS):Int:=if dM p=0/\p.x=[48]/\p.y=[48]then 6 else dM p
theorem U1(p:bS)(e:jF p):aq prog 6 [dA p] (.int .i64 (lV p)):=by
 have a:=Dn p e;have b:=Z3;rw[Bm,lP]at b;refine gA_ nf func6 mix ?_;rw[lV];obtain⟨x,y⟩:=p;simp only[dA]at*;generalize dM ⟨x,y⟩=c at*
 by_cases h:c=0
 ·by_cases hx:x=[48]
  ·by_cases d:y=[48]
   ·simp[f6,ad];refine c1 a ?_;simp[h,ad];refine e0 b ?_;simp[hx,d,vc,h]
   ·simp[f6,ad];refine c1 a ?_;simp[h,ad];refine e0 b ?_;simp[hx,d,vc,h]
  ·simp[f6,ad,h,hx,vc,c1 a,e0 b]
 ·simp[f6,ad,h,c1 a]
theorem Fc(p:bS)(D:Nat)(d:jF p)(c:D<=100000):aq prog 5 [dA p,.int .i64 D] (.bool (eH p.x D&&eH p.y D)):=by
 have a:=B8 p.x D d.1 c;have b:=B8 p.y D d.2 c;refine gA_ nf func5 mix ?_;obtain⟨x,y⟩:=p;dsimp only at a b⊢;simp only[dA];cases hx:eH x D
 ·rw[hx]at a;simp[f5,ad,c2 a]
 ·rw[hx]at a;simp[f5,ad,c2 a,c2 b]
def dN(k:Nat)(s:S3):Prop:=aQ k s.a/\aQ k s.b/\aQ k s.d
theorem dN.mono{k l:Nat}{s:S3}(h:dN k s)(a:k<=l):dN l s:=⟨h.1.mono a,h.2.1.mono a,h.2.2.mono a⟩
def S3.add(s t:S3):S3:=⟨s.a+t.a,s.b+t.b,s.d⟩
def S3.mul(s t:S3):S3:=⟨s.a*t.a+s.b*t.b*s.d,s.a*t.b+t.a*s.b,s.d⟩
def S3.times(x:Rat)(s:S3):S3:=⟨x*s.a,x*s.b,s.d⟩
theorem FX{k l:Nat}{x:Rat}{s:S3}(hx:aQ k x)(hs:dN l s):dN (k+l) (S3.times x s):=⟨bC hx hs.1,bC hx hs.2.1,hs.2.2.mono o_⟩
theorem wE{k l:Nat}{s t:S3}(hs:dN k s)(a:dN l t):dN (k+l+(k+l+k)+1) (s.mul t):=
 ⟨kl (bC hs.1 a.1) (bC (bC hs.2.1 a.2.1) hs.2.2),(kl (bC hs.1 a.2.1) (bC a.1 hs.2.1)).mono o_,hs.2.2.mono o_⟩
theorem B7(s t:S3)(hs:dN 30000 s)(c:dN 30000 t):aq prog 22 [eS s,eS t] (eS (s.add t)):=by
 have d:=tJ s.a t.a (hs.1.mono d_) (c.1.mono d_);have e:=tJ s.b t.b (hs.2.1.mono d_) (c.2.1.mono d_);refine gA_ nf func22 mix ?_;rw[S3.add,kY];simp(maxDischargeDepth:=99) [f22,ad,e2 d,e2 e]
theorem yE(s t:S3)(hs:dN 20000 s)(c:dN 20000 t):aq prog 23 [eS s,eS t] (eS (s.mul t)):=by
 have e:=gF s.a t.a (hs.1.mono d_) (c.1.mono d_);have f:=gF s.b t.b (hs.2.1.mono d_) (c.2.1.mono d_);have g:=gF (s.b*t.b) s.d ((bC hs.2.1 c.2.1).mono d_) (hs.2.2.mono d_);have h:=tJ (s.a*t.a) ((s.b*t.b)*s.d) ((bC hs.1 c.1).mono d_) ((bC (bC hs.2.1 c.2.1) hs.2.2).mono d_);have i:=gF s.a t.b (hs.1.mono d_) (c.2.1.mono d_);have j:=gF t.a s.b (c.1.mono d_) (hs.2.1.mono d_);have k:=tJ (s.a*t.b) (t.a*s.b) ((bC hs.1 c.2.1).mono d_) ((bC c.1 hs.2.1).mono d_);refine gA_ nf func23 mix ?_;rw[S3.mul,kY];simp(maxDischargeDepth:=99) [f23,ad,e2 e,e2 f,e2 g,e2 h,e2 i,e2 j,e2 k]
theorem ag4(a b d:List Nat):aq prog 124 [.str a,.str b,.str d] (.st 44 [.str a,.str b,.str d]):=by
 refine gA_ nf func124 mix ?_;simp[f124,ad]
theorem PO(x:Rat)(s:S3)(hx:aQ 30000 x)(hs:dN 30000 s):aq prog 68 [.str (bk x),eS s] (eS (S3.times x s)):=by
 have c:=gF x s.a (hx.mono d_) (hs.1.mono d_);have e:=gF x s.b (hx.mono d_) (hs.2.1.mono d_);have f:=ag4 (bk (x*s.a)) (bk (x*s.b)) (bk s.d);refine gA_ nf func68 mix ?_;rw[S3.times,kY];simp(maxDischargeDepth:=99) [f68,ad,e2 c,e2 e,e3 f]
structure P4 where
 x:S3
 y:S3
def nI(p:P4):PV:=.st 49 [eS p.x,eS p.y]
@[simp] theorem aNw(p:P4):aL (nI p)=.agg 49:=rfl
@[simp] theorem aLV(p:P4):bW (nI p)=[eS p.x,eS p.y]:=rfl
@[simp] theorem ceS:prog.cellsOf 44=3:=k_
def ku(k:Nat)(p:P4):Prop:=dN k p.x/\dN k p.y
theorem ku.mono{k l:Nat}{p:P4}(h:ku k p)(a:k<=l):ku l p:=⟨h.1.mono a,h.2.mono a⟩
def P4.dot(v:V2)(p:P4):S3:=(S3.times v.x p.x).add (S3.times v.y p.y)
theorem ZU(v:V2)(p:P4)(b:bd 3000 v)(a:ku 3000 p):aq prog 21 [eV v,nI p] (eS (P4.dot v p)):=by
 have c:=PO v.x p.x (b.1.mono d_) (a.1.mono d_);have d:=PO v.y p.y (b.2.mono d_) (a.2.mono d_);have e:=B7 (S3.times v.x p.x) (S3.times v.y p.y) ((FX b.1 a.1).mono d_) ((FX b.2 a.2).mono d_);refine gA_ nf func21 mix ?_;rw[P4.dot];simp(maxDischargeDepth:=99) [f21,ad,e2 c,e2 d,e2 e]
theorem kV(q:Rat):bL q= -1\/bL q=0\/bL q=1:=by
 rw[bL];split
 ·exact .inl rfl
 ·split
  ·exact .inr (.inl rfl)
  ·exact .inr (.inr rfl)
theorem FY(x y:Rat):cT x y= -1\/cT x y=0\/cT x y=1:=by
 rw[cT];split
 ·exact .inl rfl
 ·split
  ·exact .inr (.inl rfl)
  ·exact .inr (.inr rfl)
theorem kX{a b:Int}(c:a= -1\/a=0\/a=1)(d:b= -1\/b=0\/b=1):a*b= -1\/a*b=0\/a*b=1:=by
 rcases c with rfl|rfl|rfl<;>rcases d with rfl|rfl|rfl<;>simp
theorem kW{a:Int}(b:a= -1\/a=0\/a=1):dx.wrap a=a:=by
 rcases b with rfl|rfl|rfl<;>decide
def gn(a b o:Int):Int:=if 0<=a*b then(if a=0 then b else a)else a*o
def cJ(s:S3):Int:=gn (bL s.a) (bL s.b*bL s.d) (cT (s.a*s.a) (s.b*s.b*s.d))
theorem S4{a b o:Int}(c:a= -1\/a=0\/a=1)(d:b= -1\/b=0\/b=1)(e:o= -1\/o=0\/o=1):gn a b o= -1\/gn a b o=0\/gn a b o=1:=by
 rw[gn]
 split
 ·split
  ·exact d
  ·exact c
 ·exact kX c e
theorem rz(s:S3):cJ s= -1\/cJ s=0\/cJ s=1:=S4 (kV _) (kX (kV _) (kV _)) (FY _ _)
theorem C3(s:S3)(e:aQ 16600 s.a)(f:aQ 13000 s.b)(i:aQ 8000 s.d)(t:aQ 32000 (s.b*s.b*s.d)):aq prog 15 [eS s] (.int .i64 (cJ s)):=by
 have k:=oN s.a (e.mono d_);have l:=oN s.b (f.mono d_);have m:=oN s.d (i.mono d_);have n:=gF s.a s.a (e.mono d_) (e.mono d_);have p:=gF s.b s.b (f.mono d_) (f.mono d_);have q:=gF (s.b*s.b) s.d ((bC f f).mono d_) (i.mono d_);have r:=ur (s.a*s.a) (s.b*s.b*s.d) ((bC e e).mono d_) (t.mono d_);have g:=kV s.a;have h:=kX (kV s.b) (kV s.d);have j:=FY (s.a*s.a) (s.b*s.b*s.d);have w1:=kW h;refine gA_ nf func15 mix ?_;rw[cJ];generalize cT (s.a*s.a) (s.b*s.b*s.d)=o,bL s.a=x,bL s.b=y1,bL s.d=y2 at*;have w2:=kW (kX g h);have w3:=kW (kX g j);simp[f15,ad,-aW];rw[aW];simp[-aW,ad];rw[aW];simp[-aW,ad];refine e1 k ?_;simp[ad];refine e1 l ?_;simp[ad];refine e1 m ?_;simp[ad,w1];generalize y1*y2=y at*;rw[gn]
 by_cases c:0<=x*y
 ·rw[if_pos c]
  by_cases c2:x=0
  ·subst c2;have u:dx.wrap 0=0:=by decide
   simp[u,ad]
  ·rw[if_neg c2];simp[c,c2,w2,ad]
 ·rw[if_neg c];simp(maxDischargeDepth:=99) [c,w2,ad,w3,e2 n,e2 p,e2 q,e2 r]
theorem PQ(s:S3)(hs:dN 8000 s):aq prog 15 [eS s] (.int .i64 (cJ s)):=C3 s (hs.1.mono d_) (hs.2.1.mono d_) (hs.2.2.mono d_) ((bC (bC hs.2.1 hs.2.1) hs.2.2).mono d_)
namespace Hk
def lS:Nat:=9223372036854775808
def Bs:Nat:=1606938044258990275541962092341162602522202993782792835301376
def rF{α:Type}(n:Nat)(f:Nat->α):α:=match n with
 |0=>f 0
 |k+1=>f (k+1)
theorem xY{α:Type}(n:Nat)(f:Nat->α):rF n f=f n:=by cases n<;>rfl
def Ce{α:Type}(z:Int)(f:Int->α):α:=match z with
 | .ofNat n=>rF n fun n=>f (.ofNat n)
 | .negSucc n=>rF n fun n=>f (.negSucc n)
theorem Oc{α:Type}(z:Int)(f:Int->α):Ce z f=f z:=by cases z<;>simp[Ce,xY]
def rO:Int->Bool
 | .ofNat n=>j1 n lS
 | .negSucc n=>j1 (n+1) lS
theorem EO{z:Int}:rO z=true↔z.natAbs<9223372036854775808:=by
 cases z with
 |ofNat n=>simp only[rO,j4,lS];exact Iff.rfl
 |negSucc n=>simp only[rO,j4,lS];exact Iff.rfl
def qj:Int->Int->Bool
 | .ofNat a,.ofNat b=>h8 a b
 | .negSucc a,.negSucc b=>h8 a b
 |_,_=>false
theorem BB:∀{a b:Int},qj a b=true->a=b
 | .ofNat a,.ofNat b,h=>by simp only[qj]at h;rw[hZ h]
 | .negSucc a,.negSucc b,h=>by simp only[qj]at h;rw[hZ h]
 | .ofNat a,.negSucc b,h=>by simp[qj]at h
 | .negSucc a,.ofNat b,h=>by simp[qj]at h
def vS(z:Int):Option PV:=bif rO z then some (fE z)else bif h8 z.natAbs lS then none else some (lR z)
theorem A4{z:Int}{p:PV}(h:vS z=some p)(m:Bool):eI ⟨z,m⟩=p:=by
 unfold vS at h;rw[kh];rcases hs:rO z with _|_
 ·simp only[hs,cond_false]at h;rcases a:h8 z.natAbs lS with _|_
  case true=>rw[a]at h;cases h
  ·have c:¬h8 z.natAbs lS=true:=by rw[a];decide
   rw[a,cond_false]at h;simp only[l4]at h;have b:¬z.natAbs<9223372036854775808:=fun h=>by rw[EO.2 h]at hs;cases hs
   have d:z.natAbs≠9223372036854775808:=fun e=>c (by rw[e];rfl);rw[if_neg,h];simp only[NI.sm,dl,decide_eq_true_eq,da,not_or,not_and];exact⟨o_,fun h=>by omega⟩
 ·simp only[hs,cond_true,l4]at h;have b:=EO.1 hs;rw[if_pos,h];simp only[NI.sm,dl,decide_eq_true_eq,da];exact .inl o_
def yU:List PV->Option (List Nat)
 |[]=>some []
 | .int .u64 (.ofNat x)::r=>match yU r with
  |some l=>some (x::l)
  |none=>none
 |_=>none
theorem ON:∀{l:List PV}{a:List Nat},yU l=some a->l=a.map fun x:Nat=>PV.int .u64 x
 |[],a,h=>by simp only[yU,l4]at h;subst h;rfl
 |v::r,a,h=>by
  unfold yU at h
  split at h
  ·rename_i e;cases e
  ·rename_i x c e;cases e
   split at h
   ·rename_i l b;simp only[l4]at h;subst h;rw[ON b];rfl
   ·cases h
  ·cases h
def uc:List Nat->List Nat->Bool
 |[],[]=>true
 |x::a,y::b=>bif h8 x y then uc a b else false
 |_,_=>false
theorem EK:∀{a b:List Nat},uc a b=true->a=b
 |[],[],_=>rfl
 |[],_::_,h=>by simp[uc]at h
 |_::_,[],h=>by simp[uc]at h
 |x::a,y::b,h=>by
  simp only[uc,db]at h
  split at h
  ·rename_i hx;rw[hZ hx,EK h]
  ·cases h
def Cc:PV->Option Int
 | .st u [.int .i64 z,.aK]=>bif h8 u 113 then(bif rO z then some z else none)else none
 | .st u [.int .i64 s,.seq l]=>match yU l with
  |some a=>rF (jH wB a) fun n=>bif h8 u 113&&(j1 lS n&&uc (au wB n) a)then
   (bif qj s 1 then some (.ofNat n)else bif qj s (-1)then some (.negSucc (n-1))else none)else none
  |none=>none
 |_=>none
theorem Of{p:PV}{z:Int}(h:Cc p=some z):p=eI ⟨z,false⟩:=by
 unfold Cc at h
 split at h
 ·rename_i u y;simp only[db]at h
  split at h
  ·rename_i f
   split at h
   ·rename_i hs;simp only[l4]at h;subst h;rw[hZ f];exact(A4 (by rw[vS,hs];rfl) false).symm
   ·cases h
  ·cases h
 ·rename_i u s l
  split at h
  ·rename_i g hn;rw[xY]at h;have e:=ON hn;generalize jH wB g=n at h;simp only[db]at h
   split at h
   ·rename_i hc;simp only[da,j4]at hc;obtain⟨b,i,c⟩:=hc;have d:=EK c;have j:lS=9223372036854775808:=rfl;rw[hZ b,e,<-d];have key:∀z:Int,z.natAbs=n->eI ⟨z,false⟩=lR z:=fun z hz=>by
     refine A4 ?_ false;have e1:rO z=false:=by
      rcases a:rO z with _|_
      ·rfl
      ·have:=EO.1 a;omega
     have e2:h8 z.natAbs lS=false:=by
      rcases a:h8 z.natAbs lS with _|_
      ·rfl
      ·have:=hZ a;omega
     rw[vS,e1,e2];rfl
    split at h
    ·rename_i hs;simp only[l4]at h;subst h;rw[BB hs,key _ rfl,lR,if_neg (by show¬((n:Int)<0);omega)];rfl
    ·split at h
     ·rename_i hs;simp only[l4]at h;subst h;rw[BB hs,key _ (by show n-1+1=n;omega),lR,if_pos o_];have:(ey (n-1)).natAbs=n:=by show n-1+1=n;omega
      rw[this];rfl
     ·cases h
   ·cases h
  ·cases h
 ·cases h
def Gv(n:Int)(d:Nat):Bool:=j1 0 d&&(j1 n.natAbs Bs&&(j1 d Bs&&h8 (i0 n.natAbs d) 1))
def rD:PV->Option (Int×Nat)
 | .st u [a,b]=>match Cc a,Cc b with
  |some n,some (.ofNat d)=>bif h8 u 115&&Gv n d then some (n,d)else none
  |_,_=>none
 |_=>none
def fr(n:Int)(d:Nat):NF:=⟨mb n d,false⟩
theorem Xi:Bs=2^200:=d_
theorem EP{p:PV}{n:Int}{d:Nat}(h:rD p=some (n,d)):p=eF (fr n d)/\d≠0/\aQ kB (fr n d).q:=by
 unfold rD at h
 split at h
 case h_2=>cases h
 rename_i u a b
 split at h
 case h_2=>cases h
 rename_i c d' g i;simp only[db]at h
 split at h
 case isFalse=>cases h
 rename_i hc;simp only[l4,Prod.mk.injEq]at h;obtain⟨rfl,rfl⟩:=h;simp only[Gv,da,j4]at hc;obtain⟨c1,c2,c3,c4,c5⟩:=hc;have f:=hZ c5;have e:d'≠0:=o_
 obtain⟨e1,e2⟩:=mY (n:=c) e;rw[f]at e1 e2;simp only[eP,fa,i4]at e1 e2;rw[Xi]at c3 c4;refine⟨?_,e,(Ey e c3 c4).mono d_⟩;rw[hZ c1,Of g,Of i,eF];have g1:(fr c d').num=⟨c,false⟩:=by rw[NF.num,fr,e1]
 have g2:(fr c d').den=⟨(d':Int),false⟩:=by rw[NF.den,fr,e2];rfl
 rw[g1,g2];rfl
def oX(n:Int)(d:Nat):Option PV:=
 rF (i0 n.natAbs d) fun g=>Ce (n/g) fun n=>rF (d/g) fun d=>match vS n,vS (.ofNat d)with
  |some a,some b=>some (.st 115 [a,b])
  |_,_=>none
theorem qY{n:Int}{d:Nat}{p:PV}(f:d≠0)(h:oX n d=some p)(m:Bool):p=eF ⟨mb n d,m⟩:=by
 obtain⟨e1,e2⟩:=mY (n:=n) f;simp only[oX,xY,Oc]at h
 split at h
 case h_2=>cases h
 rename_i a b c e;simp only[l4]at h;subst h;rw[eF];have g1:(NF.num ⟨mb n d,m⟩)=⟨n/(i0 n.natAbs d:Nat),m⟩:=by rw[NF.num,e1]
 have g2:(NF.den ⟨mb n d,m⟩)=⟨((d/i0 n.natAbs d:Nat):Int),false⟩:=by rw[NF.den,e2];rfl
 rw[g1,g2,A4 c,<-A4 e false];rfl
def two(op:Int->Nat->Int->Nat->Option PV)(a b:PV):Option PV:=match rD a,rD b with
 |some (n,d),some (m,e)=>op n d m e
 |_,_=>none
theorem yb{op:Int->Nat->Int->Nat->Option PV}{a b p:PV}(h:two op a b=some p):
 ∃n d m e,a=eF (fr n d)/\b=eF (fr m e)/\d≠0/\e≠0/\aQ kB (fr n d).q/\aQ kB (fr m e).q/\op n d m e=some p:=by
 unfold two at h
 split at h
 case h_2=>cases h
 rename_i n d m e i j;obtain⟨a1,a2,a3⟩:=EP i;obtain⟨c,f,g⟩:=EP j;exact⟨n,d,m,e,a1,c,a2,f,a3,g,h⟩
def RZ(n:Int)(d:Nat)(m:Int)(e:Nat):Option PV:=oX (n*e+m*d) (d*e)
def R3(n:Int)(d:Nat)(m:Int)(e:Nat):Option PV:=oX (n*e-m*d) (d*e)
def R0(n:Int)(d:Nat)(m:Int)(e:Nat):Option PV:=oX (n*m) (d*e)
def Cz:Int->Int
 | .ofNat n=>bif h8 n 0 then 0 else 1
 | .negSucc _=>-1
theorem NG(z:Int):Cz z=if z<0 then -1 else if z=0 then 0 else 1:=by
 cases z with
 |ofNat n=>
  rw[if_neg s_];cases n with
  |zero=>rfl
  |succ n=>rw[if_neg (by simp;omega)];rfl
 |negSucc n=>rw[if_pos o_];rfl
def Gt(n:Int)(d:Nat)(m:Int)(e:Nat):Option PV:=some (.int .i64 (Cz (n*e-m*d)))
def Cq(n:Int)(d:Nat)(m:Int)(e:Nat):Option PV:=match m with
 | .ofNat k=>bif h8 k 0 then none else oX (n*e) (d*k)
 | .negSucc k=>oX (-(n*e)) (d*(k+1))
theorem vQ{d:Nat}(h:d≠0):(d:Int)≠0:=o_
theorem afQ{n m:Int}{d e:Nat}{p:PV}(a:d≠0)(b:e≠0)(h:RZ n d m e=some p):p=eF ((fr n d).add (fr m e)):=by
 rw[NF.add,fr,fr];dsimp only;rw[mo _ _ (vQ a) (vQ b)];have:=qY (jp a b) h;rw[ed]at this;exact this _
theorem agL{n m:Int}{d e:Nat}{p:PV}(a:d≠0)(b:e≠0)(h:R3 n d m e=some p):p=eF ((fr n d).sub (fr m e)):=by
 rw[NF.sub,NF.add,NF.neg,fr,fr];dsimp only;rw[m1,mo _ _ (vQ a) (vQ b)];have:=qY (jp a b) h;rw[ed]at this;rw[fd,<-Int.sub_eq_add_neg];exact this _
theorem agH{n m:Int}{d e:Nat}{p:PV}(a:d≠0)(b:e≠0)(h:R0 n d m e=some p):p=eF ((fr n d).mul (fr m e)):=by
 rw[NF.mul,fr,fr];dsimp only;rw[me];have:=qY (jp a b) h;rw[ed]at this;exact this _
theorem Zi(x y:Rat):cT x y=if x-y<0 then -1 else if x-y=0 then 0 else 1:=by
 have b:x-y<0↔x<y:=by
  constructor
  ·intro h;have a:=(mp (c:=y)).2 h
   rwa [md,mj]at a
  ·intro h;refine(mp (c:=y)).1 ?_
   rwa [md,mj]
 have a:x-y=0↔x=y:=by
  constructor
  ·intro h;have d:=congrArg (·+y) h
   simpa[md,mj]using d
  ·intro h;rw[h,m3]
 simp only[cT,b,a]
theorem D4(n:Int){d:Nat}(f:d≠0):(if mb n d<0 then(-1:Int)else if mb n d=0 then 0 else 1)=Cz n:=by
 rw[Fv,NG];obtain⟨e1,-⟩:=mY (n:=n) f;have j:0<i0 n.natAbs d:=jh _ o_;have i:((i0 n.natAbs d:Nat):Int)∣n:=by
  rw[en];exact kb _ _
 obtain⟨c,hc⟩:=i;rw[e1];generalize i0 n.natAbs d=g at*;have a:(0:Int)<g:=o_
 subst hc;rw[ek _ o_];have a1:(g:Int)*c<0↔c<0:=by
  constructor
  ·intro h;refine Int.not_le.1 fun e=>?_;have:=er (eo a) e;omega
  ·intro h;exact ew a h
 have b:(g:Int)*c=0↔c=0:=by
  rw[Int.mul_eq_zero];constructor
  ·rintro(h|h)
   ·omega
   ·exact h
  ·exact fun h=>.inr h
 simp only[a1,b]
theorem agh{n m:Int}{d e:Nat}{p:PV}(a:d≠0)(b:e≠0)(h:Gt n d m e=some p):p=.int .i64 (cT (fr n d).q (fr m e).q):=by
 simp only[Gt,l4]at h;rw[<-h,Zi,fr,fr];dsimp only;rw[Rat.divInt_sub_divInt _ _ (vQ a) (vQ b),<-ed,D4 _ (jp a b)]
theorem Pe{n m:Int}{d e:Nat}{p:PV}(a:d≠0)(b:e≠0)(h:Cq n d m e=some p):p=eF ((fr n d).div (fr m e))/\(fr m e).q≠0:=by
 have hz:m≠0->(fr m e).q≠0:=fun f hq=>by
  rw[fr]at hq;dsimp only at hq;have:=D4 m b;rw[hq,if_neg d_,if_pos rfl,NG]at this
  split at this
  ·omega
  ·first
     |omega
     |(rw[if_neg f]at this;omega)
 rw[NF.div,fr,fr];dsimp only;unfold Cq at h;cases m with
 |ofNat k=>
  simp only[db]at h
  split at h
  ·cases h
  ·rename_i hk;have c:k≠0:=fun e=>hk (by rw[e];rfl);have:=qY (jp a c) h;refine⟨?_,hz (by show(k:Int)≠0;omega)⟩;have e:(mb n d:Rat)/mb (Int.ofNat k) e=mb (n*e) (d*k):=by
    rw[mm,m2,me];rfl
   rw[e];rw[ed]at this;exact this _
 |negSucc k=>
  dsimp only at h;have:=qY (jp a (Nat.succ_ne_zero k)) h;refine⟨?_,hz o_⟩;have e:(mb n d:Rat)/mb (ey k) e=mb (-(n*e)) ((d:Int)*((k+1:Nat):Int)):=by
   rw[mm,m2,me];rw[show ey k= -((k+1:Nat):Int)from rfl,fi];rw[Rat.divInt_neg']
  rw[e];rw[ed]at this;exact this _
def Co:Nat->Nat->Nat
 |0,_=>0
 |f+1,n=>bif h8 n 0 then 0 else Co f (n/10)+1
theorem ZN{a b:Nat}(h:a<b):j1 a b=true:=by rw[j4];exact h
theorem Ca{a b:Nat}(h:j1 a b=true):a<b:=by rw[j4]at h;exact h
theorem O8:∀(f n:Nat),n<10^f->Co f n=nd n
 |0,n,h=>by
  have:n=0:=by simpa using h
  subst this;rw[nd];rfl
 |f+1,n,h=>by
  rw[Co,nd]
  by_cases a:n=0
  ·subst a;rfl
  ·have b:h8 n 0=false:=by
    rcases c:h8 n 0 with _|_
    ·rfl
    ·exact(a (hZ c)).elim
   rw[b,cond_false,dif_neg a,O8 f (n/10) (by rw[h3 o_];rw[h2]at h;exact h)]
def wv(n:Nat):List Nat:=rF (Co 80 n) fun k=>bif j1 1 k then low k n else low 1 n
theorem BG{n:Nat}(h:n<10^80):wv n=bc n:=by
 rw[wv,xY,O8 _ _ h,bc];rcases a:j1 1 (nd n)with _|_
 ·have:¬1<nd n:=fun b=>by rw[ZN b]at a;cases a
  rw[cond_false,Nat.max_eq_left o_]
 ·have:1<nd n:=Ca a;rw[cond_true,Nat.max_eq_right o_]
def GK:Int->List Nat
 | .ofNat n=>wv n
 | .negSucc n=>45::wv (n+1)
theorem aHo{z:Int}(h:z.natAbs<10^80):GK z=bQ z:=by
 cases z with
 |ofNat n=>rw[bQ,if_neg (by show¬((n:Int)<0);omega)];exact BG h
 |negSucc n=>rw[bQ,if_pos o_];exact congrArg (45::·) (BG h)
def GJ(n:Int)(d:Nat):List Nat:=bif h8 d 1 then GK n else GK n++47::wv d
theorem MO{n:Int}{d:Nat}(a:d≠0)(b:i0 n.natAbs d=1):(fr n d).q.num=n/\(fr n d).q.den=d:=by
 obtain⟨e1,e2⟩:=mY (n:=n) a;rw[b]at e1 e2;simp only[eP,fa,i4]at e1 e2;exact⟨e1,e2⟩
theorem MT{p:PV}{n:Int}{d:Nat}(h:rD p=some (n,d)):i0 n.natAbs d=1/\n.natAbs<10^80/\d<10^80:=by
 unfold rD at h
 split at h
 case h_2=>cases h
 split at h
 case h_2=>cases h
 simp only[db]at h
 split at h
 case isFalse=>cases h
 rename_i hc;simp only[l4,Prod.mk.injEq]at h;obtain⟨rfl,rfl⟩:=h;simp only[Gv,da,j4]at hc;obtain⟨c1,c2,c3,c4,c5⟩:=hc;have a:Bs<10^80:=d_
 exact⟨hZ c5,o_,o_⟩
theorem aHm{p:PV}{n:Int}{d:Nat}(h:rD p=some (n,d))(f:d≠0):GJ n d=bk (fr n d).q:=by
 obtain⟨g,b,c⟩:=MT h;obtain⟨e1,e2⟩:=MO f g;rw[GJ,bk,e1,e2,aHo b,BG c];rcases a:h8 d 1 with _|_
 ·rw[cond_false,if_neg (fun e=>by rw[e]at a;cases a)]
 ·rw[cond_true,if_pos (hZ a)]
def rB:List Nat->Nat->Bool
 |[],_=>true
 |c::r,f=>match f with
  |0=>false
  |f+1=>bif j1 c 256 then rB r f else false
theorem yi:∀{s:List Nat}{f:Nat},rB s f=true->s.length<=f/\∀c∈s,c<256
 |[],_,_=>⟨i5 _,fun c hc=>by cases hc⟩
 |c::r,0,h=>by simp[rB]at h
 |c::r,f+1,h=>by
  simp only[rB,db]at h
  split at h
  ·rename_i hc;obtain⟨b,a⟩:=yi h;refine⟨by simp;omega,fun x hx=>?_⟩;rcases g8.1 hx with rfl|hx
   ·exact Ca hc
   ·exact a x hx
  ·cases h
def RR(z:Int):Bool:=match z with
 | .ofNat n=>h8 n 0
 |_=>false
theorem ayo{z:Int}(h:RR z=true):z=0:=by
 cases z with
 |ofNat n=>rw[hZ (show h8 n 0=true from h)];rfl
 |negSucc n=>cases h
def F7(n:Int)(d:Nat):Option PV:=bif h8 d 0 then none else oX n d
theorem amv{n:Int}{d:Nat}{p:PV}(h:F7 n d=some p)(m:Bool):p=eF ⟨mb n d,m⟩:=by
 unfold F7 at h;rcases a:h8 d 0 with _|_
 ·rw[a]at h;exact qY (fun e=>by rw[e]at a;cases a) h m
 ·rw[a]at h;cases h
def F8(s:List Nat):Option PV:=bif RR (bZ s)&&rB s 1000 then
 Ce (if b9 s=true then -(bf (bH s):Int)else bf (bH s)) fun n=>rF (if eU s=true then bf (bU s)else 1) fun d=>F7 n d else none
theorem amw{s:List Nat}{p:PV}(h:F8 s=some p):p=eF ⟨bm s,false⟩/\bZ s=0/\s.length<=1048576:=by
 unfold F8 at h;simp only[db,Oc,xY]at h
 split at h
 case isFalse=>cases h
 rename_i hc;rw[da]at hc;obtain⟨c1,c2⟩:=hc;obtain⟨a,b⟩:=yi c2;refine⟨?_,ayo c1,o_⟩;rw[bm];exact amv h false
def QD:Int->Bool
 | .ofNat n=>j1 n lS
 | .negSucc n=>j1 n lS
theorem aq0{z:Int}(h:QD z=true):-9223372036854775808<=z/\z<=9223372036854775807:=by
 cases z with
 |ofNat n=>have:n<9223372036854775808:=Ca h;refine⟨?_,?_⟩<;>show _<=_<;>simp only[Int.ofNat_eq_natCast]<;>omega
 |negSucc n=>have:n<9223372036854775808:=Ca h;omega
def Gx(f:Nat)(a:PV):Option PV:=match a with
 | .int .i64 z=>bif h8 f 99&&QD z then oX z 1 else none
 | .str s=>bif h8 f 118 then F8 s else bif h8 f 219&&rB s 1000 then some (.int .i64 (bZ s))else none
 | .st u [.str x,.str y]=>bif h8 f 84&&(h8 u 31&&(rB x 1000&&rB y 1000))then some (.int .i64 (dM ⟨x,y⟩))else none
 | .st u [c,e]=>match rD (.st u [c,e])with
  |some (n,d)=>bif h8 f 116 then oX (-n) d else
   bif h8 f 143 then some (.int .i64 (Cz n))else
   bif h8 f 115 then Cq 1 1 n d else
   bif h8 f 117 then some (.str (GJ n d))else
   bif h8 f 97 then some (.bool false)else none
  |none=>none
 |_=>none
def wu(f:Nat)(a b:PV):Option PV:=
 bif h8 f 119 then two RZ a b else
 bif h8 f 140 then two R3 a b else
 bif h8 f 120 then two R0 a b else
 bif h8 f 100 then two Cq a b else
 bif h8 f 88 then two Gt a b else none
def hk(f:Nat):List PV->Option PV
 |[a]=>Gx f a
 |[a,b]=>wu f a b
 |_=>none
theorem Qk(z:Int):mb z ((1:Nat):Int)=(z:Rat):=by
 rw[show((1:Nat):Int)=1 from rfl,Rat.divInt_eq_div];rw[show((1:Int):Rat)=1 from rfl,mm,show(1:Rat)⁻¹=1 from by decide+kernel,Rat.mul_one]
theorem bq{a b:Nat}(h:h8 a b=true):a=b:=hZ h
theorem aAJ{f:Nat}{a v:PV}(h:Gx f a=some v):aq prog f [a] v:=by
 unfold Gx at h
 split at h
 ·rename_i z;simp only[db]at h
  split at h
  ·rename_i hc;rw[da]at hc;obtain⟨r1,t⟩:=aq0 hc.2;rw[bq hc.1,qY d_ h true];have:=mI z r1 t;rw[NF.int]at this;rw[Qk];exact this
  ·cases h
 ·rename_i s;simp only[db]at h
  split at h
  ·rename_i hf;obtain⟨e1,e2,e3⟩:=amw h;rw[bq hf,e1];exact mG s e2 e3
  ·split at h
   ·rename_i hc;rw[da]at hc;obtain⟨j,b⟩:=yi hc.2;simp only[l4]at h;subst h;rw[bq hc.1];exact BL s o_ b
   ·cases h
 ·rename_i u x y;simp only[db]at h
  split at h
  ·rename_i hc;simp only[da]at hc;obtain⟨c1,c2,c3,c4⟩:=hc;obtain⟨j,b⟩:=yi c3;obtain⟨w,o⟩:=yi c4;simp only[l4]at h;subst h;rw[bq c1,bq c2];exact zK ⟨x,y⟩ ⟨⟨by show x.length<=_;omega,b⟩,⟨by show y.length<=_;omega,o⟩⟩
  ·cases h
 ·rename_i u c e _
  split at h
  case h_2=>cases h
  rename_i n d l;obtain⟨r,g,i⟩:=EP l;rw[r];simp only[db]at h
  split at h
  ·rename_i hf;rw[bq hf,qY g h false,<-m1];exact ru _ i
  split at h
  ·rename_i hf;simp only[l4]at h;subst h;rw[bq hf,<-D4 n g];exact mF _
  split at h
  ·rename_i hf;obtain⟨e1,e2⟩:=Pe d_ g h;have e3:(fr 1 1).div (fr n d)=(fr n d).inv:=by
    rw[NF.div,NF.inv,fr,fr];dsimp only;rw[Qk,mm];rw[show((1:Int):Rat)=1 from rfl,Rat.one_mul]
   rw[bq hf,e1,e3];exact yt _ i e2
  split at h
  ·rename_i hf;simp only[l4]at h;subst h;rw[bq hf,aHm l g];exact A0 _ i
  split at h
  ·rename_i hf;simp only[l4]at h;subst h;rw[bq hf];have m:=A7 _ i;obtain⟨p,j,b⟩:=MT l;obtain⟨e1,e2⟩:=MO g p;have hn:∀k,k<10^80->lZ k=false:=fun k hk=>by
    rw[lZ,decide_eq_false_iff_not];have A:nd k<=80:=Nat.not_lt.1 fun q=>by have:=(oO _ _).1 q;omega
    rw[qQ];omega
   rw[nK,e1,e2,hn _ j,hn _ b]at m;exact m
  ·cases h
 ·cases h
theorem aHh{f:Nat}{a b v:PV}(h:wu f a b=some v):aq prog f [a,b] v:=by
 unfold wu at h;simp only[db]at h
 split at h
 ·rename_i hf;obtain⟨n,d,m,e,rfl,rfl,c,g,j,k,i⟩:=yb h;rw[bq hf,afQ c g i];exact nH _ _ j k
 split at h
 ·rename_i hf;obtain⟨n,d,m,e,rfl,rfl,c,g,j,k,i⟩:=yb h;rw[bq hf,agL c g i];exact nF _ _ j k
 split at h
 ·rename_i hf;obtain⟨n,d,m,e,rfl,rfl,c,g,j,k,i⟩:=yb h;rw[bq hf,agH c g i];exact fB _ _ j k
 split at h
 ·rename_i hf;obtain⟨n,d,m,e,rfl,rfl,c,g,j,k,i⟩:=yb h;obtain⟨e1,e2⟩:=Pe c g i;rw[bq hf,e1];exact tI _ _ j k e2
 split at h
 ·rename_i hf;obtain⟨n,d,m,e,rfl,rfl,c,g,j,k,i⟩:=yb h;rw[bq hf,agh c g i];exact ry _ _ j k
 ·cases h
theorem aqk{f:Nat}{vs:List PV}{v:PV}(h:hk f vs=some v):aq prog f vs v:=by
 unfold hk at h
 split at h
 ·exact aAJ h
 ·exact aHh h
 ·cases h
end Hk
theorem GU{n:Nat}(h:n<10^80):bk ((n:Nat):Rat)=Hk.wv n:=by
 rw[Hk.BG h,bk,if_pos (by rfl),bQ,if_neg (by show¬((n:Int)<0);omega)];rfl
theorem aHp:bk 2=[50]:=GU (n:=2) d_
def dS(s t:S3):Int:=gn (cJ ⟨s.a-t.a,s.b,s.d⟩) (-(bL t.b*bL t.d)) (cJ ⟨(s.a-t.a)*(s.a-t.a)+s.b*s.b*s.d-t.b*t.b*t.d,2*((s.a-t.a)*s.b),s.d⟩)
def Gu(s:S3):Prop:=aQ 1300 s.a/\aQ 1300 s.b/\aQ 1300 s.d
theorem yZ{a:Int}(h:a= -1\/a=0\/a=1):-a= -1\/-a=0\/-a=1:=o_
theorem zo:aQ 2 (2:Rat):=⟨d_,d_⟩
theorem Iu(s t:S3)(hs:dN 1800 s)(e:dN 1800 t)(f:aQ 2601 (s.a-t.a)):aq prog 19 [eS s,eS t] (.int .i64 (dS s t)):=by
 have n:=rl s.a t.a (hs.1.mono d_) (e.1.mono d_);have l:=C3 ⟨s.a-t.a,s.b,s.d⟩ (f.mono d_) (hs.2.1.mono d_) (hs.2.2.mono d_) ((bC (bC hs.2.1 hs.2.1) hs.2.2).mono d_);have p:=oN t.b (e.2.1.mono d_);have q:=oN t.d (e.2.2.mono d_);have k1:=gF (s.a-t.a) (s.a-t.a) (f.mono d_) (f.mono d_);have k2:=gF s.b s.b (hs.2.1.mono d_) (hs.2.1.mono d_);have k3:=gF (s.b*s.b) s.d ((bC hs.2.1 hs.2.1).mono d_) (hs.2.2.mono d_);have i:=kl (bC f f) (bC (bC hs.2.1 hs.2.1) hs.2.2);have k4:=tJ ((s.a-t.a)*(s.a-t.a)) (s.b*s.b*s.d) ((bC f f).mono d_) ((bC (bC hs.2.1 hs.2.1) hs.2.2).mono d_);have g:=bC f hs.2.1;have k5:=gF (s.a-t.a) s.b (f.mono d_) (hs.2.1.mono d_);have k6:=gF 2 ((s.a-t.a)*s.b) (zo.mono d_) (g.mono d_);rw[aHp]at k6;have k7:=gF t.b t.b (e.2.1.mono d_) (e.2.1.mono d_);have k8:=gF (t.b*t.b) t.d ((bC e.2.1 e.2.1).mono d_) (e.2.2.mono d_);have j:=bC (bC e.2.1 e.2.1) e.2.2;have k9:=rl ((s.a-t.a)*(s.a-t.a)+s.b*s.b*s.d) (t.b*t.b*t.d) (i.mono d_) (j.mono d_);have vY:=C3 ⟨(s.a-t.a)*(s.a-t.a)+s.b*s.b*s.d-t.b*t.b*t.d,2*((s.a-t.a)*s.b),s.d⟩ ((fA i j).mono d_) ((bC zo g).mono d_) (hs.2.2.mono d_) ((bC (bC (bC zo g) (bC zo g)) hs.2.2).mono d_);have k:=rz ⟨s.a-t.a,s.b,s.d⟩;have h:=kX (kV t.b) (kV t.d);have m:=rz ⟨(s.a-t.a)*(s.a-t.a)+s.b*s.b*s.d-t.b*t.b*t.d,2*((s.a-t.a)*s.b),s.d⟩;have w1:=kW h;refine gA_ nf func19 mix ?_;rw[dS];generalize cJ ⟨(s.a-t.a)*(s.a-t.a)+s.b*s.b*s.d-t.b*t.b*t.d,2*((s.a-t.a)*s.b),s.d⟩=o,cJ ⟨s.a-t.a,s.b,s.d⟩=x,bL t.b=y1,bL t.d=y2 at*;rw[kY]at l vY;clear i g j f;have w2:=kW (yZ h);have w3:=kW (kX k (yZ h));have w4:=kW (kX k m);have r:dx.wrap 0=0:=d_
 simp[f19,ad,-aW];rw[aW];simp[-aW,ad];rw[aW];simp[-aW,ad];refine e2 n ?_;simp[ad,-aW];refine⟨r_,?_⟩;rw[aW];simp[ad,-aW];refine e1 l ?_;simp[ad,-aW];refine e1 p ?_;simp[ad,-aW];refine e1 q ?_;simp[ad,w1,w2];generalize -(y1*y2)=y at*;rw[gn]
 by_cases c:0<=x*y
 ·rw[if_pos c]
  by_cases c2:x=0
  ·subst c2;simp[r,ad]
  ·rw[if_neg c2];simp[c,c2,w3,ad]
 ·rw[if_neg c];simp+decide (maxDischargeDepth:=99) [c,w3,ad,w4,e2 k1,e2 k2,e2 k3,e2 k4,e2 k5,e2 k6,e2 k7,e2 k8,e2 k9,c1 vY]
theorem S2(s t:S3)(hs:Gu s)(a:Gu t):aq prog 19 [eS s,eS t] (.int .i64 (dS s t)):=
 Iu s t ⟨hs.1.mono d_,hs.2.1.mono d_,hs.2.2.mono d_⟩ ⟨a.1.mono d_,a.2.1.mono d_,a.2.2.mono d_⟩ (fA hs.1 a.1)
end Go.az
