import Derived.Test.YtembaldpmgjjbaaGreatDoorXPG
import Derived.Test.YtembaldpmgjjbaaGreatDoorXThC
import Derived.Lib.AtoiAll
/- Parts of a proof. -/
set_option maxRecDepth 100000
set_option maxHeartbeats 4000000
set_option linter.unusedSimpArgs false
set_option linter.unusedVariables false
set_option linter.unusedSectionVars false
open Go.Proofs.Tryz
open Bool renaming and_eq_true->dg, cond_eq_ite->dl, false_eq_true->dp, or_eq_true->dq
open Go renaming FuncId->dx, DataW->dy
open Go.IntKind renaming i64->dz
open Int renaming natAbs_natCast->ea, natCast_nonneg->eb, tdiv_eq_ediv_of_nonneg->ec, tmod_eq_emod_of_nonneg->ed, ofNat_natAbs_of_nonpos->ee, natCast_mul->ei, natCast_ediv->ej, natCast_emod->em, natAbs_of_nonneg->eo, mul_ediv_cancel_left->eq, natAbs_mul->er, ofNat_dvd_left->ew, le_of_lt->ey, natAbs_neg->eM, mul_nonneg->eP, mul_neg_of_pos_of_neg->e7, negSucc->e8, natCast_one->e9, natCast_add->fb, sub_self->fd, lt_or_le->fi, ediv_one->fl, neg_neg->fm, neg_mul->fv, mul_neg->fw
open List renaming getElem?_eq_getElem->gb, take_of_length_le->gc, length_pos_iff->ge, range->gg, replicate->gi, all_eq_true->gj, map_cons->gm, take->gt, length_take->gx, getElem_mem->gy, length_append->g0, length_singleton->g4, drop_eq_getElem_cons->g5, take_succ_eq_append_getElem->g6, map_take->g7, getElem_range->g8, take_append_drop->g9, getElem_map->ha, append_nil->hb, getElem?_map->hd, mem_cons->hg, length_drop->hj, ext_getElem->hl, mem_map->ho, getElem?_range->hp, map_nil->ht, reverse_nil->hu, length_cons->hv, length->hw, length_map->hA, foldl_cons->hB, take_take->hC, all_cons->hD, map_map->hE, dropWhile_sublist->hF, map->hG, map_congr_left->hH, getElem_of_mem->hJ, flatten_append->hK, dropWhile_cons->hL, mem_singleton->hM, getElem_of_eq->hN, take_length->hO, getElem_set->hP, flatten_nil->hQ, drop->hR, range_succ->hS, nil_append->hT, mem_append->hU, map_append->hV, range_one->hW, mem_range->hX
open Nat renaming pow_le_pow_right->hZ, lt_of_lt_of_le->h0, mul_comm->h2, le_trans->h3, lt_of_le_of_lt->h4, eq_of_beq_eq_true->h5, mul_le_mul_right->h6, pow_succ->h7, div_lt_iff_lt_mul->h8, mod_eq_of_lt->h9, lt_or_ge->ih, div_div_eq_div_mul->ii, le_refl->ik, beq->ip, div_add_mod->ix, pow_pos->iA, mul_assoc->iB, mod_lt->i0, lt_trans->i1, div_eq_of_lt->i2, pow_zero->i3, gcd->i4, add_mul->i5, add_sub_cancel->i6, pow_add->i7, div_one->i8, zero_le->i9, one_mul->jp, mul_add->js, mul_lt_mul''->j1, add_comm->j2, gcd_pos_of_pos_right->j3, mul_ne_zero->j4, div_le_self->j5, div_pos->j6, blt->j7, div_mul_le_self->j8, mul_lt_mul_of_pos_right->j9, blt_eq->kb, add_mul_mod_self_left->kc, pow_one->kf, pow_mul->kk, le_mul_of_pos_right->km, gcd_le_right->ko, gcd_dvd_left->kp, add_sub_cancel_left->kv, mul_le_mul->kw, pow_le_pow_left->kx, mul_le_mul_left->kz, mul_right_comm->kC, mod_mod_of_dvd->kD, gcd_comm->kF, lt_of_not_le->kH, mul_one->kL, pow_dvd_pow->kO, min_eq_left->kP, div_lt_self->kW, sub_le->kX, add_mul_mod_self_right->la, add_assoc->lb, le_of_lt->lc, le_mul_of_pos_left->le, le_div_iff_mul_le->li, add_le_add_right->lk, div_eq_of_lt_le->ll, gcd_zero_right->lm, eq_zero_or_pos->lq, mul_zero->ls, sub_mul->lt, mul_pos->lu, mod_one->lv, gcd_rec->lw, mod_le->lz
open Option.some renaming injEq->lW, inj->l0
open Rat renaming divInt->l1, sub_add_cancel->l2, divInt_mul_divInt->l3, div_def->l4, zero_add->l5, divInt_add_divInt->mb, add_lt_add_right->md, neg_divInt_neg->mm, num_intCast->mo, den_intCast->mp, neg_divInt->ms, inv_divInt->mx, sub_self->m1, neg_num->m2, not_le->m3
open UInt8 renaming ofNat->m4
namespace Go.ae
open Go.Proofs
set_option linter.unusedSectionVars false
theorem FM:dG prog 345=some [1,1]:=k_
section
variable{w:World}{ad ai:Nat->Prop}{β:Bd}{H:ak}
theorem ZY{az:Nat}{c0 c1 v:Value}{T:TypeId}(h:w.heap[az]?=some (.cells #[c0,c1] T (0,0))):w.setCell ⟨az,0,none⟩ v=w.setRow az #[v,c1]:=by
 obtain⟨d,a⟩:=Array.getElem?_eq_some_iff.1 h;unfold World.setCell World.setRow;congr 1;apply Array.ext
 ·simp
 ·intro i b c;simp only[Array.getElem_modify]
  by_cases hi:az=i
  ·subst hi;simp[a]
  ·simp[hi]
theorem Zy{t x:AV}{cs:Array Value}(g:t=jm 345 [.p .gL,x]\/t=.st 345 [.p .gL,x])(h:bG prog w ad β H t cs.toList):∃y,cs=#[.pointer none,y]/\bG prog w ad β H x [y]:=by
 have a:bG prog w ad β H (.st 345 [.p .gL,x]) cs.toList:=by
  rcases g with rfl|rfl
  ·exact Rp.1 h
  ·exact h
 simp only[bG,FM,lW]at a;obtain⟨l,k,rfl,b,d⟩:=a;simp only[b9,bG,bc]at b;obtain⟨c,i,rfl,rfl,_,c2,j,rfl,e,f,rfl⟩:=b
 match c2,f with
 |[y],_=>exact⟨y,Array.ext' (by simpa using d),e⟩
theorem Zs{b:Nat}{x:AV}{cs:Array Value}(h:bG prog w ad β H (.st 345 [.ptr b [],x]) cs.toList):∃v y,cs=#[v,y]/\cg prog β H (.ptr b []) v:=by
 simp only[bG,FM,lW]at h;obtain⟨l,j,rfl,a,d⟩:=h;simp only[b9,bG]at a;obtain⟨c,g,rfl,⟨v,rfl,f⟩,_,c2,i,rfl,k,e,rfl⟩:=a
 match c2,e with
 |[y],_=>exact⟨v,y,Array.ext' (by simpa using d),f⟩
end
theorem aL4{H:ak}{b:Nat}{t x:AV}(f:H[b]?=some (.box false t))(i:t=jm 345 [.p .gL,x]\/t= .st 345 [.p .gL,x]):
 c8 prog 330 H [.ptr b []] (H.set b (.box false (.st 345 [.ptr b [],x]))) (.p (.aE [])):=by
 refine⟨mV func330 k_,fun w ad ai β J g j K=>?_⟩;simp only[bX,aD]at j;obtain⟨v,vs,rfl,⟨_,I,L,M,rfl,m,B⟩,rfl⟩:=j;simp only[iF,lW]at m;subst m;obtain⟨rfl,rfl⟩:=B ⟨_,f,rfl⟩;obtain⟨cs,T,k1,k2,k3,_,k5⟩:=g.dQ b _ f;have F:aa t=.agg 345:=by
  rcases i with rfl|rfl
  ·exact GG _ _
  ·rfl
 have q:T=346:=by
  rw[F]at k5;exact gU (by simpa[lQ,Gl.bx,Uw]using k5)
 subst q;obtain⟨y,rfl,G⟩:=Zy i k2;have o:¬ad (β.az b)/\¬ai (β.az b):=by simpa[dV]using k3
 refine(Zl (β.az b) w (by simp[World.cell?,k1]) (by simp[World.shape?,k1]) (by simp[World.frozen?,k1])).mono ?_;rintro e w' ⟨rfl,rfl⟩;rw[ZY k1];have aY:cZ β H β (H.set b (.box false (.st 345 [.ptr b [],x]))):=nM f;have aA:∀z,aQ H z->aQ (H.set b (.box false (.st 345 [.ptr b [],x]))) z:=rP f (fun _ h=>h);have r:b<H.length:=(List.getElem?_eq_some_iff.1 f).1;have u:(H.set b (.box false (.st 345 [.ptr b [],x])))[b]?=some (.box false (.st 345 [.ptr b [],x])):=List.getElem?_set_self r;have n:aI (aQ H) x:=by
  have:=g.refs b _ f;rcases i with rfl|rfl
  ·simp only[Obj.refs]at this;unfold jm at this
   split at this
   ·rename_i l d;have d:=po d
    match l,d with
    |[a,c],d=>simp at d;rw[d.2];simp[aI]
    |[],d=>simp at d
    |[_],d=>simp at d
    |_::_::_::_,d=>simp at d
   ·simp only[aI,bk]at this;exact this.2.1
  ·simp only[Obj.refs,aI,bk]at this;exact this.2.1
 have E:∀k,ad k->(w.setRow (β.az b) #[.pointer (some ⟨β.az b,0,none⟩),y]).heap[k]?=w.heap[k]?:=fun k A=>setRow_other w _ k _ (fun s=>o.1 (s▸A));have D:Obj.refs (aQ (H.set b (.box false (.st 345 [.ptr b [],x])))) (.box false (.st 345 [.ptr b [],x])):=by
  simp only[Obj.refs,aI,bk,and_true];exact⟨⟨_,u,trivial⟩,aI.mono aA _ n⟩
 have C:=zz g f trivial (o':=.box false (.st 345 [.ptr b [],x])) trivial (fun _ h=>h) k1 (new:=#[.pointer (some ⟨β.az b,0,none⟩),y]) o aY
  ⟨_,346,setRow_heap w _ _ _ 346 _ k1,by
   simp only[bG,FM,lW];refine⟨_,[[.pointer (some ⟨β.az b,0,none⟩)],[y]],rfl,?_,rfl⟩;simp only[b9,bG];exact⟨_,_,rfl,⟨_,rfl,⟨rfl,_,_,0,rfl,rfl,fun _=>⟨rfl,rfl⟩⟩⟩,rfl,_,_,rfl,bG.mono (fun _ x=>x) E aY _ _ n G,rfl,rfl⟩,k3,s_,by simp[aa,lQ,Gl.bx]⟩ D
 exact⟨_,β,ad,rfl,C,by simp[aD,aH,bY],by simp[aI]⟩
theorem aL5{H:ak}{b:Nat}{x:AV}(c:H[b]?=some (.box false (.st 345 [.ptr b [],x]))):c8 prog 330 H [.ptr b []] H (.p (.aE [])):=by
 refine⟨mV func330 k_,fun w ad ai β l g f m=>?_⟩;simp only[bX,aD]at f;obtain⟨v,vs,rfl,⟨_,j,n,i,rfl,a,d⟩,rfl⟩:=f;simp only[iF,lW]at a;subst a;obtain⟨rfl,rfl⟩:=d ⟨_,c,rfl⟩;obtain⟨cs,T,k1,k2,k3,_,k5⟩:=g.dQ b _ c;obtain⟨v,y,rfl,h⟩:=Zs k2;simp only[cg,cG]at h;obtain⟨_,k,o,i,rfl,a,d⟩:=h;simp only[iF,lW]at a;subst a;obtain⟨rfl,rfl⟩:=d ⟨_,c,rfl⟩;refine(Zk (β.az b) w (by simp[World.cell?,k1])).mono ?_;rintro e w' ⟨rfl,rfl⟩;exact⟨_,β,ad,rfl,cF.refl g,by simp[aD,aH,bY],by simp[aI]⟩
@[simp] theorem gu8:(Gl.u8:TypeId)=5:=(rfl)
def eO(t:List Nat):List AV:=t.map fun(c:Nat)=>AV.p (.int .u8 (c:Int))
theorem Ao(t:List Nat):(eO t).length=t.length:=by simp[eO]
theorem aQP(a t:List Nat):eO (a++t)=eO a++eO t:=by simp[eO]
theorem Ho:∀t:List Nat,gP prog 1 (eO t)
 |[]=>by simp[eO,gP]
 |c::t=>by
  have:=Ho t;simp only[eO,gm]at this⊢;simp[gP];exact this
theorem Pf:∀(t:List Nat),(∀c∈t,c<256)->bytesOf (eO t)=some t
 |[],_=>rfl
 |c::t,a=>by
  have b:=a c s_;have:=Pf t fun c hc=>a c (by simp[hc]);show bytesOf (.p (.int .u8 (c:Int))::eO t)=some (c::t);rw[bytesOf,if_pos ⟨o_,o_⟩,this];simp
theorem Us(t:List Nat)(a:t≠[])(h:t.length<=1048576):c8 prog 285 [.box false (.p (.st 345 [.gL,.aM]))] [.ptr 0 [],.p (.str t)]
 [.box false (.st 345 [.ptr 0 [],.sl 1 0 1 0 t.length]),.arr .bytes 0 1 (eO t)] (.p (.aE [.int .i64 t.length,.iK])):=by
 refine gz nf (i_ func285) mix (by simp[f285]) ?_;simp[f285];refine ci (aL4 (b:=0) (t:=.p (.st 345 [.gL,.aM])) (x:=.p .aM) rfl (.inl rfl)) ?_;simp;refine⟨⟨Ho t,by simp only[dA];omega⟩,?_⟩;simp[a,eO]
theorem Ut(a t:List Nat)(v n:Nat)(hn:n=a.length)(c:t≠[])(h:t.length<=1048576)(e:a.length<=1048576):c8 prog 285 [.box false (.st 345 [.ptr 0 [],.sl 1 v 1 0 n]),.arr .bytes v 1 (eO a)] [.ptr 0 [],.p (.str t)]
 [.box false (.st 345 [.ptr 0 [],.sl 1 (v+1) 1 0 (n+t.length)]),.arr .bytes (v+1) 1 (eO (a++t))] (.p (.aE [.int .i64 t.length,.iK])):=by
 refine gz nf (i_ func285) mix (by simp[f285]) ?_;simp[f285];refine ci (aL5 (b:=0) (x:=.sl 1 v 1 0 n) rfl) ?_;simp;refine⟨⟨Ho t,by rw[Ao];omega,by rw[Ao];simp only[dA];omega⟩,?_⟩;have d:gt n (eO a)=eO a:=gc (by rw[Ao];omega);simp[c,d,aQP];exact .inl rfl
theorem aMc(a:List Nat)(v n:Nat)(hn:n=a.length)(b:a≠[])(f:a.length<=1048576)(d:∀c∈a,c<256):c8 prog 286 [.box false (.st 345 [.ptr 0 [],.sl 1 v 1 0 n]),.arr .bytes v 1 (eO a)] [.ptr 0 []]
 [.box false (.st 345 [.ptr 0 [],.sl 1 v 1 0 n]),.dead] (.p (.str a)):=by
 refine gz nf (i_ func286) mix (by simp[f286]) ?_;have e:0<a.length:=ge.2 b;simp[f286];refine aLu (aF:=v) (es:=eO a) rfl rfl (by rw[hn];exact e) (by simp[eO,hn]) ?_;simp;refine aLv (aF:=v) (es:=eO a) (l:=a) rfl rfl rfl o_ (by simp[Ao,hn]) o_ rfl ?_ ?_ ?_ ?_
 ·kernel_rfl
 ·kernel_rfl
 ·rw[gc (by rw[Ao];simp[hn])];exact Pf a d
 simp
 repeat' with_reducible refine And.intro ?_ ?_
 all_goals rfl
theorem GS{σ:Nat->Nat}:∀{a b:List AV},dw σ (a++b)=dw σ a++dw σ b
 |[],b=>by simp[dw]
 |x::a,b=>by simp[dw,GS (a:=a)]
theorem DT:aw wB tB=[tB]:=xM d_ d_
theorem auv(a:NI)(hs:a.sm=true):al prog 233 [eI a] (.str (b6 a.v)):=by
 refine gA_ nf func233 mix ?_;have r1:=NI.tM hs;simp[f233,aa,pG hs,qI hs,eh,dC,c1 (aKN a.v r1.1 r1.2)]
theorem RY{m k A L:Nat}(e:0<m)(h:m*tB^k<=A)(a:A<wB^L):k<64*L:=by
 have b:2^k<=tB^k:=kx d_ k;have c:tB^k<=m*tB^k:=le _ e;rw[show wB=2^64 from rfl,<-kk]at a;have d:2^k<2^(64*L):=h4 (h3 b (h3 c h)) a
 rwa [Nat.pow_lt_pow_iff_right d_]at d
theorem auu(a:NI)(hs:a.sm=false)(V:okW a.v)(aq:(bn a.v.natAbs).length<=1000000):al prog 233 [eI a] (.str (b6 a.v)):=by
 have L:=rT (eI a) a.v (pK a);have aE:=NI.DM (a:=a) (by rw[hs];decide);have af:=h0 (cU bB a.v.natAbs) (hZ (show 0<wB by decide) (rQ V));obtain⟨c,cs,w1⟩:=so hs;refine gA_ nf func233 mix ?_;simp[f233,aa,w1,eh,dC];refine c1 L ?_;simp;refine vO (fun s'=>∃b:List (List Nat),ml 0 b=ml a.v.natAbs []/\(∀p∈b,p≠[]/\p.length<=18)/\b≠[]/\b.length<=57600000/\aV s'.env 3=.p (.bool (decide (a.v<0)))/\aV s'.env 6=.sl 2 b.length 1 0 b.length/\∃o,s'.heap=[.hole,o,.arr .grow b.length 1 (b.map fun p=>.p (.str p))]) ?_ ?_
 ·refine lp (α:=Nat×List (List Nat)×Bool) (fun x=>⟨[(6,.sl 2 x.2.1.length 1 0 x.2.1.length),(5,.sl 1 0 1 0 1),(4,.p (eN x.1)),(3,.p (.bool (decide (a.v<0))))],[.hole,.arr (if x.2.2=true then .frozen else .exact) 0 1 [.p (.int .u64 1000000000000000000)],.arr .grow x.2.1.length 1 (x.2.1.map fun p=>.p (.str p))]⟩)
   (fun x=>x.1<=a.v.natAbs/\ml x.1 x.2.1=ml a.v.natAbs []/\(∀p∈x.2.1,p≠[]/\p.length<=18)/\x.2.1.length<=57600000/\x.1*tB^x.2.1.length<=a.v.natAbs) (fun x=>x.1) (a.v.natAbs,[],false) ⟨ik _,rfl,s_,s_,s_⟩ ?_
  rintro⟨m,b,f⟩ ⟨k1,k2,k3,k5,k4⟩;dsimp only at k1 k2 k3 k5 k4;rcases f with _|_
  ·simp only[dp,if_false];have ar:(aw wB m).length<=900000:=by
    have:=fc bB _ _ (h4 k1 (cU bB a.v.natAbs));have:=rQ V;omega
   by_cases hm:m=0
   ·subst hm;have X:b≠[]:=by
     rintro rfl;rw[ml,ml,if_pos rfl,if_neg o_]at k2;have:=Dm a.v.natAbs;rw[hu,hQ,hb,hb]at k2;rw[<-k2]at this;simp at this
    simp[eN,nU];refine⟨b,k2,k3,X,k5,?_⟩;simp
   ·have d:=G4 m tB d_ o_ (by rw[DT];decide);have W:aw wB m≠[]:=mt xc.1 hm;have C:0<(aw wB m).length:=ge.2 W;have aY:=Qm hm b;have B:∀p∈b++[fJ m],p≠[]/\p.length<=18:=by
     intro p L;rcases hU.1 L with h|h
     ·exact k3 p h
     ·rw[hM.1 h];exact⟨Pt m,Pu m⟩
    have A:m/tB<m:=kW o_ d_;have av:=RY (show 0<m by omega) k4 af;have w:m/tB*tB^(b++[fJ m]).length<=a.v.natAbs:=by
     rw[g0,g4,h7,h2 (tB^b.length),<-iB];exact h3 (h6 _ (j8 _ _)) k4
    have y:(b++[fJ m]).length<=57600000:=by rw[g0,g4];omega
    have r:m% tB<tB:=i0 _ d_;have O:m/tB=0->m% tB=m:=fun h=>by have:=ix m tB;rw[h]at this;omega
    simp only[eN]at d⊢;rw[DT]at d;have N:=xc (n:=m/tB);have J:=Ug (m% tB) (i1 r d_);have q:=Uh [48] (18-(bn (m% tB)).length) o_ (by simp;omega);have ax:=HE r;have Y:=VW r;rw[GR]at q;have l:fJ m=if m/tB=0 then bn (m% tB)else gi (18-(bn (m% tB)).length) 48++bn (m% tB):=by
     rw[fJ,Y];split
     ·rename_i h;rw[O h]
     ·rfl
    have s:dz.wrap (18-((bn (m% tB)).length:Int))=(18-(bn (m% tB)).length:Nat):=by rw[aU _ o_ o_];omega
    have aB:((18-(bn (m% tB)).length:Nat):Int)=18-((bn (m% tB)).length:Int):=o_
    have u:∀t,t=fJ m->(b.map fun p=>AV.p (.str p))++[AV.p (.str t)]=(b++[fJ m]).map fun p=>AV.p (.str p):=fun t e=>by rw[e];simp
    by_cases F:m% tB=0
    ·have j:¬m/tB=0:=fun h=>hm (by rw[<-O h];exact F);have E:0<(aw wB (m/tB)).length:=ge.2 (mt N.1 j);have e:gi (18-(bn (m% tB)).length) 48++bn (m% tB)=fJ m:=by rw[l,if_neg j]
     rw[F,qz]at e q s;rw[F,nU]at d;simp only[g4]at e q s;have hf:=u _ e;generalize D:aw wB (m/tB)=ae at*;simp[C];refine cp d (by simp;exact⟨rfl,rfl⟩) ?_ (h1:=by simp[tB]);simp[E,s];refine c2 q ?_;simp;refine⟨by simp only[dA];omega,?_⟩;refine rd (m/tB,b++[fJ m],true) ⟨o_,by rw[aY];exact k2,by simpa using B,y,w⟩ A (he:=by simp[D]) (hh:=by simp only[<-hf];simp) (hr2:=by simp only[<-hf];simp)
    ·have ab:aw wB (m% tB)=[m% tB]:=xM o_ (i1 r d_);rw[ab]at d
     by_cases j:m/tB=0
     ·have e:bn (m% tB)=fJ m:=by rw[l,if_pos j]
      have hf:=u _ e;rw[j,nU]at d;simp[C];refine cp d (by simp;exact⟨rfl,rfl⟩) ?_ (h1:=by simp[tB]);simp;refine c2 J ?_;simp;refine⟨by simp only[dA];omega,?_⟩;refine rd (m/tB,b++[fJ m],true) ⟨o_,by rw[aY];exact k2,by simpa using B,y,w⟩ A (he:=by simp[j,nU]) (hh:=by simp only[<-hf];simp) (hr2:=by simp only[<-hf];simp)
     ·have E:0<(aw wB (m/tB)).length:=ge.2 (mt N.1 j);have e:gi (18-(bn (m% tB)).length) 48++bn (m% tB)=fJ m:=by rw[l,if_neg j]
      have hf:=u _ e;generalize D:aw wB (m/tB)=ae at*;simp[C];refine cp d (by simp;exact⟨rfl,rfl⟩) ?_ (h1:=by simp[tB]);simp;refine c2 J ?_;simp[E,s];refine c2 q ?_;simp;refine⟨o_,by simp only[dA];omega,?_⟩;refine rd (m/tB,b++[fJ m],true) ⟨o_,by rw[aY];exact k2,by simpa using B,y,w⟩ A (he:=by simp[D]) (hh:=by simp only[<-hf];simp) (hr2:=by simp only[<-hf];simp)
  ·simp only[if_true];have ar:(aw wB m).length<=900000:=by
    have:=fc bB _ _ (h4 k1 (cU bB a.v.natAbs));have:=rQ V;omega
   by_cases hm:m=0
   ·subst hm;have X:b≠[]:=by
     rintro rfl;rw[ml,ml,if_pos rfl,if_neg o_]at k2;have:=Dm a.v.natAbs;rw[hu,hQ,hb,hb]at k2;rw[<-k2]at this;simp at this
    simp[eN,nU];refine⟨b,k2,k3,X,k5,?_⟩;simp
   ·have d:=G4 m tB d_ o_ (by rw[DT];decide);have W:aw wB m≠[]:=mt xc.1 hm;have C:0<(aw wB m).length:=ge.2 W;have aY:=Qm hm b;have B:∀p∈b++[fJ m],p≠[]/\p.length<=18:=by
     intro p L;rcases hU.1 L with h|h
     ·exact k3 p h
     ·rw[hM.1 h];exact⟨Pt m,Pu m⟩
    have A:m/tB<m:=kW o_ d_;have av:=RY (show 0<m by omega) k4 af;have w:m/tB*tB^(b++[fJ m]).length<=a.v.natAbs:=by
     rw[g0,g4,h7,h2 (tB^b.length),<-iB];exact h3 (h6 _ (j8 _ _)) k4
    have y:(b++[fJ m]).length<=57600000:=by rw[g0,g4];omega
    have r:m% tB<tB:=i0 _ d_;have O:m/tB=0->m% tB=m:=fun h=>by have:=ix m tB;rw[h]at this;omega
    simp only[eN]at d⊢;rw[DT]at d;have N:=xc (n:=m/tB);have J:=Ug (m% tB) (i1 r d_);have q:=Uh [48] (18-(bn (m% tB)).length) o_ (by simp;omega);have ax:=HE r;have Y:=VW r;rw[GR]at q;have l:fJ m=if m/tB=0 then bn (m% tB)else gi (18-(bn (m% tB)).length) 48++bn (m% tB):=by
     rw[fJ,Y];split
     ·rename_i h;rw[O h]
     ·rfl
    have s:dz.wrap (18-((bn (m% tB)).length:Int))=(18-(bn (m% tB)).length:Nat):=by rw[aU _ o_ o_];omega
    have aB:((18-(bn (m% tB)).length:Nat):Int)=18-((bn (m% tB)).length:Int):=o_
    have u:∀t,t=fJ m->(b.map fun p=>AV.p (.str p))++[AV.p (.str t)]=(b++[fJ m]).map fun p=>AV.p (.str p):=fun t e=>by rw[e];simp
    by_cases F:m% tB=0
    ·have j:¬m/tB=0:=fun h=>hm (by rw[<-O h];exact F);have E:0<(aw wB (m/tB)).length:=ge.2 (mt N.1 j);have e:gi (18-(bn (m% tB)).length) 48++bn (m% tB)=fJ m:=by rw[l,if_neg j]
     rw[F,qz]at e q s;rw[F,nU]at d;simp only[g4]at e q s;have hf:=u _ e;generalize D:aw wB (m/tB)=ae at*;simp[C];refine cp d (by simp;exact⟨rfl,rfl⟩) ?_ (h1:=by simp[tB]);simp[E,s];refine c2 q ?_;simp;refine⟨by simp only[dA];omega,?_⟩;refine rd (m/tB,b++[fJ m],true) ⟨o_,by rw[aY];exact k2,by simpa using B,y,w⟩ A (he:=by simp[D]) (hh:=by simp only[<-hf];simp) (hr2:=by simp only[<-hf];simp)
    ·have ab:aw wB (m% tB)=[m% tB]:=xM o_ (i1 r d_);rw[ab]at d
     by_cases j:m/tB=0
     ·have e:bn (m% tB)=fJ m:=by rw[l,if_pos j]
      have hf:=u _ e;rw[j,nU]at d;simp[C];refine cp d (by simp;exact⟨rfl,rfl⟩) ?_ (h1:=by simp[tB]);simp;refine c2 J ?_;simp;refine⟨by simp only[dA];omega,?_⟩;refine rd (m/tB,b++[fJ m],true) ⟨o_,by rw[aY];exact k2,by simpa using B,y,w⟩ A (he:=by simp[j,nU]) (hh:=by simp only[<-hf];simp) (hr2:=by simp only[<-hf];simp)
     ·have E:0<(aw wB (m/tB)).length:=ge.2 (mt N.1 j);have e:gi (18-(bn (m% tB)).length) 48++bn (m% tB)=fJ m:=by rw[l,if_neg j]
      have hf:=u _ e;generalize D:aw wB (m/tB)=ae at*;simp[C];refine cp d (by simp;exact⟨rfl,rfl⟩) ?_ (h1:=by simp[tB]);simp;refine c2 J ?_;simp[E,s];refine c2 q ?_;simp;refine⟨o_,by simp only[dA];omega,?_⟩;refine rd (m/tB,b++[fJ m],true) ⟨o_,by rw[aY];exact k2,by simpa using B,y,w⟩ A (he:=by simp[D]) (hh:=by simp only[<-hf];simp) (hr2:=by simp only[<-hf];simp)
 ·rintro⟨aD,aF⟩ ⟨b,q1,aC,S,q4,an,R,o,ah⟩;dsimp only at an R ah;subst ah;have ay:0<b.length:=ge.2 S;have Z:bn a.v.natAbs=b.reverse.flatten:=by rw[<-auV,q1,ml,if_neg o_];simp
  obtain⟨neg,K⟩:∃neg:Bool,neg=decide (a.v<0):=⟨_,rfl⟩
  obtain⟨Q,M⟩:∃Q:List Nat,Q=if neg=true then[45]else[]:=⟨_,rfl⟩
  have ai:b6 a.v=Q++b.reverse.flatten:=by
   rw[b6,<-Z,M,K]
   by_cases h:a.v<0
   ·simp[h]
   ·simp[h]
  obtain⟨g,H⟩:∃g:Nat->List Nat,g=fun k=>Q++(b.reverse.take k).flatten:=⟨_,rfl⟩
  have I:g b.length=b6 a.v:=by rw[H,ai];dsimp only;rw[gc s_]
  have az:∀k,(b.reverse.take k).flatten.length<=1000000:=fun k=>by
   have ao:b.reverse.flatten=(b.reverse.take k).flatten++(b.reverse.drop k).flatten:=by rw[<-hK,g9]
   rw[Z,ao,g0]at aq;omega
  have aH:Q.length<=1:=by rw[M];split<;>simp
  have T:∀k,(g k).length<=1000001:=fun k=>by rw[H];dsimp only;rw[g0];have:=az k;omega
  have l:∀k(h:k<b.length),g (k+1)=g k++b[b.length-1-k]' o_:=fun k h=>by
   rw[H];dsimp only;rw[g6 (by simpa using h),hK,List.getElem_reverse,<-List.append_assoc];simp
  have ap:∀c∈b6 a.v,c<256:=by
   intro c hc;rw[b6]at hc;have d:=sD a.v.natAbs;rw[gj]at d
   split at hc
   ·rcases hg.1 hc with h|h
    ·omega
    ·exact Rc (d c h)
   ·exact Rc (d c hc)
  have ac:dz.wrap ((b.length:Int)-1)=b.length-1:=aU _ o_ o_;have aA:∀i(h:i<b.length),b[i]≠[]/\b[i].length<=18:=fun i h=>aC _ (gy h);have G:=aMc (g b.length) (if neg=true then b.length else b.length-1) (g b.length).length rfl (by rw[I,ai];intro h;rw[List.append_eq_nil_iff,<-Z]at h;have:=Dm a.v.natAbs;rw[h.2]at this;simp at this) (by have:=T b.length;omega) (by rw[I];exact ap);simp[an,R,ac]
  by_cases hn:a.v<0
  ·rw[decide_eq_true hn]at K;subst K;have au:g 0=[45]:=by rw[H,M];simp
   simp only[if_true]at G;simp[hn];refine cf (Us [45] s_ s_) [3] ?_;simp[bu,sig,R,ac];refine lp (α:=Nat) (fun k=>⟨[(11,.p (.int .i64 ((b.length:Int)-1-k))),(10,.ptr 3 []),(6,.sl 2 b.length 1 0 b.length)],[.hole,.hole,.arr .grow b.length 1 (b.map fun p=>.p (.str p)),.box false (.st 345 [.ptr 3 [],.sl 4 k 1 0 (g k).length]),.arr .bytes k 1 (eO (g k))]⟩)
    (fun k=>k<=b.length) (fun k=>b.length-k) 0 s_ ?_ (he:=by simp[R]) (hh:=by simp[au,eO]) (hr2:=by simp[eO])
   intro k hk
   by_cases z:k<b.length
   ·have w1:dz.wrap ((b.length:Int)-1-k-1)=b.length-1-(k+1:Nat):=by rw[aU _ o_ o_];omega
    have e1:((b.length:Int)-1-k).toNat=b.length-1-k:=o_
    have g1:(k:Int)<=(b.length:Int)-1:=o_
    have P:b.length-1-k<b.length:=o_
    have hx:=aA _ P;have ad:=Ut (g k) (b[b.length-1-k]) k (g k).length rfl hx.1 o_ (by have:=T k;omega);simp[g1,e1,P,S];refine cf ad [3,4] ?_ (aA:=by simp[sig,eO]) (aW:=by simp[sig]) (hr:=by simp[eO]);simp[sig,eO,bu,w1,GS];refine rd (k+1) z (he:=by simp[l k z]) (hh:=by simp[l k z,eO]) (hr2:=by simp[eO])
   ·have U:k=b.length:=by omega
    subst U;have g2:¬(b.length:Int)<=(b.length:Int)-1:=o_
    simp[g2];refine cf G [3,4] ?_ (aA:=by simp[sig,eO]) (aW:=by simp[sig]) (hr:=by simp[eO]);simp[sig,bu,I]
  ·rw[decide_eq_false hn]at K;subst K;simp only[dp,if_false]at G M;have ag:g 1=b[b.length-1]:=by rw[l 0 ay,H];simp[M]
   have am:b.length-1<b.length:=o_
   have ak:=aA _ am;have aj:=Us (b[b.length-1]) ak.1 o_;rw[<-ag]at aj ak;simp[hn,ac]
   refine lp (α:=Option Nat) (fun st=>match st with
     |none=>⟨[(11,.p (.int .i64 ((b.length:Int)-1))),(10,.ptr 3 []),(6,.sl 2 b.length 1 0 b.length)],[.hole,.hole,.arr .grow b.length 1 (b.map fun p=>.p (.str p)),.box false (.p (.st 345 [.gL,.aM]))]⟩
     |some k=>⟨[(11,.p (.int .i64 ((b.length:Int)-1-(k+1)))),(10,.ptr 3 []),(6,.sl 2 b.length 1 0 b.length)],[.hole,.hole,.arr .grow b.length 1 (b.map fun p=>.p (.str p)),.box false (.st 345 [.ptr 3 [],.sl 4 k 1 0 (g (k+1)).length]),.arr .bytes k 1 (eO (g (k+1)))]⟩)
    (fun st=>match st with
     |none=>True
     |some k=>k+1<=b.length) (fun st=>match st with
     |none=>b.length+1
     |some k=>b.length-(k+1)) none trivial ?_ (he:=by simp[R])
   intro st hk;cases st with
   |none=>
    have w1:dz.wrap ((b.length:Int)-1-1)=b.length-1-(0+1):=by rw[aU _ o_ o_];omega
    have e1:((b.length:Int)-1).toNat=b.length-1:=o_
    have g1:(1:Int)<=(b.length:Int):=o_
    simp[g1,e1,am,S,<-ag];refine cf aj [3] ?_;simp[bu,sig,w1];refine rd (some 0) (by show 0+1<=b.length;omega) (by show b.length-(0+1)<b.length+1;omega) (he:=s_) (hh:=by simp[eO]) (hr2:=by simp[eO])
   |some k=>
    have hk:k+1<=b.length:=hk
    by_cases z:k+1<b.length
    ·have w1:dz.wrap ((b.length:Int)-1-(k+1)-1)=b.length-1-(k+1+1):=by rw[aU _ o_ o_];omega
     have e1:((b.length:Int)-1-(k+1)).toNat=b.length-1-(k+1):=o_
     have g1:(k:Int)+1<=(b.length:Int)-1:=o_
     have P:b.length-1-(k+1)<b.length:=o_
     have hx:=aA _ P;have ad:=Ut (g (k+1)) (b[b.length-1-(k+1)]) k (g (k+1)).length rfl hx.1 o_ (by have:=T (k+1);omega);simp[g1,e1,P,S];refine cf ad [3,4] ?_ (aA:=by simp[sig,eO]) (aW:=by simp[sig]) (hr:=by simp[eO]);simp[sig,eO,bu,w1,GS];refine rd (some (k+1)) z (by show b.length-(k+1+1)<b.length-(k+1);omega) (he:=by simp[l (k+1) z]) (hh:=by simp[l (k+1) z,eO]) (hr2:=by simp[eO])
    ·have U:b.length=k+1:=by omega
     have g2:¬(k:Int)+1<=(b.length:Int)-1:=o_
     rw[U]at G I;rw[i6]at G;simp[g2];refine cf G [3,4] ?_ (aA:=by simp[sig,eO]) (aW:=by simp[sig]) (hr:=by simp[eO]);simp[sig,bu,I]
theorem G5(a:NI)(c:okW a.v)(b:(bn a.v.natAbs).length<=1000000):al prog 233 [eI a] (.str (b6 a.v)):=by
 rcases h:a.sm with _|_
 ·exact auu a h c b
 ·exact auv a h
open Go
theorem Qa:∀(r:List Nat)(a:Nat),a<=r.foldl (fun n c=>n*10+(c-48)) a
 |[],a=>ik _
 |x::r,a=>h3 (show a<=a*10+(x-48)by omega) (Qa r _)
theorem PS:∀(d:List Nat)(a:Nat),d.all cT=true->d.foldl (fun n c=>n*10+(c-48)) a<1000000000000000000->Lib.parseUint10 a (d.map m4)=.ok (d.foldl (fun n c=>n*10+(c-48)) a)
 |[],a,_,_=>rfl
 |c::r,a,h,b=>by
  simp only[hD,dg]at h;have hc:=h.1;simp only[cT,dg,decide_eq_true_eq]at hc;have f:=Qa r (a*10+(c-48));rw[hB]at b⊢;have e:(m4 c).toNat=c:=by simp;omega
  rw[gm,Lib.parseUint10,e,if_pos hc,if_neg o_,if_neg o_];exact PS r _ h.2 b
theorem awK{d:List Nat}(h:d.all cT=true)(b:d≠[])(f:d.length<=18):Lib.atoiAll (d.map m4)=.ok (br d):=by
 have i:=lZ _ d rfl h;have j:10^d.length<=10^18:=hZ o_ f;cases d with
 |nil=>exact(b rfl).elim
 |cons c r=>
  have hc:=(dg ..▸(hD▸h):cT c=true/\r.all cT=true).1;simp only[cT,dg,decide_eq_true_eq]at hc;have e:(m4 c).toNat=c:=by simp;omega
  have g:br (c::r)<1000000000000000000:=o_
  have a:=PS (c::r) 0 h g;rw[<-br]at a;rw[gm]at a;rw[gm,Lib.atoiAll];simp only[e];rw[if_neg o_,Lib.parseMag,if_neg s_,a];dsimp only;rw[if_neg o_,if_neg o_,if_neg o_]
theorem GD:∀(b:List Nat)(x:Nat),b.foldl (fun n c=>n*10+(c-48)) x=x*10^b.length+br b
 |[],x=>by simp[br]
 |c::b,x=>by
  rw[br,hB,hB,GD b,GD b (0*10+(c-48)),hv,h7,i5,iB,h2 10];simp[lb]
theorem Qj(a b:List Nat):br (a++b)=br a*10^b.length+br b:=by
 rw[br,List.foldl_append,GD];rfl
theorem Rw(k:Nat):10^k<=2^(4*k):=by
 rw[kk];exact kx d_ k
theorem Qq{a K:Nat}(h:4*a<=K):10^a<=2^K:=h3 (Rw a) (hZ d_ h)
theorem AG{n k:Nat}(h:n<2^k)(hk:k<=3*1000000):(bn n).length<=1000000:=
 Be h hk d_
theorem aDM(a:NF)(h:aL kB a.q):al prog 138 [eF a] (.str (aN a.q)):=by
 have f:kB=100000:=rfl;have w:=GJ a;have c:=G5 a.num (ju h.1 ug) (AG h.1 o_);have d:=G5 a.den (ju (by rw[mU];exact h.2) ug) (AG (by rw[mU];exact h.2) o_);rw[nS]at c;rw[ma,zJ]at d;have g:=AG h.1 (show kB<=3*1000000 by omega);have i:=AG h.2 (show kB<=3*1000000 by omega);have j:=Hp a.q.num;refine gA_ nf func138 mix ?_;rw[aN]
 by_cases b:a.q.den=1
 ·have e:a.gQ=true:=by simp[NF.gQ,b]
  rw[e]at w;rw[if_pos b];simp[f138,aa,c1 w,c1 c]
 ·have e:a.gQ=false:=by simp[NF.gQ,b]
  rw[e]at w;rw[if_neg b];simp[f138];refine c1 w ?_;simp[aa];refine e1 c ?_;simp[aa];refine⟨o_,?_⟩;refine e1 d ?_;simp;omega
def kR:Nat:=2800
theorem DP(s:List Nat)(i:(dI s).all cT=true)(E:(dI s).length<=700):al prog 189 [.str s] (eI (.mk' (if cE s=true then -(br (dI s):Int)else br (dI s)))):=by
 refine gA_ nf func189 mix ?_;simp[f189];refine c2 (awz s) ?_;simp;refine c2 (PT s) ?_;simp;generalize dI s=d,cE s=neg at*;have w:gq 0=eI (.mk' 0):=(sA d_ d_).symm;rw[show PV.st 98 [.int .i64 0,.aM]=eI (.mk' 0)from w];refine lp (α:=List Nat×NI) (fun x=>⟨[(4,.ptr 1 []),(3,.p (.bool neg)),(2,.ptr 0 []),(0,.p (.str x.1))],[.box false (.p (eI (.mk' 0))),.box false (.p (eI x.2))]⟩)
  (fun x=>∃m:Nat,x.2.v=m/\m*10^x.1.length+br x.1=br d/\x.1.all cT=true/\x.1.length<=700/\m<2^kR) (fun x=>x.1.length) (d,.mk' 0) ⟨0,rfl,s_,i,E,iA d_⟩ ?_
 rintro⟨r,o⟩ ⟨m,k1,k2,k3,k4,k5⟩;dsimp only at k1 k2 k3 k4 k5;have S:kR=2800:=rfl;have c:o.v.natAbs<2^kR:=by rw[k1,ea];exact k5
 have I:okW o.v:=ju c (by have:kB=100000:=rfl;omega)
 by_cases f:r=[]
 ·subst f;have u:o.v=br d:=by rw[k1];simp[br]at k2⊢;omega
  cases neg
  ·have e:eI (.mk' (br d:Nat))=eI o:=qK (by rw[NI.jP,u]) (fun h=>by rw[NI.jP]at h;omega);simp;rw[e];simp[aa]
  ·have e:eI (.mk' (-(br d:Nat)))=eI o.neg:=by rw[NI.neg,u]
   simp;rw[e];simp[aa,c1 (xY o I)]
 ·have L:0<r.length:=ge.2 f;obtain⟨n,hn⟩:∃n,n=min 18 r.length:=⟨_,rfl⟩
  have j:n<=r.length:=o_
  have U:0<n:=o_
  have G:n<=18:=o_
  have H:(if(r.length:Int)<18 then(r.length:Int)else 18)=n:=by split<;>omega
  have g:(r.take n).length=n:=by rw[gx];omega
  have a:=k3;rw[<-g9 n r,List.all_append,dg]at a;have N:=lZ _ (r.take n) rfl a.1;have C:=aD3 (r.take n) (br (r.take n)) (awK a.1 (by intro e;rw[e]at g;simp at g;omega) o_) o_;rw[g]at N;have q:10^n<=10^18:=hZ d_ G;have z:10^n<wB^1:=by rw[kf];exact h4 q d_
  have A:((10^n:Nat):Int).natAbs<2^64:=by rw[ea];exact h4 q d_
  have O:=fc bB 1 _ z;have V:=CZ c;have P:kB=100000:=rfl;have W:=lZ _ d rfl i;have Q:10^d.length<=2^kR:=Qq (by have:kR=2800:=rfl;omega);have J:=aDb (.of 10) n (10^n) d_ rfl o_ d_ o_;have F:=Eb o (.mk' (10^n:Nat)) (by rw[NI.jP,ea];omega);have B:=A9 (o.mul (.mk' (10^n:Nat))) (.of (br (r.take n):Nat)) (ju (tq (x:=o.v) (y:=((10^n:Nat):Int)) c A) o_) (ju (k:=64) (show((br (r.take n):Nat):Int).natAbs<2^64 by rw[ea];omega) o_);have l:=vM (br (r.take n):Nat);rw[<-yc o_ o_]at l;have t:=vM 10;rw[<-yc d_ d_]at t;have M:br r=br (r.take n)*10^(r.drop n).length+br (r.drop n):=by rw[<-Qj,g9]
  have K:r.length=n+(r.drop n).length:=by rw[hj];omega
  have D:(m*10^n+br (r.take n))*10^(r.drop n).length+br (r.drop n)=br d:=by
   rw[<-k2,M,K,i7,i5,iB,lb]
  generalize 10^n=T,X:br (r.take n)=b at*;have R:m*T+b<=br d:=by
   have:=km (m*T+b) (show 0<10^(r.drop n).length from iA d_);omega
  simp[f,L,H];refine⟨j,?_⟩;refine c1 C ?_;simp;refine e1 t ?_;simp;refine e2 J ?_;simp[aa];refine e2 F ?_;simp;refine e1 l ?_;simp;refine e2 B ?_;simp[aa];refine⟨rfl,j,?_⟩;refine rd (r.drop n,(o.mul (.mk' T)).add (.of b)) ⟨m*T+b,by rw[NI.vC,NI.pF,NI.jP,k1];rfl,D,a.2,by dsimp only;omega,o_⟩ (by dsimp only;omega)
theorem GZ{s:List Nat}(h:eA s=true):cE s=false/\dI s=s:=by
 have b:=mz h;have:cE s=false:=by
  rw[cE,decide_eq_false_iff_not];intro a;cases s with
  |nil=>simp at a
  |cons c r=>
   simp at a;subst a;rw[hD,dg]at b;simp[cT]at b
 exact⟨this,by rw[dI,this];rfl⟩
theorem Qb(s:List Nat):cE (cH 47 s).1=cE s/\dI (cH 47 s).1=bR s/\(cH 47 s).2.1=b7 s/\(cH 47 s).2.2=fG s:=by
 cases s with
 |nil=>exact⟨rfl,rfl,rfl,rfl⟩
 |cons c r=>
  by_cases h:c=45
  ·subst h;have e:cH 47 (45::r)=(45::(cH 47 r).1,(cH 47 r).2.1,(cH 47 r).2.2):=by rw[cH,if_neg d_]
   rw[e];exact⟨rfl,rfl,rfl,rfl⟩
  ·have hn:cE (c::r)=false:=by rw[cE,decide_eq_false_iff_not];simpa using h
   have a:dI (c::r)=c::r:=by rw[dI,hn];rfl
   have b:cE (cH 47 (c::r)).1=false:=by
    rw[cE,decide_eq_false_iff_not,cH]
    split
    ·simp
    ·simpa using h
   refine⟨by rw[hn,b],?_,?_,?_⟩
   ·rw[dI,b,bR,a];rfl
   ·rw[b7,a]
   ·rw[fG,a]
theorem awl{s:List Nat}(h:cm s=0):eA (bR s)=true/\(bR s).length<=600/\(b7 s).length<=600/\(fG s=true->eA (b7 s)=true):=by
 unfold cm at h
 split at h
 ·cases h
 rename_i a
 split at h
 ·cases h
 rename_i d;have a:nV s=true:=by simpa using a
 simp only[nV,dg,dq,Bool.not_eq_true']at a;refine⟨a.1.1,o_,o_,fun c=>?_⟩;rcases a.2 with b|b
 ·rw[c]at b;cases b
 ·exact b.1.1
theorem Y8(z:Int):dI (b6 z)=bn z.natAbs:=by
 have:=(CM z []).2;simpa using this
theorem xt(c:Nat):∀s:List Nat,(cH c s).1.length<=s.length/\(cH c s).2.1.length<=s.length/\(∀x∈(cH c s).1,x∈s)/\(∀x∈(cH c s).2.1,x∈s)
 |[]=>by simp[cH]
 |y::r=>by
  have a:=xt c r;rw[cH]
  split
  ·simp;intro x hx;exact .inr hx
  ·simp only[hv,hg];refine⟨o_,o_,?_,fun x hx=>.inr (a.2.2.2 x hx)⟩;rintro x (rfl|hx)
   ·exact .inl rfl
   ·exact .inr (a.2.2.1 x hx)
theorem tt(s:List Nat):(dI s).length<=s.length/\∀x∈dI s,x∈s:=by
 rw[dI]
 split
 ·exact⟨s_,fun x hx=>List.mem_of_mem_tail hx⟩
 ·exact⟨ik _,fun _ h=>h⟩
theorem mE(s:List Nat)(h:cm s=0)(m:s.length<=1048576):al prog 104 [.str s] (eF ⟨aO s,false⟩):=by
 obtain⟨k,r,t,l⟩:=awl h;obtain⟨n,f,o,p⟩:=Qb s;obtain⟨q1,q,a⟩:=ia h;have b:=Uf s 47 m;rw[o,p]at b;have c:=DP (cH 47 s).1 (by rw[f];exact mz k) (by rw[f];omega);rw[n,f]at c;have en:eI (NF.mk (aO s) false).num=eI (.mk' (if cE s=true then -(br (bR s):Int)else br (bR s))):=by
  show eI ⟨(aO s).num,false⟩=_;rw[q];rfl
 rw[<-en]at c;refine gA_ nf func104 mix ?_;cases hf:fG s
 ·rw[hf]at b a;simp only[dp,if_false]at a;have e:(NF.mk (aO s) false).den=.mk' 1:=by
   show NI.mk' ((aO s).den:Int)=_;rw[a];rfl
  have i:=HN (NF.mk (aO s) false).num;have j:eF (.whole (NF.mk (aO s) false).num)=eF ⟨aO s,false⟩:=by
   rw[eF,eF,e];rfl
  rw[j]at i;simp(maxDischargeDepth:=99) [f104,aa,c2 b,c1 c,c1 i]
 ·rw[hf]at b a;simp only[if_true]at a;have g:=l hf;obtain⟨d1,d2⟩:=GZ g;have d:=DP (b7 s) (by rw[d2];exact mz g) (by rw[d2];omega);rw[d1,d2]at d;simp only[dp,if_false]at d;have e:eI (NF.mk (aO s) false).den=eI (.mk' (br (b7 s):Nat)):=by
   show eI (NI.mk' ((aO s).den:Int))=_;rw[a]
  rw[<-e]at d;rw[eF];simp(maxDischargeDepth:=99) [f104,aa,c2 b,c1 c,c1 d]
def pV(n:Nat):Bool:=decide (600<(bn n).length)
theorem Td(a:NI)(h:a.v.natAbs<2^kB):al prog 162 [eI a] (.bool (pV a.v.natAbs)):=by
 have l:kB=100000:=rfl;have d:=ju h ug;have g:=aAP a d;have i:=G5 a d (AG h o_);have c:=PT (b6 a.v);rw[Y8]at c;refine gA_ nf func162 mix ?_;simp[f162];refine c1 g ?_
 by_cases j:1800<sB a.v.natAbs
 ·have b:(1800:Int)<(sB a.v.natAbs:Nat):=by omega
  have e:decide ((600:Int)<((bn a.v.natAbs).length:Nat))=pV a.v.natAbs:=by rw[pV,decide_eq_decide];omega
  simp[b];refine c1 i ?_;simp;refine c2 c ?_;simp[pV];omega
 ·have f:=h0 (QG a.v.natAbs) (hZ (show 0<2 by decide) (show sB a.v.natAbs<=3*600 by omega));have k:=O0 f d_;have e:pV a.v.natAbs=false:=by rw[pV,decide_eq_false_iff_not];omega
  have b:¬(1800:Int)<(sB a.v.natAbs:Nat):=o_
  simp[b,e]
def Ja(q:Rat):Bool:=pV q.num.natAbs||pV q.den
theorem aBn(a:NF)(h:aL kB a.q):al prog 82 [eF a] (.bool (Ja a.q)):=by
 have b:=Td a.num h.1;have c:=Td a.den (by rw[mU];exact h.2);rw[nS]at b;rw[mU]at c;refine gA_ nf func82 mix ?_;rw[Ja];cases hc:pV a.q.num.natAbs
 ·rw[hc]at b;simp[f82,aa,aa,c1 b,c1 c]
 ·rw[hc]at b;simp[f82,aa,c1 b]
def A8:List (Nat×Func)->dx->Option Func
 |[],_=>none
 |(i,g)::r,f=>bif ip i f then some g else A8 r f
def EY(P:Program):List (Nat×Func)->Prop
 |[]=>True
 |p::r=>au P p.1 p.2/\EY P r
theorem Q5{P:Program}:∀{l:List (Nat×Func)},EY P l->∀{f:Nat}{fn:Func},A8 l f=some fn->au P f fn
 |[],_,f,fn,h=>by simp[A8]at h
 |(i,g)::r,a,f,fn,h=>by
  simp only[A8,dl]at h
  split at h
  ·rename_i hf;simp only[lW]at h;subst h;rw[<-h5 hf];exact a.1
  ·exact Q5 a.2 h
noncomputable def Wn:List (Nat×Func):=[(2,f2),(3,f3),(4,f4),(5,f5),(6,f6),(7,f7),(8,f8),(9,f9),(10,f10),(11,f11),(12,f12),(13,f13),(14,f14),(15,f15),(16,f16),(17,f17),(18,f18),(19,f19),(20,f20),(21,f21),(22,f22),(23,f23),(24,f24),(25,f25),(26,f26),(27,f27),(28,f28),(29,f29),(30,f30),(31,f31),(32,f32),(33,f33),(34,f34),(35,f35),(36,f36),(37,f37),(38,f38),(39,f39),(40,f40),(41,f41),(42,f42),(43,f43),(44,f44),(45,f45),(46,f46),(47,f47),(48,f48),(49,f49),(50,f50),(51,f51),(52,f52),(53,f53),(54,f54),(55,f55),(56,f56),(57,f57),(58,f58),(59,f59),(60,f60),(61,f61),(62,f62),(63,f63),(64,f64),(65,f65),(66,f66),(67,f67),(68,f68),(69,f69),(70,f70),(71,f71),(72,f72),(73,f73),(74,f74),(75,f75),(76,f76),(77,f77),(78,f78),(79,f79),(80,f80),(81,f81),(82,f82),(83,f83),(84,f84),(85,f85),(86,f86),(87,f87),(88,f88),(89,f89),(90,f90),(91,f91),(92,f92),(93,f93),(94,f94),(95,f95),(96,f96),(97,f97),(98,f98),(99,f99),(100,f100),(101,f101),(102,f102),(103,f103),(104,f104),(105,f105),(106,f106),(107,f107),(108,f108),(109,f109),(110,f110),(111,f111),(112,f112),(113,f113),(114,f114),(115,f115),(116,f116),(117,f117),(118,f118),(119,f119),(120,f120),(121,f121),(122,f122),(123,f123),(124,f124),(125,f125),(126,f126),(127,f127),(128,f128),(129,f129),(130,f130),(131,f131),(132,f132),(133,f133),(134,f134),(135,f135),(136,f136),(137,f137),(138,f138),(139,f139),(140,f140),(141,f141),(142,f142),(143,f143),(144,f144),(145,f145),(146,f146),(147,f147),(148,f148),(149,f149),(150,f150),(151,f151),(152,f152),(153,f153),(154,f154),(155,f155),(156,f156),(157,f157),(158,f158),(159,f159),(160,f160),(161,f161),(162,f162),(163,f163),(164,f164),(165,f165),(166,f166),(167,f167),(168,f168),(169,f169),(170,f170),(171,f171),(172,f172),(173,f173),(174,f174),(175,f175),(176,f176),(177,f177),(178,f178),(179,f179),(180,f180),(181,f181),(182,f182),(183,f183),(184,f184),(185,f185),(186,f186),(187,f187),(188,f188),(189,f189),(190,f190),(191,f191),(192,f192),(193,f193),(194,f194),(195,f195),(196,f196),(197,f197),(198,f198),(199,f199),(200,f200),(201,f201),(202,f202),(203,f203),(204,f204),(205,f205),(206,f206),(207,f207),(208,f208),(209,f209),(210,f210),(211,f211),(212,f212),(213,f213),(214,f214),(215,f215),(216,f216),(217,f217),(218,f218),(219,f219),(220,f220),(221,f221),(222,f222),(223,f223),(224,f224),(225,f225),(226,f226),(227,f227),(228,f228),(229,f229),(230,f230),(231,f231),(232,f232),(233,f233),(234,f234),(235,f235),(236,f236),(237,f237),(238,f238),(239,f239),(240,f240),(241,f241),(242,f242),(243,f243),(244,f244),(245,f245),(246,f246),(247,f247),(248,f248),(249,f249),(250,f250),(251,f251),(252,f252),(253,f253),(254,f254),(255,f255),(256,f256),(257,f257),(258,f258),(259,f259),(260,f260),(261,f261),(262,f262),(263,f263),(264,f264),(265,f265),(266,f266),(267,f267),(268,f268),(269,f269),(270,f270),(271,f271),(272,f272),(273,f273),(274,f274),(275,f275),(276,f276),(277,f277),(278,f278),(279,f279),(280,f280),(281,f281),(282,f282),(283,f283),(284,f284),(285,f285),(286,f286),(287,f287),(289,f289),(290,f290),(291,f291),(292,f292),(293,f293),(294,f294),(295,f295),(296,f296),(297,f297),(298,f298),(299,f299),(300,f300),(301,f301),(302,f302),(303,f303),(304,f304),(305,f305),(306,f306),(307,f307),(308,f308),(309,f309),(310,f310),(311,f311),(312,f312),(313,f313),(314,f314),(315,f315),(316,f316),(317,f317),(318,f318),(319,f319),(320,f320),(321,f321),(322,f322),(323,f323),(324,f324),(325,f325),(326,f326),(327,f327),(328,f328),(329,f329),(330,f330),(331,f331),(332,f332),(333,f333),(335,f335),(336,f336),(338,f338),(339,f339),(340,f340),(341,f341),(342,f342),(343,f343),(344,f344),(345,f345),(346,f346),(347,f347),(348,f348),(349,f349),(350,f350),(351,f351),(352,f352),(354,f354),(355,f355),(356,f356),(357,f357),(358,f358),(359,f359),(360,f360),(362,f362),(363,f363),(364,f364),(365,f365),(366,f366),(367,f367),(368,f368),(369,f369),(371,f371),(372,f372),(373,f373),(374,f374),(375,f375),(376,f376),(377,f377),(378,f378),(379,f379),(380,f380),(381,f381),(382,f382),(383,f383),(417,f417)]
theorem aQF:EY prog Wn:=⟨i_ func2,i_ func3,i_ func4,i_ func5,i_ func6,i_ func7,i_ func8,i_ func9,i_ func10,i_ func11,i_ func12,i_ func13,i_ func14,i_ func15,i_ func16,i_ func17,i_ func18,i_ func19,i_ func20,i_ func21,i_ func22,i_ func23,i_ func24,i_ func25,i_ func26,i_ func27,i_ func28,i_ func29,i_ func30,i_ func31,i_ func32,i_ func33,i_ func34,i_ func35,i_ func36,i_ func37,i_ func38,i_ func39,i_ func40,i_ func41,i_ func42,i_ func43,i_ func44,i_ func45,i_ func46,i_ func47,i_ func48,i_ func49,i_ func50,i_ func51,i_ func52,i_ func53,i_ func54,i_ func55,i_ func56,i_ func57,i_ func58,i_ func59,i_ func60,i_ func61,i_ func62,i_ func63,i_ func64,i_ func65,i_ func66,i_ func67,i_ func68,i_ func69,i_ func70,i_ func71,i_ func72,i_ func73,i_ func74,i_ func75,i_ func76,i_ func77,i_ func78,i_ func79,i_ func80,i_ func81,i_ func82,i_ func83,i_ func84,i_ func85,i_ func86,i_ func87,i_ func88,i_ func89,i_ func90,i_ func91,i_ func92,i_ func93,i_ func94,i_ func95,i_ func96,i_ func97,i_ func98,i_ func99,i_ func100,i_ func101,i_ func102,i_ func103,i_ func104,i_ func105,i_ func106,i_ func107,i_ func108,i_ func109,i_ func110,i_ func111,i_ func112,i_ func113,i_ func114,i_ func115,i_ func116,i_ func117,i_ func118,i_ func119,i_ func120,i_ func121,i_ func122,i_ func123,i_ func124,i_ func125,i_ func126,i_ func127,i_ func128,i_ func129,i_ func130,i_ func131,i_ func132,i_ func133,i_ func134,i_ func135,i_ func136,i_ func137,i_ func138,i_ func139,i_ func140,i_ func141,i_ func142,i_ func143,i_ func144,i_ func145,i_ func146,i_ func147,i_ func148,i_ func149,i_ func150,i_ func151,i_ func152,i_ func153,i_ func154,i_ func155,i_ func156,i_ func157,i_ func158,i_ func159,i_ func160,i_ func161,i_ func162,i_ func163,i_ func164,i_ func165,i_ func166,i_ func167,i_ func168,i_ func169,i_ func170,i_ func171,i_ func172,i_ func173,i_ func174,i_ func175,i_ func176,i_ func177,i_ func178,i_ func179,i_ func180,i_ func181,i_ func182,i_ func183,i_ func184,i_ func185,i_ func186,i_ func187,i_ func188,i_ func189,i_ func190,i_ func191,i_ func192,i_ func193,i_ func194,i_ func195,i_ func196,i_ func197,i_ func198,i_ func199,i_ func200,i_ func201,i_ func202,i_ func203,i_ func204,i_ func205,i_ func206,i_ func207,i_ func208,i_ func209,i_ func210,i_ func211,i_ func212,i_ func213,i_ func214,i_ func215,i_ func216,i_ func217,i_ func218,i_ func219,i_ func220,i_ func221,i_ func222,i_ func223,i_ func224,i_ func225,i_ func226,i_ func227,i_ func228,i_ func229,i_ func230,i_ func231,i_ func232,i_ func233,i_ func234,i_ func235,i_ func236,i_ func237,i_ func238,i_ func239,i_ func240,i_ func241,i_ func242,i_ func243,i_ func244,i_ func245,i_ func246,i_ func247,i_ func248,i_ func249,i_ func250,i_ func251,i_ func252,i_ func253,i_ func254,i_ func255,i_ func256,i_ func257,i_ func258,i_ func259,i_ func260,i_ func261,i_ func262,i_ func263,i_ func264,i_ func265,i_ func266,i_ func267,i_ func268,i_ func269,i_ func270,i_ func271,i_ func272,i_ func273,i_ func274,i_ func275,i_ func276,i_ func277,i_ func278,i_ func279,i_ func280,i_ func281,i_ func282,i_ func283,i_ func284,i_ func285,i_ func286,i_ func287,i_ func289,i_ func290,i_ func291,i_ func292,i_ func293,i_ func294,i_ func295,i_ func296,i_ func297,i_ func298,i_ func299,i_ func300,i_ func301,i_ func302,i_ func303,i_ func304,i_ func305,i_ func306,i_ func307,i_ func308,i_ func309,i_ func310,i_ func311,i_ func312,i_ func313,i_ func314,i_ func315,i_ func316,i_ func317,i_ func318,i_ func319,i_ func320,i_ func321,i_ func322,i_ func323,i_ func324,i_ func325,i_ func326,i_ func327,i_ func328,i_ func329,i_ func330,i_ func331,i_ func332,i_ func333,i_ func335,i_ func336,i_ func338,i_ func339,i_ func340,i_ func341,i_ func342,i_ func343,i_ func344,i_ func345,i_ func346,i_ func347,i_ func348,i_ func349,i_ func350,i_ func351,i_ func352,i_ func354,i_ func355,i_ func356,i_ func357,i_ func358,i_ func359,i_ func360,i_ func362,i_ func363,i_ func364,i_ func365,i_ func366,i_ func367,i_ func368,i_ func369,i_ func371,i_ func372,i_ func373,i_ func374,i_ func375,i_ func376,i_ func377,i_ func378,i_ func379,i_ func380,i_ func381,i_ func382,i_ func383,i_ func417,trivial⟩
noncomputable def Bw(a:dx->List PV->Option PV)(oh:dx->dx->Nat):re:=⟨A8 Wn,a,fun _ _ _=>none,oh,fun _ _ _=>none⟩
theorem aPl{a:dx->List PV->Option PV}{oh:dx->dx->Nat}(h:∀f vs v,a f vs=some v->al prog f vs v):sj prog (Bw a oh):=by
 refine⟨mix,fun f fn hf=>Q5 aQF hf,fun f vs v hk=>h f vs v hk,fun f args H v H' hk=>?_,fun f args H aA v hk=>?_⟩
 ·simp only[Bw]at hk;cases hk
 ·simp only[Bw]at hk;cases hk
noncomputable def Wa(a:dx->List PV->Option PV)(oh:dx->dx->Nat)(f:dx)(vs:List PV):Option PV:=uk prog nf (Bw a oh) (mY prog nf (Bw a oh) 20) f vs
theorem RH{facts:dx->List PV->Option PV}{oh:dx->dx->Nat}(h:∀f vs v,facts f vs=some v->al prog f vs v){f:dx}{vs:List PV}{v:PV}(a:Wa facts oh f vs=some v):al prog f vs v:=reckon 20 (aPl h) a
def noF:dx->List PV->Option PV:=fun _ _=>none
def um:PV:=.st 399 ((gg 256).map fun i=>.bool (cT i))
theorem QQ(c:Nat)(hc:c<256):al prog 371 [.cW um,.int .u8 c] (.bool (cT c)):=by
 refine gA_ nf func371 mix ?_;have a:(gg 256)[c]?=some c:=hp hc;simp[f371,um,a,hc]
theorem an9(s:List Nat)(h:s.length<=1048576)(g:∀c∈s,c<256):al prog 357 [.str s,.cW um] (.str (nR s)):=by
 refine gA_ nf func357 mix ?_;simp[f357];refine lp (α:=List Nat) (fun r=>⟨[(1,.p (.cW um)),(0,.p (.str r))],[]⟩) (fun r=>nR r=nR s/\r.length<=s.length/\∀c∈r,c<256) (fun r=>r.length) s (by exact⟨rfl,ik _,g⟩) ?_;rintro r ⟨a,f,b⟩;cases r with
 |nil=>
  have e:nR s=[]:=by rw[<-a];rfl
  simp[e]
 |cons x r=>
  have hx:=b x s_;have i:nR (x::r)=if cT x=true then nR r else x::r:=by
   rw[nR,hL];split<;>rfl
  rw[i]at a;have j:(0:Int)<(r.length:Int)+1:=o_
  simp[j];refine c2 (QQ x hx) ?_;cases d:cT x
  ·rw[d]at a;simp[<-a]
  ·rw[d]at a;simp;exact rd r ⟨by simpa using a,by simp at f;omega,fun c hc=>b c (by simp[hc])⟩ (h1:=s_)
theorem Z1(s:List Nat)(h:s.length<=1048576)(g:∀c∈s,c<256):al prog 358 [.str s,.cW um] (.str (kZ s)):=by
 refine gA_ nf func358 mix ?_;simp[f358];refine lp (α:=List Nat) (fun r=>⟨[(1,.p (.cW um)),(0,.p (.str r))],[]⟩) (fun r=>kZ r=kZ s/\r.length<=s.length/\∀c∈r,c<256) (fun r=>r.length) s (by exact⟨rfl,ik _,g⟩) ?_;rintro r ⟨a,b,d⟩;rcases List.eq_nil_or_concat r with rfl|⟨t,x,rfl⟩
 ·have e:kZ s=[]:=by rw[<-a];rfl
  simp[e]
 ·simp only[List.concat_eq_append]at a b d⊢;have hx:=d x s_;have i:kZ (t++[x])=if cT x=true then kZ t else t++[x]:=by
   rw[kZ,List.reverse_append,List.reverse_cons,hu,hT,List.singleton_append,hL]
   split
   ·rfl
   ·simp
  rw[i]at a;have j:(0:Int)<(t.length:Int)+1:=o_
  have w1:dz.wrap (t.length:Int)=t.length:=aU _ o_ (by simp at b;omega);simp[j,w1];refine c2 (QQ x hx) ?_;cases f:cT x
  ·rw[f]at a;simp[<-a]
  ·rw[f]at a;simp[w1];exact rd t ⟨by simpa using a,by simp at b;omega,fun c hc=>d c (by simp[hc])⟩ (h1:=s_)
def Bj:List Nat:=[48,49,50,51,52,53,54,55,56,57]
theorem aum:al prog 356 [.str Bj] (.aE [um,.bool true]):=RH (facts:=noF) (oh:=fun _ _=>0) (fun _ _ _ h=>by cases h) k_
theorem aQO:cO prog 400=some (.st 399 (gi 256 (.bool false))):=k_
theorem awv(s:List Nat)(h:s.length<=1048576)(d:∀c∈s,c<256):al prog 333 [.str s,.str Bj] (.str (nR (kZ s))):=by
 refine gA_ nf func333 mix ?_
 by_cases b:s=[]
 ·subst b;simp[f333,Bj,nR,kZ]
 simp[f333,Bj,b];refine c1 aum ?_;have g:(kZ s).length<=s.length:=by
  rw[kZ,List.length_reverse];have:=(hF cT (l:=s.reverse)).length_le;simpa using this
 have f:∀c∈kZ s,c<256:=by
  intro c hc;rw[kZ,List.mem_reverse]at hc;exact d c (by simpa using(hF cT (l:=s.reverse)).subset hc)
 simp[aQO];have a:aP um=.agg 399:=rfl;refine⟨⟨⟨a.symm,by rw[a];intro e;cases e⟩,a.symm⟩,?_⟩;refine cp (Z1 s h d) (by simp;exact⟨rfl,rfl⟩) ?_;simp;refine cp (an9 (kZ s) o_ f) (by simp;exact⟨rfl,rfl⟩) ?_;simp
def bN:List Int->Int
 |[]=>0
 |e::r=>if e=0 then bN r else e
def aZ(b:Bool)(e:Int):Int:=if b=true then e else 0
theorem awx(a:List Int)(h:a.length<=1048576):al prog 292 [.seq (a.map (.int .i64))] (.int .i64 (bN a)):=by
 refine gA_ nf func292 mix ?_;simp[f292];refine lp (α:=Nat) (fun i=>⟨[(7,.p (.int .i64 i)),(6,.p (.int .i64 a.length)),(5,.p (.seq (a.map (.int .i64))))],[]⟩) (fun i=>i<=a.length/\bN (a.drop i)=bN a) (fun i=>a.length-i) 0 s_ ?_;rintro i ⟨d,b⟩;simp
 by_cases hi:i<a.length
 ·rw[g5 hi]at b;have c:=b8 (i:=i) o_;simp[hi]
  by_cases he:a[i]=0
  ·simp[bN,he]at b;simp[he,c];exact rd (i+1) ⟨hi,b⟩
  ·simp[bN,he]at b;simp[he,<-b]
 ·have:i=a.length:=by omega
  subst this;simp[bN]at b;simp[<-b]
theorem zP(a:List Int)(h:a.length<=1048576):al prog 47 [.seq (a.map (.int .i64))] (.int .i64 (bN a)):=by
 refine gA_ nf func47 mix ?_;simp[f47];refine lp (α:=Nat) (fun i=>⟨[(7,.p (.int .i64 i)),(6,.p (.int .i64 a.length)),(5,.p (.seq (a.map (.int .i64))))],[]⟩) (fun i=>i<=a.length/\bN (a.drop i)=bN a) (fun i=>a.length-i) 0 s_ ?_;rintro i ⟨d,b⟩;simp
 by_cases hi:i<a.length
 ·rw[g5 hi]at b;have c:=b8 (i:=i) o_;simp[hi]
  by_cases he:a[i]=0
  ·simp[bN,he]at b;simp[he,c];exact rd (i+1) ⟨hi,b⟩
  ·simp[bN,he]at b;simp[he,<-b]
 ·have:i=a.length:=by omega
  subst this;simp[bN]at b;simp[<-b]
theorem uv(a:List Int)(h:a.length<=1048576):al prog 145 [.seq (a.map (.int .i64))] (.int .i64 (bN a)):=by
 refine gA_ nf func145 mix ?_;simp[f145];refine lp (α:=Nat) (fun i=>⟨[(7,.p (.int .i64 i)),(6,.p (.int .i64 a.length)),(5,.p (.seq (a.map (.int .i64))))],[]⟩) (fun i=>i<=a.length/\bN (a.drop i)=bN a) (fun i=>a.length-i) 0 s_ ?_;rintro i ⟨d,b⟩;simp
 by_cases hi:i<a.length
 ·rw[g5 hi]at b;have c:=b8 (i:=i) o_;simp[hi]
  by_cases he:a[i]=0
  ·simp[bN,he]at b;simp[he,c];exact rd (i+1) ⟨hi,b⟩
  ·simp[bN,he]at b;simp[he,<-b]
 ·have:i=a.length:=by omega
  subst this;simp[bN]at b;simp[<-b]
theorem Ax(b:Bool)(e:Int):al prog 293 [.bool b,.int .i64 e] (.int .i64 (aZ b e)):=by
 refine gA_ nf func293 mix ?_;cases b<;>simp[f293,aZ]
theorem pz(b:Bool)(e:Int):al prog 48 [.bool b,.int .i64 e] (.int .i64 (aZ b e)):=by
 refine gA_ nf func48 mix ?_;cases b<;>simp[f48,aZ]
theorem jT(b:Bool)(e:Int):al prog 146 [.bool b,.int .i64 e] (.int .i64 (aZ b e)):=by
 refine gA_ nf func146 mix ?_;cases b<;>simp[f146,aZ]
theorem Sk(s:List Nat)(h:s.length<=1048576)(g:∀c∈s,c<256):al prog 291 [.str s] (.bool (eA s)):=by
 have f:=awv s h g;have hn:=aql s;rw[show Bj=[48,49,50,51,52,53,54,55,56,57]from rfl]at f;refine gA_ nf func291 mix ?_;generalize nR (kZ s)=t at*;cases s with
 |nil=>simp[f291,eA]
 |cons c r=>
  have hc:=g c s_
  by_cases b:t=[]
  ·have d:=hn.1 b;have e:eA (c::r)=(decide (¬c=48)||decide (r=[])):=by
    rw[eA,d]
    by_cases a:c=48
    ·subst a;simp
    ·simp[a]
   rw[e];clear e d hn
   by_cases a:c=48
   ·cases r with
    |nil=>
     simp[f291];refine c2 f ?_;simp[b,a]
    |cons x r=>
     simp[f291];refine c2 f ?_;simp[b,a]
   ·have i:¬(c:Int)=48:=by omega
    simp[f291,b,a,i,c2 f]
  ·have d:¬(c::r).all cT=true:=mt hn.2 b;have a:(c::r).all cT=false:=by simpa using d
   have e:eA (c::r)=false:=by rw[eA,a];simp
   rw[e];clear e d a hn;simp[f291,b,c2 f]
theorem aMh{a b:Nat}:(decide (mM (fM a b) 1≠0))=decide (i4 a b≠1):=by
 rw[decide_eq_decide,mM,fM,ea,ea]
 split
 ·simp;omega
 ·split
  ·simp;omega
  ·simp;omega
theorem Jh{s:List Nat}(h:s.all cT=true)(c:s.length<=700):okW (br s:Nat):=by
 have a:=lZ _ s rfl h;have b:br s<2^kR:=h0 a (Qq (by have:kR=2800:=rfl;omega));exact ju (k:=kR) (by rw[ea];exact b) (by have:kB=100000:=rfl;have:kR=2800:=rfl;omega)
theorem D1(s:List Nat)(h:s.length<=1048576)(I:∀c∈s,c<256):al prog 245 [.str s] (.int .i64 (cm s)):=by
 have V:=awB s;have y:=Uf (dI s) 47 (h3 (tt s).1 h);rw[show(cH 47 (dI s)).1=bR s from rfl,show(cH 47 (dI s)).2.1=b7 s from rfl,show(cH 47 (dI s)).2.2=fG s from rfl]at y;refine gA_ nf func245 mix ?_;simp[f245,-ba];rw[ba];simp[-ba];rw[ba];simp[-ba];refine c2 V ?_;simp[-ba];rw[ba];simp[-ba];refine c2 y ?_;simp[-ba];have Z:=(tt s).1;have q:=xt 47 (dI s);have ab:(bR s).length<=1048576:=by have:=q.1;rw[bR];omega
 have aa:(b7 s).length<=1048576:=by have:=q.2.1;rw[b7];omega
 have U:∀c∈bR s,c<256:=fun c hc=>I c ((tt s).2 c (q.2.2.1 c hc));have T:∀c∈b7 s,c<256:=fun c hc=>I c ((tt s).2 c (q.2.2.2 c hc));clear q Z;have X:=Sk (bR s) ab U;have W:=Sk (b7 s) aa T;obtain⟨m,z⟩:∃m,m=(eA (bR s)&&!(cE s&&decide (bR s=[48]))):=⟨_,rfl⟩
 obtain⟨f2,k⟩:∃f2,f2=(m&&(!fG s||(eA (b7 s)&&decide (b7 s≠[48])&&decide (b7 s≠[49])))):=⟨_,rfl⟩
 have J:cm s=if f2=false then 1 else if 600<(bR s).length\/600<(b7 s).length then 4 else if fG s=true/\i4 (br (bR s)) (br (b7 s))≠1 then 1 else 0:=by rw[k,z];rfl
 rw[J];clear J y;generalize fG s=fr at*;refine join (fun s'=>aV s'.env 8=.p (.bool m)/\aV s'.env 7=.p (.bool fr)/\aV s'.env 6=.p (.str (b7 s))/\aV s'.env 5=.p (.str (bR s))/\s'.heap=[]) ?_ ?_
 ·simp;refine c1 X ?_;rw[z];cases eA (bR s)
  ·simp
  ·cases cE s
   ·simp
   ·by_cases hn:bR s=[48]
    ·simp[hn]
    ·simp[hn]
 rintro⟨G,Y⟩ ⟨d,f,g,i,r⟩;dsimp only at d f g i r;subst r;refine join (fun s'=>aV s'.env 8=.p (.bool f2)/\aV s'.env 7=.p (.bool fr)/\aV s'.env 6=.p (.str (b7 s))/\aV s'.env 5=.p (.str (bR s))/\s'.heap=[]) ?_ ?_
 ·rw[k];cases fr
  ·simp[d,f,g,i]
  ·cases m
   ·simp[d,f,g,i]
   ·simp[d,f,g,i];refine c1 W ?_;cases eA (b7 s)
    ·simp[d,f,g,i]
    ·by_cases hn:b7 s=[48]
     ·simp[d,f,g,i,hn]
     ·by_cases L:b7 s=[49]
      ·simp[d,f,g,i,L]
      ·simp[d,f,g,i,hn,L]
 clear d f g i G;rintro⟨G,Y⟩ ⟨d,f,g,i,r⟩;dsimp only at d f g i r;subst r;have head:∀(n u:Bool),al prog 292 [.seq [.int .i64 (aZ n 1),.int .i64 (aZ u 4)]] (.int .i64 (if n=true then 1 else if u=true then 4 else 0)):=fun n u=>by
  have:=awx [aZ n 1,aZ u 4] s_;cases n<;>cases u<;>exact this
 have w0:=Ax (!f2) 1;have P:=Ax true 4;have wf:=Ax false 4;have H:=head (!f2) true;have S:=head (!f2) false;have M:(600<(bR s).length)↔(600:Int)<((bR s).length:Nat):=o_
 have N:(600<(b7 s).length)↔(600:Int)<((b7 s).length:Nat):=o_
 by_cases t:(600:Int)<((bR s).length:Nat)
 ·simp[d,f,g,i];refine c2 w0 ?_;simp[d,f,g,i,t];refine c2 P ?_;simp;refine cp H (by simp;exact⟨rfl,rfl⟩) ?_;cases f2
  ·simp
  ·simp[M.2 t]
 by_cases w:(600:Int)<((b7 s).length:Nat)
 ·simp[d,f,g,i];refine c2 w0 ?_;simp[d,f,g,i,t,w];refine c2 P ?_;simp;refine cp H (by simp;exact⟨rfl,rfl⟩) ?_;cases f2
  ·simp
  ·simp[N.2 w]
 have C:¬600<(bR s).length:=mt M.1 t;have D:¬600<(b7 s).length:=mt N.1 w;have O:=Ax false 1;have ae:=Ax true 1;simp[d,f,g,i];refine c2 w0 ?_;simp[d,f,g,i,t,w];refine c2 wf ?_;simp;refine cp S (by simp;exact⟨rfl,rfl⟩) ?_;cases f2
 ·simp
 cases fr
 ·simp[d,f,g,i,C,D];refine c2 O ?_;simp[aZ];exact⟨o_,o_⟩
 have j:eA (bR s)=true/\eA (b7 s)=true:=by
  cases Q:eA (bR s)
  ·rw[z,Q]at k;simp at k
  cases R:eA (b7 s)
  ·rw[R]at k;simp at k
  exact⟨rfl,rfl⟩
 obtain⟨ac,E⟩:=GZ j.1;obtain⟨ad,F⟩:=GZ j.2;have r1:=DP (bR s) (by rw[E];exact mz j.1) (by rw[E];omega);have x:=DP (b7 s) (by rw[F];exact mz j.2) (by rw[F];omega);rw[ac,E]at r1;rw[ad,F]at x;simp only[dp,if_false]at r1 x;have A:=Ud (.mk' (br (bR s):Nat)) (.mk' (br (b7 s):Nat)) (Jh (mz j.1) o_) (Jh (mz j.2) o_);rw[NI.jP,NI.jP]at A;have B:=vM 1;rw[Ry]at B;have hc:=Uc (.mk' (fM (br (bR s):Nat) (br (b7 s):Nat))) (.mk' 1) (u6 (Jh (mz j.2) o_) (by rw[NI.jP,fM,ea,ea,ea];exact ko _ (C2 j.2 (fun e=>by rw[e]at k;simp at k)))) (by rw[okW];decide);rw[NI.jP,NI.jP]at hc;have K:=aMh (a:=br (bR s)) (b:=br (b7 s));generalize mM (fM (br (bR s):Nat) (br (b7 s):Nat)) 1=o at*
 by_cases l:i4 (br (bR s)) (br (b7 s))=1
 ·have v:o=0:=by simpa[l]using K
  simp[d,f,g,i,C,D,l];refine c1 r1 ?_;simp[d,f,g,i];refine c1 x ?_;simp;refine c2 A ?_;simp;refine c1 B ?_;simp;refine c2 hc ?_;simp[v];refine c2 O ?_;simp[aZ];rw[if_neg o_,if_pos l]
 ·have v:¬o=0:=by simpa[l]using K
  simp[d,f,g,i,C,D,l];refine c1 r1 ?_;simp[d,f,g,i];refine c1 x ?_;simp;refine c2 A ?_;simp;refine c1 B ?_;simp;refine c2 hc ?_;simp[v];refine c2 ae ?_ (h1:=by simp[v]);simp[aZ];rw[if_neg o_,if_neg l]
def ky(s:List Nat):Prop:=s.length<=1048576/\∀c∈s,c<256
theorem awA(l:List (List Nat)):al prog 287 [.seq (l.map .str)] (.func 331 [] [.cW (.seq (l.map .str))]):=by
 refine gA_ nf func287 mix ?_;simp[f287];exact ch.refl _
def I5(s:List Nat):List PV:=[.int .i64 (cm s)]
theorem ava(l:List (List Nat))(q:l.length<=1000000)(hs:∀s∈l,ky s):Stream prog 331 [] [.cW (.seq (l.map .str))] (l.map I5):=by
 intro b k c H' hk d o f;refine gz nf (i_ func331) mix (by simp[f331]) ?_;rw[hA]at hk;have g:∀i(h:i<l.length),(l.map I5)[i]?=some (I5 l[i]):=fun i h=>by rw[hd,gb h];rfl
 simp[f331];refine lp (α:=Nat) (fun i=>⟨[(7,.p (.int .i64 i)),(6,.p (.int .i64 l.length)),(5,.p (.seq (l.map .str))),(0,.map b)],c i⟩) (fun i=>i<=k) (fun i=>l.length-i) 0 s_ ?_ (hr:=by simp;exact(d 0 o_).2) (hr2:=(d 0 o_).1);intro i hi;have n:=b8 (i:=i) o_
 by_cases a:i<l.length
 ·have hc:=D1 l[i] (hs _ (gy a)).1 (hs _ (gy a)).2;have jg:(i<k/\gJ prog b (c i) [.p (.int .i64 (cm l[i]))] (c (i+1)) (.p (.bool true)))\/gJ prog b (c i) [.p (.int .i64 (cm l[i]))] H' (.p (.bool false)):=by
   by_cases e:i<k
   ·exact .inl ⟨e,o i _ e (g i a)⟩
   ·have:i=k:=by omega
    subst this;rcases f with⟨e1,_⟩|⟨y,e1,e2⟩
    ·rw[hA]at e1;omega
    ·rw[g i a]at e1;injection e1 with e1;subst e1;exact .inr e2
  simp[a];refine c1 hc ?_;simp;rcases jg with⟨e,hY⟩|hY
  ·refine⟨c (i+1),_,hY,?_⟩;simp[n];exact rd (i+1) e (h1:=o_) (hr:=by simp;exact(d (i+1) o_).2) (hr2:=(d (i+1) o_).1)
  ·refine⟨H',_,hY,?_⟩;simp
 ·have m:i=l.length:=by omega
  have j:k=l.length:=o_
  rcases f with⟨e1,e2⟩|⟨y,e1,e2⟩
  ·simp[a,e2,m,j]
  ·rw[j,List.getElem?_eq_none s_]at e1;cases e1
theorem Dh(p:Nat->Bool):∀n,∃k,k<=n/\(∀j,j<k->p j=true)/\(k=n\/(k<n/\p k=false))
 |0=>⟨0,ik _,fun j h=>by omega,.inl rfl⟩
 |n+1=>by
  obtain⟨k,f,b,a⟩:=Dh p n;rcases a with a|⟨a,d⟩
  ·subst a;cases c:p k
   ·exact⟨k,o_,b,.inr ⟨o_,c⟩⟩
   ·refine⟨k+1,ik _,fun j g=>?_,.inl rfl⟩
    by_cases e:j=k
    ·subst e;exact c
    ·exact b j o_
  ·exact⟨k,o_,b,.inr ⟨o_,d⟩⟩
def pJ(l:List (List Nat))(i:Nat):Int:=match l[i]? with
 |some s=>cm s
 |none=>0
theorem Pb:∀(l:List (List Nat))(k:Nat),(∀j,j<k->pJ l j=0)->bN (l.map cm)=bN ((l.drop k).map cm)
 |[],k,_=>by simp
 |s::l,0,_=>rfl
 |s::l,k+1,h=>by
  have a:=h 0 o_;have b:cm s=0:=a;rw[gm,bN,if_pos b,List.drop_succ_cons];exact Pb l k fun j c=>h (j+1) o_
theorem aq6(l:List (List Nat))(c:l.length<=1000000)(hs:∀s∈l,ky s):al prog 234 [.seq (l.map .str)] (.int .i64 (bN (l.map cm))):=by
 refine gA_ nf func234 mix ?_;simp[f234];refine c1 (awA l) ?_;simp;have aY:=ava l c hs;obtain⟨k,hk,g,d⟩:=Dh (fun i=>decide (pJ l i=0)) l.length;have r:∀j,j<k->pJ l j=0:=fun j q=>by simpa using g j q
 have f:=Pb l k r;refine rf2 aY rfl s_ (fun L _=>[.box false (.p (.int .i64 0)),.loop L]) (fun L i=>[.box false (.p (.int .i64 (pJ l (i-1)))),.loop (L.dn .ret)]) (fun i=>decide (pJ l i=0)) .ret k (by simpa using hk) g (by simpa using d) (fun L=>rfl) ?_ ?_ (fun L=>rfl) ?_ ?_
 ·intro L b i hi;clear b;refine⟨rfl,s_,fun _ c=>?_⟩;simp at c⊢;exact c
 ·intro L b i x hi hx;have t:x=[.int .i64 (pJ l i)]:=by
   rw[hd]at hx;unfold pJ;cases h:l[i]? with
   |none=>rw[h]at hx;cases hx
   |some s=>rw[h]at hx;injection hx with hx;rw[<-hx];rfl
  subst t;rw[i6];refine sU nf mix b rfl rfl k_ ?_;have m:=congrArg eK.env b;dsimp only at m;clear b;generalize pJ l i=e
  by_cases he:e=0
  ·subst he;simp;exact .inl rfl
  ·simp[he];exact .inl rfl
 ·intro a L;have a:k=l.length:=by simpa using a
  rw[f,a];simp[bN]
 ·intro a L;have a:k<l.length:=by simpa using a
  have o:¬pJ l k=0:=by
   rcases d with u|⟨_,n⟩
   ·omega
   ·simpa using n
  have e1:pJ l k=cm l[k]:=by unfold pJ;rw[gb a]
  rw[f,g5 a,gm,bN,<-e1,if_neg o];simp[lO]
structure bS where
 x:List Nat
 y:List Nat
def et(p:bS):PV:=.st 31 [.str p.x,.str p.y]
def ku(p:bS):Prop:=ky p.x/\ky p.y
def dZ(p:bS):Int:=bN [cm p.x,cm p.y]
@[simp] theorem aUF(p:bS):aP (et p)=.agg 31:=rfl
@[simp] theorem aS1(p:bS):cz (et p)=[.str p.x,.str p.y]:=rfl
@[simp] theorem aR1:prog.cellsOf 31=2:=k_
theorem Zr(p:bS)(a:ku p):al prog 139 [.seq [et p]] (.int .i64 (dZ p)):=by
 have hc:=aq6 [p.x,p.y] s_ (by intro s hs;simp at hs;rcases hs with rfl|rfl;exact a.1;exact a.2);refine gA_ nf func139 mix ?_;simp[f139];refine lp (α:=Nat) (fun i=>⟨[(8,.p (.int .i64 i)),(7,.p (.int .i64 1)),(6,.p (.seq [et p])),(0,.p (.seq [et p]))],[]⟩) (fun i=>i=0\/(i=1/\dZ p=0)) (fun i=>1-i) 0 (.inl rfl) ?_;rintro i h;rcases h with rfl|⟨rfl,h⟩
 ·simp[aa];refine cp hc (by simp;exact⟨rfl,rfl⟩) ?_;have b:dz.wrap 1=1:=rfl;rw[show bN (hG cm [p.x,p.y])=dZ p from rfl]
  by_cases h:dZ p=0
  ·simp[h,b];exact rd 1 (.inr ⟨rfl,h⟩)
  ·simp[h]
 ·simp[h]
theorem Cl(p:bS)(a:ku p):al prog 66 [et p] (.int .i64 (dZ p)):=by
 refine gA_ nf func66 mix ?_;simp[f66,aa];refine cp (Zr p a) (by simp;exact⟨rfl,rfl⟩) ?_;simp
open Go.Proofs Go.Proofs.YtembaldpmgjjbaaGreatDoor
section
variable{H:Type}{W:World}{ad:Nat->Prop}
theorem D9{n:Nat}{d:dy H}(h:∃cs,bc prog W ad (bO prog (n+1) 30 d) cs)(a:Rows.uptoBulk d<=1048576):∃s:List Nat,bO prog (n+1) 30 d=.str s/\ky s:=by
 obtain⟨cs,h⟩:=h;cases d with
 |lit l=>
  cases l with
  |string bytes=>
   refine⟨bytes.map (·.toNat),by simp only[bO,Jx],?_,?_⟩
   ·rw[Rows.uptoBulk]at a;rw[hA];omega
   ·intro c hc;obtain⟨u,_,rfl⟩:=ho.1 hc;exact u.toNat_lt
  |_=>simp only[bO,Jx,bc]at h
 |_=>simp only[bO,Jx,bc]at h
theorem aQW:∃a b:Field,prog.underlying 32=some (.struct #[a,b])/\a.type=30/\b.type=30:=⟨_,_,underlying32,rfl,rfl⟩
theorem Wt:prog.underlyingId 32=31:=k_
theorem asx{m n:Nat}(q:m=n+1){d:dy H}(h:∃cs,bc prog W ad (bO prog (m+1) 32 d) cs)(e:Rows.uptoBulk d<=1048576):∃p:bS,bO prog (m+1) 32 d=et p/\ku p:=by
 obtain⟨cs,h⟩:=h;obtain⟨f0,f1,i,t0,t1⟩:=aQW;cases d with
 |agg l=>
  have g:∀x∈l,Rows.uptoBulk x<=1048576:=fun x hx=>by
   have:=tY.yh hx;rw[Rows.uptoBulk]at e;omega
  simp only[bO,i,bc]at h⊢;obtain⟨t,s,f,c,_⟩:=h;rw[Wt,aQD]at f;cases f
  match l,c with
  |[],c=>simp[bA]at c
  |[x],c=>simp[bA]at c
  |x::y::r,c=>
   simp only[List.zip_cons_cons,gm,bA,List.zip_nil_left,ht,t0,t1]at c⊢;obtain⟨c0,_,_,g1,_,c1,_,_,g2,_⟩:=c;subst q;obtain⟨a,j,o⟩:=D9 ⟨c0,g1⟩ (g x s_);obtain⟨b,k,e⟩:=D9 ⟨c1,g2⟩ (g y s_);exact⟨⟨a,b⟩,by rw[j,k,Wt];rfl,o,e⟩
 |_=>simp only[bO,i,bc]at h
theorem G7{n:Nat}{d:dy H}(h:∃cs,bc prog W ad (bO prog (n+2) 32 d) cs)(a:Rows.uptoBulk d<=1048576):∃p:bS,bO prog (n+2) 32 d=et p/\ku p:=asx rfl h a
theorem az6{d:dy H}(h:∃cs,bc prog W ad (bO prog 8 32 d) cs)(b:Rows.uptoBulk d<=1048576):∃p:bS,bO prog 8 32 d=et p/\True/\ku p:=by
 obtain⟨p,e,a⟩:=G7 (n:=6) h b;exact⟨p,e,trivial,a⟩
end
def bT:Nat:=1000000000
theorem bt:2<=bT:=d_
def iP(l:List Nat):List PV:=l.map fun x:Nat=>.int .i64 x
theorem Wh(w:List Nat):gP prog 1 (w.map (AV.p∘fun x:Nat=>PV.int .i64 x)):=by
 rw[zQ];intro v a;obtain⟨x,_,rfl⟩:=ho.1 a;simp[aa,aP,bZ]
def eT(n:Nat):PV:=.seq ((aw bT n).map fun x:Nat=>.int .i64 x)
theorem Eh:aw bT 0=[]:=by simp[aw,qP]
theorem rL{n:Nat}(b:0<n)(h:n<bT):aw bT n=[n]:=by
 have a:=l8 bt (m:=1) (n:=n) (by rw[kf];exact h);rw[<-a,row,hW,gm,ht,ag,i3,i8,h9 h];have:=zK [] n o_
 rwa [hT]at this
theorem zY{n:Nat}:aw bT n=[]↔n=0:=by
 constructor
 ·intro h;have:=cU bt n;rw[h,List.length_nil,i3]at this;omega
 ·rintro rfl;exact Eh
theorem xO(w:List Nat)(h:w.length<=1048576):al prog 317 [.seq (iP w)] (.seq (iP (fE w))):=by
 refine gA_ nf func317 mix ?_;simp only[iP];simp[f317];refine lp (α:=Nat) (fun i=>⟨[(0,.p (.seq ((w.take i).map fun x:Nat=>.int .i64 x)))],[]⟩) (fun i=>i<=w.length/\fE w=fE (w.take i)) (fun i=>i) w.length s_ ?_;rintro i ⟨k1,k2⟩;have g:(w.take i).length=i:=by rw[gx];omega
 by_cases hi:0<i
 ·obtain⟨j,rfl⟩:∃j,i=j+1:=⟨i-1,o_⟩
  have e:dz.wrap (j:Int)=j:=aU _ o_ o_;have a:j<w.length:=o_
  have d:(0:Int)<(j:Int)+1:=o_
  have k3:=k2;rw[g6 a]at k2;have b:min (j+1) w.length=j+1:=o_
  have c:min ((j:Int)+1) (w.length:Int)=j+1:=o_
  have f:¬w=[]:=by rintro rfl;simp at a
  by_cases hz:w[j]=0
  ·rw[hz,F9]at k2;simp[d,e,a,hz,b,c,f];refine⟨by rw[<-g7];exact Wh _,?_⟩;refine rd j ⟨o_,k2⟩ (he:=?_);rw[<-g7,<-g7,hC,kP o_];simp
  ·rw[zK _ _ hz,<-g6 a]at k2;simp[d,e,a,hz,b,c,f];rw[k2,g7];exact ch.refl _
 ·obtain rfl:i=0:=by omega
  simp[fE]at k2;simp[k2]
def eG(z:Int):PV:=.st 285 [.bool (decide (z<0)),eT z.natAbs]
@[simp] theorem aUx(z:Int):aP (eG z)=.agg 285:=rfl
@[simp] theorem aST(z:Int):cz (eG z)=[.bool (decide (z<0)),eT z.natAbs]:=rfl
@[simp] theorem aUM(n:Nat):aP (eT n)=.leaf:=rfl
theorem G2(neg:Bool)(w:List Nat)(n:Nat)(hn:fE w=aw bT n)(h:w.length<=1048576):al prog 310 [.bool neg,.seq (iP w)] (eG (if neg=true then -(n:Int)else n)):=by
 have a:=xO w h;rw[hn]at a;refine gA_ nf func310 mix ?_;have b:(if neg=true then -(n:Int)else n).natAbs=n:=by cases neg<;>simp
 rw[eG,b,eT];have c:=zY (n:=n);have d:decide ((if neg=true then -(n:Int)else n)<0)=(neg&&decide (0<(aw bT n).length)):=by
  cases neg
  ·simp
  ·simp;rw[ge,Ne,c];omega
 rw[d];simp only[iP]at a⊢;generalize aw bT n=x at*;cases neg
 ·simp[f310,aa,c1 a]
 ·simp[f310];refine c1 a ?_;simp[aa]
  done
theorem OL{a b:Nat}(h:(aw bT a).length<(aw bT b).length):a<b:=by
 have d:=cU bt a;rcases ih a b with c|c
 ·exact c
 ·have:=fc bt (aw bT a).length b (h4 c d);omega
theorem OP{a b i:Nat}(h:a/bT^(i+1)=b/bT^(i+1))(e:ag bT a i<ag bT b i):a<b:=by
 rw[h7,<-ii,<-ii]at h;have e1:=ix (a/bT^i) bT;have e2:=ix (b/bT^i) bT;rw[ag,ag]at e;rw[h]at e1;rcases ih a b with d|d
 ·exact d
 ·have:=Nat.div_le_div_right (c:=bT^i) d;omega
theorem aua{a b i:Nat}(h:a/bT^(i+1)=b/bT^(i+1))(c:ag bT a i=ag bT b i):a/bT^i=b/bT^i:=by
 rw[h7,<-ii,<-ii]at h;have e1:=ix (a/bT^i) bT;have e2:=ix (b/bT^i) bT;rw[ag,ag]at c;rw[h]at e1;omega
theorem OV(a b:Nat)(E:(aw bT a).length<=1048576)(F:(aw bT b).length<=1048576):al prog 313 [eT a,eT b] (.int .i64 (ie a b)):=by
 refine gA_ nf func313 mix ?_
 by_cases l:(aw bT a).length=(aw bT b).length
 case neg=>
  have q:¬((aw bT a).length:Int)=(aw bT b).length:=o_
  by_cases A:(aw bT a).length<(aw bT b).length
  ·have m:((aw bT a).length:Int)<(aw bT b).length:=by omega
   have:=OL A;have hc:ie a b= -1:=if_pos this;simp[f313,eT,q,m,hc]
  ·have m:¬((aw bT a).length:Int)<(aw bT b).length:=by omega
   have:=OL (a:=b) (b:=a) o_;have hc:ie a b=1:=by rw[ie,if_neg o_,if_pos this]
   simp[f313,eT,q,m,hc]
 have t:∀i(h:i<(aw bT a).length),(aw bT a)[i]?=some (ag bT a i):=fun i h=>by rw[gb h,fI bt h]
 have v:∀i(h:i<(aw bT b).length),(aw bT b)[i]?=some (ag bT b i):=fun i h=>by rw[gb h,fI bt h]
 have u:∀i(h:i<(aw bT a).length),(aw bT a)[i]=ag bT a i:=fun i h=>fI bt h;have w:∀i(h:i<(aw bT b).length),(aw bT b)[i]=ag bT b i:=fun i h=>fI bt h;have s:=cU bt a;have o:=cU bt b;rw[<-l]at o;have z:a/bT^(aw bT a).length=b/bT^(aw bT a).length:=by rw[i2 s,i2 o]
 simp only[eT];generalize aw bT a=x,aw bT b=y at*;have D:dz.wrap ((y.length:Int)-1)=y.length-1:=aU _ o_ o_;simp[f313,l,D];refine lp (α:=Nat) (fun i=>⟨[(5,.p (.int .i64 ((i:Int)-1))),(1,.p (.seq (y.map fun x:Nat=>.int .i64 x))),(0,.p (.seq (x.map fun x:Nat=>.int .i64 x)))],[]⟩) (fun i=>i<=y.length/\a/bT^i=b/bT^i) (fun i=>i) y.length ⟨ik _,by rw[<-l];exact z⟩ ?_;rintro i ⟨k1,k2⟩
 by_cases hi:0<i
 ·obtain⟨j,rfl⟩:∃j,i=j+1:=⟨i-1,o_⟩
  have c:j<x.length:=o_
  have d:j<y.length:=o_
  have C:dz.wrap ((j:Int)-1)=j-1:=aU _ o_ o_;have e:=t j c;have g:=v j d;have f:=u j c;have k:=w j d
  by_cases hq:ag bT a j=ag bT b j
  ·simp[c,d,e,g,f,k,hq,C];exact rd j ⟨o_,aua k2 hq⟩
  ·have r:¬(ag bT a j:Int)=ag bT b j:=by omega
   by_cases n:ag bT a j<ag bT b j
   ·have:=OP k2 n;have hc:ie a b= -1:=if_pos this;simp[c,d,e,g,f,k,r,n,hc]
   ·have:=OP k2.symm (show ag bT b j<ag bT a j by omega);have B:ag bT b j<ag bT a j:=by omega
    have hc:ie a b=1:=by rw[ie,if_neg o_,if_pos this]
    simp[c,d,e,g,f,k,r,n,B,hc]
 ·obtain rfl:i=0:=by omega
  rw[i3,i8,i8]at k2;have hc:ie a b=0:=by rw[ie,if_neg o_,if_neg o_]
  simp[hc]
theorem avn{n i:Nat}(h:(aw bT n).length<=i):ag bT n i=0:=l7 (h0 (cU bt n) (hZ d_ h))
theorem HM(a i:Nat):al prog 345 [eT a,.int .i64 i] (.int .i64 (ag bT a i:Nat)):=by
 refine gA_ nf func345 mix ?_
 by_cases h:i<(aw bT a).length
 ·have g1:(aw bT a)[i]=ag bT a i:=fI bt h;rw[eT,<-g1];generalize aw bT a=x at*;simp[f345,h]
 ·rw[avn o_,eT];generalize aw bT a=x at*;simp[f345,h]
def fB(i n:Nat):List AV:=(gg i).map fun j=>.p (.int .i64 (ag bT n j:Nat))
theorem uU(i n:Nat):fB (i+1) n=fB i n++[.p (.int .i64 (ag bT n i:Nat))]:=by
 rw[fB,hS,hV];rfl
theorem jH(i n:Nat):(fB i n).length=i:=by simp[fB]
@[simp] theorem aUj{N:Nat×Nat->Prop}{n i:Nat}:bk N (fB i n)=True:=by
 rw[eQ,eq_iff_iff,iff_true];intro v a;simp only[fB,ho]at a;obtain⟨x,_,rfl⟩:=a;trivial
theorem Rt(i n:Nat):fy (fB i n)=some ((row bT i n).map fun x:Nat=>.int .i64 x):=by
 have:fB i n=(row bT i n).map (AV.p∘fun x:Nat=>PV.int .i64 x):=by
  rw[fB,row,hE];rfl
 rw[this];exact PZ
theorem Ss(i n:Nat):fB i n=(row bT i n).map (AV.p∘fun x:Nat=>PV.int .i64 x):=by
 rw[fB,row,hE];rfl
theorem awb{n i:Nat}(h:n<bT^i)(a:i=0\/bT^(i-1)<=n):row bT i n=aw bT n:=by
 have b:(aw bT n).length=i:=by
  have c:=fc bt i n h;rcases a with rfl|a
  ·omega
  ·have:=Pc bt a;omega
 have:=aLB bt n;rw[b]at this;exact this.symm
theorem aDQ(a b:Nat)(H:(aw bT a).length<=1000000)(I:(aw bT b).length<=1000000):al prog 312 [eT a,eT b] (eT (a+b)):=by
 refine gA_ nf func312 mix ?_;have v:=cU bt a;have w:=cU bt b;have C:∀i,i<(aw bT a).length->bT^i<=a:=fun i h=>by
  rcases ih a (bT^i)with c|c
  ·have:=fc bt i a c;omega
  ·exact c
 have D:∀i,i<(aw bT b).length->bT^i<=b:=fun i h=>by
  rcases ih b (bT^i)with c|c
  ·have:=fc bt i b c;omega
  ·exact c
 have A:∀i,0<dM bT a b i->bT^i<=a+b:=fun i h=>by
  rw[dM]at h;have c:bT^i<=a% bT^i+b% bT^i:=by
   rcases ih (a% bT^i+b% bT^i) (bT^i)with d|d
   ·rw[i2 d]at h;omega
   ·exact d
  have:=lz a (bT^i);have:=lz b (bT^i);omega
 have f:=fun i=>HM a i;have g:=fun i=>HM b i;have B:∀i,(aw bT a).length<=i->(aw bT b).length<=i->dM bT a b i=0->a+b<bT^i:=fun i c d s=>by
  have g1:=h0 v (hZ (show 0<bT by decide) c);have g2:=h0 w (hZ (show 0<bT by decide) d);rw[dM,h9 g1,h9 g2]at s;rcases ih (a+b) (bT^i)with e|e
  ·exact e
  ·have:=j6 e (iA (show 0<bT by decide));omega
 have E:∃M,M=max (aw bT a).length (aw bT b).length:=⟨_,rfl⟩
 obtain⟨M,G⟩:=E;simp only[eT]at f g⊢;have F:=fun i h d=>awb (n:=a+b) (i:=i) h d;generalize aw bT (a+b)=z,aw bT a=x,aw bT b=y at*;simp[f312];refine lp (α:=Nat) (fun i=>⟨[(7,.p (.int .i64 i)),(6,.p (.int .i64 (dM bT a b i:Nat))),(5,.sl 0 i 1 0 i),(1,.p (.seq (y.map fun x:Nat=>.int .i64 x))),(0,.p (.seq (x.map fun x:Nat=>.int .i64 x)))],[.arr .grow i 1 (fB i (a+b))]⟩)
  (fun i=>i<=M+1/\(i=0\/bT^(i-1)<=a+b)) (fun i=>M+1-i) 0 ⟨o_,.inl rfl⟩ ?_ (he:=by simp[CB,fB]) (hh:=by simp[fB])
 rintro i ⟨k1,k2⟩;have q:=b8 (i:=i) o_;have J:=pf bt a b i;obtain⟨g1,g2⟩:=uP bt a b i;have L:=cX bt a i;have N:=cX bt b i;have t:bT=1000000000:=rfl;have w1:dz.wrap ((ag bT a i:Int)+ag bT b i)=ag bT a i+ag bT b i:=aU _ o_ o_;have r:dz.wrap ((ag bT a i:Int)+ag bT b i+dM bT a b i)=ag bT a i+ag bT b i+dM bT a b i:=aU _ o_ o_;have l:((ag bT a i:Int)+ag bT b i+dM bT a b i).tmod 1000000000=(ag bT (a+b) i:Nat):=by
  rw[ed o_,<-g1,t];omega
 have m:((ag bT a i:Int)+ag bT b i+dM bT a b i).tdiv 1000000000=(dM bT a b (i+1):Nat):=by
  rw[ec o_,<-g2,t];omega
 have o:dz.wrap (dM bT a b (i+1):Nat)=(dM bT a b (i+1):Nat):=by have:=pf bt a b (i+1);exact aU _ o_ o_
 have j:gt i (fB i (a+b))=fB i (a+b):=gc (by rw[jH];exact ik _)
 by_cases hx:i<x.length
 ·simp[hx];refine c2 (f i) ?_;simp;refine c2 (g i) ?_;simp[w1,r,l,m,o,jH,j,<-uU];refine⟨by simp only[dA];omega,?_⟩;refine rd (i+1) ⟨o_,.inr (by rw[i6];exact h3 (C i hx) o_)⟩ o_ (he:=by simp[q])
 by_cases k:i<y.length
 ·simp[hx,k];refine c2 (f i) ?_;simp;refine c2 (g i) ?_;simp[w1,r,l,m,o,jH,j,<-uU];refine⟨by simp only[dA];omega,?_⟩;refine rd (i+1) ⟨o_,.inr (by rw[i6];exact h3 (D i k) o_)⟩ o_ (he:=by simp[q])
 by_cases hc:0<dM bT a b i
 ·have K:i=M:=by
   rcases ih M i with h|h
   ·have e0:=uP bt a b M;have c:ag bT a M=0:=l7 (h0 v (hZ d_ o_));have d:ag bT b M=0:=l7 (h0 w (hZ d_ o_));have s:=pf bt a b M;have e:i=M+1:=by omega
    subst e;rw[c,d]at e0;rw[<-e0.2,i2 o_]at hc;omega
   ·omega
  simp[hx,k,hc];refine c2 (f i) ?_;simp;refine c2 (g i) ?_;simp[w1,r,l,m,o,jH,j,<-uU];refine⟨by simp only[dA];omega,?_⟩;refine rd (i+1) ⟨o_,.inr (by rw[i6];exact A i hc)⟩ o_ (he:=by simp[q])
 ·have u:dM bT a b i=0:=by omega
  have hz:=F i (B i o_ o_ u) k2;rw[<-hz];simp[hx,k,u];refine⟨by rw[jH];exact ik _,?_⟩;rw[j,Ss];simp
theorem Si(a b:Nat)(w:b<=a)(E:(aw bT a).length<=1000000):al prog 314 [eT a,eT b] (eT (a-b)):=by
 refine gA_ nf func314 mix ?_;have C:=cU bt a;have j:=fun i=>HM b i;have A:∀i(h:i<(aw bT a).length),(aw bT a)[i]?=some (ag bT a i):=fun i h=>by rw[gb h,fI bt h]
 have B:∀i(h:i<(aw bT a).length),(aw bT a)[i]=ag bT a i:=fun i h=>fI bt h;have D:fE (row bT (aw bT a).length (a-b))=aw bT (a-b):=l8 bt (h4 (kX a b) C);have e:=xO (row bT (aw bT a).length (a-b)) (by rw[RJ];omega);rw[D]at e;simp only[eT]at j⊢;simp only[iP]at e;generalize aw bT (a-b)=z,aw bT a=x,aw bT b=y at*;simp[f314];refine lp (α:=Nat) (fun i=>⟨[(7,.p (.int .i64 i)),(6,.p (.int .i64 (gu bT a b i:Nat))),(5,.sl 0 i 1 0 i),(1,.p (.seq (y.map fun x:Nat=>.int .i64 x))),(0,.p (.seq (x.map fun x:Nat=>.int .i64 x)))],[.arr .grow i 1 (fB i (a-b))]⟩)
  (fun i=>i<=x.length) (fun i=>x.length-i) 0 s_ ?_ (he:=by simp[F8,fB]) (hh:=by simp[fB])
 intro i k1;have s:=b8 (i:=i) o_;have r:gt i (fB i (a-b))=fB i (a-b):=gc (by rw[jH];exact ik _);have F:bT=1000000000:=rfl;have I:=cX bt a i;have J:=cX bt b i;have K:=cX bt (a-b) i;have L:gu bT a b i<=1:=by rw[gu];split<;>omega
 have w1:dz.wrap ((ag bT a i:Int)-ag bT b i)=ag bT a i-ag bT b i:=aU _ o_ o_;have n:dz.wrap ((ag bT a i:Int)-ag bT b i-gu bT a b i)=ag bT a i-ag bT b i-gu bT a b i:=aU _ o_ o_
 by_cases hx:i<x.length
 ·have o:=A i hx;have q:=B i hx;rcases Qr bt w i with⟨u,g,v⟩|⟨u,g,v⟩
  ·have m:(ag bT a i:Int)-ag bT b i-gu bT a b i<0:=by omega
   have f:dz.wrap ((ag bT a i:Int)-ag bT b i-gu bT a b i+1000000000)=(ag bT (a-b) i:Nat):=by rw[aU _ o_ o_];omega
   simp[hx,o,q];refine e2 (j i) ?_;simp[w1,n,m,f,jH,r,<-uU];refine⟨by simp only[dA];omega,?_⟩;refine rd (i+1) hx (he:=by simp[s,g])
  ·have m:¬(ag bT a i:Int)-ag bT b i-gu bT a b i<0:=by omega
   have f:(ag bT a i:Int)-ag bT b i-gu bT a b i=(ag bT (a-b) i:Nat):=o_
   rw[f]at m n;simp[hx,o,q];refine e2 (j i) ?_;simp[w1,n,f,jH,r,<-uU];refine⟨by simp only[dA];omega,?_⟩;refine rd (i+1) hx (he:=by simp[s,g])
 ·have:i=x.length:=by omega
  subst this;have k:=Ss x.length (a-b);have d:(row bT x.length (a-b)).length=x.length:=RJ;generalize row bT x.length (a-b)=l at e k d;have G:gt x.length l=l:=gc o_;rcases l with _|⟨c,t⟩
  ·simp at d;simp[k];refine cp e (by simp[<-d];exact⟨rfl,rfl⟩) ?_;simp
  ·have H:gt x.length (PV.int .i64 c::hG (fun x:Nat=>PV.int .i64 x) t)=PV.int .i64 c::hG (fun x:Nat=>PV.int .i64 x) t:=gc (by simp at d⊢;omega);simp at d;simp[k];refine cp e (by simp[<-d];exact⟨rfl,rfl⟩) ?_;simp
def dR(n:Nat)(f:Nat->Nat):List AV:=(gg n).map fun j=>.p (.int .i64 (f j:Nat))
theorem Al(n:Nat)(f:Nat->Nat):(dR n f).length=n:=by simp[dR]
theorem Qv(n:Nat):gi n (AV.p (.int .i64 0))=dR n fun _=>0:=by
 apply hl (by simp[dR]);intro i a b;simp[dR]
theorem xE{n j:Nat}(f:Nat->Nat)(h:j<n):(dR n f)[j]?=some (.p (.int .i64 (f j:Nat))):=by
 rw[dR,hd,hp h];rfl
theorem Hn{n i:Nat}(f g:Nat->Nat)(h:∀j,j<n->j≠i->g j=f j):(dR n f).set i (.p (.int .i64 (g i:Nat)))=dR n g:=by
 apply hl (by simp[dR]);intro j c b;rw[Al]at b;rw[hP];simp only[dR,ha,g8]
 by_cases a:i=j
 ·subst a;rw[if_pos rfl]
 ·rw[if_neg a,h j b (fun e=>a e.symm)]
@[simp] theorem aUi{N:Nat×Nat->Prop}{n:Nat}{f:Nat->Nat}:bk N (dR n f)=True:=by
 rw[eQ,eq_iff_iff,iff_true];intro v a;simp only[dR,ho]at a;obtain⟨x,_,rfl⟩:=a;trivial
theorem Dj{n:Nat}{f g:Nat->Nat}(h:∀j,j<n->f j=g j):dR n f=dR n g:=by
 rw[dR,dR];apply hH;intro j a;rw[h j (hX.1 a)]
theorem GQ(n:Nat)(f:Nat->Nat):dR n f=((gg n).map f).map (AV.p∘fun x:Nat=>PV.int .i64 x):=by
 rw[dR,hE];rfl
theorem ar6{n:Nat}{f:Nat->Nat}(h:∀j,f j=0):gi n (AV.p (.int .i64 0))=dR n f:=by
 rw[Qv];exact Dj fun j _=>(h j).symm
theorem Il(a b:Nat)(v:(aw bT a).length+(aw bT b).length<=1000000):al prog 315 [eT a,eT b] (eT (a*b)):=by
 refine gA_ nf func315 mix ?_;have N:∀i(h:i<(aw bT a).length),(aw bT a)[i]=ag bT a i:=fun i h=>fI bt h;have Q:∀i(h:i<(aw bT b).length),(aw bT b)[i]=ag bT b i:=fun i h=>fI bt h;have s:=cU bt a;have d:=cU bt b;have U:fE ((gg ((aw bT a).length+(aw bT b).length)).map (ag bT (a*b)))=aw bT (a*b):=l8 bt (by
  rw[i7];exact j1 s d)
 have c:=xO ((gg ((aw bT a).length+(aw bT b).length)).map (ag bT (a*b))) (by simp;omega);rw[U]at c;have w:bT=1000000000:=rfl;simp only[eT];simp only[iP]at c;generalize aw bT (a*b)=z,aw bT a=x,aw bT b=y at*;obtain⟨n,hn⟩:∃n,x.length=n:=⟨_,rfl⟩
 obtain⟨m,e⟩:∃m,y.length=m:=⟨_,rfl⟩
 rw[hn]at s c v;rw[e]at d c v;have A:=GQ (n+m) (ag bT (a*b));have t:((gg (n+m)).map (ag bT (a*b))).length=n+m:=s_
 generalize (gg (n+m)).map (ag bT (a*b))=l at c A t;have T:((n:Int)+m).toNat=n+m:=o_
 have S:0<=(n:Int)+m:=o_
 have Y:dz.wrap ((n:Int)+m)=(n:Int)+m:=aU _ o_ o_;simp[f315,hn,e,Y,T,S];refine⟨by simp only[dA];omega,?_⟩;rw[ar6 (f:=dP bT a b 0 0) (by intro j;simp[tu,lv,ag])];refine lp (α:=Nat) (fun i=>⟨[(6,.p (.int .i64 i)),(5,.sl 0 0 1 0 (n+m)),(1,.p (.seq (y.map fun x:Nat=>.int .i64 x))),(0,.p (.seq (x.map fun x:Nat=>.int .i64 x)))],[.arr .exact 0 1 (dR (n+m) (dP bT a b i 0))]⟩)
  (fun i=>i<=n) (fun i=>n-i) 0 s_ ?_ (he:=s_)
 intro i k1;have V:=b8 (i:=i) o_
 by_cases hi:i<n
 ·have q:i<x.length:=by rw[hn];exact hi
  have hx:=N i q;have ab:x[i]?=some (ag bT a i):=by rw[gb q,hx]
  simp[hn,hi];refine lp (α:=Nat) (fun j=>⟨[(8,.p (.int .i64 j)),(7,.p (.int .i64 (mulC bT a b i j:Nat))),(6,.p (.int .i64 i)),(5,.sl 0 0 1 0 (n+m)),(1,.p (.seq (y.map fun x:Nat=>.int .i64 x))),(0,.p (.seq (x.map fun x:Nat=>.int .i64 x)))],[.arr .exact 0 1 (dR (n+m) (dP bT a b i j))]⟩)
   (fun j=>j<=m) (fun j=>m-j) 0 s_ ?_ (he:=by simp[Gt])
  intro j k2;have X:=b8 (i:=j) o_;have G:((i:Int)+j).toNat=i+j:=o_
  have F:0<=(i:Int)+j:=o_
  have W:dz.wrap ((i:Int)+j)=(i:Int)+j:=aU _ o_ o_
  by_cases E:j<m
  ·have r:j<y.length:=by rw[e];exact E
   have H:=Q j r;have ac:y[j]?=some (ag bT b j):=by rw[gb r,H]
   have B:i+j<n+m:=o_
   have o:=xE (dP bT a b i j) B;have g:=G9 bt a b i j;have ah:=xJ bt a b i j;have u:=xJ bt a b i (j+1);have ai:dP bT a b i j (i+j)<bT:=by rw[dP];split<;>exact cX bt _ _
   have am:=cX bt a i;have an:=cX bt b j;have hs:=Hn (n:=n+m) (i:=i+j) (dP bT a b i j) (dP bT a b i (j+1)) (fun k _ hk=>Pz bt hk);rw[QW]at hs;rw[<-g.1]at hs;have ak:ag bT a i*ag bT b j<=999999999*999999999:=kw o_ o_;rw[<-g.2]at u;have L:=g.2;clear g;have M:((ag bT a i:Int)*(ag bT b j:Int))=((ag bT a i*ag bT b j:Nat):Int):=by push_cast;rfl
   generalize ag bT a i*ag bT b j=P,dP bT a b i j (i+j)=O,aj:mulC bT a b i j=C at*;have w1:dz.wrap ((ag bT a i:Int)*(ag bT b j:Int))=P:=by rw[M];exact aU _ o_ o_
   have ad:dz.wrap ((O:Int)+P)=O+P:=aU _ o_ o_;have ae:dz.wrap ((O:Int)+P+C)=O+P+C:=aU _ o_ o_;have I:((O:Int)+P+C).tmod 1000000000=((P+O+C)% bT:Nat):=by
    rw[ed o_,w];omega
   generalize (P+O+C)% bT=D at*;have J:((O:Int)+P+C).tdiv 1000000000=(mulC bT a b i (j+1):Nat):=by
    rw[ec o_,<-L,w];omega
   have K:dz.wrap ((mulC bT a b i (j+1):Nat):Int)=(mulC bT a b i (j+1):Nat):=aU _ o_ o_;simp[hn,e,E,W,G,F,B,o,hx,ab,H,ac,q,r,w1,ad,ae,I,J,K,hs,aa];exact rd (j+1) (show j+1<=m by omega) (he:=by simp[X])
  have:j=m:=o_
  subst this;have Z:dz.wrap ((i:Int)+j)=(i:Int)+j:=aU _ o_ o_;have aA:i+j<n+j:=o_
  have hz:dP bT a b i j (i+j)=0:=by
   rw[dP,if_neg o_];exact l7 (An bt a i d)
  have o:=xE (dP bT a b i j) aA;rw[hz]at o;have hs:=Hn (n:=n+j) (i:=i+j) (dP bT a b i j) (dP bT a b (i+1) 0) (fun k _ hk=>by rw[tu,QX bt d hk]);rw[tu,<-Ow bt d]at hs;have u:=xJ bt a b i j;have af:dz.wrap ((mulC bT a b i j:Nat):Int)=(mulC bT a b i j:Nat):=aU _ o_ o_;simp[e,Z,G,F,hi,aA,o,hs,af,aa];exact rd (i+1) (show i+1<=n by omega) (he:=by simp[V])
 have:i=n:=o_
 subst this;have R:dR (i+m) (dP bT a b i 0)=dR (i+m) (ag bT (a*b)):=Dj fun k _=>by rw[tu,h9 s]
 simp[hn,R,A];refine cp c (by simp[t];exact⟨rfl,rfl⟩) ?_ (h1:=by simp[gc,t]);simp
theorem asQ{a b i:Nat}(c:0<b):(a/bT^(i+1)% b*bT+ag bT a i)/b=ag bT (a/b) i/\(a/bT^(i+1)% b*bT+ag bT a i)% b=a/bT^i% b:=by
 have e:=wV (B:=bT) a i;have g:=ix (a/bT^(i+1)) b;have f:a/bT^i=(a/bT^(i+1)% b*bT+ag bT a i)+a/bT^(i+1)/b*bT*b:=by
  rw[e];generalize ag bT a i=d;generalize a/bT^(i+1)/b=Q,a/bT^(i+1)% b=R at*;rw[<-g,i5,h2 b,kC Q b bT];omega
 have j:(a/bT^(i+1)% b*bT+ag bT a i)/b<bT:=by
  rw[h8 c];have k:=cX bt a i;have h:=h6 bT (show a/bT^(i+1)% b+1<=b from i0 _ c);rw[i5,jp]at h;rw[h2 bT];omega
 constructor
 ·conv=>rhs;rw[ag,ii,h2 b,<-ii,f,Nat.add_mul_div_right _ _ c,la,h9 j]
 ·rw[f,la]
theorem Ei(r x:Nat):(r:Int)*1000000000+x=((r*bT+x:Nat):Int):=by
 rw[fb,ei];rfl
def qT(Q i k:Nat):Nat:=if i<=k then ag bT Q k else 0
theorem H9{m Q i:Nat}:(dR m (qT Q (i+1))).set i (.p (.int .i64 (ag bT Q i:Nat)))=dR m (qT Q i):=by
 have:=Hn (n:=m) (i:=i) (qT Q (i+1)) (qT Q i) (fun k _ hk=>by
  rw[qT,qT]
  by_cases h:i<=k
  ·rw[if_pos h,if_pos o_]
  ·rw[if_neg h,if_neg o_])
 rw[<-this,qT,if_pos (ik _)]
theorem RN{m Q:Nat}:dR m (qT Q 0)=dR m (ag bT Q):=Dj fun k _=>by rw[qT,if_pos (i9 _)]
theorem RO{m Q:Nat}:gi m (AV.p (.int .i64 0))=dR m (qT Q m):=by
 rw[Qv];exact Dj fun k hk=>by rw[qT,if_neg o_]
theorem Sh{m N:Nat}(h:N<bT^m)(b:m<=1048576):∃l:List Nat,l.length=m/\dR m (ag bT N)=l.map (AV.p∘fun x:Nat=>PV.int .i64 x)/\al prog 317 [.seq (iP l)] (eT N):=by
 refine⟨(gg m).map (ag bT N),s_,GQ m _,?_⟩;have a:=xO ((gg m).map (ag bT N)) (by simp;omega);rw[show fE ((gg m).map (ag bT N))=aw bT N from l8 bt h]at a;exact a
theorem OU(a d:Nat)(s:0<d)(T:d<bT)(K:(aw bT a).length<=1000000):al prog 316 [eT a,.int .i64 d] (.aE [eT (a/d),.int .i64 (a% d:Nat)]):=by
 refine gA_ nf func316 mix ?_;have I:∀i(h:i<(aw bT a).length),(aw bT a)[i]=ag bT a i:=fun i h=>fI bt h;have u:=cU bt a;obtain⟨l,j,v,e⟩:=Sh (m:=(aw bT a).length) (N:=a/d) (h4 (j5 _ _) u) o_;have g:a/bT^(aw bT a).length% d=0:=by rw[i2 u,Nat.zero_mod]
 have y:a/bT^0% d=a% d:=by rw[i3,i8]
 have S:bT=1000000000:=rfl;simp only[eT]at e⊢;simp only[iP]at e;generalize aw bT (a/d)=W,aw bT a=x at*;obtain⟨n,hn⟩:∃n,x.length=n:=⟨_,rfl⟩
 rw[hn]at j v g K;generalize V:a% d=rem at*;obtain⟨f,hf⟩:∃f:Nat->Nat,∀i,a/bT^i% d=f i:=⟨_,fun _=>rfl⟩
 have w:=fun i=>asQ (a:=a) (b:=d) (i:=i) s;have t:∀i,f i<d:=fun i=>by rw[<-hf];exact i0 _ s
 simp only[hf]at g y w;have D:dz.wrap ((n:Int)-1)=n-1:=aU _ o_ o_;simp[f316,hn,D];refine⟨by simp only[dA];omega,?_⟩;rw[RO (Q:=a/d)];refine lp (α:=Nat) (fun i=>⟨[(8,.p (.int .i64 ((i:Int)-1))),(7,.p (.int .i64 (f i:Nat))),(6,.sl 0 0 1 0 n),(1,.p (.int .i64 d)),(0,.p (.seq (x.map fun x:Nat=>.int .i64 x)))],[.arr .exact 0 1 (dR n (qT (a/d) i))]⟩)
  (fun i=>i<=n) (fun i=>i) n (ik _) ?_ (he:=by simp[g])
 intro i k1
 by_cases hi:0<i
 ·obtain⟨k,rfl⟩:∃k,i=k+1:=⟨i-1,o_⟩
  have E:dz.wrap ((k:Int)-1)=k-1:=aU _ o_ o_;have o:k<x.length:=o_
  have hx:=I k o;have L:x[k]?=some (ag bT a k):=by rw[gb o,hx]
  obtain⟨r1,M⟩:=w k;have aY:=H9 (m:=n) (Q:=a/d) (i:=k);have gk:=xE (qT (a/d) (k+1)) (show k<n by omega);have J:k<n:=o_
  have P:=t (k+1);have U:=cX bt a k;have hq:=cX bt (a/d) k;have R:=t k;generalize f (k+1)=c,F:f k=z,ag bT a k=dk,ag bT (a/d) k=q at*;have w1:dz.wrap ((c:Int)*1000000000)=c*1000000000:=aU _ o_ o_;have O:dz.wrap ((c:Int)*1000000000+dk)=c*1000000000+dk:=aU _ o_ o_;have r:(c:Int)*1000000000+dk=((c*bT+dk:Nat):Int):=Ei c dk;have A:((c:Int)*1000000000+dk).tdiv d=q:=by
   rw[r,ec (eb _),<-ej,r1]
  have B:((c:Int)*1000000000+dk).tmod d=z:=by
   rw[r,ed (eb _),<-em,M]
  have C:dz.wrap (q:Int)=q:=aU _ o_ o_;have G:¬(d:Int)=0:=o_
  have H:¬d=0:=o_
  simp[hn,E,hx,L,J,o,w1,O,A,B,C,G,H,gk,aY,aa];exact rd k (show k<=n by omega) (he:=by simp[F])
 ·obtain rfl:i=0:=by omega
  simp[RN,v,y];refine cp e (by simp[j];exact⟨rfl,rfl⟩) ?_ (h1:=by simp[gc,j]);simp
def nu(a b c:Nat):Nat->Nat->Nat
 |0,_=>0
 |t+1,r=>if bT<=t+1\/r*bT+c<(t+1)*b then(if bT<=r+a then t else nu a b c t (r+a))else t+1
theorem aMk{a b c t r:Nat}(h:0<t):nu a b c t r=if bT<=t\/r*bT+c<t*b then(if bT<=r+a then t-1 else nu a b c (t-1) (r+a))else t:=by
 cases t with
 |zero=>exact absurd h (Nat.lt_irrefl 0)
 |succ t=>rw[nu,i6]
theorem Px{a b:Nat}(c:a<bT)(d:b<bT):dz.wrap ((a:Int)*b)=(a:Int)*b:=by
 have e:a*b<=999999999*999999999:=kw (by simp only[bT]at c;omega) (by simp only[bT]at d;omega);rw[<-ei];generalize a*b=P at*;exact aU _ o_ o_
theorem Wo{a b r w:Nat}:(r:Int)*1000000000+w<(a:Int)*b↔r*bT+w<a*b:=by
 rw[Ei,<-ei];exact Int.ofNat_lt
theorem Ew{r v:Nat}:(1000000000:Int)<=(r:Int)+v↔bT<=r+v:=by simp only[bT];omega
theorem Uv{t:Nat}:(1000000000:Int)<=(t:Int)↔bT<=t:=by simp only[bT];omega
theorem aQw{t:Nat}(h:0<t)(a:t<=bT+1):dz.wrap ((t:Int)-1)=((t-1:Nat):Int):=by
 simp only[bT]at a;rw[aU _ o_ o_];omega
theorem Tx{a v2 w0 w1 w2 Q:Nat}(u:bT<=2*a)(v:a<bT)(m:w0<=a)(w:w1<bT)(s:Q<bT)
 (d:∀q r,q*a+r=w0*bT+w1->q<bT->q*v2<=r*bT+w2->q<=Q+1)(k:∀q r,q*a+r=w0*bT+w1->r*bT+w2<q*v2->Q<q)
 (l:∀q r,bT<=r->q<bT->q*v2<=r*bT+w2):∀t r,t*a+r=w0*bT+w1->Q<=t->r<bT->t<=bT+1->Q<=nu a v2 w2 t r/\nu a v2 w2 t r<=Q+1/\nu a v2 w2 t r<bT
 |0,r,b,c,n,o=>by
  rw[nu];exact⟨c,o_,o_⟩
 |t+1,r,b,c,n,o=>by
  rw[nu]
  by_cases hc:bT<=t+1\/r*bT+w2<(t+1)*v2
  ·rw[if_pos hc];have hq:Q<=t:=by
    rcases hc with h|h
    ·omega
    ·have:=k _ _ b h;omega
   have i:t*a+(r+a)=w0*bT+w1:=by rw[i5,jp]at b;omega
   by_cases f:bT<=r+a
   ·rw[if_pos f];have g:t<bT:=by
     rcases ih t bT with h|h
     ·exact h
     ·have e:t=bT:=by omega
      subst e;have:=h6 bT m;rw[h2 a]at this;omega
    exact⟨hq,d _ _ i g (l _ _ f g),g⟩
   ·rw[if_neg f];exact Tx u v m w s d k l t (r+a) i hq o_ o_
  ·rw[if_neg hc];have j:t+1<bT:=by
    rcases ih (t+1) bT with h|h
    ·exact h
    ·exact(hc (.inl h)).elim
   have p:(t+1)*v2<=r*bT+w2:=by
    rcases ih (r*bT+w2) ((t+1)*v2)with h|h
    ·exact(hc (.inr h)).elim
    ·exact h
   exact⟨c,d _ _ b j p,j⟩
theorem aL8(W V N j n:Nat)(k:AK)(aF:Nat)(f:Nat->Nat)(hn:2<=n)(av:(aw bT V).length=n)(aL:bT<=2*ag bT V (n-1))(ax:W<V*bT)(a4:N<=1000000)(aO:j+n<N)
 (hf:∀i,i<=n->f (j+i)=ag bT W i):∃t,W/V<=t/\t<=W/V+1/\t<bT/\
 c8 prog 318 [.arr k aF 1 (dR N f)] [.sl 0 aF 1 0 N,.p (eT V),.p (.int .i64 j)] [.arr k aF 1 (dR N f)] (.p (.int .i64 t)):=by
 have aM:bT=1000000000:=rfl;have A:V<bT^n:=by rw[<-av];exact cU bt V
 have O:bT^(n-1)<=V:=by
  rcases ih V (bT^(n-1))with h|h
  ·have:=fc bt (n-1) V h;omega
  ·exact h
 obtain⟨ak,aN⟩:=Hx bt (show 1<=n by omega) A ax;have an:W/bT^n=ag bT W n:=by
  rw[ag,h9];have:=cX bt V (n-1);omega
 have o:W/bT^(n-1)=ag bT W n*bT+ag bT W (n-1):=by
  rw[wV,show n-1+1=n by omega,an]
 have C:=Sa bt hn O A (W:=W);have U:=fun q r=>IQ bt hn O A (W:=W) (q:=q) (r:=r);have S:=fun q r=>Tw bt hn O A (W:=W) (q:=q) (r:=r);have aB:=fun q r=>R9 bt (V:=V) (W:=W) (n:=n) (q:=q) (r:=r);rw[o]at C U S;have q1:=cX bt W n;have aZ:=cX bt W (n-1);have be:=cX bt W (n-2);have q4:=cX bt V (n-1);have a0:=cX bt V (n-2);have au:=hf n (ik _);have f2:=hf (n-1) o_;have f3:=hf (n-2) o_;rw[an]at ak;have B:(aw bT V)[n-1]?=some (ag bT V (n-1)):=by rw[gb o_,fI bt o_]
 have R:(aw bT V)[n-2]?=some (ag bT V (n-2)):=by rw[gb o_,fI bt o_]
 have az:∀h:n-1<(aw bT V).length,(aw bT V)[n-1]=ag bT V (n-1):=fun h=>fI bt h;have aA:∀h:n-2<(aw bT V).length,(aw bT V)[n-2]=ag bT V (n-2):=fun h=>fI bt h;simp only[eT];generalize aw bT V=y,a5:W/V=Q,a9:ag bT W n=w0,ba:ag bT W (n-1)=w1,bb:ag bT W (n-2)=d,a7:ag bT V (n-1)=a,a8:ag bT V (n-2)=v2 at*;clear o an A O ax hf;have g1:=xE f (show j+n<N by omega);have g2:=xE f (show j+(n-1)<N by omega);have g3:=xE f (show j+(n-2)<N by omega);rw[au]at g1;rw[f2]at g2;rw[f3]at g3;have D:=Al N f;have ao:∀aq:Nat×Nat->Prop,bk aq (dR N f):=fun aq=>by simp
 generalize dR N f=u at*;obtain⟨c,g⟩:∃c,c=w0*bT+w1:=⟨_,rfl⟩
 obtain⟨b,Z⟩:∃b,b=c/a:=⟨_,rfl⟩
 obtain⟨r0,X⟩:∃r0,r0=c% a:=⟨_,rfl⟩
 have aP:0<a:=o_
 have aC:b*a+r0=c:=by rw[Z,X,h2];exact ix _ _
 have al:r0<bT:=i1 (by rw[X];exact i0 _ aP) q4;have am:b<=bT+1:=by
  have aJ:=h6 bT ak;rw[h2 a]at aJ;rcases ih (bT+1) b with h|h
  ·have aK:=h6 a (show bT+2<=b from h);rw[i5]at aK;omega
  ·exact h
 rw[<-g]at C U S;rw[<-Z]at C;have P:=Tx (v2:=v2) (w2:=d) aL q4 ak aZ aN (by rw[<-g];exact U) (by rw[<-g];exact S) aB b r0 (by rw[<-g];exact aC) C al am;refine⟨nu a v2 d b r0,P.1,P.2.1,P.2.2,?_⟩;obtain⟨T,o⟩:∃T,T=nu a v2 d b r0:=⟨_,rfl⟩
 rw[<-o];clear P C U S aB;have l:y.length=n:=av;have wa:dz.wrap ((j:Int)+n)=(j+n:Nat):=by rw[aU _ o_ o_];omega
 have J:dz.wrap ((j:Int)+n)=(j:Int)+n:=aU _ o_ o_;have wb:dz.wrap ((j:Int)+n-1)=(j:Int)+n-1:=aU _ o_ o_;have w:dz.wrap ((n:Int)-1)=(n:Int)-1:=aU _ o_ o_;have wd:dz.wrap ((n:Int)-2)=(n:Int)-2:=aU _ o_ o_;have ah:dz.wrap ((j:Int)+n-2)=(j:Int)+n-2:=aU _ o_ o_;have a1:((j:Int)+n).toNat=j+n:=o_
 have a2:((j:Int)+n-1).toNat=j+(n-1):=o_
 have v:((n:Int)-1).toNat=n-1:=o_
 have af:((n:Int)-2).toNat=n-2:=o_
 have te:((j:Int)+n-2).toNat=j+(n-2):=o_
 have wf:dz.wrap ((w0:Int)*1000000000)=(w0:Int)*1000000000:=aU _ o_ o_;have ay:(w0:Int)*1000000000+w1=(c:Nat):=by rw[g];exact Ei w0 w1
 have a6:c<1000000000000000000:=by rw[g,aM];omega
 have aE:dz.wrap ((w0:Int)*1000000000+w1)=(c:Nat):=by rw[ay];exact aU _ o_ o_
 have ar:((c:Nat):Int).tdiv a=b:=by rw[ec (eb _),<-ej,<-Z]
 have dr:((c:Nat):Int).tmod a=r0:=by rw[ed (eb _),<-em,<-X]
 have aQ:¬(a:Int)=0:=o_
 have aR:¬a=0:=o_
 have aG:dz.wrap (b:Int)=b:=aU _ o_ o_;have s:n-1<y.length:=o_
 have G:n-2<y.length:=o_
 have E:=az s;have ab:=aA G;have aD:j+n<u.length:=o_
 have aS:j+(n-1)<u.length:=o_
 have F:j+(n-2)<u.length:=o_
 have aT:j+(n-1)<N:=o_
 have ac:j+(n-2)<N:=o_
 have aH:u[j+n]=.p (.int .i64 w0):=by rw[gb aD]at g1;exact l0 g1
 have aI:u[j+(n-1)]=.p (.int .i64 w1):=by rw[gb aS]at g2;exact l0 g2
 have M:u[j+(n-2)]=.p (.int .i64 d):=by rw[gb F]at g3;exact l0 g3
 have I:¬u=[]:=by rintro rfl;simp at aD
 have aV:0<=(j:Int)+n:=o_
 have aW:0<=(j:Int)+n-1:=o_
 have bc:0<=(j:Int)+n-2:=o_
 have aY:0<=(n:Int)-1:=o_
 have bd:0<=(n:Int)-2:=o_
 have aX:1<=(j:Int)+n:=o_
 have ad:2<=(j:Int)+n:=o_
 have H:1<=(n:Int):=o_
 have ae:2<=(n:Int):=o_
 refine gz nf (i_ func318) mix (by simp[f318]) ?_;simp[f318,l,J,wb,w,a1,a2,v,g1,g2,B,E,wf,aE,ar,dr,aQ,aR,aG,D,aO,s,aH,aI,I,aV,aW,aY,aX,H,aT,aa];refine lp (α:=Nat×Nat) (fun x=>⟨[(10,.p (.int .i64 x.2)),(9,.p (.int .i64 x.1)),(7,.p (.int .i64 n)),(2,.p (.int .i64 j)),(1,.p (.seq (y.map fun x:Nat=>.int .i64 x))),(0,.sl 0 aF 1 0 N)],[.arr k aF 1 u]⟩)
  (fun x=>T=nu a v2 d x.1 x.2/\x.2<bT/\x.1<=bT+1) (fun x=>x.1) (b,r0) ⟨o,al,am⟩ ?_ (hr2:=by simp[ao])
 clear g aC Z X ay aE ar dr o wf al am aG az aA au f2 f3;rintro⟨t,r⟩ ⟨k1,k2,k3⟩;dsimp only at k1 k2 k3;have ai:dz.wrap ((r:Int)*1000000000)=(r:Int)*1000000000:=aU _ o_ o_;have aj:dz.wrap ((r:Int)*1000000000+d)=(r:Int)*1000000000+d:=aU _ o_ o_;have K:dz.wrap ((r:Int)+a)=(r:Int)+a:=aU _ o_ o_;rcases lq t with z|z
 ·subst z;rw[nu]at k1;have c1:¬(r:Int)*1000000000+d<0:=by rw[Ei];exact Int.not_lt.2 (eb _)
  have a3:dz.wrap 0=0:=rfl;simp[l,a3,wd,af,ai,aj,K,ah,te,R,ab,G,g3,M,F,ac,D,I,ad,ae,J,c1,k1,aa]
 rw[aMk z]at k1;have Y:=aQw z k3;have k4:∀x,x<=bT+1->x-1<=bT+1:=fun x h=>h3 (kX _ _) h;have k5:t-1<t:=Nat.sub_lt z d_
 by_cases c0:bT<=t
 ·have m:=Uv.2 c0;rw[if_pos (.inl c0)]at k1
  by_cases c2:bT<=r+a
  ·have e:=Ew.2 c2;rw[if_pos c2]at k1;simp[m,Y,l,w,v,B,E,s,H,K,e,k1]
  ·have e:=mt Ew.1 c2;rw[if_neg c2]at k1;simp[m,Y,l,w,v,B,E,s,H,K,e];exact rd (t-1,r+a) ⟨k1,kH c2,k4 _ k3⟩ k5 (he:=s_) (hr2:=by simp[ao])
 have m:=mt Uv.1 c0;have ap:=Px (kH c0) a0
 by_cases c1:r*bT+d<t*v2
 ·have L:=Wo.2 c1;rw[if_pos (.inr c1)]at k1
  by_cases c2:bT<=r+a
  ·have e:=Ew.2 c2;rw[if_pos c2]at k1;simp[m,Y,l,w,v,B,E,s,H,K,e,k1,wd,af,ai,aj,ap,ah,te,R,ab,G,g3,M,F,ac,D,I,ad,ae,J,L,aa]
   done
  ·have e:=mt Ew.1 c2;rw[if_neg c2]at k1;simp[m,Y,l,w,v,B,E,s,H,K,e,wd,af,ai,aj,ap,ah,te,R,ab,G,g3,M,F,ac,D,I,ad,ae,J,L,aa];exact rd (t-1,r+a) ⟨k1,kH c2,k4 _ k3⟩ k5 (he:=s_) (hr2:=by simp[ao])
 ·have L:=mt Wo.1 c1;rw[if_neg (fun h=>h.elim c0 c1)]at k1;simp[m,l,w,v,wd,af,ai,aj,ap,ah,te,R,ab,G,g3,M,F,ac,D,I,ad,ae,J,L,k1,aa]
theorem av6{b k f d:Nat}(n:b<bT^(k+1))(h:d=b/bT^k)(p:0<d)(hf:f=bT/(d+1)):0<f/\f<bT/\b*f<bT^(k+1)/\bT^k<=b*f/\bT<=2*ag bT (b*f) k:=by
 have e:0<bT^k:=iA d_;have s:d<bT:=by
  rw[h,h8 e,h2,<-h7];exact n
 have r:bT=1000000000:=rfl;have g:=j8 bT (d+1);have j:=Nat.lt_div_mul_add (a:=bT) (show 0<d+1 by omega);rw[<-hf]at g j;have i:0<f:=by rw[hf];exact j6 o_ o_
 have q:f<bT:=by
  rw[hf];exact kW d_ o_
 have o:b<(d+1)*bT^k:=by
  rw[<-h8 e,<-h];omega
 have l:d*bT^k<=b:=by rw[h];exact j8 _ _
 have m:b*f<bT^(k+1):=by
  rw[h7];have e1:b*f<(d+1)*bT^k*f:=j9 o i;have e2:(d+1)*bT^k*f=f*(d+1)*bT^k:=by rw[h2,<-iB]
  have e3:=h6 (bT^k) g;rw[h2 (bT^k) bT];omega
 refine⟨i,q,m,?_,?_⟩
 ·have e1:1*bT^k<=d*bT^k:=h6 _ p;rw[jp]at e1;exact h3 (h3 e1 l) (km _ i)
 ·have e1:b*f/bT^k=ag bT (b*f) k:=by
   rw[ag,h9];rw[h8 e,h2 bT,<-h7];exact m
  have e2:d*f<=b*f/bT^k:=by
   rw[li e,kC];exact h6 _ l
  rw[e1]at e2;have e3:d+f<=d*f+1:=by
   obtain⟨d',rfl⟩:∃d',d=d'+1:=⟨d-1,o_⟩
   obtain⟨c,rfl⟩:∃c,f=c+1:=⟨f-1,o_⟩
   have:(d'+1)*(c+1)=d'*c+d'+c+1:=by rw[i5,js,jp,kL];omega
   omega
  have e4:f*(d+1)=d*f+f:=by rw[js,kL,h2]
  rw[e4]at g j;generalize d*f=P,ag bT (b*f) k=Z at*;omega
def iI(V R t i:Nat):Nat:=(t*(V% bT^i)+R% bT^i)/bT^i
theorem awJ{V R t:Nat}:iI V R t 0=0:=by simp[iI,lv]
theorem QF{W V R t n i:Nat}(h:R+t*V=W+bT^(n+1))(hi:i<=n):ag bT R i+t*ag bT V i+iI V R t i=ag bT W i+iI V R t (i+1)*bT:=by
 have k:0<bT^i:=iA d_;have l:0<bT^(i+1):=iA d_;have d:(t*(V% bT^(i+1))+R% bT^(i+1))% bT^(i+1)=W% bT^(i+1):=by
  have e1:(t*V+R)% bT^(i+1)=(t*(V% bT^(i+1))+R% bT^(i+1))% bT^(i+1):=by
   have a:=ix V (bT^(i+1));have e:=ix R (bT^(i+1));have f:t*V+R=t*(V% bT^(i+1))+R% bT^(i+1)+bT^(i+1)*(t*(V/bT^(i+1))+R/bT^(i+1)):=by
    have g:t*V=t*(V% bT^(i+1))+bT^(i+1)*(t*(V/bT^(i+1))):=by
     conv=>lhs;rw[<-a]
     rw[js,<-iB,h2 t (bT^(i+1)),iB];omega
    rw[g,js]
    conv=>lhs;rw[<-e]
    omega
   rw[f,kc]
  rw[<-e1,j2 (t*V),h];have:bT^(i+1)∣bT^(n+1):=kO _ o_;obtain⟨c,hc⟩:=this;rw[hc,kc]
 have e2:=ix (t*(V% bT^(i+1))+R% bT^(i+1)) (bT^(i+1));have e3:=ix (t*(V% bT^i)+R% bT^i) (bT^i);rw[d]at e2;rw[show(t*(V% bT^(i+1))+R% bT^(i+1))/bT^(i+1)=iI V R t (i+1)from rfl]at e2;rw[show(t*(V% bT^i)+R% bT^i)/bT^i=iI V R t i from rfl]at e3;have j:(t*(V% bT^i)+R% bT^i)% bT^i=W% bT^i:=by
  have:=congrArg (·% bT^i) d
  have b:bT^i∣bT^(i+1):=kO _ o_;rw[kD _ b,kD _ b]at this;rw[<-this,mod_pow_succ,mod_pow_succ];rw[js];have:t*(V% bT^i)+t*(bT^i*ag bT V i)+(R% bT^i+bT^i*ag bT R i)=t*(V% bT^i)+R% bT^i+bT^i*(t*ag bT V i+ag bT R i):=by
   rw[js,<-iB t,h2 t (bT^i),iB];omega
  rw[this,kc]
 rw[j]at e3;rw[mod_pow_succ,mod_pow_succ,mod_pow_succ,h7]at e2;have e4:bT^i*(ag bT R i+t*ag bT V i+iI V R t i)=bT^i*(ag bT W i+iI V R t (i+1)*bT):=by
  have a:t*(V% bT^i+bT^i*ag bT V i)=t*(V% bT^i)+bT^i*(t*ag bT V i):=by
   rw[js,<-iB t,h2 t (bT^i),iB]
  rw[a]at e2;rw[js,js,js];rw[iB (bT^i),h2 bT]at e2;generalize bT^i*ag bT R i=m,bT^i*(t*ag bT V i)=o,bT^i*iI V R t i=p,bT^i*ag bT W i=q,bT^i*(iI V R t (i+1)*bT)=r,t*(V% bT^i)=s at*;omega
 exact Nat.eq_of_mul_eq_mul_left k e4
theorem awI{r p w b':Nat}(h:r+p=w+b'*bT)(j:r<bT)(k:w<bT):(w<p% bT/\r+p% bT=w+bT/\b'=p/bT+1)\/(p% bT<=w/\r+p% bT=w/\b'=p/bT):=by
 have e:=ix p bT;have i:=i0 p (show 0<bT by decide);generalize p/bT=q,p% bT=m at*;have b:r+m+bT*q=w+b'*bT:=o_
 rw[h2 bT]at b;rcases Nat.lt_trichotomy b' q with a|a|a
 ·have:=h6 bT (show b'+1<=q from a);rw[i5,jp]at this;omega
 ·subst a;right;omega
 ·have d:=h6 bT (show q+1<=b' from a);rw[i5,jp]at d;have f:b'=q+1:=by
   rcases ih (q+1) b' with c|c
   ·have g:=h6 bT (show q+2<=b' from c);rw[i5]at g;omega
   ·omega
  subst f;rw[i5,jp]at b;left;omega
theorem aAM{W V t n:Nat}(x:0<V)(j:V<bT^n)(l:W<bT^(n+1))(B:W/V<=t)(C:t<=W/V+1):
 ∃R,R+t*V=W+bT^(n+1)/\
 ((t=W/V/\iI V R t n=ag bT W n/\∀i,i<=n->ag bT R i=ag bT (W% V) i)\/
  (t=W/V+1/\iI V R t n=ag bT W n+1/\dM bT R V n=1/\∀i,i<=n->ag bT (R+V) i=ag bT (W% V) i)):=by
 have G:0<bT^n:=iA d_;have A:0<bT^(n+1):=iA d_;have k:V<bT^(n+1):=h0 j (hZ d_ o_);have y:=ix W V;have o:=i0 W x;have d:bT^(n+1)=bT^n*bT:=h7 _ _;have E:bT=1000000000:=rfl;have z:W% V<bT^n:=i1 o j;have hz:ag bT (W% V) n=0:=l7 z;have q:ag bT V n=0:=l7 j;have m:∀R,R+t*V=W+bT^(n+1)->ag bT R n+iI V R t n=ag bT W n+iI V R t (n+1)*bT:=fun R u=>by
  have:=QF u (ik n);rw[q,ls,Nat.add_zero]at this;exact this
 rcases ih t (W/V+1)with s|s
 ·have b:t=W/V:=by omega
  have r:t*V+W% V=W:=by rw[b,h2];exact y
  refine⟨W% V+bT^(n+1),o_,.inl ⟨b,?_,fun i hi=>?_⟩⟩
  ·have e:=m (W% V+bT^(n+1)) o_;have f:iI V (W% V+bT^(n+1)) t (n+1)=0:=by
    rw[iI,h9 k,Nat.add_mod_right,h9 (i1 o k),r,i2 l]
   have a:ag bT (W% V+bT^(n+1)) n=0:=by
    rw[<-hz];exact Ag o_
   rw[f,a]at e;omega
  ·exact Ag o_
 ·have b:t=W/V+1:=by omega
  have r:t*V+W% V=W+V:=by rw[b,i5,jp,h2];omega
  have F:V<=bT^(n+1)+W% V:=o_
  refine⟨bT^(n+1)+W% V-V,o_,.inr ⟨b,?_,?_⟩⟩
  ·have e:=m (bT^(n+1)+W% V-V) o_;have v:bT^(n+1)+W% V-V<bT^(n+1):=by omega
   have f:iI V (bT^(n+1)+W% V-V) t (n+1)=1:=by
    rw[iI,h9 k,h9 v];have:t*V+(bT^(n+1)+W% V-V)=W+bT^(n+1):=o_
    rw[this,Nat.add_div_right _ A,i2 l]
   have a:ag bT (bT^(n+1)+W% V-V) n=bT-1:=by
    have g:(bT^(n+1)+W% V-V)/bT^n=bT-1:=by
     refine ll ?_ ?_
     ·rw[lt,jp,h2 bT,<-d];omega
     ·rw[show bT-1+1=bT by decide,h2 bT,<-d];omega
    rw[ag,g];decide
   rw[f,a]at e;omega
  ·have w:bT^(n+1)+W% V-V+V=W% V+bT^(n+1):=by omega
   have p:∀i,i<=n->ag bT (bT^(n+1)+W% V-V+V) i=ag bT (W% V) i:=fun i hi=>by
    rw[w];exact Ag o_
   refine⟨?_,p⟩;have h:=(uP bt (bT^(n+1)+W% V-V) V n).1;have D:=pf bt (bT^(n+1)+W% V-V) V n;rw[p n (ik _),hz,q]at h;have a:ag bT (bT^(n+1)+W% V-V) n=bT-1:=by
    have g:(bT^(n+1)+W% V-V)/bT^n=bT-1:=by
     refine ll ?_ ?_
     ·rw[lt,jp,h2 bT,<-d];omega
     ·rw[show bT-1+1=bT by decide,h2 bT,<-d];omega
    rw[ag,g];decide
   rw[a]at h;generalize dM bT (bT^(n+1)+W% V-V) V n=c at*;rcases ih 0 c with hc|hc
   ·omega
   ·have:c=0:=by omega
    subst this;simp only[bT]at h;omega
theorem aAL{V R t i:Nat}:iI V R t i<=t:=by
 have a:0<bT^i:=iA d_;have b:=i0 V a;have c:=i0 R a;rw[iI];refine Nat.le_of_lt_succ ?_;rw[h8 a];have d:=kz t (lc b);rw[Nat.succ_mul];omega
theorem aQx{t v a w r b':Nat}(h:r+(t*v+a)=w+b'*bT)(f:r<bT)(g:w<bT)(b:t<bT)(c:v<bT)(i:a<=t):
 ∃(p q m:Nat),dz.wrap ((t:Int)*v)=(t:Int)*v/\dz.wrap ((t:Int)*v+a)=p/\(p:Int).tmod 1000000000=m/\(p:Int).tdiv 1000000000=q/\q<bT/\m<bT/\
 (((w:Int)-m<0/\(w:Int)-m+1000000000=r/\b'=q+1)\/(¬(w:Int)-m<0/\(w:Int)-m=r/\b'=q)):=by
 have d:t*v<=999999999*999999999:=kw (by simp only[bT]at b;omega) (by simp only[bT]at c;omega);have j:=awI h f g;have e:=i0 (t*v+a) (show 0<bT by decide);have hq:(t*v+a)/bT<bT:=by
  rw[h8 d_];simp only[bT]at b⊢;omega
 refine⟨t*v+a,(t*v+a)/bT,(t*v+a)% bT,Px b c,?_,?_,?_,hq,e,?_⟩
 ·rw[<-ei,<-fb];generalize t*v=P at*;simp only[bT]at b;exact aU _ o_ o_
 ·rw[ed (eb _),em];rfl
 ·rw[ec (eb _),ej];rfl
 ·generalize (t*v+a)/bT=q at*;generalize (t*v+a)% bT=m at*;clear h d;simp only[bT]at*;omega
def dt(n:Nat)(f:Nat->Int):List AV:=(gg n).map fun j=>.p (.int .i64 (f j))
theorem pg(n:Nat)(f:Nat->Int):(dt n f).length=n:=by simp[dt]
theorem Wb(n:Nat)(f:Nat->Nat):dR n f=dt n (fun k=>(f k:Nat)):=rfl
theorem aPK{n j:Nat}(f:Nat->Int)(h:j<n):(dt n f)[j]?=some (.p (.int .i64 (f j))):=by
 rw[dt,hd,hp h];rfl
theorem As{n i:Nat}{v:Int}(f g:Nat->Int)(c:g i=v)(h:∀j,j<n->j≠i->g j=f j):(dt n f).set i (.p (.int .i64 v))=dt n g:=by
 apply hl (by simp[dt]);intro j d b;rw[pg]at b;rw[hP];simp only[dt,ha,g8]
 by_cases a:i=j
 ·subst a;rw[if_pos rfl,c]
 ·rw[if_neg a,h j b (fun e=>a e.symm)]
@[simp] theorem aUm{N:Nat×Nat->Prop}{n:Nat}{f:Nat->Int}:bk N (dt n f)=True:=by
 rw[eQ,eq_iff_iff,iff_true];intro v a;simp only[dt,ho]at a;obtain⟨x,_,rfl⟩:=a;trivial
theorem Rs{n:Nat}{f g:Nat->Int}(h:∀j,j<n->f j=g j):dt n f=dt n g:=by
 rw[dt,dt];apply hH;intro j a;rw[h j (hX.1 a)]
def iy(X R j i k:Nat):Int:=if j<=k/\k<j+i then(ag bT R (k-j):Nat)else(ag bT X k:Nat)
theorem win_zero{X R j k:Nat}:iy X R j 0 k=(ag bT X k:Nat):=by rw[iy,if_neg o_]
theorem HZ{X R j i:Nat}:iy X R j i (j+i)=(ag bT X (j+i):Nat):=by rw[iy,if_neg o_]
theorem aRd{X R j i:Nat}:iy X R j (i+1) (j+i)=(ag bT R i:Nat):=by
 rw[iy,if_pos o_,kv]
theorem aRe{X R j i k:Nat}(h:k≠j+i):iy X R j (i+1) k=iy X R j i k:=by
 rw[iy,iy]
 by_cases a:j<=k/\k<j+i
 ·rw[if_pos a,if_pos o_]
 ·rw[if_neg a,if_neg o_]
def iX(X R S j n i k:Nat):Int:=if k=j+n then -1 else if j<=k/\k<j+i then(ag bT S (k-j):Nat)else iy X R j n k
theorem aRa{X R S j n i:Nat}(h:i<n):iX X R S j n i (j+i)=(ag bT R i:Nat):=by
 rw[iX,if_neg o_,if_neg o_,iy,if_pos o_,kv]
theorem aRb{X R S j n i:Nat}(h:i<n):iX X R S j n (i+1) (j+i)=(ag bT S i:Nat):=by
 rw[iX,if_neg o_,if_pos o_,kv]
theorem aRc{X R S j n i k:Nat}(h:k≠j+i):iX X R S j n (i+1) k=iX X R S j n i k:=by
 rw[iX,iX]
 by_cases a:k=j+n
 ·rw[if_pos a,if_pos a]
 ·rw[if_neg a,if_neg a]
  by_cases b:j<=k/\k<j+i
  ·rw[if_pos b,if_pos o_]
  ·rw[if_neg b,if_neg o_]
theorem ave{X V j n N:Nat}(d:0<V)(c:V<bT^n)(e:X<V*bT^(j+1)){g:Nat->Int}(h:∀k,k<N->g k=if k=j+n then 0 else if j<=k/\k<j+n then(ag bT (X/bT^j% V) (k-j):Nat)else(ag bT X k:Nat)):
 dt N g=dt N fun k=>(ag bT (X% (V*bT^j)) k:Nat):=by
 refine Rs fun k hk=>?_;rw[h k hk,(CG (B:=bT) (R:=X) (V:=V) (j:=j)).1,PB bt];have i:=i0 (X/bT^j) d;have f:X<bT^(n+(j+1)):=by
  rw[i7];exact i1 e (j9 c (iA d_))
 by_cases a:k<j
 ·rw[if_pos a,if_neg o_,if_neg o_]
 ·rw[if_neg a]
  by_cases l:k<j+n
  ·rw[if_neg o_,if_pos o_]
  ·have hz:ag bT (X/bT^j% V) (k-j)=0:=l7 (h0 (i1 i c) (hZ d_ o_));rw[hz]
   by_cases b:k=j+n
   ·rw[if_pos b]
   ·rw[if_neg b,if_neg o_];have:ag bT X k=0:=l7 (h0 f (hZ d_ o_));rw[this]
theorem Ia{f:Nat}(a:0<f)(h:f<bT):eT f=.seq [.int .i64 f]:=by rw[eT,rL a h];rfl
theorem auX{r:Nat}(h:r<bT):fE [r]=aw bT r:=by
 have:=l8 bt (m:=1) (n:=r) (by rw[kf];exact h);rw[<-this,row,hW,gm,ht,ag,i3,i8,h9 h]
@[simp] theorem aUf{σ:Nat->Nat}{n:Nat}{f:Nat->Int}:dw σ (dt n f)=dt n f:=by
 have:∀l:List Nat,dw σ (l.map fun j=>AV.p (.int .i64 (f j)))=l.map fun j=>AV.p (.int .i64 (f j)):=by
  intro l
  induction l with
  |nil=>rfl
  |cons a r b=>simp only[gm,dw,b];rfl
 exact this _
@[simp] theorem aUk{n j:Nat}{f:Nat->Int}(h:j<(dt n f).length):(dt n f)[j]=.p (.int .i64 (f j)):=by
 simp only[dt,ha,g8]
@[simp] theorem aUh{n j:Nat}{f:Nat->Nat}(h:j<(dR n f).length):(dR n f)[j]=.p (.int .i64 (f j:Nat)):=by
 simp only[dR,ha,g8]
@[simp] theorem aUl{n:Nat}{f:Nat->Int}:(dt (n+1) f=[])=False:=by
 rw[eq_iff_iff,iff_false];intro h;have:=congrArg hw h;rw[pg]at this;simp at this
theorem Im(a b:Nat)(K:0<b)(cT:(aw bT a).length<=400000)(b4:(aw bT b).length<=400000):al prog 278 [eT a,eT b] (.aE [eT (a/b),eT (a% b)]):=by
 have bK:=OV a b o_ o_;refine gA_ nf func278 mix ?_;simp[f278];refine c2 bK ?_
 by_cases S:a<b
 ·have G:=tK.2 S;simp[G,i2 S,h9 S,eT,Eh]
 have G:¬ie a b<0:=fun h=>S (tK.1 h);have a2:∀i(h:i<(aw bT b).length),(aw bT b)[i]=ag bT b i:=fun i h=>fI bt h;have C:=cU bt b
 by_cases b2:(aw bT b).length=1
 ·rw[b2,kf]at C;have L:=OU a b K C o_;have b9:=i0 a K;have cd:=auX (i1 b9 C);have aq:=xO [a% b] s_;rw[cd]at aq;have cP:=rL K C;rw[Ia K C];simp only[eT,iP]at L aq⊢;generalize aw bT (a/b)=cI,aw bT (a% b)=cJ,aw bT a=x,a% b=da at*;simp[G];refine c2 L ?_;simp;refine cp aq (by simp;exact⟨rfl,rfl⟩) ?_;simp
 have cS:2<=(aw bT b).length:=by
  rcases ih (aw bT b).length 1 with h|h
  ·have e:(aw bT b).length=0:=by omega
   rw[e,i3]at C;omega
  ·omega
 obtain⟨k,hk⟩:∃k,(aw bT b).length=k+1:=⟨(aw bT b).length-1,o_⟩
 obtain⟨n,hn⟩:∃n,n=k+1:=⟨_,rfl⟩
 rw[hk]at C;obtain⟨d,Z⟩:∃d,d=b/bT^k:=⟨_,rfl⟩
 have ax:bT^k<=b:=by
  rcases ih b (bT^k)with h|h
  ·have:=fc bt k b h;omega
  ·exact h
 have bc:0<bT^k:=iA d_;have bL:0<d:=by rw[Z];exact j6 ax bc
 have bP:d<bT:=by rw[Z,h8 bc,h2,<-h7];exact C
 have a3:ag bT b k=d:=by rw[ag,<-Z,h9 bP]
 obtain⟨f,hf⟩:∃f,f=bT/(d+1):=⟨_,rfl⟩
 obtain⟨f0,f1,f2,f3,f4⟩:=av6 C Z bL hf;obtain⟨V,I⟩:∃V,V=b*f:=⟨_,rfl⟩
 rw[<-I]at f2 f3 f4;have aT:(aw bT V).length=n:=by
  have H:=fc bt (k+1) V f2;have bB:=Pc bt f3;omega
 have af:=Il b f (by rw[rL f0 f1];simp;omega);have ah:=Il a f (by rw[rL f0 f1];simp;omega);rw[Ia f0 f1,<-I]at af;rw[Ia f0 f1]at ah;have bN:(aw bT b)[k]?=some d:=by rw[gb o_,a2 k o_,a3]
 have bO:∀h:k<(aw bT b).length,(aw bT b)[k]=d:=fun h=>by rw[a2 k h,a3]
 have cW:(aw bT b).length<=400000:=b4;have cO:bT=1000000000:=rfl;have wd:dz.wrap ((d:Int)+1)=(d:Int)+1:=aU _ o_ o_;have bR:(1000000000:Int).tdiv ((d:Int)+1)=(f:Nat):=by
  rw[ec d_,hf,ej];rfl
 have bM:¬(d:Int)+1=0:=o_
 have cB:dz.wrap (k:Int)=k:=aU _ o_ o_;have wf:dz.wrap (f:Int)=f:=aU _ o_ o_;have b3:¬(k:Int)+1=1:=o_
 have bW:¬k=0:=o_
 have bl:k<(aw bT b).length:=o_
 have bY:=bO bl;simp only[eT]at af ah⊢;generalize cn:aw bT (a/b)=cI,co:aw bT (a% b)=cJ,aF:aw bT a=x,c5:aw bT b=y,aj:aw bT V=s at*;simp[G,hk,b3,bW,cB,bN,bY,bl,wd,bR,bM,wf];refine cp af (by simp;exact⟨rfl,rfl⟩) ?_;simp[aT];refine cp ah (by simp;exact⟨rfl,rfl⟩) ?_;obtain⟨u,D⟩:∃u,aw bT (a*f)=u:=⟨_,rfl⟩
 obtain⟨c,M⟩:∃c,x.length=c:=⟨_,rfl⟩
 have be:u.length<=c+1:=by
  rw[<-D,<-M,<-aF];refine fc bt _ _ ?_;rw[h7];exact j1 (cU bt a) f1
 have ci:∀i(h:i<u.length),u[i]=ag bT (a*f) i:=fun i h=>by
  have:=fI bt (n:=a*f) (i:=i) (by rw[D];exact h);simp only[D]at this;exact this
 rw[D];have cN:b<=a*f:=h3 (Nat.le_of_not_lt S) (km _ f0);have bg:¬u=[]:=by
  intro h;rw[h]at D;have:=zY.1 D;omega
 have aZ:a*f<bT^u.length:=by rw[<-D];exact cU bt _
 have ai:hG (AV.p∘fun x:Nat=>PV.int dz x) u=dt u.length fun k=>(ag bT (a*f) k:Nat):=by
  apply hl (by simp[dt]);intro i G cM;simp only[ha,Function.comp,dt,g8];rw[ci i (by simpa using G)]
 have cg:u.length<=400001:=o_
 obtain⟨A,bf⟩:∃A,u.length=A:=⟨_,rfl⟩
 rw[bf]at aZ ai be cg;clear af ah;have ch:¬(dt A fun k=>(ag bT (a*f) k:Nat))=[]:=by rw[<-ai];simpa using bg
 have ce:¬A=0:=by rw[<-bf];exact fun h=>bg (List.length_eq_zero_iff.1 h)
 simp[M,ai,ch,ce,pg];refine⟨⟨by rw[<-ai];exact Wh u,by simp only[dA];omega⟩,?_⟩;have cV:c<=400000:=o_
 have bw:dz.wrap ((c:Int)+1)=c+1:=aU _ o_ o_;refine vO (fun s'=>∃l o,aV s'.env 8=.sl 0 0 1 0 1/\aV s'.env 9=.p (.seq (s.map fun x:Nat=>.int .i64 x))/\aV s'.env 10=.p (.int .i64 n)/\aV s'.env 11=.sl 2 l 1 0 (c+1)/\s'.heap=[.arr .frozen 0 1 [.p (.int .i64 f)],o,.arr .grow l 1 (dt (c+1) fun k=>(ag bT (a*f) k:Nat))]) ?_ ?_
 ·refine lp (α:=Nat) (fun i=>⟨[(11,.sl 2 (i-A) 1 0 i),(10,.p (.int .i64 n)),(9,.p (.seq (s.map fun x:Nat=>.int .i64 x))),(8,.sl 0 0 1 0 1),(0,.p (.seq (x.map fun x:Nat=>.int .i64 x)))],[.arr .frozen 0 1 [.p (.int .i64 f)],.hole,.arr .grow (i-A) 1 (dt i fun k=>(ag bT (a*f) k:Nat))]⟩)
   (fun i=>A<=i/\i<=c+1) (fun i=>c+1-i) A ⟨ik _,be⟩ ?_ (he:=s_) (hh:=s_)
  rintro i ⟨k1,k2⟩
  by_cases hi:i<c+1
  ·have bS:(i:Int)<c+1:=by omega
   have hz:ag bT (a*f) i=0:=l7 (h0 aZ (hZ d_ k1));have cb:dt (i+1) (fun k=>(ag bT (a*f) k:Nat))=dt i (fun k=>(ag bT (a*f) k:Nat))++[.p (.int .i64 0)]:=by
    rw[dt,hS,hV];simp[hz,dt]
   have bd:i+1-A=i-A+1:=o_
   have cc:gt i (dt i fun k=>(ag bT (a*f) k:Nat))=dt i fun k=>(ag bT (a*f) k:Nat):=gc (by rw[pg];exact ik _);simp[M,bw,bS,pg,cc];refine⟨by simp only[dA];omega,?_⟩;exact rd (i+1) ⟨o_,hi⟩ (he:=by simp[bd]) (hh:=by simp[bd,cb]) (hr2:=s_)
  ·have ab:i=c+1:=by omega
   subst ab;simp[M,bw]
 rintro⟨bz,bQ⟩ ⟨l,o,E,P,Q,F,T⟩;dsimp only at E P Q F T;subst T;have c4:n<=c:=by
  rw[hn];rcases ih c (k+1)with h|h
  ·have H:=cU bt a;rw[aF,M]at H;have bB:=h0 H (hZ (show 0<bT by decide) (show c<=k by omega));omega
  ·exact h
 obtain⟨m,cZ⟩:∃m,m=c-n:=⟨_,rfl⟩
 have cE:dz.wrap ((c:Int)+1-n)=(m:Int)+1:=by rw[aU _ o_ o_];omega
 have cF:((m:Int)+1).toNat=m+1:=o_
 have cG:dz.wrap (m:Int)=m:=aU _ o_ o_;have b7:(m:Int)+1<=dA:=by simp only[dA];omega
 simp[E,P,Q,F,cE,cF,cG];refine⟨⟨o_,b7⟩,?_⟩;have au:0<V:=by rw[I];exact lu K f0
 have W:V<bT^n:=by rw[hn];exact f2
 have a0:a<bT^c:=by rw[<-M,<-aF];exact cU bt a
 have bH:a*f% (V*bT^(m+1))=a*f:=by
  refine h9 ?_;rw[I,kC];refine j9 ?_ f0;refine h0 a0 ?_;rw[show c=k+(m+1)by omega,i7];exact h6 _ ax
 obtain⟨X,J⟩:∃X:Nat->Nat,∀j,X j=a*f% (V*bT^j):=⟨_,fun _=>rfl⟩
 have Y:∀j,X j<V*bT^j:=fun j=>by rw[J];exact i0 _ (lu au (iA d_))
 have bJ:∀j,X (j+1)% (V*bT^j)=X j:=fun j=>by
  rw[J,J,kD];exact Nat.mul_dvd_mul_left _ (kO _ o_)
 have bI:∀j,X (j+1)/bT^j/V=ag bT (a/b) j:=fun j=>by
  rw[J,<-(CG (B:=bT) (R:=a*f% (V*bT^(j+1))) (V:=V) (j:=j)).2,h7,<-iB,Nat.mod_mul_right_div_self,<-ii,I,Nat.mul_div_mul_right _ _ f0,ag]
 have a5:=fun j(h:j<=m)=>aL8 (X (j+1)/bT^j) V (c+1) j n .grow l (ag bT (X (j+1))) o_ (by rw[aj];exact aT) (by rw[hn,i6];exact f4) (by rw[h8 (iA d_),iB,h2 bT,<-h7];exact Y (j+1)) o_ o_ (fun i hi=>(u5 (B:=bT) _ _ _).symm);simp only[eT,Wb,aj]at a5;rw[show(gi (m+1) (AV.p (PV.int dz 0)))=dR (m+1) (qT (a/b) (m+1))from RO];rw[show(dt (c+1) fun k=>(ag bT (a*f) k:Nat))=dt (c+1) fun k=>(ag bT (X (m+1)) k:Nat)by rw[J,bH]];refine vO (fun s'=>∃bn,aV s'.env 8=.sl 0 0 1 0 1/\aV s'.env 10=.p (.int .i64 n)/\aV s'.env 11=.sl 2 l 1 0 (c+1)/\aV s'.env 12=.sl 3 0 1 0 (m+1)/\s'.heap=[.arr .frozen 0 1 [.p (.int .i64 f)],bn,.arr .grow l 1 (dt (c+1) fun k=>(ag bT (X 0) k:Nat)),.arr .exact 0 1 (dR (m+1) (ag bT (a/b)))]) ?_ ?_
 ·refine lp (α:=Nat) (fun j=>⟨[(13,.p (.int .i64 ((j:Int)-1))),(12,.sl 3 0 1 0 (m+1)),(11,.sl 2 l 1 0 (c+1)),(10,.p (.int .i64 n)),(9,.p (.seq (s.map fun x:Nat=>.int .i64 x))),(8,.sl 0 0 1 0 1)],[.arr .frozen 0 1 [.p (.int .i64 f)],.hole,.arr .grow l 1 (dt (c+1) fun k=>(ag bT (X j) k:Nat)),.arr .exact 0 1 (dR (m+1) (qT (a/b) j))]⟩)
   (fun j=>j<=m+1) (fun j=>j) (m+1) (ik _) ?_ (he:=by simp[E,P,Q,F])
  intro j cQ;rcases j with _|j
  ·simp[RN]
  ·obtain⟨t,aK,an,ao,bC⟩:=a5 j o_;have bV:¬(j:Int)<0:=by omega
   have bG:X (j+1)/bT^j<bT^(n+1):=by
    rw[h8 (iA d_),<-i7];refine h0 (Y (j+1)) ?_;rw[show n+1+j=n+(j+1)by omega,i7 bT n (j+1)];exact h6 _ (lc W)
   obtain⟨R,bE,bF⟩:=aAM au W bG aK an;have jg:=fun i(hi:i<=n)=>QF (i:=i) bE hi;have av:∀i,ag bT (X (j+1)/bT^j) i=ag bT (X (j+1)) (j+i):=fun i=>u5 _ _ _;have dd:((n:Nat):Int).toNat=n:=o_
   simp[-ba];rw[ba,ba];simp[-ba,bV];rw[ba,Qy,ba];simp[-ba];refine cf bC [2] ?_;simp[-ba,sig,bu];rw[ba];simp[-ba];rw[ba,ba];simp[-ba];have aS:∀i(h:i<s.length),s[i]=ag bT V i:=fun i h=>by
    have:=fI bt (n:=V) (i:=i) (by rw[aj];exact h);simp only[aj]at this;exact this
   have aQ:X (j+1)/bT^j/V=ag bT (a/b) j:=bI j;have cR:(j:Int)<=400000:=o_
   have c0:(n:Int)<=400001:=o_
   have a4:∀g:Nat->Int,(∀k,k<c+1->g k=if k=j+n then 0 else if j<=k/\k<j+n then(ag bT (X (j+1)/bT^j% V) (k-j):Nat)else(ag bT (X (j+1)) k:Nat))->dt (c+1) g=dt (c+1) fun k=>(ag bT (X j) k:Nat):=fun g ay=>by
    rw[ave au W (Y (j+1)) ay,bJ]
   have ck:dt (c+1) (iy (X (j+1)) R j 0)=dt (c+1) fun k=>(ag bT (X (j+1)) k:Nat):=Rs fun k _=>win_zero;refine lp (α:=Nat) (fun i=>⟨[(16,.p (.int .i64 i)),(15,.p (.int .i64 (iI V R t i:Nat))),(14,.p (.int .i64 t)),(13,.p (.int .i64 j)),(12,.sl 3 0 1 0 (m+1)),(11,.sl 2 l 1 0 (c+1)),(10,.p (.int .i64 n)),(9,.p (.seq (s.map fun x:Nat=>.int .i64 x))),(8,.sl 0 0 1 0 1)],[.arr .frozen 0 1 [.p (.int .i64 f)],.hole,.arr .grow l 1 (dt (c+1) (iy (X (j+1)) R j i)),.arr .exact 0 1 (dR (m+1) (qT (a/b) (j+1)))]⟩)
    (fun i=>i<=n) (fun i=>n-i) 0 (i9 _) ?_ (he:=by simp[awJ]) (hh:=by simp[ck])
   intro i hi;have bv:dz.wrap ((i:Int)+j)=(i:Int)+j:=aU _ o_ o_;have br:((i:Int)+j).toNat=i+j:=o_
   have bm:¬((i:Int)+j<0):=o_
   have bs:dz.wrap ((i:Int)+1)=(i:Int)+1:=aU _ o_ o_
   by_cases aA:i<n
   ·have a7:(i:Int)<n:=by omega
    have ac:i<s.length:=o_
    have aE:=aS i ac;have aY:=jg i hi;rw[av]at aY;have bo:=cX bt (X (j+1)) (j+i);have cr:=cX bt R i;have pv:=cX bt V i;obtain⟨p,q,ak,s1,s2,bp,bq,db,dc,cu⟩:=aQx (by rw[<-lb];exact aY) cr bo ao pv aAL;have bk:iy (X (j+1)) R j i (i+j)=(ag bT (X (j+1)) (j+i):Nat):=by rw[j2 i j,HZ]
    have a6:0<=(i:Int)+j:=o_
    have get:(dt (c+1) (iy (X (j+1)) R j i))[i+j]?=some (.p (.int .i64 (ag bT (X (j+1)) (j+i):Nat))):=by
     rw[aPK _ o_,j2 i j,HZ]
    have set:(dt (c+1) (iy (X (j+1)) R j i)).set (i+j) (.p (.int .i64 (ag bT R i:Nat)))=dt (c+1) (iy (X (j+1)) R j (i+1)):=by
     rw[j2 i j];exact As _ _ aRd fun k _ hk=>aRe hk
    have ab:i+j<c+1:=o_
    have bh:s[i]?=some (ag bT V i):=by rw[gb ac,aE]
    generalize ag bT (X (j+1)) (j+i)=w,ag bT V i=v,ag bT R i=r,iI V R t i=cK,a1:iI V R t (i+1)=cL at*;have ca:¬(r:Int)<0:=o_
    have ww:dz.wrap ((w:Int)-ak)=(w:Int)-ak:=aU _ o_ o_;have bx:dz.wrap (q:Int)=q:=aU _ o_ o_;have aO:dz.wrap ((q:Int)+1)=(q:Int)+1:=aU _ o_ o_;rcases cu with⟨c1,c2,c3⟩|⟨c1,c2,c3⟩
    ·have wr:dz.wrap ((w:Int)-ak+1000000000)=r:=by rw[c2];exact aU _ o_ o_
     simp[a7,bv,br,bm,ac,aE,bh,s1,s2,bp,bq,ab,get,bk,a6,pg,ww,c1,wr,aO,set,bs,aa,aP,bZ];exact rd (i+1) (show i+1<=n by omega) (he:=by simp[a1,c3,bx,aO])
    ·have wr:dz.wrap ((w:Int)-ak)=r:=by rw[ww,c2]
     simp[a7,bv,br,bm,ac,aE,bh,s1,s2,bp,bq,ab,get,bk,a6,pg,c1,wr,ca,set,bs,aa,aP,bZ];exact rd (i+1) (show i+1<=n by omega) (he:=by simp[a1,c3,bx,aO])
   ·have bU:i=n:=by omega
    subst bU;have aN:dz.wrap ((j:Int)+i)=(j:Int)+i:=aU _ o_ o_;have aL:((j:Int)+i).toNat=j+i:=o_
    have aH:0<=(j:Int)+i:=o_
    have az:j+i<c+1:=o_
    have bj:iy (X (j+1)) R j i (j+i)=(ag bT (X (j+1)) (j+i):Nat):=HZ;have bo:=cX bt (X (j+1)) (j+i);have aM:dz.wrap ((j:Int)-1)=(j:Int)-1:=aU _ o_ o_;rcases bF with⟨r1,U,aJ⟩|⟨r1,U,aJ,ct⟩
    ·rw[av]at U;rw[U];generalize ag bT (X (j+1)) (j+i)=w at*;have ap:dz.wrap 0=0:=rfl;have am:dz.wrap ((w:Int)-w)=0:=by rw[fd];rfl
     have aD:t=ag bT (a/b) j:=by rw[r1,aQ]
     have aI:(dR (m+1) (qT (a/b) (j+1))).set j (.p (.int .i64 t))=dR (m+1) (qT (a/b) j):=by rw[aD];exact H9
     have fs:(dt (c+1) (iy (X (j+1)) R j i)).set (j+i) (.p (.int .i64 0))=dt (c+1) fun k=>(ag bT (X j) k:Nat):=by
      rw[As _ (fun k=>if k=j+i then 0 else iy (X (j+1)) R j i k) (if_pos rfl) (fun k _ hk=>if_neg hk)];refine a4 _ fun k _=>?_
      by_cases hk:k=j+i
      ·rw[if_pos hk,if_pos hk];rfl
      ·rw[if_neg hk,if_neg hk,iy]
       by_cases z:j<=k/\k<j+i
       ·rw[if_pos z,if_pos z,aJ (k-j) o_]
       ·rw[if_neg z,if_neg z]
     have ad:j<m+1:=o_
     have b8:¬((ag bT (X j) (j+i):Nat):Int)<0:=o_
     simp[aN,aL,aH,az,bj,pg,Al,am,ap,aM,ad,b8,fs,aI,aa,aP,bZ];exact rd j (show j<=m+1 by omega)
    ·rw[av]at U;rw[U];generalize ag bT (X (j+1)) (j+i)=w at*;have ap:dz.wrap 0=0:=rfl;have am:dz.wrap ((w:Int)-((w+1:Nat):Int))= -1:=by rw[show(w:Int)-((w+1:Nat):Int)= -1 by omega];rfl
     have cx:dz.wrap (-1)= -1:=rfl;have fs:(dt (c+1) (iy (X (j+1)) R j i)).set (j+i) (.p (.int .i64 (-1)))=dt (c+1) (iX (X (j+1)) R (R+V) j i 0):=by
      refine As _ _ (by rw[iX,if_pos rfl]) fun k _ hk=>?_;rw[iX,if_neg hk,if_neg o_]
     have aD:(t:Int)-1=ag bT (a/b) j:=by rw[r1,aQ];omega
     have cH:dz.wrap ((t:Int)-1)=ag bT (a/b) j:=by rw[aD];have:=cX bt (a/b) j;exact aU _ o_ o_
     have ad:j<m+1:=o_
     have cl:iX (X (j+1)) R (R+V) j i 0 (j+i)= -1:=by rw[iX,if_pos rfl]
     push_cast at am;simp[aN,aL,aH,az,bj,pg,Al,am,ap,cx,cH,aM,ad,fs,cl,aa,aP,bZ];refine lp (α:=Nat) (fun k=>⟨[(20,.p (.int .i64 k)),(19,.p (.int .i64 (dM bT R V k:Nat))),(14,.p (.int .i64 (ag bT (a/b) j:Nat))),(13,.p (.int .i64 j)),(12,.sl 3 0 1 0 (m+1)),(11,.sl 2 l 1 0 (c+1)),(10,.p (.int .i64 i)),(9,.p (.seq (s.map fun x:Nat=>.int .i64 x))),(8,.sl 0 0 1 0 1)],[.arr .frozen 0 1 [.p (.int .i64 f)],.hole,.arr .grow l 1 (dt (c+1) (iX (X (j+1)) R (R+V) j i k)),.arr .exact 0 1 (dR (m+1) (qT (a/b) (j+1)))]⟩)
      (fun k=>k<=i) (fun k=>i-k) 0 (i9 _) ?_ (he:=by simp[CB])
     intro k hk;have cD:dz.wrap ((k:Int)+j)=(k:Int)+j:=aU _ o_ o_;have cw:((k:Int)+j).toNat=k+j:=o_
     have cq:0<=(k:Int)+j:=o_
     have cC:dz.wrap ((k:Int)+1)=(k:Int)+1:=aU _ o_ o_;obtain⟨q1,cs⟩:=uP bt R V k;have c7:=pf bt R V k;have q4:=pf bt R V (k+1);have c8:=cX bt R k;have c9:=cX bt V k
     by_cases a8:k<i
     ·have bX:(k:Int)<i:=by omega
      have aB:k<s.length:=o_
      have bi:=aS k aB;have cj:s[k]?=some (ag bT V k):=by rw[gb aB,bi]
      have b1:k+j<c+1:=o_
      have ay:iX (X (j+1)) R (R+V) j i k (k+j)=(ag bT R k:Nat):=by rw[j2 k j,aRa a8]
      have aY:(dt (c+1) (iX (X (j+1)) R (R+V) j i k)).set (k+j) (.p (.int .i64 (ag bT (R+V) k:Nat)))=dt (c+1) (iX (X (j+1)) R (R+V) j i (k+1)):=by
       rw[j2 k j];exact As _ _ (aRb a8) fun x _ hx=>aRc hx
      have aK:((ag bT R k:Nat):Int)+(ag bT V k:Nat)+(dM bT R V k:Nat)=((ag bT R k+ag bT V k+dM bT R V k:Nat):Int):=o_
      have an:((ag bT R k+ag bT V k+dM bT R V k:Nat):Int).tmod 1000000000=(ag bT (R+V) k:Nat):=by
       rw[<-q1,ed (eb _),em];rfl
      have ao:((ag bT R k+ag bT V k+dM bT R V k:Nat):Int).tdiv 1000000000=(dM bT R V (k+1):Nat):=by
       rw[<-cs,ec (eb _),ej];rfl
      rw[<-aK]at an ao;have w1:dz.wrap ((ag bT R k:Nat)+(ag bT V k:Nat))=(ag bT R k:Nat)+(ag bT V k:Nat):=aU _ o_ o_;have cy:dz.wrap ((ag bT R k:Nat)+(ag bT V k:Nat)+(dM bT R V k:Nat))=(ag bT R k:Nat)+(ag bT V k:Nat)+(dM bT R V k:Nat):=aU _ o_ o_;have cz:dz.wrap (ag bT (R+V) k:Nat)=(ag bT (R+V) k:Nat):=by have:=cX bt (R+V) k;exact aU _ o_ o_
      have cA:dz.wrap (dM bT R V (k+1):Nat)=(dM bT R V (k+1):Nat):=aU _ o_ o_;simp[bX,aB,bi,cj,cD,cw,cq,b1,ay,aY,pg,w1,cy,cz,cA,an,ao,cC,aa,aP,bZ];exact rd (k+1) (show k+1<=i by omega)
     ·have b0:k=i:=by omega
      subst b0;have cm:iX (X (j+1)) R (R+V) j k k (j+k)= -1:=by rw[iX,if_pos rfl]
      have cv:dz.wrap (-1+1)=0:=rfl;have aI:(dR (m+1) (qT (a/b) (j+1))).set j (.p (.int .i64 (ag bT (a/b) j:Nat)))=dR (m+1) (qT (a/b) j):=H9;have bA:(dt (c+1) (iX (X (j+1)) R (R+V) j k k)).set (j+k) (.p (.int .i64 0))=dt (c+1) fun k=>(ag bT (X j) k:Nat):=by
       rw[As _ (fun x=>if x=j+k then 0 else iX (X (j+1)) R (R+V) j k k x) (if_pos rfl) (fun x _ hx=>if_neg hx)];refine a4 _ fun x _=>?_
       by_cases hk:x=j+k
       ·rw[if_pos hk,if_pos hk];rfl
       ·rw[if_neg hk,if_neg hk,iX,if_neg hk]
        by_cases z:j<=x/\x<j+k
        ·rw[if_pos z,if_pos z,ct (x-j) o_]
        ·rw[if_neg z,if_neg z,iy,if_neg z]
      rw[aJ];simp[aN,aL,aH,az,cm,pg,Al,cv,ap,aM,ad,bA,aI,aa,aP,bZ];exact rd j (show j<=m+1 by omega)
 rintro⟨bz,bQ⟩ ⟨bn,E,P,Q,F,T⟩;dsimp only at E P Q F T;subst T;have aW:X 0=a% b*f:=by rw[J,i3,kL,I,Nat.mul_mod_mul_right]
 have bD:a/b<bT^(m+1):=by
  rw[h8 K];refine h0 a0 ?_;rw[show c=m+1+k by omega,i7];exact kz _ ax
 obtain⟨c6,a9,b5,aR⟩:=Sh (m:=m+1) (N:=a/b) bD o_;have aX:X 0<bT^n:=h0 (by have:=Y 0;rwa [i3,kL]at this) (lc W);obtain⟨O,cY,ae,b6,ar⟩:∃O:List Nat,O=(gg (c+1)).map (ag bT (X 0))/\O.length=c+1/\dR (c+1) (ag bT (X 0))=O.map (AV.p∘fun x:Nat=>PV.int .i64 x)/\al prog 317 [.seq (iP (O.take n))] (eT (X 0)):=by
  refine⟨_,rfl,s_,GQ _ _,?_⟩;have e:((gg (c+1)).map (ag bT (X 0))).take n=(gg n).map (ag bT (X 0)):=RD o_ fun k hk=>rfl;rw[e];have H:=xO ((gg n).map (ag bT (X 0))) (by simp;omega);rw[show fE ((gg n).map (ag bT (X 0)))=aw bT (X 0)from l8 bt aX]at H;exact H
 have L:=OU (X 0) f f0 f1 (by
  have:=fc bt n (X 0) aX;omega)
 rw[aW,Nat.mul_div_cancel _ f0]at L;rw[aW]at ar;rw[<-Wb,b6,b5]at*;simp only[eT,cn,co,iP]at aR ar L⊢;have aC:¬O=[]:=by intro h;rw[h]at ae;simp at ae
 have bb:n<=c+1:=o_
 simp[E,P,Q,F,ae,aC,bb];refine ep ar (by simp[ae,bb,aC];first|exact⟨rfl,rfl⟩|rfl) (by simp[aC];first|exact⟨rfl,rfl⟩|rfl) ?_ (h1:=by simp[g7]);simp[E,aa,aP,bZ];refine e2 L ?_;simp[F];refine⟨r_,?_⟩;refine cp aR (by simp[a9];first|exact⟨rfl,rfl⟩|rfl) ?_ (h1:=by simp[gc,a9]);simp
theorem arI(n:Nat):fE (aw bT n)=aw bT n:=by
 have h:=HA bt (l:=aw bT n) (fun d a=>by
  obtain⟨i,hi,rfl⟩:=hJ a;rw[fI bt hi];exact cX bt _ _)
 rw[<-h,Qk bt]
theorem uN(neg:Bool)(n:Nat)(h:(aw bT n).length<=1048576):al prog 310 [.bool neg,eT n] (eG (if neg=true then -(n:Int)else n)):=G2 neg (aw bT n) n (arI n) h
theorem QA(a b:Nat)(g:(aw bT a).length<=400000)(h:(aw bT b).length<=400000):al prog 229 [eT a,eT b] (eT (i4 a b)):=by
 refine gA_ nf func229 mix ?_;simp[f229];refine lp (α:=Nat×Nat) (fun x=>⟨[(1,.p (eT x.2)),(0,.p (eT x.1))],[]⟩)
  (fun x=>(aw bT x.1).length<=400000/\(aw bT x.2).length<=400000/\i4 x.1 x.2=i4 a b) (fun x=>x.2) (a,b) ⟨g,h,rfl⟩ ?_
 rintro⟨x,y⟩ ⟨e,d,c⟩;dsimp only at e d c
 by_cases hy:y=0
 ·subst hy;rw[lm]at c;rw[<-c];simp[eT,Eh]
 ·have i:0<(aw bT y).length:=by
   rw[ge,Ne,zY];exact hy
  have f:=Im x y o_ e d;have j:=i0 x (show 0<y by omega);simp[eT,i];refine c2 f ?_;simp;exact rd (y,x% y) ⟨d,by have:=fc bt _ _ (i1 j (cU bt y));dsimp only;omega,by rw[<-c,kF y,<-lw,kF]⟩ (by dsimp only;omega) (he:=by simp[eT])
theorem aKJ(a b:Nat)(h:a<9223372036854775808)(i:b<9223372036854775808):al prog 273 [.int .i64 a,.int .i64 b] (.int .i64 (i4 a b:Nat)):=by
 refine gA_ nf func273 mix ?_;simp[f273];refine lp (α:=Nat×Nat) (fun x=>⟨[(1,.p (.int .i64 x.2)),(0,.p (.int .i64 x.1))],[]⟩)
  (fun x=>x.1<9223372036854775808/\x.2<9223372036854775808/\i4 x.1 x.2=i4 a b) (fun x=>x.2) (a,b) ⟨h,i,rfl⟩ ?_
 rintro⟨x,y⟩ ⟨g,d,c⟩;dsimp only at g d c
 by_cases f:y=0
 ·subst f;rw[lm]at c;rw[<-c];simp
 ·have m:(0:Int)<y:=by omega
  have e:0<y:=o_
  have o:¬(y:Int)=0:=o_
  have n:=i0 x e;have k:(x:Int).tmod y=(x% y:Nat):=by rw[ed (eb _),em]
  have l:dz.wrap ((x% y:Nat):Int)=(x% y:Nat):=aU _ o_ o_;generalize j:x% y=r at*;simp[e,f,k,l];exact rd (y,r) ⟨d,by dsimp only;omega,by rw[<-c,<-j,kF y,<-lw,kF]⟩ (by dsimp only;omega)
theorem azf{B a b x y K:Nat}(c:2<=B)(d:a<B^x)(e:b<B^y)(f:B^x<=B^K)(g:B^y<=B^K):a+b<B^(K+1):=by
 rw[h7];have:=kz (B^K) c;omega
theorem aze{a b K:Nat}(g:(aw bT a).length<=K)(h:(aw bT b).length<=K):(aw bT (a+b)).length<=K+1:=by
 have c:=cU bt a;have d:=cU bt b;have e:=hZ (show 0<bT by decide) g;have f:=hZ (show 0<bT by decide) h;exact fc bt (K+1) (a+b) (azf bt c d e f)
theorem aKX(a b:Int)(l:(aw bT a.natAbs).length<=400000)(o:(aw bT b.natAbs).length<=400000):al prog 268 [eG a,eG b] (eG (a+b)):=by
 have m:=aDQ a.natAbs b.natAbs o_ o_;have k:=OV a.natAbs b.natAbs o_ o_;have q:(aw bT (a.natAbs+b.natAbs)).length<=1048576:=by
  have r:=aze l o;omega
 refine gA_ nf func268 mix ?_
 by_cases hs:(a<0↔b<0)
 ·have t:(decide (a<0)==decide (b<0))=true:=by simp[hs]
  have d:=uN (decide (a<0)) (a.natAbs+b.natAbs) q;have f:(if decide (a<0)=true then -((a.natAbs+b.natAbs:Nat):Int)else((a.natAbs+b.natAbs:Nat):Int))=a+b:=by
   by_cases h:a<0
   ·have:=hs.1 h;simp[h];omega
   ·have:¬b<0:=fun c=>h (hs.2 c);simp[h];omega
  rw[f]at d;generalize a+b=s,a.natAbs+b.natAbs=n at*;have g:(a<0↔b<0)=True:=eq_true hs;simp only[eG]at d⊢;simp(maxDischargeDepth:=99) [f268,g,aa,e2 m,e2 d]
 ·have g:(a<0↔b<0)=False:=eq_false hs
  by_cases p:b.natAbs<=a.natAbs
  ·have i:0<=ie a.natAbs b.natAbs:=by
    have:=tK (a:=a.natAbs) (b:=b.natAbs);omega
   have j:=Si a.natAbs b.natAbs p o_;have d:=uN (decide (a<0)) (a.natAbs-b.natAbs) (by
    have:=fc bt _ _ (h4 (kX a.natAbs b.natAbs) (cU bt a.natAbs));omega)
   have f:(if decide (a<0)=true then -((a.natAbs-b.natAbs:Nat):Int)else((a.natAbs-b.natAbs:Nat):Int))=a+b:=by
    by_cases h:a<0
    ·have:¬b<0:=fun c=>hs ⟨fun _=>c,fun _=>h⟩;simp[h];omega
    ·have:b<0:=by
      rcases fi b 0 with c|c
      ·exact c
      ·exact(hs ⟨fun e=>(h e).elim,fun e=>by omega⟩).elim
     simp[h];omega
   rw[f]at d;generalize a+b=s,a.natAbs-b.natAbs=n at*;simp only[eG]at d⊢;simp(maxDischargeDepth:=99) [f268,g,aa,i,c2 k,e2 j,e2 d]
  ·have i:¬0<=ie a.natAbs b.natAbs:=by
    have:=tK (a:=a.natAbs) (b:=b.natAbs);omega
   have j:=Si b.natAbs a.natAbs o_ o_;have d:=uN (decide (b<0)) (b.natAbs-a.natAbs) (by
    have:=fc bt _ _ (h4 (kX b.natAbs a.natAbs) (cU bt b.natAbs));omega)
   have f:(if decide (b<0)=true then -((b.natAbs-a.natAbs:Nat):Int)else((b.natAbs-a.natAbs:Nat):Int))=a+b:=by
    by_cases h:b<0
    ·have:¬a<0:=fun c=>hs ⟨fun _=>h,fun _=>c⟩;simp[h];omega
    ·have:a<0:=by
      rcases fi a 0 with c|c
      ·exact c
      ·exact(hs ⟨fun e=>by omega,fun e=>(h e).elim⟩).elim
     simp[h];omega
   rw[f]at d;generalize a+b=s,b.natAbs-a.natAbs=n at*;simp only[eG]at d⊢;simp(maxDischargeDepth:=99) [f268,g,aa,i,c2 k,e2 j,e2 d]
theorem Sj(a:Int)(d:(aw bT a.natAbs).length<=400000):al prog 308 [eG a] (eG (-a)):=by
 have b:=uN (!decide (a<0)) a.natAbs o_;have c:(if(!decide (a<0))=true then -((a.natAbs:Nat):Int)else(a.natAbs:Nat))= -a:=by
  by_cases h:a<0
  ·simp[h];omega
  ·simp[h];omega
 rw[c]at b;refine gA_ nf func308 mix ?_;generalize -a=s at*;simp only[eG]at b⊢;simp[f308,aa,c2 b]
theorem Av(a b:Int)(g:(aw bT a.natAbs).length+(aw bT b.natAbs).length<=1000000):al prog 269 [eG a,eG b] (eG (a*b)):=by
 have f:=Il a.natAbs b.natAbs g;have j:(aw bT (a.natAbs*b.natAbs)).length<=1000000:=by
  have c:=cU bt a.natAbs;have d:=cU bt b.natAbs;have i:=fc bt ((aw bT a.natAbs).length+(aw bT b.natAbs).length) (a.natAbs*b.natAbs) (by rw[i7];exact j1 c d);omega
 have e:=uN ((!(decide (a<0)==decide (b<0)))) (a.natAbs*b.natAbs) o_;have h:(if(!(decide (a<0)==decide (b<0)))=true then -((a.natAbs*b.natAbs:Nat):Int)else((a.natAbs*b.natAbs:Nat):Int))=a*b:=by
  by_cases c:a<0<;>by_cases d:b<0
  ·simp[c,d];rw[ee (ey c),ee (ey d),Int.neg_mul_neg]
  ·simp[c,d];rw[ee (ey c),eo o_,fv,fm]
  ·simp[c,d];rw[ee (ey d),eo o_,fw,fm]
  ·simp[c,d];rw[eo o_,eo o_]
 rw[h]at e;refine gA_ nf func269 mix ?_;generalize a*b=s,a.natAbs*b.natAbs=n,hx:(!(decide (a<0)==decide (b<0)))=x at*;simp only[eG]at e⊢;simp(maxDischargeDepth:=99) [f269,aa,hx,e2 f,e2 e]
theorem atL:∀d:Nat,d<10->hR d (gt (d+1) [48,49,50,51,52,53,54,55,56,57])=[48+d]:=d_
theorem CH(n a:Nat)(hn:n<9223372036854775808)(H:a<=1000):al prog 274 [.int .i64 n,.int .i64 a] (.str (low (max a (nd n)) n)):=by
 have J:nd n<=19:=vB (i1 hn d_);refine gA_ nf func274 mix ?_;obtain⟨L,e⟩:∃L,L=max a (nd n):=⟨_,rfl⟩
 rw[<-e];obtain⟨g,b⟩:∃g:Nat->Nat,∀i,n/10^i=g i:=⟨_,fun _=>rfl⟩
 have A:g 0=n:=by rw[<-b,i3,i8]
 simp[f274];refine lp (α:=Nat) (fun i=>⟨[(0,.p (.int .i64 (g i:Nat))),(5,.p (.str (low i n))),(1,.p (.int .i64 a))],[]⟩)
  (fun i=>i<=L) (fun i=>L-i) 0 (i9 _) ?_ (he:=by simp[low,A])
 intro i hi;have q:low (i+1) n=(48+g i% 10)::low i n:=by
  rw[j2,vc,b,xq];rfl
 have hq:g (i+1)=g i/10:=by rw[<-b,<-b,h7,ii]
 have K:g i<=n:=by rw[<-b];exact j5 _ _
 have D:0<g i↔i<nd n:=by
  rw[<-b,qN,Nat.div_pos_iff];have:=iA (n:=i) (show 0<10 by decide);omega
 have l:=u9 n i;have j:=atL (g i% 10) (i0 _ d_);have f:i<L↔0<g i\/i<a:=by rw[D,e];omega
 have E:=i0 (g i) (show 0<10 by decide);have r:(g i:Int).tmod 10=(g i% 10:Nat):=by rw[ed (eb _),em];rfl
 have t:(g i:Int).tdiv 10=(g (i+1):Nat):=by rw[hq,ec (eb _),ej (g i)];rfl
 have F:L<=1000:=by rw[e];omega
 generalize g i% 10=d at*;have m:hR d (48::gt d [49,50,51,52,53,54,55,56,57])=[48+d]:=j;generalize hz:g i=z,y:g (i+1)=z2,hs:low i n=s at*;have x:dz.wrap (z2:Int)=z2:=aU _ o_ o_;have v:dz.wrap (d:Int)=d:=aU _ o_ o_;have w:dz.wrap ((d:Int)+1)=d+1:=aU _ o_ o_;have u:((d:Int)+1).toNat=d+1:=o_
 have I:min (d+1) 10-d+i<9223372036854775808:=o_
 have G:(0:Int)<=d+1/\(d:Int)+1<=10/\(d:Int)<=max (d+1) 0:=o_
 by_cases k:i<L
 ·by_cases c:0<z
  ·simp[c,r,t,x,v,w,u,j,l];refine⟨o_,o_,?_⟩;exact rd (i+1) (show i+1<=L by omega) (he:=by simp[y,q,m])
  ·have o:i<a:=by rcases f.1 k with h|h;exact(c h).elim;exact h
   simp[c,o,r,t,x,v,w,u,j,l];refine⟨o_,o_,?_⟩;exact rd (i+1) (show i+1<=L by omega) (he:=by simp[y,q,m])
 ·have c:¬0<z:=fun h=>k (f.2 (.inl h));have o:¬i<a:=fun h=>k (f.2 (.inr h));have B:s=low L n:=by rw[<-hs];congr 1;omega
  have C:¬L<a:=o_
  simp[c,C,l,B,u9]
theorem auU{n i:Nat}(h:bT^(i+1)<=n):bn (n/bT^i)=bn (n/bT^(i+1))++low 9 (ag bT n i):=by
 have c:0<bT^i:=iA d_;have b:10^9<=n/bT^i:=by
  rw[li c,h2];rw[h7]at h;exact h
 have a:=avM b;have e1:n/bT^i/10^9=n/bT^(i+1):=by rw[ii,h7];rfl
 have e2:n/bT^i% 10^9=ag bT n i:=rfl;rw[e1,e2]at a;have d:0<n/bT^i:=h0 d_ b;have e:0<n/bT^(i+1):=j6 h (iA d_);rw[bn,bn,show max 1 (nd (n/bT^i))=nd (n/bT^i)by have:=A0 d;omega,show max 1 (nd (n/bT^(i+1)))=nd (n/bT^(i+1))by have:=A0 e;omega,a]
theorem HL(z:Int)(A:(aw bT z.natAbs).length<=1000000):al prog 309 [eG z] (.str (b6 z)):=by
 refine gA_ nf func309 mix ?_
 by_cases hz:z=0
 ·subst hz;have u:b6 0=[48]:=by rw[show(0:Int)=((0:Nat):Int)from rfl,zJ,qz]
  simp[f309,eG,eT,Eh,aa,u]
 obtain⟨n,hn⟩:∃n,z.natAbs=n:=⟨_,rfl⟩
 have K:0<n:=o_
 have J:0<(aw bT n).length:=by
  rw[ge,Ne,zY];omega
 obtain⟨k,hk⟩:∃k,(aw bT n).length=k+1:=⟨(aw bT n).length-1,o_⟩
 have f:=cU bt n;rw[hk]at f;have o:bT^k<=n:=by
  rcases ih n (bT^k)with h|h
  ·have:=fc bt k n h;omega
  ·exact h
 have l:∀i(h:i<(aw bT n).length),(aw bT n)[i]=ag bT n i:=fun i h=>fI bt h;have q:n/bT^k=ag bT n k:=by
  rw[ag,h9];rw[h8 (iA d_),h2,<-h7];exact f
 have M:0<ag bT n k:=by rw[<-q];exact j6 o (iA d_)
 have c:=CH (ag bT n k) 1 (i1 (cX bt n k) d_) d_;rw[show low (max 1 (nd (ag bT n k))) (ag bT n k)=bn (n/bT^k)by rw[q];rfl]at c;have v:∀i,al prog 274 [.int .i64 (ag bT n i:Nat),.int .i64 (9:Nat)] (.str (low 9 (ag bT n i))):=fun i=>by
  have h:=CH (ag bT n i) 9 (i1 (cX bt n i) d_) d_;have H:nd (ag bT n i)<=9:=vB (cX bt n i)
  rwa [show max 9 (nd (ag bT n i))=9 by omega]at h
 have a:bn (n/bT^0)=bn n:=by rw[i3,i8]
 have jg:∀i,i+1<=k->bn (n/bT^i)=bn (n/bT^(i+1))++low 9 (ag bT n i):=fun i hi=>auU (h3 (hZ d_ hi) o);have I:k<=1000000:=by rw[hn]at A;omega
 have C:b6 z=if z<0 then 45::bn n else bn n:=by rw[b6,hn]
 have L:ag bT n k<bT:=cX bt n k;have B:∀i,ag bT n i<bT:=fun i=>cX bt n i;obtain⟨T,g⟩:∃T:Nat->List Nat,∀i,bn (n/bT^i)=T i:=⟨_,fun _=>rfl⟩
 have j:∀i,(T i).length<=9000000+9:=fun i=>by
  rw[<-g];refine h3 (zI (k:=9*(k+1)) ?_ o_) o_;rw[kk];exact h4 (j5 _ _) f
 simp only[g]at c a jg;rw[C];simp only[eG,hn,eT,<-a];generalize hx:aw bT n=x at*;have w1:dz.wrap ((k:Int)+1-1)=k:=by rw[Int.add_sub_cancel];exact aU _ o_ o_
 have F:dz.wrap (k:Int)=k:=aU _ o_ o_;have t:dz.wrap ((k:Int)+1-2)=(k:Int)-1:=by rw[aU _ o_ o_];omega
 have y:¬(k:Int)+1=0:=o_
 have e:k<x.length:=o_
 have s:=l k e;have E:x[k]?=some (ag bT n k):=by rw[gb e,s]
 simp[f309,aa,hk,y,w1,F,t,e,s,E];refine c2 c ?_;simp[aa,hk,t];refine lp (α:=Nat) (fun i=>⟨[(4,.p (.int .i64 ((i:Int)-1))),(3,.p (.str (T i))),(1,.ptr 0 [])],[.box false (.p (.st 285 [.bool (decide (z<0)),.seq (x.map fun x:Nat=>.int .i64 x)]))]⟩)
  (fun i=>i<=k) (fun i=>i) k (ik _) ?_
 rintro i hi;have N:=B i;rcases i with _|i
 ·by_cases m:z<0
  ·have b:=h4 (lk (j 0) 1) (show 9000000+9+1<9223372036854775808 by decide);rw[a,j2]at b;simp[m,aa,a,b]
  ·simp[m,aa,a]
 ·have d:i<x.length:=by omega
  have r:=l i d;have D:x[i]?=some (ag bT n i):=by rw[gb d,r]
  have w:¬(i:Int)<0:=o_
  have G:dz.wrap ((i:Int)-1)=(i:Int)-1:=aU _ o_ o_;have b:=h4 (lk (j (i+1)) 9) (show 9000000+9+9<9223372036854775808 by decide);have aY:=jg i hi;simp[w,aa,d,r,D];refine c2 (v i) ?_;simp[G,u9];refine⟨b,?_⟩;exact rd i (show i<=k by omega) (he:=by simp[aY])
theorem ary{s:List Nat}{i:Nat}(h:i<s.length):br (s.take (i+1))=br (s.take i)*10+(s[i]-48):=by
 rw[g6 h,CL]
theorem Ab{s:List Nat}{p:Nat->Bool}(h:s.all p=true)(i:Nat):(s.take i).all p=true:=by
 rw[gj]at h⊢;intro x hx;exact h x (List.mem_of_mem_take hx)
theorem Rk{s:List Nat}{p:Nat->Bool}(h:s.all p=true)(i:Nat):(s.drop i).all p=true:=by
 rw[gj]at h⊢;intro x hx;exact h x (List.mem_of_mem_drop hx)
theorem Dy{c:Nat}(h:cT c=true):48<=c/\c<=57:=by
 simpa[cT]using h
theorem Dq(s:List Nat)(e:s.all cT=true)(A:s.length<=18):al prog 311 [.str s] (.int .i64 (br s:Nat)):=by
 refine gA_ nf func311 mix ?_;obtain⟨L,g⟩:∃L,L=s.length:=⟨_,rfl⟩
 have k:br (s.take L)=br s:=by rw[g,hO]
 rw[<-k];obtain⟨v,b⟩:∃v:Nat->Nat,∀i,br (s.take i)=v i:=⟨_,fun _=>rfl⟩
 have o:v 0=0:=by rw[<-b];rfl
 have q:∀i(h:i<s.length),v (i+1)=v i*10+(s[i]-48):=fun i h=>by rw[<-b,<-b,ary h]
 have f:∀i,i<=L->v i<10^i:=fun i hi=>by
  rw[<-b];exact lZ i _ (by rw[gx];omega) (Ab e i)
 rw[b];simp[f311];refine lp (α:=Nat) (fun i=>⟨[(4,.p (.int .i64 i)),(3,.p (.int .i64 (v i:Nat))),(0,.p (.str s))],[]⟩)
  (fun i=>i<=L) (fun i=>L-i) 0 (i9 _) ?_ (he:=by simp[o])
 intro i hi
 by_cases m:i<L
 ·have a:i<s.length:=by omega
  have j:=f i hi;have z:=f (i+1) m;have hc:=Dy (gj.1 e s[i] (gy a));have hs:=q i a;have n:10^i<=10^17:=hZ d_ o_;have y:v i<100000000000000000:=h0 j (by exact n);generalize d:s[i]=c,B:v i=x at*;have w1:dz.wrap (10*(x:Int))=10*(x:Int):=aU _ o_ o_;have r:dz.wrap (10*(x:Int)+c)=10*(x:Int)+c:=aU _ o_ o_;have t:dz.wrap (10*(x:Int)+c-48)=(v (i+1):Nat):=by rw[hs,aU _ o_ o_];omega
  have u:dz.wrap ((i:Int)+1)=(i:Int)+1:=aU _ o_ o_;have w:dz.wrap (c:Int)=c:=aU _ o_ o_;have l:s[i]?=some c:=by rw[gb a,d]
  simp[a,d,l,w1,r,t,u,w];exact rd (i+1) (show i+1<=L by omega)
 ·have a:¬i<s.length:=by omega
  have:i=L:=o_
  subst this;simp[a]
theorem RS(c:Nat):∀s:List Nat,c∉(cH c s).1
 |[]=>by simp[cH]
 |x::r=>by
  rw[cH]
  split
  ·simp
  ·rename_i h;simp only[hg,not_or];exact⟨fun e=>h e.symm,RS c r⟩
theorem Aw(s:List Nat)(w:s.length<=1048576):al prog 226 [.str s] (.int .i64 ((cH 47 s).1.length:Nat)):=by
 refine gA_ nf func226 mix ?_;obtain⟨k,hk⟩:∃k,(cH 47 s).1.length=k:=⟨_,rfl⟩
 have r:=RS 47 s;have v:k<=s.length:=by rw[<-hk];exact(xt 47 s).1
 have m:∀j(h:j<s.length),j<k->¬s[j]=47:=by
  intro j h u e;apply r;rcases tJ 47 s with⟨_,b⟩|⟨_,b,_⟩
  ·have:s[j]=(cH 47 s).1[j]' o_:=by
    conv=>lhs;rw[hN b]
    rw[List.getElem_append_left]
   have d:(cH 47 s).1[j]' o_∈(cH 47 s).1:=gy _;rw[<-this,e]at d;exact d
  ·rw[b];have d:s[j]∈s:=gy _
   rwa [e]at d
 have b:∀(h:k<s.length),s[k]=47:=by
  intro h;rcases tJ 47 s with⟨_,f⟩|⟨_,f,_⟩
  ·rw[hN f,List.getElem_append_right o_];simp[hk]
  ·rw[f]at hk;omega
 rw[hk];simp[f226];refine lp (α:=Nat) (fun i=>⟨[(3,.p (.int .i64 i)),(0,.p (.str s))],[]⟩)
  (fun i=>i<=k) (fun i=>k-i) 0 (i9 _) ?_
 intro i hi;have t:dz.wrap ((i:Int)+1)=(i:Int)+1:=aU _ o_ o_
 by_cases o:i<k
 ·have a:i<s.length:=by omega
  have hn:=m i a o;generalize l:s[i]=c at*;have g:s[i]?=some c:=by rw[gb a,l]
  have n:¬(c:Int)=47:=o_
  simp[a,l,g,n,hn,t];exact rd (i+1) (show i+1<=k by omega)
 ·have q:i=k:=by omega
  subst q
  by_cases a:i<s.length
  ·have hn:=b a;have g:s[i]?=some 47:=by rw[gb a,hn]
   simp[a,hn,g]
  ·have:i=s.length:=by omega
   simp[a,this]
theorem Sg(n:Int)(K:-9223372036854775808<=n)(L:n<=9223372036854775807):al prog 272 [.int .i64 n] (eG n):=by
 refine gA_ nf func272 mix ?_;obtain⟨N,M⟩:∃N,n.natAbs=N:=⟨_,rfl⟩
 have B:N<bT^3:=by
  have:bT^3=1000000000000000000000000000:=d_
  omega
 obtain⟨g,a⟩:∃g:Nat->Nat,∀i,N/bT^i=g i:=⟨_,fun _=>rfl⟩
 have D:g 0=N:=by rw[<-a,i3,i8]
 have F:∀i,g (i+1)=g i/bT:=fun i=>by rw[<-a,<-a,ii,h7]
 have y:∀i,ag bT N i=g i% bT:=fun i=>by rw[<-a];rfl
 have E:g 3=0:=by rw[<-a,i2 B]
 have f:∀i,g i<=N:=fun i=>by rw[<-a];exact j5 _ _
 have w:∀i,i<=3->g i=0->al prog 310 [.bool (decide (n<0)),.seq (iP (row bT i N))] (eG n):=fun i G hi=>by
  have h:=G2 (decide (n<0)) (row bT i N) N (l8 bt (by
   rw[<-a]at hi;rcases ih N (bT^i)with h|h
   ·exact h
   ·have:=j6 h (iA (show 0<bT by decide));omega)) (by simp[row];omega)
  have e:(if decide (n<0)=true then -(N:Int)else N)=n:=by
   by_cases hn:n<0
   ·simp[hn];omega
   ·simp[hn];omega
  rwa [e]at h
 obtain⟨m,c⟩:∃m:Nat->Int,∀i,(if n<0 then -(g i:Int)else g i)=m i:=⟨_,fun _=>rfl⟩
 have H:m 0=n:=by rw[<-c,D];split<;>omega
 simp only[eG]at w⊢;simp[f272];refine lp (α:=Nat) (fun i=>⟨[(0,.p (.int .i64 (m i))),(2,.ptr 0 []),(3,.sl 1 i 1 0 i),(4,.p (.bool (decide (n<0))))],[.box false (.p (.st 285 [.bool false,.aM])),.arr .grow i 1 (fB i N)]⟩)
  (fun i=>i<=3) (fun i=>3-i) 0 (i9 _) ?_ (he:=by simp[H,fB]) (hh:=by simp[fB])
 intro i hi;have O:bT=1000000000:=rfl;have J:=i0 (g i) (show 0<bT by decide);have P:=f i;have C:=ix (g i) bT;have s:g i% bT=ag bT N i:=(y i).symm
 by_cases hz:g i=0
 ·have b:m i=0:=by rw[<-c,hz];split<;>rfl
  have hs:=w i hi hz;rcases i with _|i
  ·simp[b];refine cp hs (by simp[fB];first|exact⟨rfl,rfl⟩|rfl) ?_ (h1:=by simp[iP,row]);simp[aa]
  ·have d:¬fB (i+1) N=[]:=by intro h;have:=congrArg hw h;rw[jH]at this;simp at this
   simp[b];refine cp hs (by simp[jH,Rt,d];first|exact⟨rfl,rfl⟩|rfl) ?_ (h1:=by simp[iP,row,g7,gc]);simp[aa]
 ·have G:i<3:=by
   rcases ih i 3 with h|h
   ·exact h
   ·rw[show i=3 by omega]at hz;exact(hz E).elim
  have x:=F i;have I:=y i;have j:=uU i N;have v:gt i (fB i N)=fB i N:=gc (by rw[jH];exact ik _);rw[I]at j;obtain⟨r,z⟩:∃r,g i% bT=r:=⟨_,rfl⟩
  rw[z]at j J C;have s:=z.symm
  by_cases hn:n<0
  ·have b:m i= -(g i:Int):=by rw[<-c,if_pos hn]
   have k:m (i+1)= -(g (i+1):Int):=by rw[<-c,if_pos hn]
   have d:¬(g i:Int)=0:=o_
   have o:((g i:Nat):Int).tmod 1000000000=r:=by rw[s,ed (eb _),em];rfl
   have l:((g i:Nat):Int).tdiv 1000000000=(g (i+1):Nat):=by rw[x,ec (eb _),ej (g i)];rfl
   have wr:dz.wrap (r:Int)=r:=aU _ o_ o_;have A:dz.wrap (-(r:Int))= -r:=aU _ o_ o_;have q:dz.wrap (-(g (i+1):Int))= -(g (i+1):Nat):=aU _ (by have:=f (i+1);omega) (by have:=f (i+1);omega)
   by_cases t:r=0
   ·simp[b,hz,d,o,l,wr,A,q,t,v,jH];refine⟨by simp only[dA];omega,?_⟩;exact rd (i+1) (show i+1<=3 by omega) (he:=by simp[k]) (hh:=by simp[j,t])
   ·have u:0<r:=by omega
    simp[b,hz,d,o,l,wr,A,q,t,u,v,jH];refine⟨by simp only[dA];omega,?_⟩;exact rd (i+1) (show i+1<=3 by omega) (he:=by simp[k]) (hh:=by simp[j])
  ·have b:m i=(g i:Int):=by rw[<-c,if_neg hn]
   have k:m (i+1)=(g (i+1):Int):=by rw[<-c,if_neg hn]
   have d:¬(g i:Int)=0:=o_
   have o:((g i:Nat):Int).tmod 1000000000=r:=by rw[s,ed (eb _),em];rfl
   have l:((g i:Nat):Int).tdiv 1000000000=(g (i+1):Nat):=by rw[x,ec (eb _),ej (g i)];rfl
   have wr:dz.wrap (r:Int)=r:=aU _ o_ o_;have q:dz.wrap (g (i+1):Int)=(g (i+1):Nat):=aU _ (by have:=f (i+1);omega) (by have:=f (i+1);omega);have u:¬(r:Int)<0:=o_
   simp[b,hz,d,o,l,wr,q,u,v,jH];refine⟨by simp only[dA];omega,?_⟩;exact rd (i+1) (show i+1<=3 by omega) (he:=by simp[k]) (hh:=by simp[j])
theorem OY{d:List Nat}(c:d.all cT=true){L i:Nat}(f:L=d.length)(h:9*(i+1)<=L):
 br (d.take (L-9*(i+1)))=br (d.take (L-9*i))/10^9/\br ((d.take (L-9*i)).drop (L-9*(i+1)))=br (d.take (L-9*i))% 10^9:=by
 have e:=g9 (L-9*(i+1)) (d.take (L-9*i));rw[hC,kP o_]at e;have a:=Qj (d.take (L-9*(i+1))) ((d.take (L-9*i)).drop (L-9*(i+1)));rw[e]at a;have b:((d.take (L-9*i)).drop (L-9*(i+1))).length=9:=by rw[hj,gx];omega
 rw[b]at a;have g:=lZ 9 _ b (Rk (Ab c _) _);generalize br ((d.take (L-9*i)).drop (L-9*(i+1)))=y,br (d.take (L-9*(i+1)))=x at*;rw[a];omega
theorem G3(s:List Nat)(k:(dI s).all cT=true)(J:s.length<=1000000):al prog 277 [.str s] (eG (if cE s=true then -(br (dI s):Int)else br (dI s))):=by
 refine gA_ nf func277 mix ?_;obtain⟨d,v⟩:∃d,dI s=d:=⟨_,rfl⟩
 obtain⟨neg,f⟩:∃neg,cE s=neg:=⟨_,rfl⟩
 obtain⟨N,F⟩:∃N,br d=N:=⟨_,rfl⟩
 have ah:d.length<=1000000:=by rw[<-v];exact h3 (tt s).1 J
 rw[v]at k⊢;rw[f,F];have ai:=J;simp[f277,-ba];rw[ba];simp[-ba];refine join (fun st=>aV st.env 0=.p (.str s)/\aV st.env 2=.ptr 0 []/\aV st.env 3=.p (.bool neg)/\st.heap=[.box false (.p (.st 285 [.bool false,.aM]))]) ?_ ?_
 ·cases s with
  |nil=>simp[<-f,cE]
  |cons c r=>
   by_cases hc:c=45
   ·simp[<-f,cE,hc]
   ·have T:¬(c:Int)=45:=by omega
    simp[<-f,cE,hc,T]
 rintro⟨S,U⟩ ⟨a,b,e,n⟩;dsimp only at a b e n;subst n;refine join (fun st=>aV st.env 0=.p (.str d)/\aV st.env 2=.ptr 0 []/\aV st.env 3=.p (.bool neg)/\st.heap=[.box false (.p (.st 285 [.bool false,.aM]))]) ?_ ?_
 ·cases neg with
  |false=>
   have D:s=d:=by rw[<-v,dI,f];rfl
   simp[a,b,e,D]
  |true=>
   cases s with
   |nil=>simp[cE]at f
   |cons c r=>
    have D:r=d:=by rw[<-v,dI,f];rfl
    simp[a,b,e,D]
 clear a b e;rintro⟨S,U⟩ ⟨a,b,e,n⟩;dsimp only at a b e n;subst n;obtain⟨L,u⟩:∃L,L=d.length:=⟨_,rfl⟩
 obtain⟨g,l⟩:∃g:Nat->Nat,∀i,N/bT^i=g i:=⟨_,fun _=>rfl⟩
 have B:∀i,9*i<=L->br (d.take (L-9*i))=g i:=by
  intro i
  induction i with
  |zero=>intro _;rw[ls,Nat.sub_zero,u,hO,F,<-l,i3,i8]
  |succ i ad=>
   intro h;rw[(OY k u h).1,ad o_,<-l,<-l,ii,h7];rfl
 have V:∀i,9*(i+1)<=L->br ((d.take (L-9*i)).drop (L-9*(i+1)))=ag bT N i:=fun i h=>by
  rw[(OY k u h).2,B i o_,<-l];rfl
 have ac:∀i,9*(i+1)<=L->al prog 311 [.str ((d.take (L-9*i)).drop (L-9*(i+1)))] (.int .i64 (ag bT N i:Nat)):=fun i h=>by
  rw[<-V i h];exact Dq _ (Rk (Ab k _) _) (by rw[hj,gx];omega)
 have I:∀i,9*i<=L->L<=9*i+9->g i=ag bT N i/\N<bT^(i+1):=fun i j q=>by
  have H:=lZ _ (d.take (L-9*i)) rfl (Ab k _);rw[B i j]at H;have y:g i<bT:=h0 H (by
   rw[show bT=10^9 from rfl];exact hZ d_ (by rw[gx];omega))
  refine⟨by rw[ag,l,h9 y],?_⟩;rw[<-l,h8 (iA d_)]at y;rw[h7,h2];exact y
 have W:∀i,9*i<=L->L<=9*i+9->al prog 311 [.str (d.take (L-9*i))] (.int .i64 (ag bT N i:Nat)):=fun i j q=>by
  rw[<-(I i j q).1,<-B i j];exact Dq _ (Ab k _) (by rw[gx];omega)
 have G:∀i,9*i<=L->L<=9*i+9->al prog 310 [.bool neg,.seq (iP (row bT (i+1) N))] (eG (if neg=true then -(N:Int)else N)):=fun i j q=>
  G2 neg (row bT (i+1) N) N (l8 bt (I i j q).2) (by simp[row];omega)
 generalize (if neg=true then -(N:Int)else N)=z at*;simp only[eG]at G⊢;rw[ba];simp[a,b,e,-ba];rw[ba];simp[a,b,e];refine lp (α:=Nat) (fun i=>⟨[(0,.p (.str (d.take (L-9*i)))),(2,.ptr 0 []),(3,.p (.bool neg)),(4,.sl 1 i 1 0 i)],[.box false (.p (.st 285 [.bool false,.aM])),.arr .grow i 1 (fB i N)]⟩)
  (fun i=>9*i<=L) (fun i=>L-i) 0 (i9 _) ?_ (he:=by simp[a,b,e,fB,u]) (hh:=by simp[fB])
 intro i hi;have x:(d.take (L-9*i)).length=L-9*i:=by rw[gx];omega
 have o:=ac i;have w:=W i hi;have E:(d.take (L-9*i)).take (L-9*(i+1))=d.take (L-9*(i+1)):=by rw[hC,kP o_]
 rw[show L-9*(i+1)=L-9*i-9 by omega]at o E;obtain⟨m,C⟩:∃m,m=L-9*i:=⟨_,rfl⟩
 rw[<-C]at x o w E;have O:=uU i N;have P:gt i (fB i N)=fB i N:=gc (by rw[jH];exact ik _);have K:i+1<=dA:=by simp only[dA];omega
 by_cases ae:9<m
 ·have o:=o o_;have Q:dz.wrap ((m:Int)-9)=(m:Int)-9:=aU _ o_ o_;have R:((m:Int)-9).toNat=m-9:=by omega
  have M:(9:Int)<=m:=o_
  have Z:9*(i+1)<=L:=o_
  rw[<-C];generalize af:gt m d=t at*;have ab:gt m t=t:=gc o_;have A:(9:Int)<m:=o_
  have X:m-9=L-9*(i+1):=o_
  simp[x,A,Q,R,M,ab];refine c1 o ?_;simp[P,jH,K,<-O,x,Q,R,M,E];exact rd (i+1) Z (he:=by simp[X])
 ·have w:=w o_;have hs:=G i hi o_;rw[<-C];generalize gt m d=t at*;have A:¬(9:Int)<m:=by omega
  simp[x,A];refine c1 w ?_;simp[P,jH,K,<-O];have Y:¬fB (i+1) N=[]:=by intro h;have:=congrArg hw h;rw[jH]at this;simp at this
  refine cp hs (by simp[jH,Rt,Y];first|exact⟨rfl,rfl⟩|rfl) ?_ (h1:=by simp[iP,row,g7,gc]);simp[aa]
def mL(s:List Nat):Int:=if cE s=true then -(br (bR s):Int)else br (bR s)
def jL(s:List Nat):Nat:=if fG s=true then br (b7 s)else 1
theorem QR(s:List Nat)(q:(bR s).all cT=true)(j:(b7 s).all cT=true)(F:s.length<=1000000):al prog 228 [.str s] (.aE [eG (mL s),eG (jL s:Nat)]):=by
 refine gA_ nf func228 mix ?_;have e:=Aw s o_;obtain⟨J,f,g,v⟩:=Qb s;have A:=xt 47 s;have u:=Sg 1 d_ d_;rcases tJ 47 s with⟨q1,b⟩|⟨q1,b,M⟩
 ·have a:=G3 (cH 47 s).1 (by rw[f];exact q) o_;rw[J,f]at a;have d:=G3 (cH 47 s).2.1 (by
   rw[g];rw[gj]at j⊢;intro x hx;exact j x ((tt _).2 x hx)) o_
  have H:cE (b7 s)=false:=by
   rw[cE];cases l:b7 s with
   |nil=>simp
   |cons c r=>
    have:=Dy (gj.1 j c (by rw[l];simp));simp;omega
  rw[g,dI,H]at d;have m:fG s=true:=by rw[<-v];exact q1
  have sM:mL s=if cE s=true then -(br (bR s):Int)else br (bR s):=rfl
  have i:jL s=br (b7 s):=by rw[jL,if_pos m]
  rw[<-sM]at a;simp only[dp,if_false]at d;rw[<-i]at d;generalize hz:mL s=z,jL s=dn at*;obtain⟨h,o⟩:∃h,(cH 47 s).1=h:=⟨_,rfl⟩
  obtain⟨w,p⟩:∃w,(cH 47 s).2.1=w:=⟨_,rfl⟩
  rw[o,p]at b;rw[o]at e a;rw[p]at g;obtain⟨k,n⟩:∃k,h.length=k:=⟨_,rfl⟩
  rw[n]at e;have hk:k<s.length:=by rw[b];simp;omega
  have I:s.take k=h:=by rw[b,<-n];simp
  have l:s.drop (k+1)=b7 s:=by
   rw[<-g]
   conv=>lhs;rw[b,<-n]
   simp
  clear A b o p;have L:dz.wrap ((k:Int)+1)=(k:Int)+1:=aU _ o_ o_;have K:((k:Int)+1).toNat=k+1:=o_
  have G:¬(k:Int)=s.length:=o_
  have C:k+1<=s.length:=hk;have E:k<=s.length:=o_
  have B:(0:Int)<=k+1:=o_
  have D:(k:Int)+1<=s.length:=o_
  simp only[eG]at a d⊢;simp(maxDischargeDepth:=99) [f228,G,L,K,I,l,C,E,B,D,aa,c1 e,e1 a,e1 d]
 ·have a:=G3 s (by
   have t:=f;rw[b]at t;rw[t];exact q) F
  have m:fG s=false:=by rw[<-v];exact q1
  have y:dI s=bR s:=by rw[b]at f;exact f
  have sM:mL s=if cE s=true then -(br (bR s):Int)else br (bR s):=rfl
  have i:jL s=1:=by rw[jL,m];rfl
  rw[y,<-sM]at a;rw[i];rw[b]at e;generalize mL s=z at*;simp only[eG]at a u⊢;simp(maxDischargeDepth:=99) [f228,aa,c1 e,c1 a,c1 u]
theorem OZ(n:Nat):(bn n).length<=9*(aw bT n).length+1:=by
 rcases lq n with h|h
 ·subst h;rw[qz];simp
 ·have b:0<(aw bT n).length:=by rw[ge,Ne,zY];omega
  have a:=cU bt n;rw[show bT^(aw bT n).length=10^(9*(aw bT n).length)by rw[kk];rfl]at a;exact h3 (zI a o_) o_
def ki(n d:Int):Rat:=l1 n d
theorem ON(n g:Nat):(aw bT (n/g)).length<=(aw bT n).length:=
 fc bt _ _ (h4 (j5 n g) (cU bt n))
theorem aqY(n d:Nat)(a:0<d):(aw bT (i4 n d)).length<=(aw bT d).length:=
 fc bt _ _ (h4 (ko n a) (cU bt d))
theorem Gr(n d:Int)(J:d≠0)(hn:(aw bT n.natAbs).length<=400000)(j:(aw bT d.natAbs).length<=400000):al prog 266 [eG n,eG d] (.str (aN (ki n d))):=by
 refine gA_ nf func266 mix ?_;simp[f266,-ba,aa];rw[ba];simp[-ba,aa];refine join (fun st=>∃(e:Int)(d':Nat),0<d'/\(aw bT e.natAbs).length<=400000/\(aw bT d').length<=400000/\ki e d'=ki n d/\aV st.env 2=.ptr 0 []/\aV st.env 3=.ptr 1 []/\st.heap=[.box false (.p (eG e)),.box false (.p (eG (d':Nat)))]) ?_ ?_
 ·have N:=Sj n hn;have M:=Sj d j
  by_cases h:d<0
  ·simp[h,aa];refine e1 N ?_;simp[aa];refine e1 M ?_;simp[aa];refine⟨r_,?_⟩;refine⟨-n,d.natAbs,o_,by rw[eM];exact hn,j,?_,rfl,?_⟩
   ·rw[ee o_];exact mm _ _
   ·rw[ee o_]
  ·have z:((d.natAbs:Nat):Int)=d:=eo o_;simp[h,aa];exact⟨n,d.natAbs,o_,hn,j,by rw[z],rfl,by rw[z]⟩
 rintro⟨R,S⟩ ⟨e,d',k1,k2,k3,k4,l,m,C⟩;dsimp only at l m C;subst C;rw[<-k4,show ki e d'=l1 e d' from rfl];clear k4 hn j J;obtain⟨t,u⟩:=o9 (n:=e) (show d'≠0 by omega);obtain⟨g,k⟩:∃g,i4 e.natAbs d'=g:=⟨_,rfl⟩
 have r:0<g:=by rw[<-k];exact j3 _ k1
 have A:(aw bT g).length<=400000:=by rw[<-k];exact h3 (aqY _ _ k1) k3
 rw[k]at t u;have x:=QA e.natAbs d' k2 k3;rw[k]at x;have G:=Im e.natAbs g r k2 A;have H:=Im d' g r k3 A;have W:(aw bT (e.natAbs/g)).length<=400000:=h3 (ON _ _) k2;have X:(aw bT (d'/g)).length<=400000:=h3 (ON _ _) k3;have v:=uN (decide (e<0)) (e.natAbs/g) o_;have f:=uN false (d'/g) o_;have s:(if decide (e<0)=true then -((e.natAbs/g:Nat):Int)else((e.natAbs/g:Nat):Int))=(l1 e d').num:=by
  rw[t];have K:(g:Int)∣e:=by rw[<-k];exact ew.2 (kp _ _)
  obtain⟨c,hc⟩:=K;have L:(g:Int)≠0:=o_
  rw[hc,eq _ L,er,ea,Nat.mul_div_cancel_left _ r]
  by_cases I:c<0
  ·have:(g:Int)*c<0:=e7 o_ I;simp[this];omega
  ·have:¬(g:Int)*c<0:=by
    have:=eP (a:=(g:Int)) (b:=c) o_ o_;omega
   simp[this];omega
 rw[s]at v;simp only[dp,if_false]at f;have y:=HL (l1 e d').num (by
  rw[<-s];split
  ·rw[eM,ea];omega
  ·rw[ea];omega)
 have i:=HL ((d'/g:Nat):Int) (by rw[ea];omega);rw[zJ]at i;have O:0<d'/g:=by
  refine j6 ?_ r;rw[<-k];exact ko _ k1
 have T:(b6 (l1 e d').num).length<=3600002:=by
  refine h3 (Hp _) ?_;have h:=OZ (l1 e d').num.natAbs;have:(l1 e d').num.natAbs=e.natAbs/g:=by
   rw[<-s];split
   ·rw[eM,ea]
   ·rw[ea]
  rw[this]at h⊢;omega
 have U:(bn (d'/g)).length<=3600001:=by
  have h:=OZ (d'/g);omega
 have E:aN (l1 e d')=if d'/g=1 then b6 (l1 e d').num else b6 (l1 e d').num++47::bn (d'/g):=by rw[aN,u]
 rw[E];clear E s t u;generalize (l1 e d').num=nn,Y:d'/g=q at*;simp only[eG,ea]at v f y i⊢;simp[l,m,aa];refine c2 x ?_;simp[l,m,aa];refine c2 G ?_;simp[l,m,aa];refine c2 H ?_;simp[l,m,aa];refine c2 v ?_;simp[l,m,aa];refine c1 y ?_;have P:∀h:q=1,aw bT q=[1]:=fun h=>by rw[h];exact rL d_ d_
 by_cases o:q=1
 ·have w:=P o;simp[o,eT,rL (show 0<1 by decide) (show 1<bT by decide)]
 ·have B:(b6 nn).length+1<9223372036854775808:=by omega
  have V:(b6 nn).length+((bn q).length+1)<9223372036854775808:=o_
  by_cases D:q<bT
  ·have w:=rL O D;have Q:¬(q:Int)=1:=by omega
   simp[o,eT,w,Q];refine⟨B,?_⟩;simp only[eT,w,gm,ht]at f i;refine c2 f ?_;simp;refine c1 i ?_;simp;omega
  ·have j:¬((aw bT q).length:Int)=1:=by
    intro h;have F:(aw bT q).length=1:=o_
    have:=cU bt q;rw[F,kf]at this;exact D this
   simp[o,eT,j];refine⟨B,?_⟩;simp only[eT]at f i;refine c2 f ?_;simp;refine c1 i ?_;simp;omega
theorem aqo{n:Int}{g:Nat}(a:0<g)(h:g∣n.natAbs):n.tdiv g=n/g:=by
 obtain⟨c,hc⟩:=ew.2 h;subst hc;rw[Int.mul_tdiv_cancel_left _ o_,eq _ o_]
theorem Ea(n d:Int)(M:d≠0)(hn:n.natAbs<=4000000000000000000)(N:d.natAbs<=4000000000000000000):al prog 216 [.int .i64 n,.int .i64 d] (.str (aN (ki n d))):=by
 refine gA_ nf func216 mix ?_;have e:¬n< -4000000000000000000:=o_
 have f:¬4000000000000000000<n:=o_
 have i:¬d< -4000000000000000000:=o_
 have j:¬4000000000000000000<d:=o_
 simp[f216,e,f,i,j,-ba];rw[ba];simp[e,f,i,j,-ba];rw[ba,ba];simp[e,f,i,j,-ba];refine join (fun st=>∃(a:Int)(d':Nat),0<d'/\a.natAbs<=4000000000000000000/\d'<=4000000000000000000/\ki a d'=ki n d/\aV st.env 0=.p (.int .i64 a)/\aV st.env 1=.p (.int .i64 (d':Nat))/\st.heap=[]) ?_ ?_
 ·have w1:dz.wrap (-n)= -n:=aU _ o_ o_;have m:dz.wrap (-d)= -d:=aU _ o_ o_
  by_cases h:d<0
  ·simp[h,w1,m,e,f,i,j];refine⟨-n,d.natAbs,o_,o_,o_,?_,rfl,?_⟩
   ·rw[ee o_];exact mm _ _
   ·rw[ee o_]
  ·have H:((d.natAbs:Nat):Int)=d:=eo o_;simp[h,e,f,i,j];exact⟨n,d.natAbs,o_,o_,o_,by rw[H],rfl,by rw[H]⟩
 rintro⟨T,U⟩ ⟨a,d',k1,k2,k3,k4,o,r,I⟩;dsimp only at o r I;subst I;rw[<-k4,show ki a d'=l1 a d' from rfl];clear k4 hn N M e f i j;obtain⟨w,C⟩:=o9 (n:=a) (show d'≠0 by omega);obtain⟨g,k⟩:∃g,i4 a.natAbs d'=g:=⟨_,rfl⟩
 have E:0<g:=by rw[<-k];exact j3 _ k1
 rw[k]at w C;have G:=aKJ a.natAbs d' o_ o_;rw[k]at G;have R:(if a< -a then -a else a)=(a.natAbs:Nat):=by split<;>omega
 have w1:dz.wrap (-a)= -a:=aU _ o_ o_;have y:a.tdiv g=(l1 a d').num:=by rw[w,aqo E (by rw[<-k];exact kp _ _)]
 have z:(d':Int).tdiv g=(d'/g:Nat):=by rw[ec (eb _),ej]
 have S:(l1 a d').num.natAbs<=4000000000000000000:=by
  have P:(g:Int)∣a:=by rw[<-k];exact ew.2 (kp _ _)
  obtain⟨c,hc⟩:=P;have Q:(g:Int)≠0:=o_
  rw[w,hc,eq _ Q];rw[hc,er,ea]at k2;exact h3 (le _ E) k2
 have O:d'/g<=4000000000000000000:=h3 (j5 _ _) k3;have Z:0<d'/g:=by
  refine j6 ?_ E;rw[<-k];exact ko _ k1
 have K:aN (l1 a d')=if d'/g=1 then b6 (l1 a d').num else b6 (l1 a d').num++47::bn (d'/g):=by rw[aN,C]
 rw[K];clear K w C;generalize (l1 a d').num=nn,aa:d'/g=q at*;have x:¬g=0:=o_
 have t:=CH nn.natAbs 1 o_ d_;have D:=CH q 1 o_ d_;have V:(bn nn.natAbs).length<=19:=zI (h4 S d_) d_;have W:(bn q).length<=19:=zI (h4 O d_) d_;rw[show low (max 1 (nd nn.natAbs)) nn.natAbs=bn nn.natAbs from rfl]at t;rw[show low (max 1 (nd q)) q=bn q from rfl]at D;have Y:(if nn< -nn then -nn else nn)=(nn.natAbs:Nat):=by split<;>omega
 have m:dz.wrap (-nn)= -nn:=aU _ o_ o_;have A:dz.wrap nn=nn:=aU _ o_ o_;have B:dz.wrap (q:Int)=q:=aU _ o_ o_;simp[o,r,w1,R];refine c2 G ?_;have J:(1:Int)<q↔¬q=1:=o_
 have L:dz.wrap 1=1:=rfl;have X:(bn nn.natAbs).length<9223372036854775808:=o_
 by_cases l:nn<0
 ·have F:b6 nn=45::bn nn.natAbs:=by rw[b6,if_pos l]
  rw[F];have v:nn< -nn:=o_
  have u:-nn=(nn.natAbs:Nat):=o_
  by_cases b:q=1
  ·simp[o,r,x,y,z,A,B,l,m,v,b];rw[u];refine c2 t ?_;simp[b,L];omega
  ·have s:=J.2 b;simp[o,r,x,y,z,A,B,l,m,v,b,s];rw[u];refine c2 t ?_;simp[b,s];refine⟨o_,o_,?_⟩;refine c2 D ?_;simp;omega
 ·have F:b6 nn=bn nn.natAbs:=by rw[b6,if_neg l]
  rw[F];have u:nn=(nn.natAbs:Nat):=o_
  have v:¬nn< -nn:=o_
  by_cases b:q=1
  ·simp[o,r,x,y,z,A,B,l,m,v,b];rw[show PV.int .i64 nn=.int .i64 (nn.natAbs:Nat)by rw[<-u]];refine c2 t ?_;simp[b,L];omega
  ·have s:=J.2 b;simp[o,r,x,y,z,A,B,l,m,v,b,s];rw[show PV.int .i64 nn=.int .i64 (nn.natAbs:Nat)by rw[<-u]];refine c2 t ?_;simp[b,s];refine⟨o_,o_,?_⟩;refine c2 D ?_;simp;omega
theorem A1(n:Int)(a:-9223372036854775808<=n)(b:n<=9223372036854775807):al prog 270 [.int .i64 n] (.str (aN (n:Rat))):=by
 have e:=Sg n a b;have d:=HL n (by
  have c:n.natAbs<bT^3:=by
   have:bT^3=1000000000000000000000000000:=d_
   omega
  have:=fc bt 3 _ c;omega)
 have hq:aN (n:Rat)=b6 n:=by rw[aN,if_pos (mp n),mo]
 rw[hq];refine gA_ nf func270 mix ?_;simp[f270,c1 e,c1 d]
theorem aK0(s:List Nat)(B:(bR s).all cT=true)(I:(b7 s).all cT=true)(ai:s.length<=1000000):
 ∃(n d:Int)(b:Bool),al prog 267 [.str s] (.aE [.int .i64 n,.int .i64 d,.bool b])/\(b=true->n=mL s/\d=(jL s:Nat)/\n.natAbs<1000000000/\jL s<1000000000):=by
 by_cases J:20<s.length
 ·refine⟨0,0,false,?_,fun h=>by cases h⟩;refine gA_ nf func267 mix ?_;have m:(20:Int)<s.length:=by omega
  simp[f267,m]
 obtain⟨d,l⟩:∃d,dI s=d:=⟨_,rfl⟩
 obtain⟨neg,g⟩:∃neg,cE s=neg:=⟨_,rfl⟩
 have ag:d.length<=s.length:=by rw[<-l];exact(tt s).1
 have i:=Aw d o_;have z:(cH 47 d).1=bR s:=by rw[<-l];rfl
 have M:(cH 47 d).2.1=b7 s:=by rw[<-l];rfl
 have O:(cH 47 d).2.2=fG s:=by rw[<-l];rfl
 have q:=tJ 47 d;rw[z,M,O]at q;rw[z]at i;obtain⟨k,hk⟩:∃k,(bR s).length=k:=⟨_,rfl⟩
 rw[hk]at i;have P:k<=d.length:=by rw[<-hk,<-z];exact(xt 47 d).1
 have m:¬(20:Int)<s.length:=o_
 obtain⟨b,o⟩:∃b:Bool,b=(decide (k<=9)&&decide (d.length-k<=10)):=⟨_,rfl⟩
 have L:b=true->(mL s).natAbs<1000000000/\jL s<1000000000:=fun h=>by
  rw[o]at h;simp only[dg,decide_eq_true_eq]at h;have u:=lZ _ (bR s) rfl B;rw[hk]at u;have ac:br (bR s)<1000000000:=h0 u (hZ (n:=10) d_ h.1);refine⟨by rw[mL];split<;>omega,?_⟩;rcases q with⟨q1,f⟩|⟨q1,f,ad⟩
  ·have V:(b7 s).length<=9:=by
    have:=congrArg hw f;simp at this;omega
   have W:=lZ _ (b7 s) rfl I;rw[jL,if_pos q1];exact h0 W (hZ (n:=10) d_ V)
  ·rw[jL,q1,if_neg d_];decide
 refine⟨if b=true then mL s else 0,if b=true then(jL s:Nat)else 0,b,?_,fun h=>⟨if_pos h,if_pos h,by rw[if_pos h];exact(L h).1,(L h).2⟩⟩;refine gA_ nf func267 mix ?_;simp[f267,-ba];rw[ba];simp[-ba];rw[ba];simp[-ba];rw[ba,ba];simp[m,-ba];refine join (fun st=>aV st.env 5=.p (.str s)/\aV st.env 6=.p (.bool neg)/\st.heap=[]) ?_ ?_
 ·clear J m;cases s with
  |nil=>simp[<-g,cE]
  |cons c r=>
   by_cases hc:c=45
   ·simp[<-g,cE,hc]
   ·have Z:¬(c:Int)=45:=by omega
    simp[<-g,cE,hc,Z]
 rintro⟨T,aa⟩ ⟨a,e,t⟩;dsimp only at a e t;subst t;refine join (fun st=>aV st.env 5=.p (.str d)/\aV st.env 6=.p (.bool neg)/\st.heap=[]) ?_ ?_
 ·cases hn:neg with
  |false=>
   have E:s=d:=by rw[<-l,dI,g,hn];rfl
   simp[a,e,hn,E]
  |true=>
   clear i q hk M z O J m o;cases s with
   |nil=>simp[cE]at g;rw[hn]at g;cases g
   |cons c r=>
    have E:r=d:=by rw[<-l,dI,g,hn];rfl
    simp[a,e,hn,E]
 clear a e;rintro⟨T,aa⟩ ⟨a,e,t⟩;dsimp only at a e t;subst t;have af:dz.wrap ((k:Int)+1)=(k:Int)+1:=aU _ o_ o_;have F:dz.wrap ((d.length:Int)-k)=(d.length:Int)-k:=aU _ o_ o_;have ae:((k:Int)+1).toNat=k+1:=o_
 have nz:mL s=if neg=true then -(br (bR s):Int)else br (bR s):=by rw[mL,g]
 rw[nz];rcases ih 9 k with C|C
 ·have X:¬k<=9:=by omega
  have j:(9:Int)<k:=o_
  have D:b=false:=by rw[o];simp[X]
  simp[a,e,j,D,c1 i]
 rcases ih 10 (d.length-k)with H|H
 ·have U:¬d.length-k<=10:=by omega
  have j:¬(9:Int)<k:=o_
  have w:(10:Int)<(d.length:Int)-k:=o_
  have D:b=false:=by rw[o];simp[U]
  simp[a,e,j,w,F,D,c1 i]
 have j:¬(9:Int)<k:=o_
 have w:¬(10:Int)<(d.length:Int)-k:=o_
 have x:b=true:=by rw[o];simp[C,H]
 have Q:d.take k=bR s:=by
  rcases q with⟨_,f⟩|⟨_,f,_⟩
  ·rw[f,<-hk];simp
  ·rw[<-f,<-hk];simp
 have K:=Dq (bR s) B o_;have u:=lZ _ (bR s) rfl B;rw[hk]at u;have ac:br (bR s)<1000000000:=h0 u (hZ (n:=10) d_ C);rcases q with⟨q1,f⟩|⟨q1,f,ad⟩
 ·have y:k<d.length:=by rw[f];simp;omega
  have N:d.drop (k+1)=b7 s:=by
   conv=>lhs;rw[f,<-hk]
   simp
  have ah:(b7 s).length<=9:=by rw[<-N,hj];omega
  have Y:=Dq (b7 s) I o_;have A:jL s=br (b7 s):=by rw[jL,if_pos q1]
  rw[A];generalize br (b7 s)=aj,br (bR s)=v at*;have G:dz.wrap (-(v:Int))= -(v:Int):=aU _ o_ o_;clear f;simp[a,e];refine c1 i ?_;have R:(0:Int)<=k+1:=o_
  have ab:k+1<=d.length:=y;have S:(k:Int)+1<=d.length:=o_
  simp[a,e,j,w,F,x,P,Q];refine c1 K ?_;cases neg<;>
  ·simp[a,e,y,ab,af,ae,N,R,S,G,x,c1 Y]
 ·have y:¬k<d.length:=by rw[<-f,hk];omega
  have A:jL s=1:=by rw[jL,q1];rfl
  rw[A];generalize br (bR s)=v at*;have G:dz.wrap (-(v:Int))= -(v:Int):=aU _ o_ o_;simp[a,e];refine c1 i ?_;simp[a,e,j,w,F,x,P,Q];refine c1 K ?_;cases neg<;>simp[a,e,y,G,x]
theorem Gv{n k:Nat}(h:n<2^k):(aw bT n).length<=k/29+1:=by
 refine fc bt _ _ (h0 h ?_);have a:2^29<=bT:=d_
 refine h3 ?_ (kx a _);rw[<-kk];exact hZ d_ o_
theorem RG(q:Rat):mL (aN q)=q.num:=by
 obtain⟨a,b,_,_⟩:=xG q;rw[mL,a,b,tP]
 by_cases h:q.num<0
 ·rw[if_pos (by simpa using h)];omega
 ·rw[if_neg (by simpa using h)];omega
theorem LO(q:Rat):jL (aN q)=q.den:=by
 obtain⟨_,_,a,b⟩:=xG q;rw[jL,a,b]
 by_cases h:q.den=1
 ·rw[if_neg (by simpa using h),h]
 ·rw[if_pos (by simpa using h),if_neg h,tP]
theorem ET(q:Rat):(bR (aN q)).all cT=true/\(b7 (aN q)).all cT=true:=by
 obtain⟨_,a,_,b⟩:=xG q;refine⟨by rw[a];exact sD _,?_⟩;rw[b];split
 ·rfl
 ·exact sD _
theorem uX{q:Rat}(h:aL kB q):(aN q).length<=1000000:=by
 have a:(bn q.num.natAbs).length<=33334:=Be (K:=kB) (k:=33334) h.1 d_ d_;have b:(bn q.den).length<=33334:=Be (K:=kB) (k:=33334) h.2 d_ d_;have:=JJ q;omega
theorem C7(q:Rat)(h:aL kB q):∃(n d:Int)(b:Bool),al prog 267 [.str (aN q)] (.aE [.int .i64 n,.int .i64 d,.bool b])/\(b=true->n=q.num/\d=(q.den:Nat)/\n.natAbs<1000000000/\q.den<1000000000):=by
 have:=aK0 (aN q) (ET q).1 (ET q).2 (uX h)
 rwa [RG,LO]at this
theorem zZ(q:Rat)(h:aL kB q):al prog 228 [.str (aN q)] (.aE [eG q.num,eG (q.den:Nat)]):=by
 have:=QR (aN q) (ET q).1 (ET q).2 (uX h)
 rwa [RG,LO]at this
theorem aLG(a b:Rat):ki (a.num*b.den+b.num*a.den) (a.den*b.den)=a+b:=by
 rw[Rat.add_def'];rfl
theorem aLH(a b:Rat):ki (a.num*b.num) (a.den*b.den)=a*b:=by
 rw[Rat.mul_def,Rat.normalize_eq_mkRat];rfl
theorem Tz(a b:Rat):((a.den:Nat):Int)*(b.den:Nat)≠0:=by
 have c:=a.den_pos;have d:=b.den_pos;exact Int.ne_of_gt (Int.mul_pos o_ o_)
theorem A5{x y:Int}(hx:x.natAbs<1000000000)(a:y.natAbs<1000000000):(x*y).natAbs<=999999998000000001:=by
 rw[er];exact kw (show x.natAbs<=999999999 by omega) (show y.natAbs<=999999999 by omega)
theorem zW{x y:Int}(hx:x.natAbs<2^kB)(a:y.natAbs<2^kB):(aw bT (x*y).natAbs).length<=10000:=by
 have h:=Gv (n:=(x*y).natAbs) (k:=kB+kB) (by rw[er,i7];exact j1 hx a);exact h3 h d_
theorem nO{x:Nat}(hx:x<2^kB):(aw bT x).length<=10000:=h3 (Gv hx) d_
theorem qO(a b:Rat)(h:aL kB a)(i:aL kB b):al prog 202 [.str (aN a),.str (aN b)] (.str (aN (a+b))):=by
 obtain⟨n,d,p,A,E⟩:=C7 a h;obtain⟨m,e,r,B,F⟩:=C7 b i;have t:=zZ a h;have u:=zZ b i;refine gA_ nf func202 mix ?_;rw[<-aLG];have z:=Tz a b
 by_cases j:p=true/\r=true
 ·obtain⟨rfl,rfl,k1,k2⟩:=E j.1;obtain⟨rfl,rfl,k3,k4⟩:=F j.2;have N:=A5 k1 (show((b.den:Nat):Int).natAbs<1000000000 by rw[ea];exact k4);have O:=A5 k3 (show((a.den:Nat):Int).natAbs<1000000000 by rw[ea];exact k2);have P:=A5 (show((a.den:Nat):Int).natAbs<1000000000 by rw[ea];exact k2) (show((b.den:Nat):Int).natAbs<1000000000 by rw[ea];exact k4);have C:=Ea (a.num*b.den+b.num*a.den) (a.den*b.den) z o_ o_;have w1:dz.wrap (a.num*(b.den:Nat))=a.num*(b.den:Nat):=aU _ o_ o_;have H:dz.wrap (b.num*(a.den:Nat))=b.num*(a.den:Nat):=aU _ o_ o_;have I:dz.wrap (a.num*(b.den:Nat)+b.num*(a.den:Nat))=a.num*(b.den:Nat)+b.num*(a.den:Nat):=aU _ o_ o_;have J:dz.wrap (((a.den:Nat):Int)*(b.den:Nat))=((a.den:Nat):Int)*(b.den:Nat):=aU _ o_ o_;have g:p=true:=j.1;have q:r=true:=j.2;simp(maxDischargeDepth:=99) [f202,g,q,w1,H,I,J,c1 A,c1 B,c2 C]
 ·have l:a.num.natAbs<2^kB:=h.1;have o:b.num.natAbs<2^kB:=i.1;have c:((a.den:Nat):Int).natAbs<2^kB:=by rw[ea];exact h.2
  have f:((b.den:Nat):Int).natAbs<2^kB:=by rw[ea];exact i.2
  have w:=Av a.num (b.den:Nat) (by have:=nO l;have:=nO f;omega);have x:=Av b.num (a.den:Nat) (by have:=nO o;have:=nO c;omega);have y:=Av (a.den:Nat) (b.den:Nat) (by have:=nO c;have:=nO f;omega);have K:=zW l f;have L:=zW o c;have M:=zW c f;have v:=aKX (a.num*(b.den:Nat)) (b.num*(a.den:Nat)) o_ o_;have G:(aw bT (a.num*(b.den:Nat)+b.num*(a.den:Nat)).natAbs).length<=400000:=by
   refine h3 (Gv (k:=kB+kB+1) ?_) d_;have q1:(a.num*(b.den:Nat)).natAbs<2^(kB+kB):=by rw[er,i7];exact j1 l f
   have Q:(b.num*(a.den:Nat)).natAbs<2^(kB+kB):=by rw[er,i7];exact j1 o c
   rw[h7];omega
  have s:=Gr (a.num*(b.den:Nat)+b.num*(a.den:Nat)) ((a.den:Nat)*(b.den:Nat)) z G o_;simp[f202];refine c1 A ?_;simp;refine c1 B ?_;have D:(p=false)\/(p=true/\r=false):=by cases p<;>cases r<;>simp_all
  rcases D with g|⟨g,q⟩
  ·simp(maxDischargeDepth:=99) [g,aa,c1 t,c1 u,e2 w,e2 x,e2 v,e2 y,e2 s]
  ·simp(maxDischargeDepth:=99) [g,q,aa,c1 t,c1 u,e2 w,e2 x,e2 v,e2 y,e2 s]
theorem ff(a b:Rat)(f:aL kB a)(g:aL kB b):al prog 203 [.str (aN a),.str (aN b)] (.str (aN (a*b))):=by
 obtain⟨n,d,p,x,B⟩:=C7 a f;obtain⟨m,e,r,y,C⟩:=C7 b g;have s:=zZ a f;have t:=zZ b g;refine gA_ nf func203 mix ?_;rw[<-aLH];have w:=Tz a b
 by_cases h:p=true/\r=true
 ·obtain⟨rfl,rfl,k1,k2⟩:=B h.1;obtain⟨rfl,rfl,k3,k4⟩:=C h.2;have G:=A5 k1 k3;have H:=A5 (show((a.den:Nat):Int).natAbs<1000000000 by rw[ea];exact k2) (show((b.den:Nat):Int).natAbs<1000000000 by rw[ea];exact k4);have z:=Ea (a.num*b.num) (a.den*b.den) w o_ o_;have w1:dz.wrap (a.num*b.num)=a.num*b.num:=aU _ o_ o_;have D:dz.wrap (((a.den:Nat):Int)*(b.den:Nat))=((a.den:Nat):Int)*(b.den:Nat):=aU _ o_ o_;have c:p=true:=h.1;have i:r=true:=h.2;simp(maxDischargeDepth:=99) [f203,c,i,w1,D,c1 x,c1 y,c2 z]
 ·have j:a.num.natAbs<2^kB:=f.1;have l:b.num.natAbs<2^kB:=g.1;have k:((a.den:Nat):Int).natAbs<2^kB:=by rw[ea];exact f.2
  have o:((b.den:Nat):Int).natAbs<2^kB:=by rw[ea];exact g.2
  have u:=Av a.num b.num (by have:=nO j;have:=nO l;omega);have v:=Av (a.den:Nat) (b.den:Nat) (by have:=nO k;have:=nO o;omega);have E:=zW j l;have F:=zW k o;have q:=Gr (a.num*b.num) ((a.den:Nat)*(b.den:Nat)) w o_ o_;simp[f203];refine c1 x ?_;simp;refine c1 y ?_;have A:(p=false)\/(p=true/\r=false):=by cases p<;>cases r<;>simp_all
  rcases A with c|⟨c,i⟩
  ·simp(maxDischargeDepth:=99) [c,aa,c1 s,c1 t,e2 u,e2 v,e2 q]
  ·simp(maxDischargeDepth:=99) [c,i,aa,c1 s,c1 t,e2 u,e2 v,e2 q]
theorem aMy{a:Rat}(h:a≠0):ki (a.den:Nat) a.num=a⁻¹:=by
 rw[Rat.inv_def];rfl
theorem S5{a:Rat}(h:a≠0):a.num≠0:=fun e=>h (Rat.num_eq_zero.1 e)
theorem Gd(a:Rat)(b:aL kB a)(c:a≠0):al prog 200 [.str (aN a)] (.str (aN a⁻¹)):=by
 have g:=zZ a b;have e:a.num.natAbs<2^kB:=b.1;have f:((a.den:Nat):Int).natAbs<2^kB:=by rw[ea];exact b.2
 have d:=Gr ((a.den:Nat):Int) a.num (S5 c) (by have:=nO f;omega) (by have:=nO e;omega);rw[aMy c]at d;refine gA_ nf func200 mix ?_;simp[f200,aa,c1 g,c2 d]
theorem nH(a b:Rat)(g:aL kB a)(d:aL kB b)(e:b≠0):al prog 193 [.str (aN a),.str (aN b)] (.str (aN (a/b))):=by
 have f:=Gd b d e;have c:=ff a b⁻¹ g (lL d);rw[<-l4]at c;refine gA_ nf func193 mix ?_;simp[f193,c1 f,c2 c]
theorem Sn(s:List Nat)(g:s.length<=1048576):al prog 192 [.str s] (.int .i64 (if s=[48]then 0 else if cE s=true then -1 else 1)):=by
 refine gA_ nf func192 mix ?_
 by_cases b:s=[48]
 ·simp[f192,b]
 ·cases s with
  |nil=>simp[f192,cE]
  |cons c r=>
   by_cases hc:c=45
   ·simp[f192,cE,hc]
   ·have e:¬(c:Int)=45:=by omega
    have d:¬(c=48/\r=[]):=fun h=>b (by rw[h.1,h.2])
    by_cases a:c=48
    ·have f:¬r=[]:=fun h=>d ⟨a,h⟩;simp[f192,cE,a,f]
    ·simp[f192,cE,hc,e,a]
theorem CR(q:Rat):q.num<0↔q<0:=by
 have h:=H6 q
 by_cases b:q<0
 ·rw[if_pos b]at h;refine⟨fun _=>b,fun _=>?_⟩
  by_cases a:q.num<0
  ·exact a
  ·rw[if_neg a]at h;split at h<;>omega
 ·refine⟨fun a=>?_,fun a=>(b a).elim⟩;rw[if_neg b,if_pos a]at h
  split at h<;>omega
def bE(q:Rat):Int:=if q<0 then -1 else if q=0 then 0 else 1
theorem pI:aN 0=[48]:=by
 have h:b6 0=[48]:=by rw[show(0:Int)=((0:Nat):Int)from rfl,zJ,qz]
 rw[aN,if_pos (show(0:Rat).den=1 from rfl)];exact h
theorem Db(q:Rat):aN q=[48]↔q=0:=by
 rw[<-pI];exact⟨fun h=>E0 h,fun h=>by rw[h]⟩
theorem aQe(q:Rat):(if aN q=[48]then(0:Int)else if cE (aN q)=true then -1 else 1)=bE q:=by
 have c:=(xG q).1;have a:=Db q;have b:q<0↔q.num<0:=(CR q).symm;rw[c,bE]
 by_cases hz:q=0
 ·subst hz;rw[if_pos (a.2 rfl),if_neg d_,if_pos rfl]
 ·rw[if_neg (fun h=>hz (a.1 h))]
  by_cases hn:q<0
  ·rw[if_pos (by simpa using b.1 hn),if_pos hn]
  ·rw[if_neg (by simpa using fun h=>hn (b.2 h)),if_neg hn,if_neg hz]
theorem mA(q:Rat)(h:aL kB q):al prog 192 [.str (aN q)] (.int .i64 (bE q)):=by
 have:=Sn (aN q) (by have:=uX h;omega)
 rwa [aQe]at this
theorem Iq{q:Rat}(h:q<0):aN q=45::aN (-q):=by
 have a:q.num<0:=(CR q).2 h;have e1:b6 q.num=45::bn q.num.natAbs:=by rw[b6,if_pos a]
 have e2:b6 (-q).num=bn q.num.natAbs:=by rw[m2,b6,if_neg o_,eM]
 rw[aN,aN,Rat.neg_den,e1,e2]
 split<;>rfl
theorem vJ(q:Rat)(h:aL kB q):al prog 199 [.str (aN q)] (.str (aN (-q))):=by
 have a:=mA q h;have d:=uX h;refine gA_ nf func199 mix ?_
 by_cases hn:q<0
 ·have hs:bE q= -1:=by rw[bE,if_pos hn]
  rw[hs]at a;have b:=Iq hn;rw[b]at a d⊢;simp[f199,c1 a]
 ·by_cases hz:q=0
  ·have hs:bE q=0:=by rw[bE,if_neg hn,if_pos hz]
   rw[hs]at a;have hq:-q=q:=by rw[hz];rfl
   rw[hq];simp[f199,c1 a]
  ·have hs:bE q=1:=by rw[bE,if_neg hn,if_neg hz]
   rw[hs]at a;have c:-q<0:=by
    rw[<-CR,m2];have e:¬q.num<0:=fun h=>hn ((CR q).1 h);have f:=S5 hz;omega
   have b:=Iq c;rw[Rat.neg_neg]at b;rw[b];have g:(aN q).length+1<9223372036854775808:=o_
   simp[f199];refine c1 a ?_;simp;refine c1 a ?_;simp;omega
theorem mB(a b:Rat)(f:aL kB a)(d:aL kB b):al prog 195 [.str (aN a),.str (aN b)] (.str (aN (a-b))):=by
 have e:=vJ b d;have c:=qO a (-b) f (j0 d);rw[<-Rat.sub_eq_add_neg]at c;refine gA_ nf func195 mix ?_;simp[f195,c1 e,c2 c]
theorem aQd(a b:Rat):bE (a-b)=cr a b:=by
 have c:a-b<0↔a<b:=by
  rw[<-m3,<-m3,<-Rat.le_iff_sub_nonneg]
 have d:a-b=0↔a=b:=by
  constructor
  ·intro h;have e:a-b+b=0+b:=by rw[h]
   rwa [l2,l5]at e
  ·rintro rfl;exact m1
 rw[bE,cr]
 by_cases h:a<b
 ·rw[if_pos (c.2 h),if_pos h]
 ·rw[if_neg (fun x=>h (c.1 x)),if_neg h]
  by_cases hz:a=b
  ·rw[if_pos (d.2 hz),if_pos hz]
  ·rw[if_neg (fun x=>hz (d.1 x)),if_neg hz]
theorem oL(a b:Rat)(d:aL (kB/3) a)(e:aL (kB/3) b):al prog 194 [.str (aN a),.str (aN b)] (.int .i64 (cr a b)):=by
 have f:=mB a b (d.mono d_) (e.mono d_);have c:=mA (a-b) ((gl d e).mono d_);rw[aQd]at c;refine gA_ nf func194 mix ?_;simp[f194,c2 f,c1 c]
theorem T6{a b:Nat}(h:a<=b):10^a<=10^b:=hZ d_ h
theorem T5{s:List Nat}{k:Nat}(h:s.length<=k)(a:s.all cT=true):br s<10^k:=h0 (lZ _ s rfl a) (T6 h)
theorem aO8{x a b:Nat}(hx:x<10^a)(h:a<=9*b):(aw bT x).length<=b:=fc bt b x (h0 hx (by
 rw[show bT^b=10^(9*b)by rw[kk];rfl];exact T6 h))
theorem awG(s:List Nat)(C:s.length<=1048576):al prog 276 [.str s] (.bool (s.all cT)):=by
 refine gA_ nf func276 mix ?_;obtain⟨k,hk,n,o⟩:=Dh (fun j=>cT (s[j]?.getD 0)) s.length;have e:∀j(h:j<s.length),s[j]?.getD 0=s[j]:=fun j h=>by rw[gb h];rfl
 have A:s.all cT=decide (k=s.length):=by
  rcases o with h|⟨a,b⟩
  ·rw[h,decide_eq_true rfl,gj];intro x hx;obtain⟨j,z,rfl⟩:=hJ hx;have:=n j o_
   rwa [e j z]at this
  ·rw[decide_eq_false o_];rw[e k a]at b
   by_cases m:s.all cT=true
   ·have:=gj.1 m _ (gy a);rw[this]at b;cases b
   ·simpa using m
 rw[A];simp[f276];refine lp (α:=Nat) (fun i=>⟨[(3,.p (.int .i64 i)),(0,.p (.str s))],[]⟩)
  (fun i=>i<=k) (fun i=>k-i) 0 (i9 _) ?_
 intro i hi;have B:dz.wrap ((i:Int)+1)=(i:Int)+1:=aU _ o_ o_
 by_cases w:i<k
 ·have l:i<s.length:=by omega
  have hn:=n i w;rw[e i l]at hn;have D:=Dy hn;generalize d:s[i]=c at*;have f:s[i]?=some c:=by rw[gb l,d]
  have a:¬(c:Int)<48:=o_
  have b:¬(57:Int)<c:=o_
  have r:¬c<48:=o_
  have t:¬57<c:=o_
  simp[l,d,f,a,b,r,t,B];exact rd (i+1) (show i+1<=k by omega)
 ·have y:i=k:=by omega
  subst y;rcases o with h|⟨a,b⟩
  ·simp[h]
  ·rw[e i a]at b;have q:¬i=s.length:=by omega
   generalize d:s[i]=c at*;have f:s[i]?=some c:=by rw[gb a,d]
   by_cases hc:c<48
   ·have g:(c:Int)<48:=by omega
    simp[a,d,f,hc,g,q]
   ·have u:57<c:=by
     simp only[cT,Bool.and_eq_false_iff,decide_eq_false_iff_not]at b;omega
    have g:¬(c:Int)<48:=o_
    have v:(57:Int)<c:=o_
    simp[a,d,f,hc,g,u,v,q]
theorem PU(s:List Nat)(i:s.length<=1048576):al prog 227 [.str s] (.bool (eA s)):=by
 have b:=awG s i;refine gA_ nf func227 mix ?_;cases s with
 |nil=>simp[f227,eA]
 |cons c r=>
  have j:(c:Int)=48↔c=48:=o_
  by_cases a:r=[]
  ·subst a;have e:eA [c]=[c].all cT:=by
    rw[eA]
    by_cases h:c=48
    ·subst h;rfl
    ·simp[h]
   rw[e];simp[f227,c1 b]
  ·have d:0<r.length:=ge.2 a;have hz:¬(r.length:Int)+1=0:=by omega
   have f:(1:Int)<r.length+1:=o_
   by_cases hc:c=48
   ·have e:eA (c::r)=false:=by rw[eA,hc];simp[a]
    rw[e];simp[f227,a,hc,d,hz,f]
   ·have g:¬(c:Int)=48:=by omega
    have e:eA (c::r)=(c::r).all cT:=by rw[eA];simp[hc]
    rw[e];simp[f227,a,hc,g,d,hz,f];refine c1 b ?_;simp
theorem AY(s:List Nat)(hs:ky s):al prog 132 [.str s] (.int .i64 (cm s)):=by
 refine gA_ nf func132 mix ?_;obtain⟨aX,aL⟩:=hs;obtain⟨d,R⟩:∃d,dI s=d:=⟨_,rfl⟩
 obtain⟨neg,o⟩:∃neg,cE s=neg:=⟨_,rfl⟩
 have aP:d.length<=s.length:=by rw[<-R];exact(tt s).1
 have T:=Aw d o_;have X:(cH 47 d).1=bR s:=by rw[<-R];rfl
 have V:(cH 47 d).2.1=b7 s:=by rw[<-R];rfl
 have ag:(cH 47 d).2.2=fG s:=by rw[<-R];rfl
 have m:=tJ 47 d;have B:=xt 47 d;rw[X,V,ag]at m;rw[X]at T B;rw[V]at B;obtain⟨k,hk⟩:∃k,(bR s).length=k:=⟨_,rfl⟩
 rw[hk]at T;have S:k<=d.length:=by rw[<-hk];exact B.1
 have av:d.take k=bR s:=by
  rcases m with⟨_,D⟩|⟨_,D,_⟩
  ·rw[D,<-hk];simp
  ·rw[<-D,<-hk];simp
 have L:=PU (bR s) o_;have i:=PU (b7 s) o_;simp[f132,-ba];rw[ba];simp[-ba];rw[ba];simp[-ba];refine join (fun st=>aV st.env 0=.p (.str s)/\aV st.env 3=.p (.str d)/\st.heap=[]) ?_ ?_
 ·cases hn:neg with
  |false=>
   have au:s=d:=by rw[<-R,dI,o,hn];rfl
   clear T m hk V X ag av L i B S;subst au;cases s with
   |nil=>simp
   |cons c r=>
    rw[hn]at o;have hc:¬c=45:=fun h=>by rw[h]at o;simp[cE]at o
    have an:¬(c:Int)=45:=o_
    simp[hc,an]
  |true=>
   clear T m hk V X ag av L i B S;cases s with
   |nil=>simp[cE]at o;rw[hn]at o;cases o
   |cons c r=>
    have au:r=d:=by rw[<-R,dI,o,hn];rfl
    rw[hn]at o;have hc:c=45:=by simpa[cE]using o
    simp[hc,au]
 rintro⟨aH,aS⟩ ⟨G,f,ai⟩;dsimp only at G f ai;subst ai;have af:nV s=(eA (bR s)&&!(neg&&decide (bR s=[48]))&&(!fG s||(eA (b7 s)&&decide (b7 s≠[48])&&decide (b7 s≠[49])))):=by rw[nV,o]
 have a5:d.length<=1048576:=o_
 have U:(bR s).all cT=true->(b7 s).all cT=true->fG s=true->0<k->d.length<=1000000->al prog 228 [.str d] (.aE [eG (br (bR s):Nat),eG (br (b7 s):Nat)]):=fun l N ax aC aY=>by
  have ak:cE d=false/\dI d=d:=by
   have aF:cE d=false:=by
    rcases m with⟨_,D⟩|⟨q1,_⟩
    ·cases W:bR s with
     |nil=>rw[W]at hk;simp at hk;omega
     |cons c r=>
      rw[W]at D l;have:=Dy (gj.1 l c s_);rw[D,cE];simp;omega
    ·rw[ax]at q1;cases q1
   exact⟨aF,by rw[dI,aF];rfl⟩
  have e1:bR d=bR s:=by rw[bR,ak.2,X]
  have e2:b7 d=b7 s:=by rw[b7,ak.2,V]
  have e3:fG d=true:=by rw[fG,ak.2,ag];exact ax
  have:=QR d (by rw[e1];exact l) (by rw[e2];exact N) aY;rw[mL,jL,e1,e2,ak.1,if_pos e3]at this;exact this
 rw[cm];generalize nV s=M,bR s=j,b7 s=e,fG s=fr at*;have aj:gt k d=j:=av
 by_cases J:eA j=true
 ·have aC:0<k:=by
   rw[<-hk,ge];intro h;rw[h]at J;cases J
  obtain⟨c,r,hs⟩:∃c r,s=c::r:=by
   cases s with
   |nil=>
    have:d.length<=0:=by simpa using aP
    omega
   |cons c r=>exact⟨c,r,rfl⟩
  have ao:c=45↔neg=true:=by rw[<-o,hs];simp[cE]
  have an:(c:Int)=45↔c=45:=o_
  rw[J]at L;clear aL aX R o X V ag
  by_cases O:neg=true/\j=[48]
  ·have hf:M=false:=by rw[af,O.1,O.2];simp
   have aO:=ao.2 O.1;rw[if_pos hf];clear m B i U ao an;subst hs aO;have W:=O.2;simp[G,f];refine c1 T ?_;simp[G,f,S,aj];refine c1 L ?_;simp[G,f,S,aj,W]
  ·subst hs;rw[ba];simp[G,f,-ba];refine c1 T ?_;simp[G,f,-ba];refine join (fun st=>aV st.env 3=.p (.str d)/\aV st.env 4=.p (.int .i64 k)/\st.heap=[]) ?_ ?_
   ·by_cases l:c=45
    ·have W:¬j=[48]:=fun h=>O ⟨ao.1 l,h⟩;subst l;clear m B i U;simp[G,f,S,aj,W,c1 L]
    ·have aI:¬(c:Int)=45:=by omega
     clear m B i U;simp[G,f,S,aj,l,aI,c1 L]
   clear G f;rintro⟨aH,aS⟩ ⟨f,q,ai⟩;dsimp only at f q ai;subst ai;cases ah:fr with
   |false=>
    have n:k=d.length:=by
     rcases m with⟨q1,_⟩|⟨_,D,_⟩
     ·rw[ah]at q1;cases q1
     ·rw[<-hk,D]
    have aD:¬k<d.length:=o_
    have aQ:e=[]:=by
     rcases m with⟨q1,_⟩|⟨_,_,a2⟩
     ·rw[ah]at q1;cases q1
     ·exact a2
    have hf:M=true:=by
     rw[af,J,ah];simp
     by_cases l:neg=true
     ·exact .inr fun N=>O ⟨l,N⟩
     ·exact .inl (by simpa using l)
    have Y:dz.wrap ((d.length:Int)-k)=0:=by rw[n,fd];rfl
    have Z:dz.wrap (-1)= -1:=rfl;rw[hf,hk,aQ];clear m B i U
    by_cases I:600<k
    ·have t:¬(k:Int)<=600:=by omega
     have u:¬k<=600:=o_
     have v:(600:Int)<k:=o_
     simp[f,q,aD,I,t,u,v]
    ·have t:(k:Int)<=600:=by omega
     have u:k<=600:=o_
     have v:¬(600:Int)<k:=o_
     simp[f,q,aD,I,t,u,v,Y,Z]
   |true=>
    rw[ah]at af U;have ar:d=j++47::e:=by
     rcases m with⟨_,D⟩|⟨q1,_⟩
     ·exact D
     ·rw[ah]at q1;cases q1
    have n:k<d.length:=by rw[ar];simp;omega
    have C:d.drop (k+1)=e:=by
     conv=>lhs;rw[ar,<-hk]
     simp
    have a6:d.length=k+1+e.length:=by rw[ar];simp;omega
    have F:dz.wrap ((k:Int)+1)=(k:Int)+1:=aU _ o_ o_;have E:((k:Int)+1).toNat=k+1:=o_
    have w:(0:Int)<=k+1:=o_
    have y:(k:Int)+1<=d.length:=o_
    have z:k+1<=d.length:=n;clear m B;have ae:M=(eA e&&decide (e≠[48])&&decide (e≠[49])):=by
     rw[af,J];have:(neg&&decide (j=[48]))=false:=by
      by_cases l:neg=true
      ·have:¬j=[48]:=fun N=>O ⟨l,N⟩;simp[this]
      ·have:neg=false:=by simpa using l
       rw[this];rfl
     rw[this];simp
    by_cases ap:M=true
    ·rw[ap]at ae;have aT:¬M=false:=by rw[ap];decide
     rw[if_neg aT];have aK:eA e=true/\¬e=[48]/\¬e=[49]:=by
      have:=ae.symm;simp only[dg,decide_eq_true_eq]at this;exact⟨this.1.1,this.1.2,this.2⟩
     obtain⟨K,H,A⟩:=aK;rw[K]at i;rw[hk];have Y:dz.wrap ((d.length:Int)-k)=(d.length:Int)-k:=aU _ o_ o_;have Z:dz.wrap ((d.length:Int)-k-1)=e.length:=by rw[aU _ o_ o_];omega
     by_cases I:600<k
     ·have t:¬(k:Int)<=600:=by omega
      have u:¬k<=600:=o_
      have v:(600:Int)<k:=o_
      simp[f,q,n,F,E,w,y,z,C,H,A,I,t,u,v,c1 i]
     by_cases ab:600<e.length
     ·have t:(k:Int)<=600:=by omega
      have u:k<=600:=o_
      have v:¬(600:Int)<k:=o_
      have ac:(600:Int)<e.length:=o_
      simp[f,q,n,F,E,w,y,z,C,H,A,I,t,u,v,Y,Z,ab,ac,c1 i]
     have t:(k:Int)<=600:=o_
     have u:k<=600:=o_
     have v:¬(600:Int)<k:=o_
     have ac:¬(600:Int)<e.length:=o_
     have Q:=U (mz J) (mz K) rfl aC o_;have aR:=C2 K H;have a0:j.length<=700:=o_
     have a1:e.length<=700:=o_
     have aM:br j<10^700:=T5 (s:=j) (k:=700) a0 (mz J);have aN:br e<10^700:=T5 (s:=e) (k:=700) a1 (mz K);have aE:∀x:Nat,x<10^700->(aw bT x).length<=400000:=fun x hx=>h3 (aO8 (a:=700) (b:=78) hx d_) d_;have P:=QA (br j) (br e) (aE _ aM) (aE _ aN);have aA:0<i4 (br j) (br e):=j3 _ aR;generalize br j=a4,br e=a3 at*;obtain⟨g,am⟩:∃g,i4 a4 a3=g:=⟨_,rfl⟩
     simp only[am]at P aA⊢;have aZ:¬(600<k\/600<e.length):=fun h=>by rcases h with h|h;exact I h;exact ab h
     rw[if_neg aZ];simp only[eG,ea]at Q
     by_cases aq:g=1
     ·subst aq;have ad:aw bT 1=[1]:=rL d_ d_;simp only[eT,ad]at P Q;simp(maxDischargeDepth:=99) [f,q,n,F,E,w,y,z,C,H,A,I,t,u,v,Y,Z,ab,ac,aa,am,c1 i,c1 Q,c2 P]
     ·by_cases aB:g<bT
      ·have ad:aw bT g=[g]:=rL aA aB;have aW:¬(g:Int)=1:=by omega
       simp only[eT,ad]at P Q;simp(maxDischargeDepth:=99) [f,q,n,F,E,w,y,z,C,H,A,I,t,u,v,Y,Z,ab,ac,aa,aq,aW,am,c1 i,c1 Q,c2 P]
      ·have ad:¬((aw bT g).length:Int)=1:=by
        intro h;have N:(aw bT g).length=1:=o_
        have:=cU bt g;rw[N,kf]at this;exact aB this
       simp only[eT]at P Q;simp(maxDischargeDepth:=99) [f,q,n,F,E,w,y,z,C,H,A,I,t,u,v,Y,Z,ab,ac,aa,aq,ad,am,c1 i,c1 Q,c2 P]
    ·have az:M=false:=by simpa using ap
     rw[if_pos az]
     by_cases K:eA e=true
     ·rw[K]at i
      by_cases H:e=[48]
      ·simp[f,q,n,F,E,w,y,z,C];refine c1 i ?_;simp[f,q,n,F,E,w,y,z,C,H]
      ·have A:e=[49]:=by
        rw[K]at ae
        by_cases A:e=[49]
        ·exact A
        ·rw[az]at ae;simp[H,A]at ae
       simp[f,q,n,F,E,w,y,z,C];refine c1 i ?_;simp[f,q,n,F,E,w,y,z,C,A]
     ·have aJ:eA e=false:=by simpa using K
      rw[aJ]at i;simp[f,q,n,F,E,w,y,z,C,c1 i]
 ·have ay:eA j=false:=by simpa using J
  have hf:M=false:=by rw[af,ay];rfl
  rw[if_pos hf];rw[ay]at L;simp(maxDischargeDepth:=99) [G,f,S,aj,c1 T,c1 L]
theorem aoj(l:List (List Nat))(f:l.length<=1000000)(hs:∀s∈l,ky s):al prog 62 [.seq (l.map .str)] (.int .i64 (bN (l.map cm))):=by
 refine gA_ nf func62 mix ?_;simp[f62];refine lp (α:=Nat) (fun i=>⟨[(3,.p (.int .i64 i)),(0,.p (.seq (l.map .str)))],[]⟩) (fun i=>i<=l.length/\bN ((l.drop i).map cm)=bN (l.map cm)) (fun i=>l.length-i) 0 s_ ?_;rintro i ⟨e,a⟩
 by_cases hi:i<l.length
 ·rw[g5 hi]at a;have d:=b8 (i:=i) o_;have hc:=AY l[i] (hs _ (gy hi));obtain⟨s,b⟩:∃s,l[i]=s:=⟨_,rfl⟩
  have c:l[i]?=some s:=by rw[gb hi,b]
  rw[b]at hc a;simp[hi,c,b];refine c1 hc ?_
  by_cases he:cm s=0
  ·simp[bN,he]at a;simp[he,d];exact rd (i+1) ⟨hi,by simpa using a⟩
  ·simp[bN,he]at a;simp[he,<-a]
 ·have:i=l.length:=by omega
  subst this;simp[bN]at a;simp[<-a]
theorem Cq(p:bS)(a:ku p):al prog 20 [et p] (.int .i64 (dZ p)):=by
 have hc:=aoj [p.x,p.y] s_ (by intro s hs;simp at hs;rcases hs with rfl|rfl;exact a.1;exact a.2);refine gA_ nf func20 mix ?_;simp[f20,aa];refine cp hc (by simp;exact⟨rfl,rfl⟩) ?_;simp[dZ]
theorem Oy(z:Int):47∉b6 z:=by
 rw[b6];split
 ·simp only[hg,not_or];exact⟨d_,EZ (sD _) rfl⟩
 ·exact EZ (sD _) rfl
theorem Fl(q:Rat):(cH 47 (aN q)).1=b6 q.num/\(q.den≠1->aN q=b6 q.num++47::bn q.den)/\(q.den=1->aN q=b6 q.num):=by
 by_cases h:q.den=1
 ·have e:aN q=b6 q.num:=by rw[aN,if_pos h]
  refine⟨?_,fun a=>(a h).elim,fun _=>e⟩;rw[e,GI 47 _ (Oy _)]
 ·have e:aN q=b6 q.num++47::bn q.den:=by rw[aN,if_neg h]
  refine⟨?_,fun _=>e,fun a=>(h a).elim⟩;rw[e,G0 47 _ _ (Oy _)]
theorem aCl(q:Rat)(h:aL kB q):al prog 134 [.str (aN q)] (.str (b6 q.num)):=by
 have i:=uX h;obtain⟨e,c,d⟩:=Fl q;have hs:=Aw (aN q) o_;rw[e]at hs;have g:(aN q).take (b6 q.num).length=b6 q.num:=by
  by_cases b:q.den=1
  ·rw[d b];simp
  ·rw[c b];simp
 have f:(b6 q.num).length<=(aN q).length:=by
  by_cases b:q.den=1
  ·rw[d b];exact ik _
  ·rw[c b];simp
 refine gA_ nf func134 mix ?_;generalize b6 q.num=a,aN q=s at*;simp[f134,g,f,c1 hs]
theorem aAR(q:Rat)(h:aL kB q):al prog 135 [.str (aN q)] (.str (bn q.den)):=by
 have d:=uX h;obtain⟨i,j,k⟩:=Fl q;have hs:=Aw (aN q) o_;rw[i]at hs;refine gA_ nf func135 mix ?_
 by_cases c:q.den=1
 ·have e:=k c;rw[c,JK];rw[e]at hs⊢;generalize b6 q.num=a at*;simp[f135,c1 hs]
 ·have e:=j c;rw[e]at hs d⊢;generalize b6 q.num=a,bn q.den=b at*;simp only[g0,hv]at d;have m:¬(a.length:Int)=(a.length:Int)+(b.length+1):=by omega
  have p:dz.wrap ((a.length:Int)+1)=(a.length:Int)+1:=aU _ o_ o_;have o:((a.length:Int)+1).toNat=a.length+1:=o_
  have f:(0:Int)<=(a.length:Int)+1:=o_
  have g:(a.length:Int)+1<=(a.length:Int)+(b.length+1):=o_
  have l:hR (a.length+1) (a++47::b)=b:=s_
  have n:gt (a.length+(b.length+1)) (a++47::b)=a++47::b:=gc s_;simp[f135,m,p,o,f,g,l,n,c1 hs]
theorem aAO(z:Int)(h:(b6 z).length<=1000000):al prog 133 [.str (b6 z)] (.str (bn z.natAbs)):=by
 have a:=Sn (b6 z) o_;have f:cE (b6 z)=decide (z<0):=by
  have:=(CM z []).1;rwa [hb]at this
 have d:b6 z=[48]↔z=0:=by
  have e:b6 z=aN (z:Rat):=by rw[aN,if_pos (mp z),mo]
  rw[e,Db]
  exact_mod_cast Iff.rfl
 refine gA_ nf func133 mix ?_;rw[f]at a
 by_cases hz:z<0
 ·have e:b6 z=45::bn z.natAbs:=by rw[b6,if_pos hz]
  rw[if_neg (fun x=>by have:=d.1 x;omega),if_pos (by simpa using hz)]at a;rw[e]at a⊢;simp[f133,c1 a]
 ·have e:b6 z=bn z.natAbs:=by rw[b6,if_neg hz]
  have b:∃v:Int,¬v<0/\al prog 192 [.str (b6 z)] (.int .i64 v):=by
   by_cases c:b6 z=[48]
   ·rw[if_pos c]at a;exact⟨0,o_,a⟩
   ·rw[if_neg c,if_neg (by simpa using hz)]at a;exact⟨1,o_,a⟩
  obtain⟨v,g,b⟩:=b;rw[e]at b⊢;simp[f133,g,c1 b]
def fX(s:List Nat)(D:Nat):Bool:=decide (s.length<=2*D+2)&&decide (cm s=0)&&decide ((bn (aO s).num.natAbs).length<=D)&&decide ((bn (aO s).den).length<=D)
theorem aLg{s:List Nat}(h:cm s=0):aL kB (aO s):=by
 obtain⟨b,c⟩:=KJ h;have a:(10:Nat)^mD<=2^kB:=h3 (Rw mD) (hZ d_ d_);exact⟨h0 b a,h0 c a⟩
theorem En(s:List Nat)(D:Nat)(hs:ky s)(u:D<=100000):al prog 61 [.str s,.int .i64 D] (.bool (fX s D)):=by
 have g:=AY s hs;have v:=hs.1;refine gA_ nf func61 mix ?_;have w1:dz.wrap (2*(D:Int))=2*(D:Int):=aU _ o_ o_;have h:dz.wrap (2*(D:Int)+2)=2*(D:Int)+2:=aU _ o_ o_
 by_cases l:s.length<=2*D+2
 ·have f:(s.length:Int)<=2*(D:Int)+2:=by omega
  by_cases d:cm s=0
  ·have k:=aLg d;have e:=(ia d).1;rw[d]at g;have j:=aCl (aO s) k;have o:=aAR (aO s) k;have q:(b6 (aO s).num).length<=1000000:=by
    have:=uX k;obtain⟨_,r,t⟩:=Fl (aO s)
    by_cases p:(aO s).den=1
    ·rw[t p]at this;exact this
    ·rw[r p]at this;simp at this;omega
   have n:=aAO (aO s).num q;rw[e]at j o;have hf:fX s D=(decide ((bn (aO s).num.natAbs).length<=D)&&decide ((bn (aO s).den).length<=D)):=by
    rw[fX,decide_eq_true l,decide_eq_true d];simp
   rw[hf];generalize bn (aO s).num.natAbs=a,bn (aO s).den=b,b6 (aO s).num=c at*
   by_cases m:a.length<=D
   ·have i:(a.length:Int)<=D:=by omega
    simp(maxDischargeDepth:=99) [f61,w1,h,f,m,i,c1 g,c1 j,c1 n,c1 o]
   ·have i:¬(a.length:Int)<=D:=by omega
    simp(maxDischargeDepth:=99) [f61,w1,h,f,m,i,c1 g,c1 j,c1 n]
  ·have hf:fX s D=false:=by rw[fX,decide_eq_false d];simp
   rw[hf];simp[f61,w1,h,f,d,c1 g]
 ·have f:¬(s.length:Int)<=2*(D:Int)+2:=by omega
  have hf:fX s D=false:=by rw[fX,decide_eq_false l];simp
  rw[hf];simp[f61,w1,h,f]
structure V2 where
 x:Rat
 y:Rat
def eV(v:V2):PV:=et ⟨aN v.x,aN v.y⟩
@[simp] theorem aUR(v:V2):aP (eV v)=.agg 31:=rfl
@[simp] theorem aTc(v:V2):cz (eV v)=[.str (aN v.x),.str (aN v.y)]:=rfl
theorem sF(x y:Rat):eV ⟨x,y⟩=.st 31 [.str (aN x),.str (aN y)]:=rfl
def aS(k:Nat)(v:V2):Prop:=aL k v.x/\aL k v.y
theorem aS.mono{k l:Nat}{v:V2}(h:aS k v)(a:k<=l):aS l v:=⟨h.1.mono a,h.2.mono a⟩
def V2.sub(v w:V2):V2:=⟨v.x-w.x,v.y-w.y⟩
def V2.add(v w:V2):V2:=⟨v.x+w.x,v.y+w.y⟩
def V2.mul(v:V2)(k:Rat):V2:=⟨v.x*k,v.y*k⟩
def V2.dot(v w:V2):Rat:=v.x*w.x+v.y*w.y
def V2.aX(v w:V2):Rat:=v.x*w.y-v.y*w.x
theorem eB{k l:Nat}{v w:V2}(h:aS k v)(a:aS l w):aS (k+l+1) (v.sub w):=⟨gl h.1 a.1,gl h.2 a.2⟩
theorem JI{k l:Nat}{v w:V2}(h:aS k v)(a:aS l w):aS (k+l+1) (v.add w):=⟨jK h.1 a.1,jK h.2 a.2⟩
theorem cR{k l:Nat}{v w:V2}(h:aS k v)(a:aS l w):aL (k+l+(k+l)+1) (v.dot w):=jK (bh h.1 a.1) (bh h.2 a.2)
theorem lB{k l:Nat}{v w:V2}(h:aS k v)(a:aS l w):aL (k+l+(k+l)+1) (v.aX w):=gl (bh h.1 a.2) (bh h.2 a.1)
theorem yP{k l:Nat}{v:V2}{a:Rat}(h:aS k v)(b:aL l a):aS (k+l) (v.mul a):=⟨bh h.1 b,bh h.2 b⟩
def kQ:Nat:=20000
theorem dF{q:Rat}(h:aL kQ q):aL kB q:=h.mono d_
theorem lj(v w:V2)(a:aS kQ v)(b:aS kQ w):al prog 106 [eV v,eV w] (eV (v.sub w)):=by
 have c:=mB v.x w.x (dF a.1) (dF b.1);have d:=mB v.y w.y (dF a.2) (dF b.2);refine gA_ nf func106 mix ?_;rw[V2.sub,sF];simp(maxDischargeDepth:=99) [f106,aa,e2 c,e2 d]
theorem sJ(v w:V2)(a:aS kQ v)(b:aS kQ w):al prog 196 [eV v,eV w] (.str (aN (v.dot w))):=by
 have c:=ff v.x w.x (dF a.1) (dF b.1);have d:=ff v.y w.y (dF a.2) (dF b.2);have e:=qO (v.x*w.x) (v.y*w.y) ((bh a.1 b.1).mono d_) ((bh a.2 b.2).mono d_);refine gA_ nf func196 mix ?_;rw[V2.dot];simp(maxDischargeDepth:=99) [f196,aa,e2 c,e2 d,e2 e]
theorem yQ(v w:V2)(a:aS kQ v)(b:aS kQ w):al prog 191 [eV v,eV w] (.str (aN (v.aX w))):=by
 have c:=ff v.x w.y (dF a.1) (dF b.2);have d:=ff v.y w.x (dF a.2) (dF b.1);have e:=mB (v.x*w.y) (v.y*w.x) ((bh a.1 b.2).mono d_) ((bh a.2 b.1).mono d_);refine gA_ nf func191 mix ?_;rw[V2.aX];simp(maxDischargeDepth:=99) [f191,aa,e2 c,e2 d,e2 e]
theorem pC(v:V2)(a:aS kQ v):al prog 198 [eV v] (.str (aN (v.dot v))):=by
 refine gA_ nf func198 mix ?_;simp[f198,aa,c2 (sJ v v a a)]
theorem aBP(v w:V2)(a:aS kQ v)(b:aS kQ w):al prog 217 [eV v,eV w] (eV (v.add w)):=by
 have c:=qO v.x w.x (dF a.1) (dF b.1);have d:=qO v.y w.y (dF a.2) (dF b.2);refine gA_ nf func217 mix ?_;rw[V2.add,sF];simp(maxDischargeDepth:=99) [f217,aa,e2 c,e2 d]
theorem JM(v:V2)(a:Rat)(c:aS kQ v)(b:aL kQ a):al prog 117 [eV v,.str (aN a)] (eV (v.mul a)):=by
 have d:=ff v.x a (dF c.1) (dF b);have e:=ff v.y a (dF c.2) (dF b);refine gA_ nf func117 mix ?_;rw[V2.mul,sF];simp(maxDischargeDepth:=99) [f117,aa,e2 d,e2 e]
def bH(r:Int):Rat:=((4*r*r:Int):Rat)
theorem xV{r:Int}(a:0<=r)(b:r<=1000000):0<=4*r*r/\4*r*r<=4000000000000:=by
 have c:=eP a a;have d:=Int.mul_le_mul b b a d_;rw[Int.mul_assoc];omega
theorem my{r:Int}(a:0<=r)(b:r<=1000000):aL 42 (bH r):=by
 have:=xV a b;exact ke o_ d_
theorem D2(r:Int)(a:0<=r)(b:r<=1000000):al prog 204 [.int .i64 r] (.str (aN (bH r))):=by
 have e:=xV a b;have c:=A1 (4*r*r) o_ o_;have w1:dz.wrap (4*r)=4*r:=aU _ o_ o_;have d:dz.wrap (4*r*r)=4*r*r:=aU _ o_ o_;refine gA_ nf func204 mix ?_;rw[bH];simp[f204,w1,d,c1 c]
def bU(r:Int)(w d:V2):Rat:=w.dot d*w.dot d-d.dot d*(w.dot w-bH r)
theorem asS{r:Int}{w d:V2}(c:0<=r)(e:r<=1000000)(b:aS 500 w)(a:aS 500 d):aL 12000 (bU r w d):=by
 refine(gl (bh (cR b a) (cR b a)) (bh (cR a a) (gl (cR b b) (my c e)))).mono d_
theorem HT(r:Int)(w d:V2)(i:0<=r)(j:r<=1000000)(c:aS 500 w)(b:aS 500 d):al prog 197 [.int .i64 r,eV w,eV d] (.str (aN (bU r w d))):=by
 have k:aS kQ w:=c.mono d_;have kd:aS kQ d:=b.mono d_;have a:=cR c b;have f:=cR b b;have h:=cR c c;have g:=my i j;have e:=gl h g;have n:=sJ w d k kd;have p:=ff (w.dot d) (w.dot d) (a.mono d_) (a.mono d_);have s:=pC d kd;have t:=pC w k;have o:=D2 r i j;have l:=mB (w.dot w) (bH r) (h.mono d_) (g.mono d_);have q:=ff (d.dot d) (w.dot w-bH r) (f.mono d_) (e.mono d_);have m:=mB (w.dot d*w.dot d) (d.dot d*(w.dot w-bH r)) ((bh a a).mono d_) ((bh f e).mono d_);refine gA_ nf func197 mix ?_;rw[bU];simp(maxDischargeDepth:=99) [f197,aa,c2 n,e2 p,e1 s,e1 t,e1 o,e2 l,e2 q,e2 m]
def tU(r:Int)(w d:V2):Bool:=decide (0<bE (w.dot d))&&decide (0<bE (bU r w d))
theorem aAU(r:Int)(w d:V2)(c:0<=r)(e:r<=1000000)(b:aS 500 w)(a:aS 500 d):al prog 107 [.int .i64 r,eV w,eV d] (.bool (tU r w d)):=by
 have f:=sJ w d (b.mono d_) (a.mono d_);have g:=mA (w.dot d) ((cR b a).mono d_);have j:=HT r w d c e b a;have i:=mA (bU r w d) ((asS c e b a).mono d_);refine gA_ nf func107 mix ?_;rw[tU];generalize bE (w.dot d)=s1,bE (bU r w d)=s2 at*
 by_cases h:0<s1
 ·simp(maxDischargeDepth:=99) [f107,aa,h,c2 f,c1 g,c3 j,c1 i]
 ·simp(maxDischargeDepth:=99) [f107,aa,h,c2 f,c1 g]
structure S3 where
 a:Rat
 b:Rat
 d:Rat
def eS(s:S3):PV:=.st 65 [.str (aN s.a),.str (aN s.b),.str (aN s.d)]
@[simp] theorem aUH(s:S3):aP (eS s)=.agg 65:=rfl
@[simp] theorem aS3(s:S3):cz (eS s)=[.str (aN s.a),.str (aN s.b),.str (aN s.d)]:=rfl
theorem pS(a b d:Rat):eS ⟨a,b,d⟩=.st 65 [.str (aN a),.str (aN b),.str (aN d)]:=rfl
def uW(r:Int)(w d:V2):S3:=⟨w.dot d/d.dot d,-(d.dot d)⁻¹,bU r w d⟩
theorem ara(r:Int)(w d:V2)(e:0<=r)(f:r<=1000000)(c:aS 500 w)(a:aS 500 d)(hz:d.dot d≠0):al prog 108 [.int .i64 r,eV w,eV d] (eS (uW r w d)):=by
 have b:=cR a a;have i:=pC d (a.mono d_);have g:=sJ w d (c.mono d_) (a.mono d_);have l:=nH (w.dot d) (d.dot d) ((cR c a).mono d_) (b.mono d_) hz;have j:=Gd (d.dot d) (b.mono d_) hz;have h:=vJ (d.dot d)⁻¹ ((lL b).mono d_);have k:=HT r w d e f c a;refine gA_ nf func108 mix ?_;rw[uW,pS];simp(maxDischargeDepth:=99) [f108,aa,c1 i,e2 g,e2 l,e1 j,e1 h,e3 k]
theorem au2:prog.stoodInHeld 32=false:=k_
@[simp] theorem aSx:vR prog 32=true:=k_
def nQ(a b c d:List Nat):Bool:=decide (a=c/\b=d)
@[simp] theorem aSy{a b c d:List Nat}:jz prog 9 32 (.st 31 [.str a,.str b]) (.st 31 [.str c,.str d])=some (nQ a b c d):=by
 have e:=underlying32;have:((a==c)&&((b==d)&&true))=nQ a b c d:=by
  rw[nQ,Bool.eq_iff_iff];simp
 rw[<-this];simp[jz,e,au2,lr,aP]
theorem Mg:al prog 53 [] (eV ⟨0,0⟩):=by
 refine gA_ nf func53 mix ?_;rw[sF,pI];simp[f53,aa]
def gV(p:bS):Int:=if dZ p=0/\p.x=[48]/\p.y=[48]then 6 else dZ p
theorem Zd(p:bS)(e:ku p):al prog 12 [et p] (.int .i64 (gV p)):=by
 have a:=Cq p e;have b:=Mg;rw[sF,pI]at b;refine gA_ nf func12 mix ?_;rw[gV];obtain⟨x,y⟩:=p;simp only[et]at*;generalize dZ ⟨x,y⟩=c at*
 by_cases h:c=0
 ·by_cases hx:x=[48]
  ·by_cases d:y=[48]
   ·simp[f12,aa];refine c1 a ?_;simp[h,aa];refine e0 b ?_;simp[hx,d,nQ,h]
   ·simp[f12,aa];refine c1 a ?_;simp[h,aa];refine e0 b ?_;simp[hx,d,nQ,h]
  ·simp[f12,aa,h,hx,nQ,c1 a,e0 b]
 ·simp[f12,aa,h,c1 a]
theorem HO(p:bS)(D:Nat)(d:ku p)(c:D<=100000):al prog 21 [et p,.int .i64 D] (.bool (fX p.x D&&fX p.y D)):=by
 have a:=En p.x D d.1 c;have b:=En p.y D d.2 c;refine gA_ nf func21 mix ?_;obtain⟨x,y⟩:=p;dsimp only at a b⊢;simp only[et];cases hx:fX x D
 ·rw[hx]at a;simp[f21,aa,c2 a]
 ·rw[hx]at a;simp[f21,aa,c2 a,c2 b]
def il(k:Nat)(s:S3):Prop:=aL k s.a/\aL k s.b/\aL k s.d
theorem il.mono{k l:Nat}{s:S3}(h:il k s)(a:k<=l):il l s:=⟨h.1.mono a,h.2.1.mono a,h.2.2.mono a⟩
def S3.add(s t:S3):S3:=⟨s.a+t.a,s.b+t.b,s.d⟩
def S3.mul(s t:S3):S3:=⟨s.a*t.a+s.b*t.b*s.d,s.a*t.b+t.a*s.b,s.d⟩
def S3.times(x:Rat)(s:S3):S3:=⟨x*s.a,x*s.b,s.d⟩
theorem Bf{k l:Nat}{x:Rat}{s:S3}(hx:aL k x)(hs:il l s):il (k+l) (S3.times x s):=⟨bh hx hs.1,bh hx hs.2.1,hs.2.2.mono o_⟩
theorem aOM{k l:Nat}{s t:S3}(hs:il k s)(a:il l t):il (k+l+(k+l+k)+1) (s.mul t):=
 ⟨jK (bh hs.1 a.1) (bh (bh hs.2.1 a.2.1) hs.2.2),(jK (bh hs.1 a.2.1) (bh a.1 hs.2.1)).mono o_,hs.2.2.mono o_⟩
def kS:Nat:=8000
theorem Em(s t:S3)(hs:il 30000 s)(c:il 30000 t):al prog 211 [eS s,eS t] (eS (s.add t)):=by
 have d:=qO s.a t.a (hs.1.mono d_) (c.1.mono d_);have e:=qO s.b t.b (hs.2.1.mono d_) (c.2.1.mono d_);refine gA_ nf func211 mix ?_;rw[S3.add,pS];simp(maxDischargeDepth:=99) [f211,aa,e2 d,e2 e]
theorem Ix(s t:S3)(hs:il 20000 s)(c:il 20000 t):al prog 210 [eS s,eS t] (eS (s.mul t)):=by
 have e:=ff s.a t.a (hs.1.mono d_) (c.1.mono d_);have f:=ff s.b t.b (hs.2.1.mono d_) (c.2.1.mono d_);have g:=ff (s.b*t.b) s.d ((bh hs.2.1 c.2.1).mono d_) (hs.2.2.mono d_);have h:=qO (s.a*t.a) ((s.b*t.b)*s.d) ((bh hs.1 c.1).mono d_) ((bh (bh hs.2.1 c.2.1) hs.2.2).mono d_);have i:=ff s.a t.b (hs.1.mono d_) (c.2.1.mono d_);have j:=ff t.a s.b (c.1.mono d_) (hs.2.1.mono d_);have k:=qO (s.a*t.b) (t.a*s.b) ((bh hs.1 c.2.1).mono d_) ((bh c.1 hs.2.1).mono d_);refine gA_ nf func210 mix ?_;rw[S3.mul,pS];simp(maxDischargeDepth:=99) [f210,aa,e2 e,e2 f,e2 g,e2 h,e2 i,e2 j,e2 k]
theorem Bg(a b d:List Nat):al prog 271 [.str a,.str b,.str d] (.st 65 [.str a,.str b,.str d]):=by
 refine gA_ nf func271 mix ?_;simp[f271,aa]
theorem vL(x:Rat)(s:S3)(hx:aL 30000 x)(hs:il 30000 s):al prog 212 [.str (aN x),eS s] (eS (S3.times x s)):=by
 have c:=ff x s.a (hx.mono d_) (hs.1.mono d_);have e:=ff x s.b (hx.mono d_) (hs.2.1.mono d_);have f:=Bg (aN (x*s.a)) (aN (x*s.b)) (aN s.d);refine gA_ nf func212 mix ?_;rw[S3.times,pS];simp(maxDischargeDepth:=99) [f212,aa,e2 c,e2 e,e3 f]
structure P4 where
 x:S3
 y:S3
def mc(p:P4):PV:=.st 74 [eS p.x,eS p.y]
@[simp] theorem aUC(p:P4):aP (mc p)=.agg 74:=rfl
@[simp] theorem aSY(p:P4):cz (mc p)=[eS p.x,eS p.y]:=rfl
@[simp] theorem ceS:prog.cellsOf 65=3:=k_
def vX(k:Nat)(p:P4):Prop:=il k p.x/\il k p.y
theorem vX.mono{k l:Nat}{p:P4}(h:vX k p)(a:k<=l):vX l p:=⟨h.1.mono a,h.2.mono a⟩
def P4.dot(v:V2)(p:P4):S3:=(S3.times v.x p.x).add (S3.times v.y p.y)
theorem JH(v:V2)(p:P4)(b:aS 3000 v)(a:vX 3000 p):al prog 209 [eV v,mc p] (eS (P4.dot v p)):=by
 have c:=vL v.x p.x (b.1.mono d_) (a.1.mono d_);have d:=vL v.y p.y (b.2.mono d_) (a.2.mono d_);have e:=Em (S3.times v.x p.x) (S3.times v.y p.y) ((Bf b.1 a.1).mono d_) ((Bf b.2 a.2).mono d_);refine gA_ nf func209 mix ?_;rw[P4.dot];simp(maxDischargeDepth:=99) [f209,aa,e2 c,e2 d,e2 e]
theorem mF(q:Rat):bE q= -1\/bE q=0\/bE q=1:=by
 rw[bE];split
 ·exact .inl rfl
 ·split
  ·exact .inr (.inl rfl)
  ·exact .inr (.inr rfl)
theorem Iy(x y:Rat):cr x y= -1\/cr x y=0\/cr x y=1:=by
 rw[cr];split
 ·exact .inl rfl
 ·split
  ·exact .inr (.inl rfl)
  ·exact .inr (.inr rfl)
theorem mI{a b:Int}(c:a= -1\/a=0\/a=1)(d:b= -1\/b=0\/b=1):a*b= -1\/a*b=0\/a*b=1:=by
 rcases c with rfl|rfl|rfl<;>rcases d with rfl|rfl|rfl<;>simp
theorem mH{a:Int}(b:a= -1\/a=0\/a=1):dz.wrap a=a:=by
 rcases b with rfl|rfl|rfl<;>decide
def jB(a b o:Int):Int:=if 0<=a*b then(if a=0 then b else a)else a*o
def bW(s:S3):Int:=jB (bE s.a) (bE s.b*bE s.d) (cr (s.a*s.a) (s.b*s.b*s.d))
theorem WU{a b o:Int}(c:a= -1\/a=0\/a=1)(d:b= -1\/b=0\/b=1)(e:o= -1\/o=0\/o=1):jB a b o= -1\/jB a b o=0\/jB a b o=1:=by
 rw[jB]
 split
 ·split
  ·exact d
  ·exact c
 ·exact mI c e
theorem yj(s:S3):bW s= -1\/bW s=0\/bW s=1:=WU (mF _) (mI (mF _) (mF _)) (Iy _ _)
theorem B7(s:S3)(e:aL 16600 s.a)(f:aL 13000 s.b)(i:aL 8000 s.d)(u:aL 32000 (s.b*s.b*s.d)):al prog 201 [eS s] (.int .i64 (bW s)):=by
 have l:=mA s.a (e.mono d_);have m:=mA s.b (f.mono d_);have n:=mA s.d (i.mono d_);have p:=ff s.a s.a (e.mono d_) (e.mono d_);have q:=ff s.b s.b (f.mono d_) (f.mono d_);have r:=ff (s.b*s.b) s.d ((bh f f).mono d_) (i.mono d_);have t:=oL (s.a*s.a) (s.b*s.b*s.d) ((bh e e).mono d_) (u.mono d_);have g:=mF s.a;have h:=mI (mF s.b) (mF s.d);have k:=Iy (s.a*s.a) (s.b*s.b*s.d);have w1:=mH h;refine gA_ nf func201 mix ?_;rw[bW];generalize cr (s.a*s.a) (s.b*s.b*s.d)=o,bE s.a=x,bE s.b=y1,bE s.d=y2 at*;have j:=mH (mI g h);have w:=mH (mI g k);simp[f201,aa,-ba];rw[ba];simp[-ba,aa];rw[ba];simp[-ba,aa];refine e1 l ?_;simp[aa];refine e1 m ?_;simp[aa];refine e1 n ?_;simp[aa,w1];generalize y1*y2=y at*;rw[jB]
 by_cases c:0<=x*y
 ·rw[if_pos c]
  by_cases c2:x=0
  ·subst c2;have v:dz.wrap 0=0:=by decide
   simp[v,aa]
  ·rw[if_neg c2];simp[c,c2,j,aa]
 ·rw[if_neg c];simp(maxDischargeDepth:=99) [c,j,aa,w,e2 p,e2 q,e2 r,e2 t]
theorem El(s:S3)(hs:il 8000 s):al prog 201 [eS s] (.int .i64 (bW s)):=B7 s (hs.1.mono d_) (hs.2.1.mono d_) (hs.2.2.mono d_) ((bh (bh hs.2.1 hs.2.1) hs.2.2).mono d_)
namespace Hk
def nq:Nat:=9223372036854775808
def DK:Nat:=1606938044258990275541962092341162602522202993782792835301376
def ue{α:Type}(n:Nat)(f:Nat->α):α:=match n with
 |0=>f 0
 |k+1=>f (k+1)
theorem AD{α:Type}(n:Nat)(f:Nat->α):ue n f=f n:=by cases n<;>rfl
def Ev{α:Type}(z:Int)(f:Int->α):α:=match z with
 | .ofNat n=>ue n fun n=>f (.ofNat n)
 | .negSucc n=>ue n fun n=>f (.negSucc n)
theorem RU{α:Type}(z:Int)(f:Int->α):Ev z f=f z:=by cases z<;>simp[Ev,AD]
def uq:Int->Bool
 | .ofNat n=>j7 n nq
 | .negSucc n=>j7 (n+1) nq
theorem Hq{z:Int}:uq z=true↔z.natAbs<9223372036854775808:=by
 cases z with
 |ofNat n=>simp only[uq,kb,nq];exact Iff.rfl
 |negSucc n=>simp only[uq,kb,nq];exact Iff.rfl
def sN:Int->Int->Bool
 | .ofNat a,.ofNat b=>ip a b
 | .negSucc a,.negSucc b=>ip a b
 |_,_=>false
theorem DS:∀{a b:Int},sN a b=true->a=b
 | .ofNat a,.ofNat b,h=>by simp only[sN]at h;rw[h5 h]
 | .negSucc a,.negSucc b,h=>by simp only[sN]at h;rw[h5 h]
 | .ofNat a,.negSucc b,h=>by simp[sN]at h
 | .negSucc a,.ofNat b,h=>by simp[sN]at h
def yt(z:Int):Option PV:=bif uq z then some (gq z)else bif ip z.natAbs nq then none else some (nj z)
theorem Dp{z:Int}{p:PV}(h:yt z=some p)(m:Bool):eI ⟨z,m⟩=p:=by
 unfold yt at h;rw[lK];rcases hs:uq z with _|_
 ·simp only[hs,cond_false]at h;rcases a:ip z.natAbs nq with _|_
  case true=>rw[a]at h;cases h
  ·have c:¬ip z.natAbs nq=true:=by rw[a];decide
   rw[a,cond_false]at h;simp only[lW]at h;have b:¬z.natAbs<9223372036854775808:=fun h=>by rw[Hq.2 h]at hs;cases hs
   have d:z.natAbs≠9223372036854775808:=fun e=>c (by rw[e];rfl);rw[if_neg,h];simp only[NI.sm,dq,decide_eq_true_eq,dg,not_or,not_and];exact⟨o_,fun h=>by omega⟩
 ·simp only[hs,cond_true,lW]at h;have b:=Hq.1 hs;rw[if_pos,h];simp only[NI.sm,dq,decide_eq_true_eq,dg];exact .inl o_
def BC:List PV->Option (List Nat)
 |[]=>some []
 | .int .u64 (.ofNat x)::r=>match BC r with
  |some l=>some (x::l)
  |none=>none
 |_=>none
theorem Sw:∀{l:List PV}{a:List Nat},BC l=some a->l=a.map fun x:Nat=>PV.int .u64 x
 |[],a,h=>by simp only[BC,lW]at h;subst h;rfl
 |v::r,a,h=>by
  unfold BC at h
  split at h
  ·rename_i e;cases e
  ·rename_i x c e;cases e
   split at h
   ·rename_i l b;simp only[lW]at h;subst h;rw[Sw b];rfl
   ·cases h
  ·cases h
def wu:List Nat->List Nat->Bool
 |[],[]=>true
 |x::a,y::b=>bif ip x y then wu a b else false
 |_,_=>false
theorem Hm:∀{a b:List Nat},wu a b=true->a=b
 |[],[],_=>rfl
 |[],_::_,h=>by simp[wu]at h
 |_::_,[],h=>by simp[wu]at h
 |x::a,y::b,h=>by
  simp only[wu,dl]at h
  split at h
  ·rename_i hx;rw[h5 hx,Hm h]
  ·cases h
def Et:PV->Option Int
 | .st u [.int .i64 z,.aM]=>bif ip u 98 then(bif uq z then some z else none)else none
 | .st u [.int .i64 s,.seq l]=>match BC l with
  |some a=>ue (kJ wB a) fun n=>bif ip u 98&&(j7 nq n&&wu (aw wB n) a)then
   (bif sN s 1 then some (.ofNat n)else bif sN s (-1)then some (.negSucc (n-1))else none)else none
  |none=>none
 |_=>none
theorem RX{p:PV}{z:Int}(h:Et p=some z):p=eI ⟨z,false⟩:=by
 unfold Et at h
 split at h
 ·rename_i u y;simp only[dl]at h
  split at h
  ·rename_i f
   split at h
   ·rename_i hs;simp only[lW]at h;subst h;rw[h5 f];exact(Dp (by rw[yt,hs];rfl) false).symm
   ·cases h
  ·cases h
 ·rename_i u s l
  split at h
  ·rename_i g hn;rw[AD]at h;have e:=Sw hn;generalize kJ wB g=n at h;simp only[dl]at h
   split at h
   ·rename_i hc;simp only[dg,kb]at hc;obtain⟨b,i,c⟩:=hc;have d:=Hm c;have j:nq=9223372036854775808:=rfl;rw[h5 b,e,<-d];have key:∀z:Int,z.natAbs=n->eI ⟨z,false⟩=nj z:=fun z hz=>by
     refine Dp ?_ false;have e1:uq z=false:=by
      rcases a:uq z with _|_
      ·rfl
      ·have:=Hq.1 a;omega
     have e2:ip z.natAbs nq=false:=by
      rcases a:ip z.natAbs nq with _|_
      ·rfl
      ·have:=h5 a;omega
     rw[yt,e1,e2];rfl
    split at h
    ·rename_i hs;simp only[lW]at h;subst h;rw[DS hs,key _ rfl,nj,if_neg (by show¬((n:Int)<0);omega)];rfl
    ·split at h
     ·rename_i hs;simp only[lW]at h;subst h;rw[DS hs,key _ (by show n-1+1=n;omega),nj,if_pos o_];have:(e8 (n-1)).natAbs=n:=by show n-1+1=n;omega
      rw[this];rfl
     ·cases h
   ·cases h
  ·cases h
 ·cases h
def Jg(n:Int)(d:Nat):Bool:=j7 0 d&&(j7 n.natAbs DK&&(j7 d DK&&ip (i4 n.natAbs d) 1))
def ud:PV->Option (Int×Nat)
 | .st u [a,b]=>match Et a,Et b with
  |some n,some (.ofNat d)=>bif ip u 100&&Jg n d then some (n,d)else none
  |_,_=>none
 |_=>none
def fr(n:Int)(d:Nat):NF:=⟨l1 n d,false⟩
theorem arH:DK=2^200:=d_
theorem Hr{p:PV}{n:Int}{d:Nat}(h:ud p=some (n,d)):p=eF (fr n d)/\d≠0/\aL kB (fr n d).q:=by
 unfold ud at h
 split at h
 case h_2=>cases h
 rename_i u a b
 split at h
 case h_2=>cases h
 rename_i c d' g i;simp only[dl]at h
 split at h
 case isFalse=>cases h
 rename_i hc;simp only[lW,Prod.mk.injEq]at h;obtain⟨rfl,rfl⟩:=h;simp only[Jg,dg,kb]at hc;obtain⟨c1,c2,c3,c4,c5⟩:=hc;have f:=h5 c5;have e:d'≠0:=o_
 obtain⟨e1,e2⟩:=o9 (n:=c) e;rw[f]at e1 e2;simp only[e9,fl,i8]at e1 e2;rw[arH]at c3 c4;refine⟨?_,e,(Dv e c3 c4).mono d_⟩;rw[h5 c1,RX g,RX i,eF];have g1:(fr c d').num=⟨c,false⟩:=by rw[NF.num,fr,e1]
 have g2:(fr c d').den=⟨(d':Int),false⟩:=by rw[NF.den,fr,e2];rfl
 rw[g1,g2];rfl
def qQ(n:Int)(d:Nat):Option PV:=
 ue (i4 n.natAbs d) fun g=>Ev (n/g) fun n=>ue (d/g) fun d=>match yt n,yt (.ofNat d)with
  |some a,some b=>some (.st 100 [a,b])
  |_,_=>none
theorem tI{n:Int}{d:Nat}{p:PV}(f:d≠0)(h:qQ n d=some p)(m:Bool):p=eF ⟨l1 n d,m⟩:=by
 obtain⟨e1,e2⟩:=o9 (n:=n) f;simp only[qQ,AD,RU]at h
 split at h
 case h_2=>cases h
 rename_i a b c e;simp only[lW]at h;subst h;rw[eF];have g1:(NF.num ⟨l1 n d,m⟩)=⟨n/(i4 n.natAbs d:Nat),m⟩:=by rw[NF.num,e1]
 have g2:(NF.den ⟨l1 n d,m⟩)=⟨((d/i4 n.natAbs d:Nat):Int),false⟩:=by rw[NF.den,e2];rfl
 rw[g1,g2,Dp c,<-Dp e false];rfl
def two(op:Int->Nat->Int->Nat->Option PV)(a b:PV):Option PV:=match ud a,ud b with
 |some (n,d),some (m,e)=>op n d m e
 |_,_=>none
theorem AH{op:Int->Nat->Int->Nat->Option PV}{a b p:PV}(h:two op a b=some p):
 ∃n d m e,a=eF (fr n d)/\b=eF (fr m e)/\d≠0/\e≠0/\aL kB (fr n d).q/\aL kB (fr m e).q/\op n d m e=some p:=by
 unfold two at h
 split at h
 case h_2=>cases h
 rename_i n d m e j k;obtain⟨c,a2,a3⟩:=Hr j;obtain⟨f,g,i⟩:=Hr k;exact⟨n,d,m,e,c,f,a2,g,a3,i,h⟩
def VN(n:Int)(d:Nat)(m:Int)(e:Nat):Option PV:=qQ (n*e+m*d) (d*e)
def VP(n:Int)(d:Nat)(m:Int)(e:Nat):Option PV:=qQ (n*e-m*d) (d*e)
def VO(n:Int)(d:Nat)(m:Int)(e:Nat):Option PV:=qQ (n*m) (d*e)
def ES:Int->Int
 | .ofNat n=>bif ip n 0 then 0 else 1
 | .negSucc _=>-1
theorem Rq(z:Int):ES z=if z<0 then -1 else if z=0 then 0 else 1:=by
 cases z with
 |ofNat n=>
  rw[if_neg s_];cases n with
  |zero=>rfl
  |succ n=>rw[if_neg (by simp;omega)];rfl
 |negSucc n=>rw[if_pos o_];rfl
def Jf(n:Int)(d:Nat)(m:Int)(e:Nat):Option PV:=some (.int .i64 (ES (n*e-m*d)))
def EI(n:Int)(d:Nat)(m:Int)(e:Nat):Option PV:=match m with
 | .ofNat k=>bif ip k 0 then none else qQ (n*e) (d*k)
 | .negSucc k=>qQ (-(n*e)) (d*(k+1))
theorem yo{d:Nat}(h:d≠0):(d:Int)≠0:=o_
theorem aKR{n m:Int}{d e:Nat}{p:PV}(a:d≠0)(b:e≠0)(h:VN n d m e=some p):p=eF ((fr n d).add (fr m e)):=by
 rw[NF.add,fr,fr];dsimp only;rw[mb _ _ (yo a) (yo b)];have:=tI (j4 a b) h;rw[ei]at this;exact this _
theorem aKU{n m:Int}{d e:Nat}{p:PV}(a:d≠0)(b:e≠0)(h:VP n d m e=some p):p=eF ((fr n d).sub (fr m e)):=by
 rw[NF.sub,NF.add,NF.neg,fr,fr];dsimp only;rw[ms,mb _ _ (yo a) (yo b)];have:=tI (j4 a b) h;rw[ei]at this;rw[fv,<-Int.sub_eq_add_neg];exact this _
theorem aKT{n m:Int}{d e:Nat}{p:PV}(a:d≠0)(b:e≠0)(h:VO n d m e=some p):p=eF ((fr n d).mul (fr m e)):=by
 rw[NF.mul,fr,fr];dsimp only;rw[l3];have:=tI (j4 a b) h;rw[ei]at this;exact this _
theorem avy(x y:Rat):cr x y=if x-y<0 then -1 else if x-y=0 then 0 else 1:=by
 have b:x-y<0↔x<y:=by
  constructor
  ·intro h;have a:=(md (c:=y)).2 h
   rwa [l2,l5]at a
  ·intro h;refine(md (c:=y)).1 ?_
   rwa [l2,l5]
 have a:x-y=0↔x=y:=by
  constructor
  ·intro h;have d:=congrArg (·+y) h
   simpa[l2,l5]using d
  ·intro h;rw[h,m1]
 simp only[cr,b,a]
theorem GH(n:Int){d:Nat}(i:d≠0):(if l1 n d<0 then(-1:Int)else if l1 n d=0 then 0 else 1)=ES n:=by
 rw[H6,Rq];obtain⟨e1,-⟩:=o9 (n:=n) i;have k:0<i4 n.natAbs d:=j3 _ o_;have j:((i4 n.natAbs d:Nat):Int)∣n:=by
  rw[ew];exact kp _ _
 obtain⟨c,hc⟩:=j;rw[e1];generalize i4 n.natAbs d=g at*;have a:(0:Int)<g:=o_
 subst hc;rw[eq _ o_];have b:(g:Int)*c<0↔c<0:=by
  constructor
  ·intro h;refine Int.not_le.1 fun f=>?_;have:=eP (ey a) f;omega
  ·intro h;exact e7 a h
 have e:(g:Int)*c=0↔c=0:=by
  rw[Int.mul_eq_zero];constructor
  ·rintro(h|h)
   ·omega
   ·exact h
  ·exact fun h=>.inr h
 simp only[b,e]
theorem aKS{n m:Int}{d e:Nat}{p:PV}(a:d≠0)(b:e≠0)(h:Jf n d m e=some p):p=.int .i64 (cr (fr n d).q (fr m e).q):=by
 simp only[Jf,lW]at h;rw[<-h,avy,fr,fr];dsimp only;rw[Rat.divInt_sub_divInt _ _ (yo a) (yo b),<-ei,GH _ (j4 a b)]
theorem Tb{n m:Int}{d e:Nat}{p:PV}(a:d≠0)(b:e≠0)(h:EI n d m e=some p):p=eF ((fr n d).div (fr m e))/\(fr m e).q≠0:=by
 have hz:m≠0->(fr m e).q≠0:=fun f hq=>by
  rw[fr]at hq;dsimp only at hq;have:=GH m b;rw[hq,if_neg d_,if_pos rfl,Rq]at this
  split at this
  ·omega
  ·first
     |omega
     |(rw[if_neg f]at this;omega)
 rw[NF.div,fr,fr];dsimp only;unfold EI at h;cases m with
 |ofNat k=>
  simp only[dl]at h
  split at h
  ·cases h
  ·rename_i hk;have c:k≠0:=fun e=>hk (by rw[e];rfl);have:=tI (j4 a c) h;refine⟨?_,hz (by show(k:Int)≠0;omega)⟩;have e:(l1 n d:Rat)/l1 (Int.ofNat k) e=l1 (n*e) (d*k):=by
    rw[l4,mx,l3];rfl
   rw[e];rw[ei]at this;exact this _
 |negSucc k=>
  dsimp only at h;have:=tI (j4 a (Nat.succ_ne_zero k)) h;refine⟨?_,hz o_⟩;have e:(l1 n d:Rat)/l1 (e8 k) e=l1 (-(n*e)) ((d:Int)*((k+1:Nat):Int)):=by
   rw[l4,mx,l3];rw[show e8 k= -((k+1:Nat):Int)from rfl,fw];rw[Rat.divInt_neg']
  rw[e];rw[ei]at this;exact this _
def EG:Nat->Nat->Nat
 |0,_=>0
 |f+1,n=>bif ip n 0 then 0 else EG f (n/10)+1
theorem aAK{a b:Nat}(h:a<b):j7 a b=true:=by rw[kb];exact h
theorem Ep{a b:Nat}(h:j7 a b=true):a<b:=by rw[kb]at h;exact h
theorem S6:∀(f n:Nat),n<10^f->EG f n=nd n
 |0,n,h=>by
  have:n=0:=by simpa using h
  subst this;rw[nd];rfl
 |f+1,n,h=>by
  rw[EG,nd]
  by_cases a:n=0
  ·subst a;rfl
  ·have b:ip n 0=false:=by
    rcases c:ip n 0 with _|_
    ·rfl
    ·exact(a (h5 c)).elim
   rw[b,cond_false,dif_neg a,S6 f (n/10) (by rw[h8 o_];rw[h7]at h;exact h)]
def yI(n:Nat):List Nat:=ue (EG 80 n) fun k=>bif j7 1 k then low k n else low 1 n
theorem DX{n:Nat}(h:n<10^80):yI n=bn n:=by
 rw[yI,AD,S6 _ _ h,bn];rcases a:j7 1 (nd n)with _|_
 ·have:¬1<nd n:=fun b=>by rw[aAK b]at a;cases a
  rw[cond_false,Nat.max_eq_left o_]
 ·have:1<nd n:=Ep a;rw[cond_true,Nat.max_eq_right o_]
def Jv:Int->List Nat
 | .ofNat n=>yI n
 | .negSucc n=>45::yI (n+1)
theorem aQN{z:Int}(h:z.natAbs<10^80):Jv z=b6 z:=by
 cases z with
 |ofNat n=>rw[b6,if_neg (by show¬((n:Int)<0);omega)];exact DX h
 |negSucc n=>rw[b6,if_pos o_];exact congrArg (45::·) (DX h)
def Ju(n:Int)(d:Nat):List Nat:=bif ip d 1 then Jv n else Jv n++47::yI d
theorem QJ{n:Int}{d:Nat}(a:d≠0)(b:i4 n.natAbs d=1):(fr n d).q.num=n/\(fr n d).q.den=d:=by
 obtain⟨e1,e2⟩:=o9 (n:=n) a;rw[b]at e1 e2;simp only[e9,fl,i8]at e1 e2;exact⟨e1,e2⟩
theorem QO{p:PV}{n:Int}{d:Nat}(h:ud p=some (n,d)):i4 n.natAbs d=1/\n.natAbs<10^80/\d<10^80:=by
 unfold ud at h
 split at h
 case h_2=>cases h
 split at h
 case h_2=>cases h
 simp only[dl]at h
 split at h
 case isFalse=>cases h
 rename_i hc;simp only[lW,Prod.mk.injEq]at h;obtain⟨rfl,rfl⟩:=h;simp only[Jg,dg,kb]at hc;obtain⟨c1,c2,c3,c4,c5⟩:=hc;have a:DK<10^80:=d_
 exact⟨h5 c5,o_,o_⟩
theorem aQM{p:PV}{n:Int}{d:Nat}(h:ud p=some (n,d))(f:d≠0):Ju n d=aN (fr n d).q:=by
 obtain⟨g,b,c⟩:=QO h;obtain⟨e1,e2⟩:=QJ f g;rw[Ju,aN,e1,e2,aQN b,DX c];rcases a:ip d 1 with _|_
 ·rw[cond_false,if_neg (fun e=>by rw[e]at a;cases a)]
 ·rw[cond_true,if_pos (h5 a)]
def tZ:List Nat->Nat->Bool
 |[],_=>true
 |c::r,f=>match f with
  |0=>false
  |f+1=>bif j7 c 256 then tZ r f else false
theorem AO:∀{s:List Nat}{f:Nat},tZ s f=true->s.length<=f/\∀c∈s,c<256
 |[],_,_=>⟨i9 _,fun c hc=>by cases hc⟩
 |c::r,0,h=>by simp[tZ]at h
 |c::r,f+1,h=>by
  simp only[tZ,dl]at h
  split at h
  ·rename_i hc;obtain⟨b,a⟩:=AO h;refine⟨by simp;omega,fun x hx=>?_⟩;rcases hg.1 hx with rfl|hx
   ·exact Ep hc
   ·exact a x hx
  ·cases h
def VE(z:Int):Bool:=match z with
 | .ofNat n=>ip n 0
 |_=>false
theorem aN5{z:Int}(h:VE z=true):z=0:=by
 cases z with
 |ofNat n=>rw[h5 (show ip n 0=true from h)];rfl
 |negSucc n=>cases h
def IH(n:Int)(d:Nat):Option PV:=bif ip d 0 then none else qQ n d
theorem aLN{n:Int}{d:Nat}{p:PV}(h:IH n d=some p)(m:Bool):p=eF ⟨l1 n d,m⟩:=by
 unfold IH at h;rcases a:ip d 0 with _|_
 ·rw[a]at h;exact tI (fun e=>by rw[e]at a;cases a) h m
 ·rw[a]at h;cases h
def II(s:List Nat):Option PV:=bif VE (cm s)&&tZ s 1000 then
 Ev (if cE s=true then -(br (bR s):Int)else br (bR s)) fun n=>ue (if fG s=true then br (b7 s)else 1) fun d=>IH n d else none
theorem aLO{s:List Nat}{p:PV}(h:II s=some p):p=eF ⟨aO s,false⟩/\cm s=0/\s.length<=1048576:=by
 unfold II at h;simp only[dl,RU,AD]at h
 split at h
 case isFalse=>cases h
 rename_i hc;rw[dg]at hc;obtain⟨c1,c2⟩:=hc;obtain⟨a,b⟩:=AO c2;refine⟨?_,aN5 c1,o_⟩;rw[aO];exact aLN h false
def UB:Int->Bool
 | .ofNat n=>j7 n nq
 | .negSucc n=>j7 n nq
theorem aMt{z:Int}(h:UB z=true):-9223372036854775808<=z/\z<=9223372036854775807:=by
 cases z with
 |ofNat n=>have:n<9223372036854775808:=Ep h;refine⟨?_,?_⟩<;>show _<=_<;>simp only[Int.ofNat_eq_natCast]<;>omega
 |negSucc n=>have:n<9223372036854775808:=Ep h;omega
def Ji(f:Nat)(a:PV):Option PV:=match a with
 | .int .i64 z=>bif ip f 87&&UB z then qQ z 1 else none
 | .str s=>bif ip f 104 then II s else bif ip f 245&&tZ s 1000 then some (.int .i64 (cm s))else none
 | .st u [.str x,.str y]=>bif ip f 66&&(ip u 31&&(tZ x 1000&&tZ y 1000))then some (.int .i64 (dZ ⟨x,y⟩))else none
 | .st u [c,e]=>match ud (.st u [c,e])with
  |some (n,d)=>bif ip f 137 then qQ (-n) d else
   bif ip f 144 then some (.int .i64 (ES n))else
   bif ip f 136 then EI 1 1 n d else
   bif ip f 138 then some (.str (Ju n d))else
   bif ip f 82 then some (.bool false)else none
  |none=>none
 |_=>none
def yH(f:Nat)(a b:PV):Option PV:=
 bif ip f 160 then two VN a b else
 bif ip f 140 then two VP a b else
 bif ip f 143 then two VO a b else
 bif ip f 88 then two EI a b else
 bif ip f 69 then two Jf a b else none
def hk(f:Nat):List PV->Option PV
 |[a]=>Ji f a
 |[a,b]=>yH f a b
 |_=>none
theorem Um(z:Int):l1 z ((1:Nat):Int)=(z:Rat):=by
 rw[show((1:Nat):Int)=1 from rfl,Rat.divInt_eq_div];rw[show((1:Int):Rat)=1 from rfl,l4,show(1:Rat)⁻¹=1 from by decide+kernel,Rat.mul_one]
theorem bq{a b:Nat}(h:ip a b=true):a=b:=h5 h
theorem aOU{f:Nat}{a v:PV}(h:Ji f a=some v):al prog f [a] v:=by
 unfold Ji at h
 split at h
 ·rename_i z;simp only[dl]at h
  split at h
  ·rename_i hc;rw[dg]at hc;obtain⟨r1,t⟩:=aMt hc.2;rw[bq hc.1,tI d_ h true];have:=jx z r1 t;rw[NF.int]at this;rw[Um];exact this
  ·cases h
 ·rename_i s;simp only[dl]at h
  split at h
  ·rename_i hf;obtain⟨e1,e2,e3⟩:=aLO h;rw[bq hf,e1];exact mE s e2 e3
  ·split at h
   ·rename_i hc;rw[dg]at hc;obtain⟨j,b⟩:=AO hc.2;simp only[lW]at h;subst h;rw[bq hc.1];exact D1 s o_ b
   ·cases h
 ·rename_i u x y;simp only[dl]at h
  split at h
  ·rename_i hc;simp only[dg]at hc;obtain⟨c1,c2,c3,c4⟩:=hc;obtain⟨j,b⟩:=AO c3;obtain⟨w,o⟩:=AO c4;simp only[lW]at h;subst h;rw[bq c1,bq c2];exact Cl ⟨x,y⟩ ⟨⟨by show x.length<=_;omega,b⟩,⟨by show y.length<=_;omega,o⟩⟩
  ·cases h
 ·rename_i u c e _
  split at h
  case h_2=>cases h
  rename_i n d l;obtain⟨r,g,i⟩:=Hr l;rw[r];simp only[dl]at h
  split at h
  ·rename_i hf;rw[bq hf,tI g h false,<-ms];exact pN _ i
  split at h
  ·rename_i hf;simp only[lW]at h;subst h;rw[bq hf,<-GH n g];exact mC _
  split at h
  ·rename_i hf;obtain⟨e1,e2⟩:=Tb d_ g h;have e3:(fr 1 1).div (fr n d)=(fr n d).inv:=by
    rw[NF.div,NF.inv,fr,fr];dsimp only;rw[Um,l4];rw[show((1:Int):Rat)=1 from rfl,Rat.one_mul]
   rw[bq hf,e1,e3];exact xX _ i e2
  split at h
  ·rename_i hf;simp only[lW]at h;subst h;rw[bq hf,aQM l g];exact aDM _ i
  split at h
  ·rename_i hf;simp only[lW]at h;subst h;rw[bq hf];have m:=aBn _ i;obtain⟨p,j,b⟩:=QO l;obtain⟨e1,e2⟩:=QJ g p;have hn:∀k,k<10^80->pV k=false:=fun k hk=>by
    rw[pV,decide_eq_false_iff_not];have A:nd k<=80:=Nat.not_lt.1 fun q=>by have:=(qN _ _).1 q;omega
    rw[tA];omega
   rw[Ja,e1,e2,hn _ j,hn _ b]at m;exact m
  ·cases h
 ·cases h
theorem aQI{f:Nat}{a b v:PV}(h:yH f a b=some v):al prog f [a,b] v:=by
 unfold yH at h;simp only[dl]at h
 split at h
 ·rename_i hf;obtain⟨n,d,m,e,rfl,rfl,c,g,j,k,i⟩:=AH h;rw[bq hf,aKR c g i];exact pP _ _ j k
 split at h
 ·rename_i hf;obtain⟨n,d,m,e,rfl,rfl,c,g,j,k,i⟩:=AH h;rw[bq hf,aKU c g i];exact nW _ _ j k
 split at h
 ·rename_i hf;obtain⟨n,d,m,e,rfl,rfl,c,g,j,k,i⟩:=AH h;rw[bq hf,aKT c g i];exact fF _ _ j k
 split at h
 ·rename_i hf;obtain⟨n,d,m,e,rfl,rfl,c,g,j,k,i⟩:=AH h;obtain⟨e1,e2⟩:=Tb c g i;rw[bq hf,e1];exact yl _ _ j k e2
 split at h
 ·rename_i hf;obtain⟨n,d,m,e,rfl,rfl,c,g,j,k,i⟩:=AH h;rw[bq hf,aKS c g i];exact nX _ _ j k
 ·cases h
theorem aMp{f:Nat}{vs:List PV}{v:PV}(h:hk f vs=some v):al prog f vs v:=by
 unfold hk at h
 split at h
 ·exact aOU h
 ·exact aQI h
 ·cases h
end Hk
end Go.ae
