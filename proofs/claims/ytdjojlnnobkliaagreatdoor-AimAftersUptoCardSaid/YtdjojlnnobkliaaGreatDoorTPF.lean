import Derived.Test.YtdjojlnnobkliaaGreatDoorTPE
import Derived.Test.YtdjojlnnobkliaaGreatDoorTThC
import Derived.Lib.AtoiAll
import Derived.Test.YtdjojlnnobkliaaGreatDoorTPC
/- Parts of a proof. -/
set_option maxRecDepth 100000
set_option maxHeartbeats 4000000
set_option linter.unusedSimpArgs false
set_option linter.unusedVariables false
set_option linter.unusedSectionVars false
open Go.Proofs.Tryz
open Bool renaming and_eq_true->dg, cond_eq_ite->dl, false_eq_true->dp, or_eq_true->dq
open Go renaming FuncId->dx, DataW->dy
open Go.IntKind renaming i64->dz
open Int renaming natAbs_natCast->ea, natCast_nonneg->eb, tdiv_eq_ediv_of_nonneg->ec, tmod_eq_emod_of_nonneg->ed, ofNat_natAbs_of_nonpos->ee, natCast_mul->ei, natCast_ediv->ej, natCast_emod->em, natAbs_of_nonneg->eo, mul_ediv_cancel_left->eq, natAbs_mul->er, ofNat_dvd_left->ew, le_of_lt->ey, natAbs_neg->eM, mul_nonneg->eP, mul_neg_of_pos_of_neg->e7, negSucc->e8, natCast_one->e9, natCast_add->fb, sub_self->fd, lt_or_le->fl, ediv_one->fm, neg_neg->fv, neg_mul->fw, mul_neg->gb
open List renaming getElem?_eq_getElem->gc, take_of_length_le->ge, length_pos_iff->gg, range->gi, replicate->gj, all_eq_true->gm, map_cons->gt, take->gx, length_take->gy, getElem_mem->g0, length_append->g4, length_singleton->g5, drop_eq_getElem_cons->g6, take_succ_eq_append_getElem->g7, map_take->g8, getElem_range->g9, take_append_drop->ha, getElem_map->hb, append_nil->hd, getElem?_map->hg, mem_cons->hj, length_drop->hl, ext_getElem->ho, mem_map->hp, getElem?_range->ht, map_nil->hu, reverse_nil->hv, length_cons->hw, length->hA, length_map->hB, foldl_cons->hC, take_take->hD, all_cons->hE, map_map->hF, dropWhile_sublist->hG, map->hH, map_congr_left->hJ, getElem_of_mem->hK, flatten_append->hL, dropWhile_cons->hM, mem_singleton->hN, getElem_of_eq->hO, take_length->hP, getElem_set->hQ, flatten_nil->hR, drop->hS, range_succ->hT, nil_append->hU, mem_append->hV, map_append->hW, range_one->hX, mem_range->hZ
open Nat renaming pow_le_pow_right->h0, lt_of_lt_of_le->h2, mul_comm->h3, le_trans->h4, lt_of_le_of_lt->h5, eq_of_beq_eq_true->h6, mul_le_mul_right->h7, pow_succ->h8, div_lt_iff_lt_mul->h9, mod_eq_of_lt->ih, lt_or_ge->ii, div_div_eq_div_mul->ik, le_refl->ip, beq->ix, div_add_mod->iz, pow_pos->iA, mul_assoc->iB, mod_lt->i0, lt_trans->i1, div_eq_of_lt->i2, pow_zero->i3, gcd->i4, add_mul->i5, add_sub_cancel->i6, pow_add->i7, div_one->i8, zero_le->i9, one_mul->jp, mul_add->js, mul_lt_mul''->j1, add_comm->j2, gcd_pos_of_pos_right->j3, mul_ne_zero->j4, div_le_self->j5, div_pos->j6, blt->j7, div_mul_le_self->j8, mul_lt_mul_of_pos_right->j9, blt_eq->kb, add_mul_mod_self_left->kc, pow_one->kd, pow_mul->kf, le_mul_of_pos_right->kh, gcd_le_right->kk, gcd_dvd_left->km, add_sub_cancel_left->ko, mul_le_mul->kp, pow_le_pow_left->kv, mul_le_mul_left->kw, mul_right_comm->kx, mod_mod_of_dvd->kA, gcd_comm->kC, lt_of_not_le->kF, mul_one->kH, pow_dvd_pow->kL, min_eq_left->kO, div_lt_self->kP, sub_le->kX, add_mul_mod_self_right->la, add_assoc->lb, le_of_lt->lc, le_mul_of_pos_left->le, le_div_iff_mul_le->li, add_le_add_right->lk, div_eq_of_lt_le->ll, gcd_zero_right->lm, eq_zero_or_pos->lq, mul_zero->ls, sub_mul->lt, mul_pos->lu, mod_one->lv, gcd_rec->lw, mod_le->lx
open Option.some renaming injEq->lz, inj->l0
open Rat renaming divInt->l1, sub_add_cancel->l2, divInt_mul_divInt->l3, div_def->l4, zero_add->l5, divInt_add_divInt->mb, add_lt_add_right->md, neg_divInt_neg->me, num_intCast->mm, den_intCast->mo, neg_divInt->mp, inv_divInt->ms, sub_self->mx, neg_num->m1, not_le->m2
open UInt8 renaming ofNat->m3
namespace Go.ag
open Go.Proofs
set_option linter.unusedSectionVars false
theorem Fi:dS prog 358=some [1,1]:=k_
section
variable{w:World}{ad ai:Nat->Prop}{β:Bd}{H:al}
theorem X8{au:Nat}{c0 c1 v:Value}{T:TypeId}(h:w.heap[au]?=some (.cells #[c0,c1] T (0,0))):w.setCell ⟨au,0,none⟩ v=w.setRow au #[v,c1]:=by
 obtain⟨d,a⟩:=Array.getElem?_eq_some_iff.1 h;unfold World.setCell World.setRow;congr 1;apply Array.ext
 ·simp
 ·intro i b c;simp only[Array.getElem_modify]
  by_cases hi:au=i
  ·subst hi;simp[a]
  ·simp[hi]
theorem Xz{t x:AV}{cs:Array Value}(g:t=jv 358 [.p .eO,x]\/t=.st 358 [.p .eO,x])(h:bC prog w ad β H t cs.toList):∃y,cs=#[.pointer none,y]/\bC prog w ad β H x [y]:=by
 have a:bC prog w ad β H (.st 358 [.p .eO,x]) cs.toList:=by
  rcases g with rfl|rfl
  ·exact QB.1 h
  ·exact h
 simp only[bC,Fi,lz]at a;obtain⟨l,k,rfl,b,d⟩:=a;simp only[bX,bC,bd]at b;obtain⟨c,i,rfl,rfl,_,c2,j,rfl,e,f,rfl⟩:=b
 match c2,f with
 |[y],_=>exact⟨y,Array.ext' (by simpa using d),e⟩
theorem Xs{b:Nat}{x:AV}{cs:Array Value}(h:bC prog w ad β H (.st 358 [.ptr b [],x]) cs.toList):∃v y,cs=#[v,y]/\bY prog β H (.ptr b []) v:=by
 simp only[bC,Fi,lz]at h;obtain⟨l,j,rfl,a,d⟩:=h;simp only[bX,bC]at a;obtain⟨c,g,rfl,⟨v,rfl,f⟩,_,c2,i,rfl,k,e,rfl⟩:=a
 match c2,e with
 |[y],_=>exact⟨v,y,Array.ext' (by simpa using d),f⟩
end
theorem aGA{H:al}{b:Nat}{t x:AV}(f:H[b]?=some (.box false t))(i:t=jv 358 [.p .eO,x]\/t= .st 358 [.p .eO,x]):
 dE prog 341 H [.ptr b []] (H.set b (.box false (.st 358 [.ptr b [],x]))) (.p (.aC [])):=by
 refine⟨mA func341 k_,fun w ad ai β J g j K=>?_⟩;simp only[bH,aB]at j;obtain⟨v,vs,rfl,⟨_,I,L,M,rfl,m,B⟩,rfl⟩:=j;simp only[iv,lz]at m;subst m;obtain⟨rfl,rfl⟩:=B (.inl ⟨false,t,f⟩);obtain⟨cs,T,k1,k2,k3,_,k5⟩:=g.dj b _ f;have F:aa t=.agg 358:=by
  rcases i with rfl|rfl
  ·exact Gr _ _
  ·rfl
 have q:T=359:=by
  rw[F]at k5;exact dX (by simpa[lj,Gl.bx,T3]using k5)
 subst q;obtain⟨y,rfl,G⟩:=Xz i k2;have o:¬ad (β.au b)/\¬ai (β.au b):=by simpa[cS]using k3
 refine(Xm (β.au b) w (by simp[World.cell?,k1]) (by simp[World.shape?,k1]) (by simp[World.frozen?,k1])).mono ?_;rintro e w' ⟨rfl,rfl⟩;rw[X8 k1];have aO:cO β H β (H.set b (.box false (.st 358 [.ptr b [],x]))):=sL f (.inl ⟨_,_,_,_,rfl,rfl⟩);have ar:∀z,aL H z->aL (H.set b (.box false (.st 358 [.ptr b [],x]))) z:=oJ f (fun _ h=>h);have r:b<H.length:=(List.getElem?_eq_some_iff.1 f).1;have u:(H.set b (.box false (.st 358 [.ptr b [],x])))[b]?=some (.box false (.st 358 [.ptr b [],x])):=List.getElem?_set_self r;have n:aF (aL H) x:=by
  have:=g.refs b _ f;rcases i with rfl|rfl
  ·simp only[Obj.refs]at this;unfold jv at this
   split at this
   ·rename_i l d;have d:=oC d
    match l,d with
    |[a,c],d=>simp at d;rw[d.2];simp[aF]
    |[],d=>simp at d
    |[_],d=>simp at d
    |_::_::_::_,d=>simp at d
   ·simp only[aF,ba]at this;exact this.2.1
  ·simp only[Obj.refs,aF,ba]at this;exact this.2.1
 have E:∀k,ad k->(w.setRow (β.au b) #[.pointer (some ⟨β.au b,0,none⟩),y]).heap[k]?=w.heap[k]?:=fun k A=>setRow_other w _ k _ (fun s=>o.1 (s▸A));have D:Obj.refs (aL (H.set b (.box false (.st 358 [.ptr b [],x])))) (.box false (.st 358 [.ptr b [],x])):=by
  simp only[Obj.refs,aF,ba,and_true];exact⟨⟨_,u,trivial⟩,aF.mono ar _ n⟩
 have C:=uq g f trivial (o':=.box false (.st 358 [.ptr b [],x])) trivial (fun _ h=>h) k1 (new:=#[.pointer (some ⟨β.au b,0,none⟩),y]) o aO
  ⟨_,359,setRow_heap w _ _ _ 359 _ k1,by
   simp only[bC,Fi,lz];refine⟨_,[[.pointer (some ⟨β.au b,0,none⟩)],[y]],rfl,?_,rfl⟩;simp only[bX,bC];exact⟨_,_,rfl,⟨_,rfl,⟨rfl,_,_,0,rfl,rfl,fun _=>⟨rfl,rfl⟩⟩⟩,rfl,_,_,rfl,bC.mono (fun _ x=>x) E aO _ _ n G,rfl,rfl⟩,k3,s_,by simp[aa,lj,Gl.bx]⟩ D
 exact⟨_,β,ad,rfl,C,by simp[aB,aE,bG],by simp[aF]⟩
theorem aGD{H:al}{b:Nat}{x:AV}(c:H[b]?=some (.box false (.st 358 [.ptr b [],x]))):dE prog 341 H [.ptr b []] H (.p (.aC [])):=by
 refine⟨mA func341 k_,fun w ad ai β l g f m=>?_⟩;simp only[bH,aB]at f;obtain⟨v,vs,rfl,⟨_,j,n,i,rfl,a,d⟩,rfl⟩:=f;simp only[iv,lz]at a;subst a;obtain⟨rfl,rfl⟩:=d (.inl ⟨false,_,c⟩);obtain⟨cs,T,k1,k2,k3,_,k5⟩:=g.dj b _ c;obtain⟨v,y,rfl,h⟩:=Xs k2;simp only[bY,b7]at h;obtain⟨_,k,o,i,rfl,a,d⟩:=h;simp only[iv,lz]at a;subst a;obtain⟨rfl,rfl⟩:=d (.inl ⟨false,_,c⟩);refine(Xl (β.au b) w (by simp[World.cell?,k1])).mono ?_;rintro e w' ⟨rfl,rfl⟩;exact⟨_,β,ad,rfl,ct.refl g,by simp[aB,aE,bG],by simp[aF]⟩
@[simp] theorem gu8:(Gl.u8:TypeId)=5:=(rfl)
def eL(t:List Nat):List AV:=t.map fun(c:Nat)=>AV.p (.int .u8 (c:Int))
theorem Aa(t:List Nat):(eL t).length=t.length:=by simp[eL]
theorem aRn(a t:List Nat):eL (a++t)=eL a++eL t:=by simp[eL]
theorem Hd:∀t:List Nat,fZ prog 1 (eL t)
 |[]=>by simp[eL,fZ]
 |c::t=>by
  have:=Hd t;simp only[eL,gt]at this⊢;simp[fZ];exact this
theorem Oa:∀(t:List Nat),(∀c∈t,c<256)->bytesOf (eL t)=some t
 |[],_=>rfl
 |c::t,a=>by
  have b:=a c s_;have:=Oa t fun c hc=>a c (by simp[hc]);show bytesOf (.p (.int .u8 (c:Int))::eL t)=some (c::t);rw[bytesOf,if_pos ⟨o_,o_⟩,this];simp
theorem TX(t:List Nat)(a:t≠[])(h:t.length<=1048576):dE prog 302 [.box false (.p (.st 358 [.eO,.aI]))] [.ptr 0 [],.p (.str t)]
 [.box false (.st 358 [.ptr 0 [],.sl 1 0 1 0 t.length]),.arr .bytes 0 1 (eL t)] (.p (.aC [.int .i64 t.length,.iG])):=by
 refine iC nf (i_ func302) mix (by simp[f302]) ?_;simp[f302];refine ci (aGA (b:=0) (t:=.p (.st 358 [.eO,.aI])) (x:=.p .aI) rfl (.inl rfl)) ?_;simp;refine⟨⟨Hd t,by simp only[dH];omega⟩,?_⟩;simp[a,eL]
theorem TY(a t:List Nat)(v n:Nat)(hn:n=a.length)(c:t≠[])(h:t.length<=1048576)(e:a.length<=1048576):dE prog 302 [.box false (.st 358 [.ptr 0 [],.sl 1 v 1 0 n]),.arr .bytes v 1 (eL a)] [.ptr 0 [],.p (.str t)]
 [.box false (.st 358 [.ptr 0 [],.sl 1 (v+1) 1 0 (n+t.length)]),.arr .bytes (v+1) 1 (eL (a++t))] (.p (.aC [.int .i64 t.length,.iG])):=by
 refine iC nf (i_ func302) mix (by simp[f302]) ?_;simp[f302];refine ci (aGD (b:=0) (x:=.sl 1 v 1 0 n) rfl) ?_;simp;refine⟨⟨Hd t,by rw[Aa];omega,by rw[Aa];simp only[dH];omega⟩,?_⟩;have d:gx n (eL a)=eL a:=ge (by rw[Aa];omega);simp[c,d,aRn];exact .inl rfl
theorem aGJ(a:List Nat)(v n:Nat)(hn:n=a.length)(b:a≠[])(f:a.length<=1048576)(d:∀c∈a,c<256):dE prog 303 [.box false (.st 358 [.ptr 0 [],.sl 1 v 1 0 n]),.arr .bytes v 1 (eL a)] [.ptr 0 []]
 [.box false (.st 358 [.ptr 0 [],.sl 1 v 1 0 n]),.dead] (.p (.str a)):=by
 refine iC nf (i_ func303) mix (by simp[f303]) ?_;have e:0<a.length:=gg.2 b;simp[f303];refine aFQ (az:=v) (es:=eL a) rfl rfl (by rw[hn];exact e) (by simp[eL,hn]) ?_;simp;refine aFS (az:=v) (es:=eL a) (l:=a) rfl rfl rfl o_ (by simp[Aa,hn]) o_ rfl ?_ ?_ ?_ ?_
 ·kernel_rfl
 ·kernel_rfl
 ·rw[ge (by rw[Aa];simp[hn])];exact Oa a d
 simp
 repeat' with_reducible refine And.intro ?_ ?_
 all_goals rfl
theorem GF{σ:Nat->Nat}:∀{a b:List AV},dt σ (a++b)=dt σ a++dt σ b
 |[],b=>by simp[dt]
 |x::a,b=>by simp[dt,GF (a:=a)]
theorem Dz:aw wB tB=[tB]:=xP d_ d_
theorem auv(a:NI)(hs:a.sm=true):aq prog 243 [eI a] (.str (bZ a.v)):=by
 refine gA_ nf func243 mix ?_;have r1:=NI.s8 hs;simp[f243,aa,o6 hs,qd hs,et,dB,c1 (aEs a.v r1.1 r1.2)]
theorem Rp{m k A L:Nat}(e:0<m)(h:m*tB^k<=A)(a:A<wB^L):k<64*L:=by
 have b:2^k<=tB^k:=kv d_ k;have c:tB^k<=m*tB^k:=le _ e;rw[show wB=2^64 from rfl,<-kf]at a;have d:2^k<2^(64*L):=h5 (h4 b (h4 c h)) a
 rwa [Nat.pow_lt_pow_iff_right d_]at d
theorem auu(a:NI)(hs:a.sm=false)(V:okW a.v)(ap:(br a.v.natAbs).length<=1000000):aq prog 243 [eI a] (.str (bZ a.v)):=by
 have L:=q9 (eI a) a.v (pc a);have aE:=NI.Dq (a:=a) (by rw[hs];decide);have af:=h2 (cL bB a.v.natAbs) (h0 (show 0<wB by decide) (qZ V));obtain⟨c,cs,w1⟩:=rA hs;refine gA_ nf func243 mix ?_;simp[f243,aa,w1,et,dB];refine c1 L ?_;simp;refine vW (fun s'=>∃b:List (List Nat),lS 0 b=lS a.v.natAbs []/\(∀p∈b,p≠[]/\p.length<=18)/\b≠[]/\b.length<=57600000/\aQ s'.env 3=.p (.bool (decide (a.v<0)))/\aQ s'.env 6=.sl 2 b.length 1 0 b.length/\∃o,s'.heap=[.hole,o,.arr .grow b.length 1 (b.map fun p=>.p (.str p))]) ?_ ?_
 ·refine lp (α:=Nat×List (List Nat)×Bool) (fun x=>⟨[(6,.sl 2 x.2.1.length 1 0 x.2.1.length),(5,.sl 1 0 1 0 1),(4,.p (eN x.1)),(3,.p (.bool (decide (a.v<0))))],[.hole,.arr (if x.2.2=true then .frozen else .exact) 0 1 [.p (.int .u64 1000000000000000000)],.arr .grow x.2.1.length 1 (x.2.1.map fun p=>.p (.str p))]⟩)
   (fun x=>x.1<=a.v.natAbs/\lS x.1 x.2.1=lS a.v.natAbs []/\(∀p∈x.2.1,p≠[]/\p.length<=18)/\x.2.1.length<=57600000/\x.1*tB^x.2.1.length<=a.v.natAbs) (fun x=>x.1) (a.v.natAbs,[],false) ⟨ip _,rfl,s_,s_,s_⟩ ?_
  rintro⟨m,b,f⟩ ⟨k1,k2,k3,k5,k4⟩;dsimp only at k1 k2 k3 k5 k4;rcases f with _|_
  ·simp only[dp,if_false];have au:(aw wB m).length<=900000:=by
    have:=eZ bB _ _ (h5 k1 (cL bB a.v.natAbs));have:=qZ V;omega
   by_cases hm:m=0
   ·subst hm;have X:b≠[]:=by
     rintro rfl;rw[lS,lS,if_pos rfl,if_neg o_]at k2;have:=C4 a.v.natAbs;rw[hv,hR,hd,hd]at k2;rw[<-k2]at this;simp at this
    simp[eN,nD];refine⟨b,k2,k3,X,k5,?_⟩;simp
   ·have d:=GQ m tB d_ o_ (by rw[Dz];decide);have W:aw wB m≠[]:=mt xe.1 hm;have C:0<(aw wB m).length:=gg.2 W;have aO:=Po hm b;have B:∀p∈b++[fJ m],p≠[]/\p.length<=18:=by
     intro p L;rcases hV.1 L with h|h
     ·exact k3 p h
     ·rw[hN.1 h];exact⟨Om m,On m⟩
    have A:m/tB<m:=kP o_ d_;have ax:=Rp (show 0<m by omega) k4 af;have w:m/tB*tB^(b++[fJ m]).length<=a.v.natAbs:=by
     rw[g4,g5,h8,h3 (tB^b.length),<-iB];exact h4 (h7 _ (j8 _ _)) k4
    have y:(b++[fJ m]).length<=57600000:=by rw[g4,g5];omega
    have r:m% tB<tB:=i0 _ d_;have O:m/tB=0->m% tB=m:=fun h=>by have:=iz m tB;rw[h]at this;omega
    simp only[eN]at d⊢;rw[Dz]at d;have N:=xe (n:=m/tB);have J:=TA (m% tB) (i1 r d_);have q:=TC [48] (18-(br (m% tB)).length) o_ (by simp;omega);have ay:=Ht r;have Y:=UO r;rw[GD]at q;have l:fJ m=if m/tB=0 then br (m% tB)else gj (18-(br (m% tB)).length) 48++br (m% tB):=by
     rw[fJ,Y];split
     ·rename_i h;rw[O h]
     ·rfl
    have s:dz.wrap (18-((br (m% tB)).length:Int))=(18-(br (m% tB)).length:Nat):=by rw[aU _ o_ o_];omega
    have aB:((18-(br (m% tB)).length:Nat):Int)=18-((br (m% tB)).length:Int):=o_
    have u:∀t,t=fJ m->(b.map fun p=>AV.p (.str p))++[AV.p (.str t)]=(b++[fJ m]).map fun p=>AV.p (.str p):=fun t e=>by rw[e];simp
    by_cases F:m% tB=0
    ·have j:¬m/tB=0:=fun h=>hm (by rw[<-O h];exact F);have E:0<(aw wB (m/tB)).length:=gg.2 (mt N.1 j);have e:gj (18-(br (m% tB)).length) 48++br (m% tB)=fJ m:=by rw[l,if_neg j]
     rw[F,uG]at e q s;rw[F,nD]at d;simp only[g5]at e q s;have hf:=u _ e;generalize D:aw wB (m/tB)=ae at*;simp[C];refine cp d (by simp;exact⟨rfl,rfl⟩) ?_ (h1:=by simp[tB]);simp[E,s];refine c2 q ?_;simp;refine⟨by simp only[dH];omega,?_⟩;refine rd (m/tB,b++[fJ m],true) ⟨o_,by rw[aO];exact k2,by simpa using B,y,w⟩ A (he:=by simp[D]) (hh:=by simp only[<-hf];simp) (hr2:=by simp only[<-hf];simp)
    ·have ab:aw wB (m% tB)=[m% tB]:=xP o_ (i1 r d_);rw[ab]at d
     by_cases j:m/tB=0
     ·have e:br (m% tB)=fJ m:=by rw[l,if_pos j]
      have hf:=u _ e;rw[j,nD]at d;simp[C];refine cp d (by simp;exact⟨rfl,rfl⟩) ?_ (h1:=by simp[tB]);simp;refine c2 J ?_;simp;refine⟨by simp only[dH];omega,?_⟩;refine rd (m/tB,b++[fJ m],true) ⟨o_,by rw[aO];exact k2,by simpa using B,y,w⟩ A (he:=by simp[j,nD]) (hh:=by simp only[<-hf];simp) (hr2:=by simp only[<-hf];simp)
     ·have E:0<(aw wB (m/tB)).length:=gg.2 (mt N.1 j);have e:gj (18-(br (m% tB)).length) 48++br (m% tB)=fJ m:=by rw[l,if_neg j]
      have hf:=u _ e;generalize D:aw wB (m/tB)=ae at*;simp[C];refine cp d (by simp;exact⟨rfl,rfl⟩) ?_ (h1:=by simp[tB]);simp;refine c2 J ?_;simp[E,s];refine c2 q ?_;simp;refine⟨o_,by simp only[dH];omega,?_⟩;refine rd (m/tB,b++[fJ m],true) ⟨o_,by rw[aO];exact k2,by simpa using B,y,w⟩ A (he:=by simp[D]) (hh:=by simp only[<-hf];simp) (hr2:=by simp only[<-hf];simp)
  ·simp only[if_true];have au:(aw wB m).length<=900000:=by
    have:=eZ bB _ _ (h5 k1 (cL bB a.v.natAbs));have:=qZ V;omega
   by_cases hm:m=0
   ·subst hm;have X:b≠[]:=by
     rintro rfl;rw[lS,lS,if_pos rfl,if_neg o_]at k2;have:=C4 a.v.natAbs;rw[hv,hR,hd,hd]at k2;rw[<-k2]at this;simp at this
    simp[eN,nD];refine⟨b,k2,k3,X,k5,?_⟩;simp
   ·have d:=GQ m tB d_ o_ (by rw[Dz];decide);have W:aw wB m≠[]:=mt xe.1 hm;have C:0<(aw wB m).length:=gg.2 W;have aO:=Po hm b;have B:∀p∈b++[fJ m],p≠[]/\p.length<=18:=by
     intro p L;rcases hV.1 L with h|h
     ·exact k3 p h
     ·rw[hN.1 h];exact⟨Om m,On m⟩
    have A:m/tB<m:=kP o_ d_;have ax:=Rp (show 0<m by omega) k4 af;have w:m/tB*tB^(b++[fJ m]).length<=a.v.natAbs:=by
     rw[g4,g5,h8,h3 (tB^b.length),<-iB];exact h4 (h7 _ (j8 _ _)) k4
    have y:(b++[fJ m]).length<=57600000:=by rw[g4,g5];omega
    have r:m% tB<tB:=i0 _ d_;have O:m/tB=0->m% tB=m:=fun h=>by have:=iz m tB;rw[h]at this;omega
    simp only[eN]at d⊢;rw[Dz]at d;have N:=xe (n:=m/tB);have J:=TA (m% tB) (i1 r d_);have q:=TC [48] (18-(br (m% tB)).length) o_ (by simp;omega);have ay:=Ht r;have Y:=UO r;rw[GD]at q;have l:fJ m=if m/tB=0 then br (m% tB)else gj (18-(br (m% tB)).length) 48++br (m% tB):=by
     rw[fJ,Y];split
     ·rename_i h;rw[O h]
     ·rfl
    have s:dz.wrap (18-((br (m% tB)).length:Int))=(18-(br (m% tB)).length:Nat):=by rw[aU _ o_ o_];omega
    have aB:((18-(br (m% tB)).length:Nat):Int)=18-((br (m% tB)).length:Int):=o_
    have u:∀t,t=fJ m->(b.map fun p=>AV.p (.str p))++[AV.p (.str t)]=(b++[fJ m]).map fun p=>AV.p (.str p):=fun t e=>by rw[e];simp
    by_cases F:m% tB=0
    ·have j:¬m/tB=0:=fun h=>hm (by rw[<-O h];exact F);have E:0<(aw wB (m/tB)).length:=gg.2 (mt N.1 j);have e:gj (18-(br (m% tB)).length) 48++br (m% tB)=fJ m:=by rw[l,if_neg j]
     rw[F,uG]at e q s;rw[F,nD]at d;simp only[g5]at e q s;have hf:=u _ e;generalize D:aw wB (m/tB)=ae at*;simp[C];refine cp d (by simp;exact⟨rfl,rfl⟩) ?_ (h1:=by simp[tB]);simp[E,s];refine c2 q ?_;simp;refine⟨by simp only[dH];omega,?_⟩;refine rd (m/tB,b++[fJ m],true) ⟨o_,by rw[aO];exact k2,by simpa using B,y,w⟩ A (he:=by simp[D]) (hh:=by simp only[<-hf];simp) (hr2:=by simp only[<-hf];simp)
    ·have ab:aw wB (m% tB)=[m% tB]:=xP o_ (i1 r d_);rw[ab]at d
     by_cases j:m/tB=0
     ·have e:br (m% tB)=fJ m:=by rw[l,if_pos j]
      have hf:=u _ e;rw[j,nD]at d;simp[C];refine cp d (by simp;exact⟨rfl,rfl⟩) ?_ (h1:=by simp[tB]);simp;refine c2 J ?_;simp;refine⟨by simp only[dH];omega,?_⟩;refine rd (m/tB,b++[fJ m],true) ⟨o_,by rw[aO];exact k2,by simpa using B,y,w⟩ A (he:=by simp[j,nD]) (hh:=by simp only[<-hf];simp) (hr2:=by simp only[<-hf];simp)
     ·have E:0<(aw wB (m/tB)).length:=gg.2 (mt N.1 j);have e:gj (18-(br (m% tB)).length) 48++br (m% tB)=fJ m:=by rw[l,if_neg j]
      have hf:=u _ e;generalize D:aw wB (m/tB)=ae at*;simp[C];refine cp d (by simp;exact⟨rfl,rfl⟩) ?_ (h1:=by simp[tB]);simp;refine c2 J ?_;simp[E,s];refine c2 q ?_;simp;refine⟨o_,by simp only[dH];omega,?_⟩;refine rd (m/tB,b++[fJ m],true) ⟨o_,by rw[aO];exact k2,by simpa using B,y,w⟩ A (he:=by simp[D]) (hh:=by simp only[<-hf];simp) (hr2:=by simp only[<-hf];simp)
 ·rintro⟨aD,aF⟩ ⟨b,q1,aC,S,q4,am,R,o,ah⟩;dsimp only at am R ah;subst ah;have az:0<b.length:=gg.2 S;have Z:br a.v.natAbs=b.reverse.flatten:=by rw[<-auV,q1,lS,if_neg o_];simp
  obtain⟨neg,K⟩:∃neg:Bool,neg=decide (a.v<0):=⟨_,rfl⟩
  obtain⟨Q,M⟩:∃Q:List Nat,Q=if neg=true then[45]else[]:=⟨_,rfl⟩
  have ai:bZ a.v=Q++b.reverse.flatten:=by
   rw[bZ,<-Z,M,K]
   by_cases h:a.v<0
   ·simp[h]
   ·simp[h]
  obtain⟨g,H⟩:∃g:Nat->List Nat,g=fun k=>Q++(b.reverse.take k).flatten:=⟨_,rfl⟩
  have I:g b.length=bZ a.v:=by rw[H,ai];dsimp only;rw[ge s_]
  have aA:∀k,(b.reverse.take k).flatten.length<=1000000:=fun k=>by
   have an:b.reverse.flatten=(b.reverse.take k).flatten++(b.reverse.drop k).flatten:=by rw[<-hL,ha]
   rw[Z,an,g4]at ap;omega
  have aG:Q.length<=1:=by rw[M];split<;>simp
  have T:∀k,(g k).length<=1000001:=fun k=>by rw[H];dsimp only;rw[g4];have:=aA k;omega
  have l:∀k(h:k<b.length),g (k+1)=g k++b[b.length-1-k]' o_:=fun k h=>by
   rw[H];dsimp only;rw[g7 (by simpa using h),hL,List.getElem_reverse,<-List.append_assoc];simp
  have ao:∀c∈bZ a.v,c<256:=by
   intro c hc;rw[bZ]at hc;have d:=vq a.v.natAbs;rw[gm]at d
   split at hc
   ·rcases hj.1 hc with h|h
    ·omega
    ·exact Qo (d c h)
   ·exact Qo (d c hc)
  have ac:dz.wrap ((b.length:Int)-1)=b.length-1:=aU _ o_ o_;have ar:∀i(h:i<b.length),b[i]≠[]/\b[i].length<=18:=fun i h=>aC _ (g0 h);have G:=aGJ (g b.length) (if neg=true then b.length else b.length-1) (g b.length).length rfl (by rw[I,ai];intro h;rw[List.append_eq_nil_iff,<-Z]at h;have:=C4 a.v.natAbs;rw[h.2]at this;simp at this) (by have:=T b.length;omega) (by rw[I];exact ao);simp[am,R,ac]
  by_cases hn:a.v<0
  ·rw[decide_eq_true hn]at K;subst K;have av:g 0=[45]:=by rw[H,M];simp
   simp only[if_true]at G;simp[hn];refine cf (TX [45] s_ s_) [3] ?_;simp[bA,sig,R,ac];refine lp (α:=Nat) (fun k=>⟨[(11,.p (.int .i64 ((b.length:Int)-1-k))),(10,.ptr 3 []),(6,.sl 2 b.length 1 0 b.length)],[.hole,.hole,.arr .grow b.length 1 (b.map fun p=>.p (.str p)),.box false (.st 358 [.ptr 3 [],.sl 4 k 1 0 (g k).length]),.arr .bytes k 1 (eL (g k))]⟩)
    (fun k=>k<=b.length) (fun k=>b.length-k) 0 s_ ?_ (he:=by simp[R]) (hh:=by simp[av,eL]) (hr2:=by simp[eL])
   intro k hk
   by_cases z:k<b.length
   ·have w1:dz.wrap ((b.length:Int)-1-k-1)=b.length-1-(k+1:Nat):=by rw[aU _ o_ o_];omega
    have e1:((b.length:Int)-1-k).toNat=b.length-1-k:=o_
    have g1:(k:Int)<=(b.length:Int)-1:=o_
    have P:b.length-1-k<b.length:=o_
    have hx:=ar _ P;have ad:=TY (g k) (b[b.length-1-k]) k (g k).length rfl hx.1 o_ (by have:=T k;omega);simp[g1,e1,P,S];refine cf ad [3,4] ?_ (ar:=by simp[sig,eL]) (aM:=by simp[sig]) (hr:=by simp[eL]);simp[sig,eL,bA,w1,GF];refine rd (k+1) z (he:=by simp[l k z]) (hh:=by simp[l k z,eL]) (hr2:=by simp[eL])
   ·have U:k=b.length:=by omega
    subst U;have g2:¬(b.length:Int)<=(b.length:Int)-1:=o_
    simp[g2];refine cf G [3,4] ?_ (ar:=by simp[sig,eL]) (aM:=by simp[sig]) (hr:=by simp[eL]);simp[sig,bA,I]
  ·rw[decide_eq_false hn]at K;subst K;simp only[dp,if_false]at G M;have ag:g 1=b[b.length-1]:=by rw[l 0 az,H];simp[M]
   have al:b.length-1<b.length:=o_
   have ak:=ar _ al;have aj:=TX (b[b.length-1]) ak.1 o_;rw[<-ag]at aj ak;simp[hn,ac]
   refine lp (α:=Option Nat) (fun st=>match st with
     |none=>⟨[(11,.p (.int .i64 ((b.length:Int)-1))),(10,.ptr 3 []),(6,.sl 2 b.length 1 0 b.length)],[.hole,.hole,.arr .grow b.length 1 (b.map fun p=>.p (.str p)),.box false (.p (.st 358 [.eO,.aI]))]⟩
     |some k=>⟨[(11,.p (.int .i64 ((b.length:Int)-1-(k+1)))),(10,.ptr 3 []),(6,.sl 2 b.length 1 0 b.length)],[.hole,.hole,.arr .grow b.length 1 (b.map fun p=>.p (.str p)),.box false (.st 358 [.ptr 3 [],.sl 4 k 1 0 (g (k+1)).length]),.arr .bytes k 1 (eL (g (k+1)))]⟩)
    (fun st=>match st with
     |none=>True
     |some k=>k+1<=b.length) (fun st=>match st with
     |none=>b.length+1
     |some k=>b.length-(k+1)) none trivial ?_ (he:=by simp[R])
   intro st hk;cases st with
   |none=>
    have w1:dz.wrap ((b.length:Int)-1-1)=b.length-1-(0+1):=by rw[aU _ o_ o_];omega
    have e1:((b.length:Int)-1).toNat=b.length-1:=o_
    have g1:(1:Int)<=(b.length:Int):=o_
    simp[g1,e1,al,S,<-ag];refine cf aj [3] ?_;simp[bA,sig,w1];refine rd (some 0) (by show 0+1<=b.length;omega) (by show b.length-(0+1)<b.length+1;omega) (he:=s_) (hh:=by simp[eL]) (hr2:=by simp[eL])
   |some k=>
    have hk:k+1<=b.length:=hk
    by_cases z:k+1<b.length
    ·have w1:dz.wrap ((b.length:Int)-1-(k+1)-1)=b.length-1-(k+1+1):=by rw[aU _ o_ o_];omega
     have e1:((b.length:Int)-1-(k+1)).toNat=b.length-1-(k+1):=o_
     have g1:(k:Int)+1<=(b.length:Int)-1:=o_
     have P:b.length-1-(k+1)<b.length:=o_
     have hx:=ar _ P;have ad:=TY (g (k+1)) (b[b.length-1-(k+1)]) k (g (k+1)).length rfl hx.1 o_ (by have:=T (k+1);omega);simp[g1,e1,P,S];refine cf ad [3,4] ?_ (ar:=by simp[sig,eL]) (aM:=by simp[sig]) (hr:=by simp[eL]);simp[sig,eL,bA,w1,GF];refine rd (some (k+1)) z (by show b.length-(k+1+1)<b.length-(k+1);omega) (he:=by simp[l (k+1) z]) (hh:=by simp[l (k+1) z,eL]) (hr2:=by simp[eL])
    ·have U:b.length=k+1:=by omega
     have g2:¬(k:Int)+1<=(b.length:Int)-1:=o_
     rw[U]at G I;rw[i6]at G;simp[g2];refine cf G [3,4] ?_ (ar:=by simp[sig,eL]) (aM:=by simp[sig]) (hr:=by simp[eL]);simp[sig,bA,I]
theorem GR(a:NI)(c:okW a.v)(b:(br a.v.natAbs).length<=1000000):aq prog 243 [eI a] (.str (bZ a.v)):=by
 rcases h:a.sm with _|_
 ·exact auu a h c b
 ·exact auv a h
open Go
theorem O3:∀(r:List Nat)(a:Nat),a<=r.foldl (fun n c=>n*10+(c-48)) a
 |[],a=>ip _
 |x::r,a=>h4 (show a<=a*10+(x-48)by omega) (O3 r _)
theorem OP:∀(d:List Nat)(a:Nat),d.all cN=true->d.foldl (fun n c=>n*10+(c-48)) a<1000000000000000000->Lib.parseUint10 a (d.map m3)=.ok (d.foldl (fun n c=>n*10+(c-48)) a)
 |[],a,_,_=>rfl
 |c::r,a,h,b=>by
  simp only[hE,dg]at h;have hc:=h.1;simp only[cN,dg,decide_eq_true_eq]at hc;have f:=O3 r (a*10+(c-48));rw[hC]at b⊢;have e:(m3 c).toNat=c:=by simp;omega
  rw[gt,Lib.parseUint10,e,if_pos hc,if_neg o_,if_neg o_];exact OP r _ h.2 b
theorem awK{d:List Nat}(h:d.all cN=true)(b:d≠[])(f:d.length<=18):Lib.atoiAll (d.map m3)=.ok (bm d):=by
 have i:=lC _ d rfl h;have j:10^d.length<=10^18:=h0 o_ f;cases d with
 |nil=>exact(b rfl).elim
 |cons c r=>
  have hc:=(dg ..▸(hE▸h):cN c=true/\r.all cN=true).1;simp only[cN,dg,decide_eq_true_eq]at hc;have e:(m3 c).toNat=c:=by simp;omega
  have g:bm (c::r)<1000000000000000000:=o_
  have a:=OP (c::r) 0 h g;rw[<-bm]at a;rw[gt]at a;rw[gt,Lib.atoiAll];simp only[e];rw[if_neg o_,Lib.parseMag,if_neg s_,a];dsimp only;rw[if_neg o_,if_neg o_,if_neg o_]
theorem Gn:∀(b:List Nat)(x:Nat),b.foldl (fun n c=>n*10+(c-48)) x=x*10^b.length+bm b
 |[],x=>by simp[bm]
 |c::b,x=>by
  rw[bm,hC,hC,Gn b,Gn b (0*10+(c-48)),hw,h8,i5,iB,h3 10];simp[lb]
theorem Pk(a b:List Nat):bm (a++b)=bm a*10^b.length+bm b:=by
 rw[bm,List.foldl_append,Gn];rfl
theorem QJ(k:Nat):10^k<=2^(4*k):=by
 rw[kf];exact kv d_ k
theorem Ps{a K:Nat}(h:4*a<=K):10^a<=2^K:=h4 (QJ a) (h0 d_ h)
theorem As{n k:Nat}(h:n<2^k)(hk:k<=3*1000000):(br n).length<=1000000:=
 AX h hk d_
theorem C2(a:NF)(h:aJ kB a.q):aq prog 162 [eF a] (.str (aR a.q)):=by
 have f:kB=100000:=rfl;have w:=Gu a;have c:=GR a.num (jB h.1 tN) (As h.1 o_);have d:=GR a.den (jB (by rw[my];exact h.2) tN) (As (by rw[my];exact h.2) o_);rw[nC]at c;rw[lI,zy]at d;have g:=As h.1 (show kB<=3*1000000 by omega);have i:=As h.2 (show kB<=3*1000000 by omega);have j:=He a.q.num;refine gA_ nf func162 mix ?_;rw[aR]
 by_cases b:a.q.den=1
 ·have e:a.gG=true:=by simp[NF.gG,b]
  rw[e]at w;rw[if_pos b];simp[f162,aa,c1 w,c1 c]
 ·have e:a.gG=false:=by simp[NF.gG,b]
  rw[e]at w;rw[if_neg b];simp[f162];refine c1 w ?_;simp[aa];refine e1 c ?_;simp[aa];refine⟨o_,?_⟩;refine e1 d ?_;simp;omega
def kR:Nat:=2800
theorem Dt(s:List Nat)(i:(dK s).all cN=true)(E:(dK s).length<=700):aq prog 234 [.str s] (eI (.mk' (if cr s=true then -(bm (dK s):Int)else bm (dK s)))):=by
 refine gA_ nf func234 mix ?_;simp[f234];refine c2 (awz s) ?_;simp;refine c2 (OR s) ?_;simp;generalize dK s=d,cr s=neg at*;have w:gf 0=eI (.mk' 0):=(rE d_ d_).symm;rw[show PV.st 121 [.int .i64 0,.aI]=eI (.mk' 0)from w];refine lp (α:=List Nat×NI) (fun x=>⟨[(4,.ptr 1 []),(3,.p (.bool neg)),(2,.ptr 0 []),(0,.p (.str x.1))],[.box false (.p (eI (.mk' 0))),.box false (.p (eI x.2))]⟩)
  (fun x=>∃m:Nat,x.2.v=m/\m*10^x.1.length+bm x.1=bm d/\x.1.all cN=true/\x.1.length<=700/\m<2^kR) (fun x=>x.1.length) (d,.mk' 0) ⟨0,rfl,s_,i,E,iA d_⟩ ?_
 rintro⟨r,o⟩ ⟨m,k1,k2,k3,k4,k5⟩;dsimp only at k1 k2 k3 k4 k5;have S:kR=2800:=rfl;have c:o.v.natAbs<2^kR:=by rw[k1,ea];exact k5
 have I:okW o.v:=jB c (by have:kB=100000:=rfl;omega)
 by_cases f:r=[]
 ·subst f;have u:o.v=bm d:=by rw[k1];simp[bm]at k2⊢;omega
  cases neg
  ·have e:eI (.mk' (bm d:Nat))=eI o:=qg (by rw[NI.jV,u]) (fun h=>by rw[NI.jV]at h;omega);simp;rw[e];simp[aa]
  ·have e:eI (.mk' (-(bm d:Nat)))=eI o.neg:=by rw[NI.neg,u]
   simp;rw[e];simp[aa,c1 (ye o I)]
 ·have L:0<r.length:=gg.2 f;obtain⟨n,hn⟩:∃n,n=min 18 r.length:=⟨_,rfl⟩
  have j:n<=r.length:=o_
  have U:0<n:=o_
  have G:n<=18:=o_
  have H:(if(r.length:Int)<18 then(r.length:Int)else 18)=n:=by split<;>omega
  have g:(r.take n).length=n:=by rw[gy];omega
  have a:=k3;rw[<-ha n r,List.all_append,dg]at a;have N:=lC _ (r.take n) rfl a.1;have C:=aEj (r.take n) (bm (r.take n)) (awK a.1 (by intro e;rw[e]at g;simp at g;omega) o_) o_;rw[g]at N;have q:10^n<=10^18:=h0 d_ G;have z:10^n<wB^1:=by rw[kd];exact h5 q d_
  have A:((10^n:Nat):Int).natAbs<2^64:=by rw[ea];exact h5 q d_
  have O:=eZ bB 1 _ z;have V:=CN c;have P:kB=100000:=rfl;have W:=lC _ d rfl i;have Q:10^d.length<=2^kR:=Ps (by have:kR=2800:=rfl;omega);have J:=aD7 (.of 10) n (10^n) d_ rfl o_ d_ o_;have F:=DR o (.mk' (10^n:Nat)) (by rw[NI.jV,ea];omega);have B:=AR (o.mul (.mk' (10^n:Nat))) (.of (bm (r.take n):Nat)) (jB (sF (x:=o.v) (y:=((10^n:Nat):Int)) c A) o_) (jB (k:=64) (show((bm (r.take n):Nat):Int).natAbs<2^64 by rw[ea];omega) o_);have l:=vU (bm (r.take n):Nat);rw[<-yi o_ o_]at l;have t:=vU 10;rw[<-yi d_ d_]at t;have M:bm r=bm (r.take n)*10^(r.drop n).length+bm (r.drop n):=by rw[<-Pk,ha]
  have K:r.length=n+(r.drop n).length:=by rw[hl];omega
  have D:(m*10^n+bm (r.take n))*10^(r.drop n).length+bm (r.drop n)=bm d:=by
   rw[<-k2,M,K,i7,i5,iB,lb]
  generalize 10^n=T,X:bm (r.take n)=b at*;have R:m*T+b<=bm d:=by
   have:=kh (m*T+b) (show 0<10^(r.drop n).length from iA d_);omega
  simp[f,L,H];refine⟨j,?_⟩;refine c1 C ?_;simp;refine e1 t ?_;simp;refine e2 J ?_;simp[aa];refine e2 F ?_;simp;refine e1 l ?_;simp;refine e2 B ?_;simp[aa];refine⟨rfl,j,?_⟩;refine rd (r.drop n,(o.mul (.mk' T)).add (.of b)) ⟨m*T+b,by rw[NI.vI,NI.oZ,NI.jV,k1];rfl,D,a.2,by dsimp only;omega,o_⟩ (by dsimp only;omega)
theorem GL{s:List Nat}(h:eE s=true):cr s=false/\dK s=s:=by
 have b:=lX h;have:cr s=false:=by
  rw[cr,decide_eq_false_iff_not];intro a;cases s with
  |nil=>simp at a
  |cons c r=>
   simp at a;subst a;rw[hE,dg]at b;simp[cN]at b
 exact⟨this,by rw[dK,this];rfl⟩
theorem O6(s:List Nat):cr (cC 47 s).1=cr s/\dK (cC 47 s).1=bQ s/\(cC 47 s).2.1=b6 s/\(cC 47 s).2.2=fE s:=by
 cases s with
 |nil=>exact⟨rfl,rfl,rfl,rfl⟩
 |cons c r=>
  by_cases h:c=45
  ·subst h;have e:cC 47 (45::r)=(45::(cC 47 r).1,(cC 47 r).2.1,(cC 47 r).2.2):=by rw[cC,if_neg d_]
   rw[e];exact⟨rfl,rfl,rfl,rfl⟩
  ·have hn:cr (c::r)=false:=by rw[cr,decide_eq_false_iff_not];simpa using h
   have a:dK (c::r)=c::r:=by rw[dK,hn];rfl
   have b:cr (cC 47 (c::r)).1=false:=by
    rw[cr,decide_eq_false_iff_not,cC]
    split
    ·simp
    ·simpa using h
   refine⟨by rw[hn,b],?_,?_,?_⟩
   ·rw[dK,b,bQ,a];rfl
   ·rw[b6,a]
   ·rw[fE,a]
theorem awl{s:List Nat}(h:cz s=0):eE (bQ s)=true/\(bQ s).length<=600/\(b6 s).length<=600/\(fE s=true->eE (b6 s)=true):=by
 unfold cz at h
 split at h
 ·cases h
 rename_i a
 split at h
 ·cases h
 rename_i d;have a:qf s=true:=by simpa using a
 simp only[qf,dg,dq,Bool.not_eq_true']at a;refine⟨a.1.1,o_,o_,fun c=>?_⟩;rcases a.2 with b|b
 ·rw[c]at b;cases b
 ·exact b.1.1
theorem Xa(z:Int):dK (bZ z)=br z.natAbs:=by
 have:=(CA z []).2;simpa using this
theorem xy(c:Nat):∀s:List Nat,(cC c s).1.length<=s.length/\(cC c s).2.1.length<=s.length/\(∀x∈(cC c s).1,x∈s)/\(∀x∈(cC c s).2.1,x∈s)
 |[]=>by simp[cC]
 |y::r=>by
  have a:=xy c r;rw[cC]
  split
  ·simp;intro x hx;exact .inr hx
  ·simp only[hw,hj];refine⟨o_,o_,?_,fun x hx=>.inr (a.2.2.2 x hx)⟩;rintro x (rfl|hx)
   ·exact .inl rfl
   ·exact .inr (a.2.2.1 x hx)
theorem sG(s:List Nat):(dK s).length<=s.length/\∀x∈dK s,x∈s:=by
 rw[dK]
 split
 ·exact⟨s_,fun x hx=>List.mem_of_mem_tail hx⟩
 ·exact⟨ip _,fun _ h=>h⟩
theorem lZ(s:List Nat)(h:cz s=0)(m:s.length<=1048576):aq prog 140 [.str s] (eF ⟨aS s,false⟩):=by
 obtain⟨k,r,t,l⟩:=awl h;obtain⟨n,f,o,p⟩:=O6 s;obtain⟨q1,q,a⟩:=iQ h;have b:=Ty s 47 m;rw[o,p]at b;have c:=Dt (cC 47 s).1 (by rw[f];exact lX k) (by rw[f];omega);rw[n,f]at c;have en:eI (NF.mk (aS s) false).num=eI (.mk' (if cr s=true then -(bm (bQ s):Int)else bm (bQ s))):=by
  show eI ⟨(aS s).num,false⟩=_;rw[q];rfl
 rw[<-en]at c;refine gA_ nf func140 mix ?_;cases hf:fE s
 ·rw[hf]at b a;simp only[dp,if_false]at a;have e:(NF.mk (aS s) false).den=.mk' 1:=by
   show NI.mk' ((aS s).den:Int)=_;rw[a];rfl
  have i:=HC (NF.mk (aS s) false).num;have j:eF (.whole (NF.mk (aS s) false).num)=eF ⟨aS s,false⟩:=by
   rw[eF,eF,e];rfl
  rw[j]at i;simp(maxDischargeDepth:=99) [f140,aa,c2 b,c1 c,c1 i]
 ·rw[hf]at b a;simp only[if_true]at a;have g:=l hf;obtain⟨d1,d2⟩:=GL g;have d:=Dt (b6 s) (by rw[d2];exact lX g) (by rw[d2];omega);rw[d1,d2]at d;simp only[dp,if_false]at d;have e:eI (NF.mk (aS s) false).den=eI (.mk' (bm (b6 s):Nat)):=by
   show eI (NI.mk' ((aS s).den:Int))=_;rw[a]
  rw[<-e]at d;rw[eF];simp(maxDischargeDepth:=99) [f140,aa,c2 b,c1 c,c1 d]
def mS(n:Nat):Bool:=decide (600<(br n).length)
theorem SL(a:NI)(h:a.v.natAbs<2^kB):aq prog 229 [eI a] (.bool (mS a.v.natAbs)):=by
 have l:kB=100000:=rfl;have d:=jB h tN;have g:=aDL a d;have i:=GR a d (As h o_);have c:=OR (bZ a.v);rw[Xa]at c;refine gA_ nf func229 mix ?_;simp[f229];refine c1 g ?_
 by_cases j:1800<rF a.v.natAbs
 ·have b:(1800:Int)<(rF a.v.natAbs:Nat):=by omega
  have e:decide ((600:Int)<((br a.v.natAbs).length:Nat))=mS a.v.natAbs:=by rw[mS,decide_eq_decide];omega
  simp[b];refine c1 i ?_;simp;refine c2 c ?_;simp[mS];omega
 ·have f:=h2 (PL a.v.natAbs) (h0 (show 0<2 by decide) (show rF a.v.natAbs<=3*600 by omega));have k:=NQ f d_;have e:mS a.v.natAbs=false:=by rw[mS,decide_eq_false_iff_not];omega
  have b:¬(1800:Int)<(rF a.v.natAbs:Nat):=o_
  simp[b,e]
def pD(q:Rat):Bool:=mS q.num.natAbs||mS q.den
theorem C9(a:NF)(h:aJ kB a.q):aq prog 129 [eF a] (.bool (pD a.q)):=by
 have b:=SL a.num h.1;have c:=SL a.den (by rw[my];exact h.2);rw[nC]at b;rw[my]at c;refine gA_ nf func129 mix ?_;rw[pD];cases hc:mS a.q.num.natAbs
 ·rw[hc]at b;simp[f129,aa,aa,c1 b,c1 c]
 ·rw[hc]at b;simp[f129,aa,c1 b]
def AQ:List (Nat×Func)->dx->Option Func
 |[],_=>none
 |(i,g)::r,f=>bif ix i f then some g else AQ r f
def EH(P:Program):List (Nat×Func)->Prop
 |[]=>True
 |p::r=>aA P p.1 p.2/\EH P r
theorem Qk{P:Program}:∀{l:List (Nat×Func)},EH P l->∀{f:Nat}{fn:Func},AQ l f=some fn->aA P f fn
 |[],_,f,fn,h=>by simp[AQ]at h
 |(i,g)::r,a,f,fn,h=>by
  simp only[AQ,dl]at h
  split at h
  ·rename_i hf;simp only[lz]at h;subst h;rw[<-h6 hf];exact a.1
  ·exact Qk a.2 h
noncomputable def U8:List (Nat×Func):=[(8,f8),(9,f9),(11,f11),(16,f16),(20,f20),(22,f22),(32,f32),(33,f33),(38,f38),(45,f45),(46,f46),(47,f47),(48,f48),(49,f49),(50,f50),(51,f51),(52,f52),(53,f53),(54,f54),(55,f55),(56,f56),(57,f57),(58,f58),(59,f59),(60,f60),(61,f61),(62,f62),(63,f63),(64,f64),(65,f65),(66,f66),(67,f67),(71,f71),(72,f72),(73,f73),(74,f74),(75,f75),(76,f76),(77,f77),(78,f78),(100,f100),(101,f101),(104,f104),(105,f105),(106,f106),(107,f107),(108,f108),(109,f109),(115,f115),(116,f116),(117,f117),(118,f118),(119,f119),(120,f120),(121,f121),(122,f122),(123,f123),(124,f124),(125,f125),(126,f126),(127,f127),(128,f128),(129,f129),(130,f130),(131,f131),(132,f132),(133,f133),(134,f134),(135,f135),(136,f136),(137,f137),(138,f138),(139,f139),(140,f140),(149,f149),(150,f150),(151,f151),(152,f152),(153,f153),(154,f154),(155,f155),(156,f156),(157,f157),(158,f158),(159,f159),(160,f160),(161,f161),(162,f162),(184,f184),(185,f185),(186,f186),(187,f187),(188,f188),(189,f189),(190,f190),(191,f191),(192,f192),(193,f193),(194,f194),(195,f195),(196,f196),(197,f197),(198,f198),(199,f199),(200,f200),(201,f201),(202,f202),(203,f203),(204,f204),(205,f205),(206,f206),(207,f207),(219,f219),(220,f220),(221,f221),(222,f222),(223,f223),(224,f224),(225,f225),(226,f226),(227,f227),(228,f228),(229,f229),(230,f230),(231,f231),(232,f232),(233,f233),(234,f234),(239,f239),(240,f240),(241,f241),(242,f242),(243,f243),(259,f259),(260,f260),(261,f261),(262,f262),(263,f263),(264,f264),(265,f265),(266,f266),(267,f267),(268,f268),(269,f269),(275,f275),(276,f276),(277,f277),(278,f278),(279,f279),(280,f280),(281,f281),(282,f282),(283,f283),(284,f284),(285,f285),(286,f286),(287,f287),(288,f288),(289,f289),(290,f290),(291,f291),(292,f292),(293,f293),(294,f294),(296,f296),(297,f297),(298,f298),(299,f299),(300,f300),(301,f301),(302,f302),(303,f303),(308,f308),(309,f309),(310,f310),(311,f311),(312,f312),(313,f313),(314,f314),(315,f315),(318,f318),(319,f319),(320,f320),(321,f321),(322,f322),(323,f323),(324,f324),(325,f325),(326,f326),(327,f327),(328,f328),(329,f329),(330,f330),(331,f331),(332,f332),(333,f333),(334,f334),(335,f335),(336,f336),(337,f337),(338,f338),(339,f339),(340,f340),(341,f341),(343,f343),(344,f344),(345,f345),(346,f346),(347,f347),(349,f349),(350,f350),(351,f351),(352,f352),(353,f353),(354,f354),(355,f355),(356,f356),(357,f357),(358,f358),(359,f359),(360,f360),(361,f361),(362,f362),(364,f364),(365,f365),(366,f366),(367,f367),(368,f368),(369,f369),(370,f370),(372,f372),(373,f373),(374,f374),(375,f375),(376,f376),(377,f377),(378,f378),(379,f379),(381,f381),(382,f382),(383,f383),(384,f384),(385,f385),(386,f386),(387,f387),(388,f388),(389,f389),(390,f390),(391,f391),(392,f392),(393,f393)]
theorem aQ9:EH prog U8:=⟨i_ func8,i_ func9,i_ func11,i_ func16,i_ func20,i_ func22,i_ func32,i_ func33,i_ func38,i_ func45,i_ func46,i_ func47,i_ func48,i_ func49,i_ func50,i_ func51,i_ func52,i_ func53,i_ func54,i_ func55,i_ func56,i_ func57,i_ func58,i_ func59,i_ func60,i_ func61,i_ func62,i_ func63,i_ func64,i_ func65,i_ func66,i_ func67,i_ func71,i_ func72,i_ func73,i_ func74,i_ func75,i_ func76,i_ func77,i_ func78,i_ func100,i_ func101,i_ func104,i_ func105,i_ func106,i_ func107,i_ func108,i_ func109,i_ func115,i_ func116,i_ func117,i_ func118,i_ func119,i_ func120,i_ func121,i_ func122,i_ func123,i_ func124,i_ func125,i_ func126,i_ func127,i_ func128,i_ func129,i_ func130,i_ func131,i_ func132,i_ func133,i_ func134,i_ func135,i_ func136,i_ func137,i_ func138,i_ func139,i_ func140,i_ func149,i_ func150,i_ func151,i_ func152,i_ func153,i_ func154,i_ func155,i_ func156,i_ func157,i_ func158,i_ func159,i_ func160,i_ func161,i_ func162,i_ func184,i_ func185,i_ func186,i_ func187,i_ func188,i_ func189,i_ func190,i_ func191,i_ func192,i_ func193,i_ func194,i_ func195,i_ func196,i_ func197,i_ func198,i_ func199,i_ func200,i_ func201,i_ func202,i_ func203,i_ func204,i_ func205,i_ func206,i_ func207,i_ func219,i_ func220,i_ func221,i_ func222,i_ func223,i_ func224,i_ func225,i_ func226,i_ func227,i_ func228,i_ func229,i_ func230,i_ func231,i_ func232,i_ func233,i_ func234,i_ func239,i_ func240,i_ func241,i_ func242,i_ func243,i_ func259,i_ func260,i_ func261,i_ func262,i_ func263,i_ func264,i_ func265,i_ func266,i_ func267,i_ func268,i_ func269,i_ func275,i_ func276,i_ func277,i_ func278,i_ func279,i_ func280,i_ func281,i_ func282,i_ func283,i_ func284,i_ func285,i_ func286,i_ func287,i_ func288,i_ func289,i_ func290,i_ func291,i_ func292,i_ func293,i_ func294,i_ func296,i_ func297,i_ func298,i_ func299,i_ func300,i_ func301,i_ func302,i_ func303,i_ func308,i_ func309,i_ func310,i_ func311,i_ func312,i_ func313,i_ func314,i_ func315,i_ func318,i_ func319,i_ func320,i_ func321,i_ func322,i_ func323,i_ func324,i_ func325,i_ func326,i_ func327,i_ func328,i_ func329,i_ func330,i_ func331,i_ func332,i_ func333,i_ func334,i_ func335,i_ func336,i_ func337,i_ func338,i_ func339,i_ func340,i_ func341,i_ func343,i_ func344,i_ func345,i_ func346,i_ func347,i_ func349,i_ func350,i_ func351,i_ func352,i_ func353,i_ func354,i_ func355,i_ func356,i_ func357,i_ func358,i_ func359,i_ func360,i_ func361,i_ func362,i_ func364,i_ func365,i_ func366,i_ func367,i_ func368,i_ func369,i_ func370,i_ func372,i_ func373,i_ func374,i_ func375,i_ func376,i_ func377,i_ func378,i_ func379,i_ func381,i_ func382,i_ func383,i_ func384,i_ func385,i_ func386,i_ func387,i_ func388,i_ func389,i_ func390,i_ func391,i_ func392,i_ func393,trivial⟩
noncomputable def Bc(a:dx->List PV->Option PV)(nN:dx->dx->Nat):qz:=⟨AQ U8,a,fun _ _ _=>none,nN,fun _ _ _=>none⟩
theorem aP6{a:dx->List PV->Option PV}{nN:dx->dx->Nat}(h:∀f vs v,a f vs=some v->aq prog f vs v):rz prog (Bc a nN):=by
 refine⟨mix,fun f fn hf=>Qk aQ9 hf,fun f vs v hk=>h f vs v hk,fun f args H v H' hk=>?_,fun f args H ar v hk=>?_⟩
 ·simp only[Bc]at hk;cases hk
 ·simp only[Bc]at hk;cases hk
noncomputable def UZ(a:dx->List PV->Option PV)(nN:dx->dx->Nat)(f:dx)(vs:List PV):Option PV:=tS prog nf (Bc a nN) (mE prog nf (Bc a nN) 20) f vs
theorem Q3{facts:dx->List PV->Option PV}{nN:dx->dx->Nat}(h:∀f vs v,facts f vs=some v->aq prog f vs v){f:dx}{vs:List PV}{v:PV}(a:UZ facts nN f vs=some v):aq prog f vs v:=reckon 20 (aP6 h) a
def noF:dx->List PV->Option PV:=fun _ _=>none
def tT:PV:=.st 408 ((gi 256).map fun i=>.bool (cN i))
theorem P6(c:Nat)(hc:c<256):aq prog 381 [.cM tT,.int .u8 c] (.bool (cN c)):=by
 refine gA_ nf func381 mix ?_;have a:(gi 256)[c]?=some c:=ht hc;simp[f381,tT,a,hc]
theorem Yy(s:List Nat)(h:s.length<=1048576)(g:∀c∈s,c<256):aq prog 367 [.str s,.cM tT] (.str (nB s)):=by
 refine gA_ nf func367 mix ?_;simp[f367];refine lp (α:=List Nat) (fun r=>⟨[(1,.p (.cM tT)),(0,.p (.str r))],[]⟩) (fun r=>nB r=nB s/\r.length<=s.length/\∀c∈r,c<256) (fun r=>r.length) s (by exact⟨rfl,ip _,g⟩) ?_;rintro r ⟨a,f,b⟩;cases r with
 |nil=>
  have e:nB s=[]:=by rw[<-a];rfl
  simp[e]
 |cons x r=>
  have hx:=b x s_;have i:nB (x::r)=if cN x=true then nB r else x::r:=by
   rw[nB,hM];split<;>rfl
  rw[i]at a;have j:(0:Int)<(r.length:Int)+1:=o_
  simp[j];refine c2 (P6 x hx) ?_;cases d:cN x
  ·rw[d]at a;simp[<-a]
  ·rw[d]at a;simp;exact rd r ⟨by simpa using a,by simp at f;omega,fun c hc=>b c (by simp[hc])⟩ (h1:=s_)
theorem Yb(s:List Nat)(h:s.length<=1048576)(g:∀c∈s,c<256):aq prog 368 [.str s,.cM tT] (.str (kq s)):=by
 refine gA_ nf func368 mix ?_;simp[f368];refine lp (α:=List Nat) (fun r=>⟨[(1,.p (.cM tT)),(0,.p (.str r))],[]⟩) (fun r=>kq r=kq s/\r.length<=s.length/\∀c∈r,c<256) (fun r=>r.length) s (by exact⟨rfl,ip _,g⟩) ?_;rintro r ⟨a,b,d⟩;rcases List.eq_nil_or_concat r with rfl|⟨t,x,rfl⟩
 ·have e:kq s=[]:=by rw[<-a];rfl
  simp[e]
 ·simp only[List.concat_eq_append]at a b d⊢;have hx:=d x s_;have i:kq (t++[x])=if cN x=true then kq t else t++[x]:=by
   rw[kq,List.reverse_append,List.reverse_cons,hv,hU,List.singleton_append,hM]
   split
   ·rfl
   ·simp
  rw[i]at a;have j:(0:Int)<(t.length:Int)+1:=o_
  have w1:dz.wrap (t.length:Int)=t.length:=aU _ o_ (by simp at b;omega);simp[j,w1];refine c2 (P6 x hx) ?_;cases f:cN x
  ·rw[f]at a;simp[<-a]
  ·rw[f]at a;simp[w1];exact rd t ⟨by simpa using a,by simp at b;omega,fun c hc=>d c (by simp[hc])⟩ (h1:=s_)
def A0:List Nat:=[48,49,50,51,52,53,54,55,56,57]
theorem aum:aq prog 366 [.str A0] (.aC [tT,.bool true]):=Q3 (facts:=noF) (nN:=fun _ _=>0) (fun _ _ _ h=>by cases h) k_
theorem aRm:cF prog 409=some (.st 408 (gj 256 (.bool false))):=k_
theorem awv(s:List Nat)(h:s.length<=1048576)(d:∀c∈s,c<256):aq prog 346 [.str s,.str A0] (.str (nB (kq s))):=by
 refine gA_ nf func346 mix ?_
 by_cases b:s=[]
 ·subst b;simp[f346,A0,nB,kq]
 simp[f346,A0,b];refine c1 aum ?_;have g:(kq s).length<=s.length:=by
  rw[kq,List.length_reverse];have:=(hG cN (l:=s.reverse)).length_le;simpa using this
 have f:∀c∈kq s,c<256:=by
  intro c hc;rw[kq,List.mem_reverse]at hc;exact d c (by simpa using(hG cN (l:=s.reverse)).subset hc)
 simp[aRm];have a:aK tT=.agg 408:=rfl;refine⟨⟨⟨a.symm,by rw[a];intro e;cases e⟩,a.symm⟩,?_⟩;refine cp (Yb s h d) (by simp;exact⟨rfl,rfl⟩) ?_;simp;refine cp (Yy (kq s) o_ f) (by simp;exact⟨rfl,rfl⟩) ?_;simp
def bN:List Int->Int
 |[]=>0
 |e::r=>if e=0 then bN r else e
def bn(b:Bool)(e:Int):Int:=if b=true then e else 0
theorem awx(a:List Int)(h:a.length<=1048576):aq prog 321 [.seq (a.map (.int .i64))] (.int .i64 (bN a)):=by
 refine gA_ nf func321 mix ?_;simp[f321];refine lp (α:=Nat) (fun i=>⟨[(7,.p (.int .i64 i)),(6,.p (.int .i64 a.length)),(5,.p (.seq (a.map (.int .i64))))],[]⟩) (fun i=>i<=a.length/\bN (a.drop i)=bN a) (fun i=>a.length-i) 0 s_ ?_;rintro i ⟨d,b⟩;simp
 by_cases hi:i<a.length
 ·rw[g6 hi]at b;have c:=cE (i:=i) o_;simp[hi]
  by_cases he:a[i]=0
  ·simp[bN,he]at b;simp[he,c];exact rd (i+1) ⟨hi,b⟩
  ·simp[bN,he]at b;simp[he,<-b]
 ·have:i=a.length:=by omega
  subst this;simp[bN]at b;simp[<-b]
theorem zC(a:List Int)(h:a.length<=1048576):aq prog 63 [.seq (a.map (.int .i64))] (.int .i64 (bN a)):=by
 refine gA_ nf func63 mix ?_;simp[f63];refine lp (α:=Nat) (fun i=>⟨[(7,.p (.int .i64 i)),(6,.p (.int .i64 a.length)),(5,.p (.seq (a.map (.int .i64))))],[]⟩) (fun i=>i<=a.length/\bN (a.drop i)=bN a) (fun i=>a.length-i) 0 s_ ?_;rintro i ⟨d,b⟩;simp
 by_cases hi:i<a.length
 ·rw[g6 hi]at b;have c:=cE (i:=i) o_;simp[hi]
  by_cases he:a[i]=0
  ·simp[bN,he]at b;simp[he,c];exact rd (i+1) ⟨hi,b⟩
  ·simp[bN,he]at b;simp[he,<-b]
 ·have:i=a.length:=by omega
  subst this;simp[bN]at b;simp[<-b]
theorem ud(a:List Int)(h:a.length<=1048576):aq prog 200 [.seq (a.map (.int .i64))] (.int .i64 (bN a)):=by
 refine gA_ nf func200 mix ?_;simp[f200];refine lp (α:=Nat) (fun i=>⟨[(7,.p (.int .i64 i)),(6,.p (.int .i64 a.length)),(5,.p (.seq (a.map (.int .i64))))],[]⟩) (fun i=>i<=a.length/\bN (a.drop i)=bN a) (fun i=>a.length-i) 0 s_ ?_;rintro i ⟨d,b⟩;simp
 by_cases hi:i<a.length
 ·rw[g6 hi]at b;have c:=cE (i:=i) o_;simp[hi]
  by_cases he:a[i]=0
  ·simp[bN,he]at b;simp[he,c];exact rd (i+1) ⟨hi,b⟩
  ·simp[bN,he]at b;simp[he,<-b]
 ·have:i=a.length:=by omega
  subst this;simp[bN]at b;simp[<-b]
theorem Aj(b:Bool)(e:Int):aq prog 322 [.bool b,.int .i64 e] (.int .i64 (bn b e)):=by
 refine gA_ nf func322 mix ?_;cases b<;>simp[f322,bn]
theorem zu(b:Bool)(e:Int):aq prog 64 [.bool b,.int .i64 e] (.int .i64 (bn b e)):=by
 refine gA_ nf func64 mix ?_;cases b<;>simp[f64,bn]
theorem jX(b:Bool)(e:Int):aq prog 201 [.bool b,.int .i64 e] (.int .i64 (bn b e)):=by
 refine gA_ nf func201 mix ?_;cases b<;>simp[f201,bn]
theorem RI(s:List Nat)(h:s.length<=1048576)(g:∀c∈s,c<256):aq prog 320 [.str s] (.bool (eE s)):=by
 have f:=awv s h g;have hn:=Zs s;rw[show A0=[48,49,50,51,52,53,54,55,56,57]from rfl]at f;refine gA_ nf func320 mix ?_;generalize nB (kq s)=t at*;cases s with
 |nil=>simp[f320,eE]
 |cons c r=>
  have hc:=g c s_
  by_cases b:t=[]
  ·have d:=hn.1 b;have e:eE (c::r)=(decide (¬c=48)||decide (r=[])):=by
    rw[eE,d]
    by_cases a:c=48
    ·subst a;simp
    ·simp[a]
   rw[e];clear e d hn
   by_cases a:c=48
   ·cases r with
    |nil=>
     simp[f320];refine c2 f ?_;simp[b,a]
    |cons x r=>
     simp[f320];refine c2 f ?_;simp[b,a]
   ·have i:¬(c:Int)=48:=by omega
    simp[f320,b,a,i,c2 f]
  ·have d:¬(c::r).all cN=true:=mt hn.2 b;have a:(c::r).all cN=false:=by simpa using d
   have e:eE (c::r)=false:=by rw[eE,a];simp
   rw[e];clear e d a hn;simp[f320,b,c2 f]
theorem aGL{a b:Nat}:(decide (mg (fN a b) 1≠0))=decide (i4 a b≠1):=by
 rw[decide_eq_decide,mg,fN,ea,ea]
 split
 ·simp;omega
 ·split
  ·simp;omega
  ·simp;omega
theorem I4{s:List Nat}(h:s.all cN=true)(c:s.length<=700):okW (bm s:Nat):=by
 have a:=lC _ s rfl h;have b:bm s<2^kR:=h2 a (Ps (by have:kR=2800:=rfl;omega));exact jB (k:=kR) (by rw[ea];exact b) (by have:kB=100000:=rfl;have:kR=2800:=rfl;omega)
theorem DJ(s:List Nat)(h:s.length<=1048576)(J:∀c∈s,c<256):aq prog 284 [.str s] (.int .i64 (cz s)):=by
 have W:=awB s;have z:=Ty (dK s) 47 (h4 (sG s).1 h);rw[show(cC 47 (dK s)).1=bQ s from rfl,show(cC 47 (dK s)).2.1=b6 s from rfl,show(cC 47 (dK s)).2.2=fE s from rfl]at z;refine gA_ nf func284 mix ?_;simp[f284,-aX];rw[aX];simp[-aX];rw[aX];simp[-aX];refine c2 W ?_;simp[-aX];rw[aX];simp[-aX];refine c2 z ?_;simp[-aX];have aa:=(sG s).1;have r:=xy 47 (dK s);have ac:(bQ s).length<=1048576:=by have:=r.1;rw[bQ];omega
 have ab:(b6 s).length<=1048576:=by have:=r.2.1;rw[b6];omega
 have V:∀c∈bQ s,c<256:=fun c hc=>J c ((sG s).2 c (r.2.2.1 c hc));have U:∀c∈b6 s,c<256:=fun c hc=>J c ((sG s).2 c (r.2.2.2 c hc));clear r aa;have Y:=RI (bQ s) ac V;have X:=RI (b6 s) ab U;obtain⟨n,A⟩:∃n,n=(eE (bQ s)&&!(cr s&&decide (bQ s=[48]))):=⟨_,rfl⟩
 obtain⟨j,l⟩:∃j,j=(n&&(!fE s||(eE (b6 s)&&decide (b6 s≠[48])&&decide (b6 s≠[49])))):=⟨_,rfl⟩
 have K:cz s=if j=false then 1 else if 600<(bQ s).length\/600<(b6 s).length then 4 else if fE s=true/\i4 (bm (bQ s)) (bm (b6 s))≠1 then 1 else 0:=by rw[l,A];rfl
 rw[K];clear K z;generalize fE s=fr at*;refine join (fun s'=>aQ s'.env 8=.p (.bool n)/\aQ s'.env 7=.p (.bool fr)/\aQ s'.env 6=.p (.str (b6 s))/\aQ s'.env 5=.p (.str (bQ s))/\s'.heap=[]) ?_ ?_
 ·simp;refine c1 Y ?_;rw[A];cases eE (bQ s)
  ·simp
  ·cases cr s
   ·simp
   ·by_cases hn:bQ s=[48]
    ·simp[hn]
    ·simp[hn]
 rintro⟨H,Z⟩ ⟨d,f,g,i,t⟩;dsimp only at d f g i t;subst t;refine join (fun s'=>aQ s'.env 8=.p (.bool j)/\aQ s'.env 7=.p (.bool fr)/\aQ s'.env 6=.p (.str (b6 s))/\aQ s'.env 5=.p (.str (bQ s))/\s'.heap=[]) ?_ ?_
 ·rw[l];cases fr
  ·simp[d,f,g,i]
  ·cases n
   ·simp[d,f,g,i]
   ·simp[d,f,g,i];refine c1 X ?_;cases eE (b6 s)
    ·simp[d,f,g,i]
    ·by_cases hn:b6 s=[48]
     ·simp[d,f,g,i,hn]
     ·by_cases M:b6 s=[49]
      ·simp[d,f,g,i,M]
      ·simp[d,f,g,i,hn,M]
 clear d f g i H;rintro⟨H,Z⟩ ⟨d,f,g,i,t⟩;dsimp only at d f g i t;subst t;have head:∀(q v:Bool),aq prog 321 [.seq [.int .i64 (bn q 1),.int .i64 (bn v 4)]] (.int .i64 (if q=true then 1 else if v=true then 4 else 0)):=fun q v=>by
  have:=awx [bn q 1,bn v 4] s_;cases q<;>cases v<;>exact this
 have w0:=Aj (!j) 1;have Q:=Aj true 4;have wf:=Aj false 4;have I:=head (!j) true;have T:=head (!j) false;have N:(600<(bQ s).length)↔(600:Int)<((bQ s).length:Nat):=o_
 have O:(600<(b6 s).length)↔(600:Int)<((b6 s).length:Nat):=o_
 by_cases u:(600:Int)<((bQ s).length:Nat)
 ·simp[d,f,g,i];refine c2 w0 ?_;simp[d,f,g,i,u];refine c2 Q ?_;simp;refine cp I (by simp;exact⟨rfl,rfl⟩) ?_;cases j
  ·simp
  ·simp[N.2 u]
 by_cases x:(600:Int)<((b6 s).length:Nat)
 ·simp[d,f,g,i];refine c2 w0 ?_;simp[d,f,g,i,u,x];refine c2 Q ?_;simp;refine cp I (by simp;exact⟨rfl,rfl⟩) ?_;cases j
  ·simp
  ·simp[O.2 x]
 have D:¬600<(bQ s).length:=mt N.1 u;have E:¬600<(b6 s).length:=mt O.1 x;have P:=Aj false 1;have af:=Aj true 1;simp[d,f,g,i];refine c2 w0 ?_;simp[d,f,g,i,u,x];refine c2 wf ?_;simp;refine cp T (by simp;exact⟨rfl,rfl⟩) ?_;cases j
 ·simp
 cases fr
 ·simp[d,f,g,i,D,E];refine c2 P ?_;simp[bn];exact⟨o_,o_⟩
 have k:eE (bQ s)=true/\eE (b6 s)=true:=by
  cases R:eE (bQ s)
  ·rw[A,R]at l;simp at l
  cases S:eE (b6 s)
  ·rw[S]at l;simp at l
  exact⟨rfl,rfl⟩
 obtain⟨ad,F⟩:=GL k.1;obtain⟨ae,G⟩:=GL k.2;have r1:=Dt (bQ s) (by rw[F];exact lX k.1) (by rw[F];omega);have y:=Dt (b6 s) (by rw[G];exact lX k.2) (by rw[G];omega);rw[ad,F]at r1;rw[ae,G]at y;simp only[dp,if_false]at r1 y;have B:=Tu (.mk' (bm (bQ s):Nat)) (.mk' (bm (b6 s):Nat)) (I4 (lX k.1) o_) (I4 (lX k.2) o_);rw[NI.jV,NI.jV]at B;have C:=vU 1;rw[QL]at C;have hc:=Tt (.mk' (fN (bm (bQ s):Nat) (bm (b6 s):Nat))) (.mk' 1) (uS (I4 (lX k.2) o_) (by rw[NI.jV,fN,ea,ea,ea];exact kk _ (CR k.2 (fun e=>by rw[e]at l;simp at l)))) (by rw[okW];decide);rw[NI.jV,NI.jV]at hc;have L:=aGL (a:=bm (bQ s)) (b:=bm (b6 s));generalize mg (fN (bm (bQ s):Nat) (bm (b6 s):Nat)) 1=o at*
 by_cases m:i4 (bm (bQ s)) (bm (b6 s))=1
 ·have w:o=0:=by simpa[m]using L
  simp[d,f,g,i,D,E,m];refine c1 r1 ?_;simp[d,f,g,i];refine c1 y ?_;simp;refine c2 B ?_;simp;refine c1 C ?_;simp;refine c2 hc ?_;simp[w];refine c2 P ?_;simp[bn];rw[if_neg o_,if_pos m]
 ·have w:¬o=0:=by simpa[m]using L
  simp[d,f,g,i,D,E,m];refine c1 r1 ?_;simp[d,f,g,i];refine c1 y ?_;simp;refine c2 B ?_;simp;refine c1 C ?_;simp;refine c2 hc ?_;simp[w];refine c2 af ?_ (h1:=by simp[w]);simp[bn];rw[if_neg o_,if_neg m]
def kG(s:List Nat):Prop:=s.length<=1048576/\∀c∈s,c<256
theorem awA(l:List (List Nat)):aq prog 315 [.seq (l.map .str)] (.func 344 [] [.cM (.seq (l.map .str))]):=by
 refine gA_ nf func315 mix ?_;simp[f315];exact bL.refl _
def IP(s:List Nat):List PV:=[.int .i64 (cz s)]
theorem ava(l:List (List Nat))(q:l.length<=1000000)(hs:∀s∈l,kG s):Stream prog 344 [] [.cM (.seq (l.map .str))] (l.map IP):=by
 intro b k c H' hk d o f;refine iC nf (i_ func344) mix (by simp[f344]) ?_;rw[hB]at hk;have g:∀i(h:i<l.length),(l.map IP)[i]?=some (IP l[i]):=fun i h=>by rw[hg,gc h];rfl
 simp[f344];refine lp (α:=Nat) (fun i=>⟨[(7,.p (.int .i64 i)),(6,.p (.int .i64 l.length)),(5,.p (.seq (l.map .str))),(0,.map b)],c i⟩) (fun i=>i<=k) (fun i=>l.length-i) 0 s_ ?_ (hr:=by simp;exact(d 0 o_).2) (hr2:=(d 0 o_).1);intro i hi;have n:=cE (i:=i) o_
 by_cases a:i<l.length
 ·have hc:=DJ l[i] (hs _ (g0 a)).1 (hs _ (g0 a)).2;have jk:(i<k/\gz prog b (c i) [.p (.int .i64 (cz l[i]))] (c (i+1)) (.p (.bool true)))\/gz prog b (c i) [.p (.int .i64 (cz l[i]))] H' (.p (.bool false)):=by
   by_cases e:i<k
   ·exact .inl ⟨e,o i _ e (g i a)⟩
   ·have:i=k:=by omega
    subst this;rcases f with⟨e1,_⟩|⟨y,e1,e2⟩
    ·rw[hB]at e1;omega
    ·rw[g i a]at e1;injection e1 with e1;subst e1;exact .inr e2
  simp[a];refine c1 hc ?_;simp;rcases jk with⟨e,hY⟩|hY
  ·refine⟨c (i+1),_,hY,?_⟩;simp[n];exact rd (i+1) e (h1:=o_) (hr:=by simp;exact(d (i+1) o_).2) (hr2:=(d (i+1) o_).1)
  ·refine⟨H',_,hY,?_⟩;simp
 ·have m:i=l.length:=by omega
  have j:k=l.length:=o_
  rcases f with⟨e1,e2⟩|⟨y,e1,e2⟩
  ·simp[a,e2,m,j]
  ·rw[j,List.getElem?_eq_none s_]at e1;cases e1
theorem Gy(p:Nat->Bool):∀n,∃k,k<=n/\(∀j,j<k->p j=true)/\(k=n\/(k<n/\p k=false))
 |0=>⟨0,ip _,fun j h=>by omega,.inl rfl⟩
 |n+1=>by
  obtain⟨k,f,b,a⟩:=Gy p n;rcases a with a|⟨a,d⟩
  ·subst a;cases c:p k
   ·exact⟨k,o_,b,.inr ⟨o_,c⟩⟩
   ·refine⟨k+1,ip _,fun j g=>?_,.inl rfl⟩
    by_cases e:j=k
    ·subst e;exact c
    ·exact b j o_
  ·exact⟨k,o_,b,.inr ⟨o_,d⟩⟩
def o9(l:List (List Nat))(i:Nat):Int:=match l[i]? with
 |some s=>cz s
 |none=>0
theorem N7:∀(l:List (List Nat))(k:Nat),(∀j,j<k->o9 l j=0)->bN (l.map cz)=bN ((l.drop k).map cz)
 |[],k,_=>by simp
 |s::l,0,_=>rfl
 |s::l,k+1,h=>by
  have a:=h 0 o_;have b:cz s=0:=a;rw[gt,bN,if_pos b,List.drop_succ_cons];exact N7 l k fun j c=>h (j+1) o_
theorem Y3(l:List (List Nat))(c:l.length<=1000000)(hs:∀s∈l,kG s):aq prog 268 [.seq (l.map .str)] (.int .i64 (bN (l.map cz))):=by
 refine gA_ nf func268 mix ?_;simp[f268];refine c1 (awA l) ?_;simp;have aO:=ava l c hs;obtain⟨k,hk,g,d⟩:=Gy (fun i=>decide (o9 l i=0)) l.length;have r:∀j,j<k->o9 l j=0:=fun j q=>by simpa using g j q
 have f:=N7 l k r;refine rf2 aO rfl s_ (fun L _=>[.box false (.p (.int .i64 0)),.loop L]) (fun L i=>[.box false (.p (.int .i64 (o9 l (i-1)))),.loop (L.dn .ret)]) (fun i=>decide (o9 l i=0)) .ret k (by simpa using hk) g (by simpa using d) (fun L=>rfl) ?_ ?_ (fun L=>rfl) ?_ ?_
 ·intro L b i hi;clear b;refine⟨rfl,s_,fun _ c=>?_⟩;simp at c⊢;exact c
 ·intro L b i x hi hx;have t:x=[.int .i64 (o9 l i)]:=by
   rw[hg]at hx;unfold o9;cases h:l[i]? with
   |none=>rw[h]at hx;cases hx
   |some s=>rw[h]at hx;injection hx with hx;rw[<-hx];rfl
  subst t;rw[i6];refine wG nf mix b rfl rfl k_ ?_;have m:=congrArg fk.env b;dsimp only at m;clear b;generalize o9 l i=e
  by_cases he:e=0
  ·subst he;simp;exact .inl rfl
  ·simp[he];exact .inl rfl
 ·intro a L;have a:k=l.length:=by simpa using a
  rw[f,a];simp[bN]
 ·intro a L;have a:k<l.length:=by simpa using a
  have o:¬o9 l k=0:=by
   rcases d with u|⟨_,n⟩
   ·omega
   ·simpa using n
  have e1:o9 l k=cz l[k]:=by unfold o9;rw[gc a]
  rw[f,g6 a,gt,bN,<-e1,if_neg o];simp[lJ]
structure bM where
 x:List Nat
 y:List Nat
def cW(p:bM):PV:=.st 31 [.str p.x,.str p.y]
def jx(p:bM):Prop:=kG p.x/\kG p.y
def eB(p:bM):Int:=bN [cz p.x,cz p.y]
@[simp] theorem aU9(p:bM):aK (cW p)=.agg 31:=rfl
@[simp] theorem aTz(p:bM):cm (cW p)=[.str p.x,.str p.y]:=rfl
@[simp] theorem aSy:prog.cellsOf 31=2:=k_
theorem Xr(p:bM)(a:jx p):aq prog 206 [.seq [cW p]] (.int .i64 (eB p)):=by
 have hc:=Y3 [p.x,p.y] s_ (by intro s hs;simp at hs;rcases hs with rfl|rfl;exact a.1;exact a.2);refine gA_ nf func206 mix ?_;simp[f206];refine lp (α:=Nat) (fun i=>⟨[(8,.p (.int .i64 i)),(7,.p (.int .i64 1)),(6,.p (.seq [cW p])),(0,.p (.seq [cW p]))],[]⟩) (fun i=>i=0\/(i=1/\eB p=0)) (fun i=>1-i) 0 (.inl rfl) ?_;rintro i h;rcases h with rfl|⟨rfl,h⟩
 ·simp[aa];refine cp hc (by simp;exact⟨rfl,rfl⟩) ?_;have b:dz.wrap 1=1:=rfl;rw[show bN (hH cz [p.x,p.y])=eB p from rfl]
  by_cases h:eB p=0
  ·simp[h,b];exact rd 1 (.inr ⟨rfl,h⟩)
  ·simp[h]
 ·simp[h]
theorem B8(p:bM)(a:jx p):aq prog 106 [cW p] (.int .i64 (eB p)):=by
 refine gA_ nf func106 mix ?_;simp[f106,aa];refine cp (Xr p a) (by simp;exact⟨rfl,rfl⟩) ?_;simp
open Go.Proofs Go.Proofs.YtdjojlnnobkliaaGreatDoor
section
variable{H:Type}{W:World}{ad:Nat->Prop}
theorem DQ{n:Nat}{d:dy H}(h:∃cs,bd prog W ad (bS prog (n+1) 30 d) cs)(a:Rows.uptoBulk d<=1048576):∃s:List Nat,bS prog (n+1) 30 d=.str s/\kG s:=by
 obtain⟨cs,h⟩:=h;cases d with
 |lit l=>
  cases l with
  |string bytes=>
   refine⟨bytes.map (·.toNat),by simp only[bS,Jl],?_,?_⟩
   ·rw[Rows.uptoBulk]at a;rw[hB];omega
   ·intro c hc;obtain⟨u,_,rfl⟩:=hp.1 hc;exact u.toNat_lt
  |_=>simp only[bS,Jl,bd]at h
 |_=>simp only[bS,Jl,bd]at h
theorem aRu:∃a b:Field,prog.underlying 32=some (.struct #[a,b])/\a.type=30/\b.type=30:=⟨_,_,underlying32,rfl,rfl⟩
theorem Vd:prog.underlyingId 32=31:=k_
theorem asx{m n:Nat}(q:m=n+1){d:dy H}(h:∃cs,bd prog W ad (bS prog (m+1) 32 d) cs)(e:Rows.uptoBulk d<=1048576):∃p:bM,bS prog (m+1) 32 d=cW p/\jx p:=by
 obtain⟨cs,h⟩:=h;obtain⟨f0,f1,i,t0,t1⟩:=aRu;cases d with
 |agg l=>
  have g:∀x∈l,Rows.uptoBulk x<=1048576:=fun x hx=>by
   have:=tG.ym hx;rw[Rows.uptoBulk]at e;omega
  simp only[bS,i,bd]at h⊢;obtain⟨t,s,f,c,_⟩:=h;rw[Vd,aQ6]at f;cases f
  match l,c with
  |[],c=>simp[bt]at c
  |[x],c=>simp[bt]at c
  |x::y::r,c=>
   simp only[List.zip_cons_cons,gt,bt,List.zip_nil_left,hu,t0,t1]at c⊢;obtain⟨c0,_,_,g1,_,c1,_,_,g2,_⟩:=c;subst q;obtain⟨a,j,o⟩:=DQ ⟨c0,g1⟩ (g x s_);obtain⟨b,k,e⟩:=DQ ⟨c1,g2⟩ (g y s_);exact⟨⟨a,b⟩,by rw[j,k,Vd];rfl,o,e⟩
 |_=>simp only[bS,i,bd]at h
theorem GU{n:Nat}{d:dy H}(h:∃cs,bd prog W ad (bS prog (n+2) 32 d) cs)(a:Rows.uptoBulk d<=1048576):∃p:bM,bS prog (n+2) 32 d=cW p/\jx p:=asx rfl h a
theorem az6{d:dy H}(h:∃cs,bd prog W ad (bS prog 8 32 d) cs)(b:Rows.uptoBulk d<=1048576):∃p:bM,bS prog 8 32 d=cW p/\True/\jx p:=by
 obtain⟨p,e,a⟩:=GU (n:=6) h b;exact⟨p,e,trivial,a⟩
end
def bT:Nat:=1000000000
theorem bp:2<=bT:=d_
def iP(l:List Nat):List PV:=l.map fun x:Nat=>.int .i64 x
theorem U3(w:List Nat):fZ prog 1 (w.map (AV.p∘fun x:Nat=>PV.int .i64 x)):=by
 rw[zD];intro v a;obtain⟨x,_,rfl⟩:=hp.1 a;simp[aa,aK,bU]
def eT(n:Nat):PV:=.seq ((aw bT n).map fun x:Nat=>.int .i64 x)
theorem DY:aw bT 0=[]:=by simp[aw,qm]
theorem qV{n:Nat}(b:0<n)(h:n<bT):aw bT n=[n]:=by
 have a:=lF bp (m:=1) (n:=n) (by rw[kd];exact h);rw[<-a,row,hX,gt,hu,ae,i3,i8,ih h];have:=zz [] n o_
 rwa [hU]at this
theorem zK{n:Nat}:aw bT n=[]↔n=0:=by
 constructor
 ·intro h;have:=cL bp n;rw[h,List.length_nil,i3]at this;omega
 ·rintro rfl;exact DY
theorem xR(w:List Nat)(h:w.length<=1048576):aq prog 305 [.seq (iP w)] (.seq (iP (fC w))):=by
 refine gA_ nf func305 mix ?_;simp only[iP];simp[f305];refine lp (α:=Nat) (fun i=>⟨[(0,.p (.seq ((w.take i).map fun x:Nat=>.int .i64 x)))],[]⟩) (fun i=>i<=w.length/\fC w=fC (w.take i)) (fun i=>i) w.length s_ ?_;rintro i ⟨k1,k2⟩;have g:(w.take i).length=i:=by rw[gy];omega
 by_cases hi:0<i
 ·obtain⟨j,rfl⟩:∃j,i=j+1:=⟨i-1,o_⟩
  have e:dz.wrap (j:Int)=j:=aU _ o_ o_;have a:j<w.length:=o_
  have d:(0:Int)<(j:Int)+1:=o_
  have k3:=k2;rw[g7 a]at k2;have b:min (j+1) w.length=j+1:=o_
  have c:min ((j:Int)+1) (w.length:Int)=j+1:=o_
  have f:¬w=[]:=by rintro rfl;simp at a
  by_cases hz:w[j]=0
  ·rw[hz,FV]at k2;simp[d,e,a,hz,b,c,f];refine⟨by rw[<-g8];exact U3 _,?_⟩;refine rd j ⟨o_,k2⟩ (he:=?_);rw[<-g8,<-g8,hD,kO o_];simp
  ·rw[zz _ _ hz,<-g7 a]at k2;simp[d,e,a,hz,b,c,f];rw[k2,g8];exact bL.refl _
 ·obtain rfl:i=0:=by omega
  simp[fC]at k2;simp[k2]
def eG(z:Int):PV:=.st 257 [.bool (decide (z<0)),eT z.natAbs]
@[simp] theorem aU1(z:Int):aK (eG z)=.agg 257:=rfl
@[simp] theorem aTr(z:Int):cm (eG z)=[.bool (decide (z<0)),eT z.natAbs]:=rfl
@[simp] theorem aVg(n:Nat):aK (eT n)=.leaf:=rfl
theorem GO(neg:Bool)(w:List Nat)(n:Nat)(hn:fC w=aw bT n)(h:w.length<=1048576):aq prog 254 [.bool neg,.seq (iP w)] (eG (if neg=true then -(n:Int)else n)):=by
 have a:=xR w h;rw[hn]at a;refine gA_ nf func254 mix ?_;have b:(if neg=true then -(n:Int)else n).natAbs=n:=by cases neg<;>simp
 rw[eG,b,eT];have c:=zK (n:=n);have d:decide ((if neg=true then -(n:Int)else n)<0)=(neg&&decide (0<(aw bT n).length)):=by
  cases neg
  ·simp
  ·simp;rw[gg,Ne,c];omega
 rw[d];simp only[iP]at a⊢;generalize aw bT n=x at*;cases neg
 ·simp[f254,aa,c1 a]
 ·simp[f254];refine c1 a ?_;simp[aa]
  done
theorem Nq{a b:Nat}(h:(aw bT a).length<(aw bT b).length):a<b:=by
 have d:=cL bp a;rcases ii a b with c|c
 ·exact c
 ·have:=eZ bp (aw bT a).length b (h5 c d);omega
theorem Nz{a b i:Nat}(h:a/bT^(i+1)=b/bT^(i+1))(e:ae bT a i<ae bT b i):a<b:=by
 rw[h8,<-ik,<-ik]at h;have e1:=iz (a/bT^i) bT;have e2:=iz (b/bT^i) bT;rw[ae,ae]at e;rw[h]at e1;rcases ii a b with d|d
 ·exact d
 ·have:=Nat.div_le_div_right (c:=bT^i) d;omega
theorem aua{a b i:Nat}(h:a/bT^(i+1)=b/bT^(i+1))(c:ae bT a i=ae bT b i):a/bT^i=b/bT^i:=by
 rw[h8,<-ik,<-ik]at h;have e1:=iz (a/bT^i) bT;have e2:=iz (b/bT^i) bT;rw[ae,ae]at c;rw[h]at e1;omega
theorem NJ(a b:Nat)(E:(aw bT a).length<=1048576)(F:(aw bT b).length<=1048576):aq prog 256 [eT a,eT b] (.int .i64 (gR a b)):=by
 refine gA_ nf func256 mix ?_
 by_cases l:(aw bT a).length=(aw bT b).length
 case neg=>
  have q:¬((aw bT a).length:Int)=(aw bT b).length:=o_
  by_cases A:(aw bT a).length<(aw bT b).length
  ·have m:((aw bT a).length:Int)<(aw bT b).length:=by omega
   have:=Nq A;have hc:gR a b= -1:=if_pos this;simp[f256,eT,q,m,hc]
  ·have m:¬((aw bT a).length:Int)<(aw bT b).length:=by omega
   have:=Nq (a:=b) (b:=a) o_;have hc:gR a b=1:=by rw[gR,if_neg o_,if_pos this]
   simp[f256,eT,q,m,hc]
 have t:∀i(h:i<(aw bT a).length),(aw bT a)[i]?=some (ae bT a i):=fun i h=>by rw[gc h,fH bp h]
 have v:∀i(h:i<(aw bT b).length),(aw bT b)[i]?=some (ae bT b i):=fun i h=>by rw[gc h,fH bp h]
 have u:∀i(h:i<(aw bT a).length),(aw bT a)[i]=ae bT a i:=fun i h=>fH bp h;have w:∀i(h:i<(aw bT b).length),(aw bT b)[i]=ae bT b i:=fun i h=>fH bp h;have s:=cL bp a;have o:=cL bp b;rw[<-l]at o;have z:a/bT^(aw bT a).length=b/bT^(aw bT a).length:=by rw[i2 s,i2 o]
 simp only[eT];generalize aw bT a=x,aw bT b=y at*;have D:dz.wrap ((y.length:Int)-1)=y.length-1:=aU _ o_ o_;simp[f256,l,D];refine lp (α:=Nat) (fun i=>⟨[(5,.p (.int .i64 ((i:Int)-1))),(1,.p (.seq (y.map fun x:Nat=>.int .i64 x))),(0,.p (.seq (x.map fun x:Nat=>.int .i64 x)))],[]⟩) (fun i=>i<=y.length/\a/bT^i=b/bT^i) (fun i=>i) y.length ⟨ip _,by rw[<-l];exact z⟩ ?_;rintro i ⟨k1,k2⟩
 by_cases hi:0<i
 ·obtain⟨j,rfl⟩:∃j,i=j+1:=⟨i-1,o_⟩
  have c:j<x.length:=o_
  have d:j<y.length:=o_
  have C:dz.wrap ((j:Int)-1)=j-1:=aU _ o_ o_;have e:=t j c;have g:=v j d;have f:=u j c;have k:=w j d
  by_cases hq:ae bT a j=ae bT b j
  ·simp[c,d,e,g,f,k,hq,C];exact rd j ⟨o_,aua k2 hq⟩
  ·have r:¬(ae bT a j:Int)=ae bT b j:=by omega
   by_cases n:ae bT a j<ae bT b j
   ·have:=Nz k2 n;have hc:gR a b= -1:=if_pos this;simp[c,d,e,g,f,k,r,n,hc]
   ·have:=Nz k2.symm (show ae bT b j<ae bT a j by omega);have B:ae bT b j<ae bT a j:=by omega
    have hc:gR a b=1:=by rw[gR,if_neg o_,if_pos this]
    simp[c,d,e,g,f,k,r,n,B,hc]
 ·obtain rfl:i=0:=by omega
  rw[i3,i8,i8]at k2;have hc:gR a b=0:=by rw[gR,if_neg o_,if_neg o_]
  simp[hc]
theorem avn{n i:Nat}(h:(aw bT n).length<=i):ae bT n i=0:=lE (h2 (cL bp n) (h0 d_ h))
theorem HB(a i:Nat):aq prog 307 [eT a,.int .i64 i] (.int .i64 (ae bT a i:Nat)):=by
 refine gA_ nf func307 mix ?_
 by_cases h:i<(aw bT a).length
 ·have g1:(aw bT a)[i]=ae bT a i:=fH bp h;rw[eT,<-g1];generalize aw bT a=x at*;simp[f307,h]
 ·rw[avn o_,eT];generalize aw bT a=x at*;simp[f307,h]
def fx(i n:Nat):List AV:=(gi i).map fun j=>.p (.int .i64 (ae bT n j:Nat))
theorem uJ(i n:Nat):fx (i+1) n=fx i n++[.p (.int .i64 (ae bT n i:Nat))]:=by
 rw[fx,hT,hW];rfl
theorem jN(i n:Nat):(fx i n).length=i:=by simp[fx]
@[simp] theorem aUO{N:Nat×Nat->Prop}{n i:Nat}:ba N (fx i n)=True:=by
 rw[df,eq_iff_iff,iff_true];intro v a;simp only[fx,hp]at a;obtain⟨x,_,rfl⟩:=a;trivial
theorem QF(i n:Nat):fq (fx i n)=some ((row bT i n).map fun x:Nat=>.int .i64 x):=by
 have:fx i n=(row bT i n).map (AV.p∘fun x:Nat=>PV.int .i64 x):=by
  rw[fx,row,hF];rfl
 rw[this];exact OW
theorem RQ(i n:Nat):fx i n=(row bT i n).map (AV.p∘fun x:Nat=>PV.int .i64 x):=by
 rw[fx,row,hF];rfl
theorem awb{n i:Nat}(h:n<bT^i)(a:i=0\/bT^(i-1)<=n):row bT i n=aw bT n:=by
 have b:(aw bT n).length=i:=by
  have c:=eZ bp i n h;rcases a with rfl|a
  ·omega
  ·have:=N8 bp a;omega
 have:=aF1 bp n;rw[b]at this;exact this.symm
theorem aEi(a b:Nat)(H:(aw bT a).length<=1000000)(I:(aw bT b).length<=1000000):aq prog 255 [eT a,eT b] (eT (a+b)):=by
 refine gA_ nf func255 mix ?_;have v:=cL bp a;have w:=cL bp b;have C:∀i,i<(aw bT a).length->bT^i<=a:=fun i h=>by
  rcases ii a (bT^i)with c|c
  ·have:=eZ bp i a c;omega
  ·exact c
 have D:∀i,i<(aw bT b).length->bT^i<=b:=fun i h=>by
  rcases ii b (bT^i)with c|c
  ·have:=eZ bp i b c;omega
  ·exact c
 have A:∀i,0<dN bT a b i->bT^i<=a+b:=fun i h=>by
  rw[dN]at h;have c:bT^i<=a% bT^i+b% bT^i:=by
   rcases ii (a% bT^i+b% bT^i) (bT^i)with d|d
   ·rw[i2 d]at h;omega
   ·exact d
  have:=lx a (bT^i);have:=lx b (bT^i);omega
 have f:=fun i=>HB a i;have g:=fun i=>HB b i;have B:∀i,(aw bT a).length<=i->(aw bT b).length<=i->dN bT a b i=0->a+b<bT^i:=fun i c d s=>by
  have g1:=h2 v (h0 (show 0<bT by decide) c);have g2:=h2 w (h0 (show 0<bT by decide) d);rw[dN,ih g1,ih g2]at s;rcases ii (a+b) (bT^i)with e|e
  ·exact e
  ·have:=j6 e (iA (show 0<bT by decide));omega
 have E:∃M,M=max (aw bT a).length (aw bT b).length:=⟨_,rfl⟩
 obtain⟨M,G⟩:=E;simp only[eT]at f g⊢;have F:=fun i h d=>awb (n:=a+b) (i:=i) h d;generalize aw bT (a+b)=z,aw bT a=x,aw bT b=y at*;simp[f255];refine lp (α:=Nat) (fun i=>⟨[(7,.p (.int .i64 i)),(6,.p (.int .i64 (dN bT a b i:Nat))),(5,.sl 0 i 1 0 i),(1,.p (.seq (y.map fun x:Nat=>.int .i64 x))),(0,.p (.seq (x.map fun x:Nat=>.int .i64 x)))],[.arr .grow i 1 (fx i (a+b))]⟩)
  (fun i=>i<=M+1/\(i=0\/bT^(i-1)<=a+b)) (fun i=>M+1-i) 0 ⟨o_,.inl rfl⟩ ?_ (he:=by simp[Co,fx]) (hh:=by simp[fx])
 rintro i ⟨k1,k2⟩;have q:=cE (i:=i) o_;have J:=n7 bp a b i;obtain⟨g1,g2⟩:=uC bp a b i;have L:=cQ bp a i;have N:=cQ bp b i;have t:bT=1000000000:=rfl;have w1:dz.wrap ((ae bT a i:Int)+ae bT b i)=ae bT a i+ae bT b i:=aU _ o_ o_;have r:dz.wrap ((ae bT a i:Int)+ae bT b i+dN bT a b i)=ae bT a i+ae bT b i+dN bT a b i:=aU _ o_ o_;have l:((ae bT a i:Int)+ae bT b i+dN bT a b i).tmod 1000000000=(ae bT (a+b) i:Nat):=by
  rw[ed o_,<-g1,t];omega
 have m:((ae bT a i:Int)+ae bT b i+dN bT a b i).tdiv 1000000000=(dN bT a b (i+1):Nat):=by
  rw[ec o_,<-g2,t];omega
 have o:dz.wrap (dN bT a b (i+1):Nat)=(dN bT a b (i+1):Nat):=by have:=n7 bp a b (i+1);exact aU _ o_ o_
 have j:gx i (fx i (a+b))=fx i (a+b):=ge (by rw[jN];exact ip _)
 by_cases hx:i<x.length
 ·simp[hx];refine c2 (f i) ?_;simp;refine c2 (g i) ?_;simp[w1,r,l,m,o,jN,j,<-uJ];refine⟨by simp only[dH];omega,?_⟩;refine rd (i+1) ⟨o_,.inr (by rw[i6];exact h4 (C i hx) o_)⟩ o_ (he:=by simp[q])
 by_cases k:i<y.length
 ·simp[hx,k];refine c2 (f i) ?_;simp;refine c2 (g i) ?_;simp[w1,r,l,m,o,jN,j,<-uJ];refine⟨by simp only[dH];omega,?_⟩;refine rd (i+1) ⟨o_,.inr (by rw[i6];exact h4 (D i k) o_)⟩ o_ (he:=by simp[q])
 by_cases hc:0<dN bT a b i
 ·have K:i=M:=by
   rcases ii M i with h|h
   ·have e0:=uC bp a b M;have c:ae bT a M=0:=lE (h2 v (h0 d_ o_));have d:ae bT b M=0:=lE (h2 w (h0 d_ o_));have s:=n7 bp a b M;have e:i=M+1:=by omega
    subst e;rw[c,d]at e0;rw[<-e0.2,i2 o_]at hc;omega
   ·omega
  simp[hx,k,hc];refine c2 (f i) ?_;simp;refine c2 (g i) ?_;simp[w1,r,l,m,o,jN,j,<-uJ];refine⟨by simp only[dH];omega,?_⟩;refine rd (i+1) ⟨o_,.inr (by rw[i6];exact A i hc)⟩ o_ (he:=by simp[q])
 ·have u:dN bT a b i=0:=by omega
  have hz:=F i (B i o_ o_ u) k2;rw[<-hz];simp[hx,k,u];refine⟨by rw[jN];exact ip _,?_⟩;rw[j,RQ];simp
theorem RG(a b:Nat)(w:b<=a)(E:(aw bT a).length<=1000000):aq prog 257 [eT a,eT b] (eT (a-b)):=by
 refine gA_ nf func257 mix ?_;have C:=cL bp a;have j:=fun i=>HB b i;have A:∀i(h:i<(aw bT a).length),(aw bT a)[i]?=some (ae bT a i):=fun i h=>by rw[gc h,fH bp h]
 have B:∀i(h:i<(aw bT a).length),(aw bT a)[i]=ae bT a i:=fun i h=>fH bp h;have D:fC (row bT (aw bT a).length (a-b))=aw bT (a-b):=lF bp (h5 (kX a b) C);have e:=xR (row bT (aw bT a).length (a-b)) (by rw[Q6];omega);rw[D]at e;simp only[eT]at j⊢;simp only[iP]at e;generalize aw bT (a-b)=z,aw bT a=x,aw bT b=y at*;simp[f257];refine lp (α:=Nat) (fun i=>⟨[(7,.p (.int .i64 i)),(6,.p (.int .i64 (gl bT a b i:Nat))),(5,.sl 0 i 1 0 i),(1,.p (.seq (y.map fun x:Nat=>.int .i64 x))),(0,.p (.seq (x.map fun x:Nat=>.int .i64 x)))],[.arr .grow i 1 (fx i (a-b))]⟩)
  (fun i=>i<=x.length) (fun i=>x.length-i) 0 s_ ?_ (he:=by simp[FT,fx]) (hh:=by simp[fx])
 intro i k1;have s:=cE (i:=i) o_;have r:gx i (fx i (a-b))=fx i (a-b):=ge (by rw[jN];exact ip _);have F:bT=1000000000:=rfl;have I:=cQ bp a i;have J:=cQ bp b i;have K:=cQ bp (a-b) i;have L:gl bT a b i<=1:=by rw[gl];split<;>omega
 have w1:dz.wrap ((ae bT a i:Int)-ae bT b i)=ae bT a i-ae bT b i:=aU _ o_ o_;have n:dz.wrap ((ae bT a i:Int)-ae bT b i-gl bT a b i)=ae bT a i-ae bT b i-gl bT a b i:=aU _ o_ o_
 by_cases hx:i<x.length
 ·have o:=A i hx;have q:=B i hx;rcases Pt bp w i with⟨u,g,v⟩|⟨u,g,v⟩
  ·have m:(ae bT a i:Int)-ae bT b i-gl bT a b i<0:=by omega
   have f:dz.wrap ((ae bT a i:Int)-ae bT b i-gl bT a b i+1000000000)=(ae bT (a-b) i:Nat):=by rw[aU _ o_ o_];omega
   simp[hx,o,q];refine e2 (j i) ?_;simp[w1,n,m,f,jN,r,<-uJ];refine⟨by simp only[dH];omega,?_⟩;refine rd (i+1) hx (he:=by simp[s,g])
  ·have m:¬(ae bT a i:Int)-ae bT b i-gl bT a b i<0:=by omega
   have f:(ae bT a i:Int)-ae bT b i-gl bT a b i=(ae bT (a-b) i:Nat):=o_
   rw[f]at m n;simp[hx,o,q];refine e2 (j i) ?_;simp[w1,n,f,jN,r,<-uJ];refine⟨by simp only[dH];omega,?_⟩;refine rd (i+1) hx (he:=by simp[s,g])
 ·have:i=x.length:=by omega
  subst this;have k:=RQ x.length (a-b);have d:(row bT x.length (a-b)).length=x.length:=Q6;generalize row bT x.length (a-b)=l at e k d;have G:gx x.length l=l:=ge o_;rcases l with _|⟨c,t⟩
  ·simp at d;simp[k];refine cp e (by simp[<-d];exact⟨rfl,rfl⟩) ?_;simp
  ·have H:gx x.length (PV.int .i64 c::hH (fun x:Nat=>PV.int .i64 x) t)=PV.int .i64 c::hH (fun x:Nat=>PV.int .i64 x) t:=ge (by simp at d⊢;omega);simp at d;simp[k];refine cp e (by simp[<-d];exact⟨rfl,rfl⟩) ?_;simp
def dR(n:Nat)(f:Nat->Nat):List AV:=(gi n).map fun j=>.p (.int .i64 (f j:Nat))
theorem zX(n:Nat)(f:Nat->Nat):(dR n f).length=n:=by simp[dR]
theorem Py(n:Nat):gj n (AV.p (.int .i64 0))=dR n fun _=>0:=by
 apply ho (by simp[dR]);intro i a b;simp[dR]
theorem xH{n j:Nat}(f:Nat->Nat)(h:j<n):(dR n f)[j]?=some (.p (.int .i64 (f j:Nat))):=by
 rw[dR,hg,ht h];rfl
theorem Hc{n i:Nat}(f g:Nat->Nat)(h:∀j,j<n->j≠i->g j=f j):(dR n f).set i (.p (.int .i64 (g i:Nat)))=dR n g:=by
 apply ho (by simp[dR]);intro j c b;rw[zX]at b;rw[hQ];simp only[dR,hb,g9]
 by_cases a:i=j
 ·subst a;rw[if_pos rfl]
 ·rw[if_neg a,h j b (fun e=>a e.symm)]
@[simp] theorem aUN{N:Nat×Nat->Prop}{n:Nat}{f:Nat->Nat}:ba N (dR n f)=True:=by
 rw[df,eq_iff_iff,iff_true];intro v a;simp only[dR,hp]at a;obtain⟨x,_,rfl⟩:=a;trivial
theorem C0{n:Nat}{f g:Nat->Nat}(h:∀j,j<n->f j=g j):dR n f=dR n g:=by
 rw[dR,dR];apply hJ;intro j a;rw[h j (hZ.1 a)]
theorem GC(n:Nat)(f:Nat->Nat):dR n f=((gi n).map f).map (AV.p∘fun x:Nat=>PV.int .i64 x):=by
 rw[dR,hF];rfl
theorem ZK{n:Nat}{f:Nat->Nat}(h:∀j,f j=0):gj n (AV.p (.int .i64 0))=dR n f:=by
 rw[Py];exact C0 fun j _=>(h j).symm
theorem Ie(a b:Nat)(v:(aw bT a).length+(aw bT b).length<=1000000):aq prog 258 [eT a,eT b] (eT (a*b)):=by
 refine gA_ nf func258 mix ?_;have N:∀i(h:i<(aw bT a).length),(aw bT a)[i]=ae bT a i:=fun i h=>fH bp h;have Q:∀i(h:i<(aw bT b).length),(aw bT b)[i]=ae bT b i:=fun i h=>fH bp h;have s:=cL bp a;have d:=cL bp b;have U:fC ((gi ((aw bT a).length+(aw bT b).length)).map (ae bT (a*b)))=aw bT (a*b):=lF bp (by
  rw[i7];exact j1 s d)
 have c:=xR ((gi ((aw bT a).length+(aw bT b).length)).map (ae bT (a*b))) (by simp;omega);rw[U]at c;have w:bT=1000000000:=rfl;simp only[eT];simp only[iP]at c;generalize aw bT (a*b)=z,aw bT a=x,aw bT b=y at*;obtain⟨n,hn⟩:∃n,x.length=n:=⟨_,rfl⟩
 obtain⟨m,e⟩:∃m,y.length=m:=⟨_,rfl⟩
 rw[hn]at s c v;rw[e]at d c v;have A:=GC (n+m) (ae bT (a*b));have t:((gi (n+m)).map (ae bT (a*b))).length=n+m:=s_
 generalize (gi (n+m)).map (ae bT (a*b))=l at c A t;have T:((n:Int)+m).toNat=n+m:=o_
 have S:0<=(n:Int)+m:=o_
 have Y:dz.wrap ((n:Int)+m)=(n:Int)+m:=aU _ o_ o_;simp[f258,hn,e,Y,T,S];refine⟨by simp only[dH];omega,?_⟩;rw[ZK (f:=dP bT a b 0 0) (by intro j;simp[sN,lv,ae])];refine lp (α:=Nat) (fun i=>⟨[(6,.p (.int .i64 i)),(5,.sl 0 0 1 0 (n+m)),(1,.p (.seq (y.map fun x:Nat=>.int .i64 x))),(0,.p (.seq (x.map fun x:Nat=>.int .i64 x)))],[.arr .exact 0 1 (dR (n+m) (dP bT a b i 0))]⟩)
  (fun i=>i<=n) (fun i=>n-i) 0 s_ ?_ (he:=s_)
 intro i k1;have V:=cE (i:=i) o_
 by_cases hi:i<n
 ·have q:i<x.length:=by rw[hn];exact hi
  have hx:=N i q;have ab:x[i]?=some (ae bT a i):=by rw[gc q,hx]
  simp[hn,hi];refine lp (α:=Nat) (fun j=>⟨[(8,.p (.int .i64 j)),(7,.p (.int .i64 (mulC bT a b i j:Nat))),(6,.p (.int .i64 i)),(5,.sl 0 0 1 0 (n+m)),(1,.p (.seq (y.map fun x:Nat=>.int .i64 x))),(0,.p (.seq (x.map fun x:Nat=>.int .i64 x)))],[.arr .exact 0 1 (dR (n+m) (dP bT a b i j))]⟩)
   (fun j=>j<=m) (fun j=>m-j) 0 s_ ?_ (he:=by simp[Gc])
  intro j k2;have X:=cE (i:=j) o_;have G:((i:Int)+j).toNat=i+j:=o_
  have F:0<=(i:Int)+j:=o_
  have W:dz.wrap ((i:Int)+j)=(i:Int)+j:=aU _ o_ o_
  by_cases E:j<m
  ·have r:j<y.length:=by rw[e];exact E
   have H:=Q j r;have ac:y[j]?=some (ae bT b j):=by rw[gc r,H]
   have B:i+j<n+m:=o_
   have o:=xH (dP bT a b i j) B;have g:=GY bp a b i j;have ah:=xM bp a b i j;have u:=xM bp a b i (j+1);have ai:dP bT a b i j (i+j)<bT:=by rw[dP];split<;>exact cQ bp _ _
   have al:=cQ bp a i;have am:=cQ bp b j;have hs:=Hc (n:=n+m) (i:=i+j) (dP bT a b i j) (dP bT a b i (j+1)) (fun k _ hk=>Ov bp hk);rw[Qc]at hs;rw[<-g.1]at hs;have ak:ae bT a i*ae bT b j<=999999999*999999999:=kp o_ o_;rw[<-g.2]at u;have L:=g.2;clear g;have M:((ae bT a i:Int)*(ae bT b j:Int))=((ae bT a i*ae bT b j:Nat):Int):=by push_cast;rfl
   generalize ae bT a i*ae bT b j=P,dP bT a b i j (i+j)=O,aj:mulC bT a b i j=C at*;have w1:dz.wrap ((ae bT a i:Int)*(ae bT b j:Int))=P:=by rw[M];exact aU _ o_ o_
   have ad:dz.wrap ((O:Int)+P)=O+P:=aU _ o_ o_;have af:dz.wrap ((O:Int)+P+C)=O+P+C:=aU _ o_ o_;have I:((O:Int)+P+C).tmod 1000000000=((P+O+C)% bT:Nat):=by
    rw[ed o_,w];omega
   generalize (P+O+C)% bT=D at*;have J:((O:Int)+P+C).tdiv 1000000000=(mulC bT a b i (j+1):Nat):=by
    rw[ec o_,<-L,w];omega
   have K:dz.wrap ((mulC bT a b i (j+1):Nat):Int)=(mulC bT a b i (j+1):Nat):=aU _ o_ o_;simp[hn,e,E,W,G,F,B,o,hx,ab,H,ac,q,r,w1,ad,af,I,J,K,hs,aa];exact rd (j+1) (show j+1<=m by omega) (he:=by simp[X])
  have:j=m:=o_
  subst this;have Z:dz.wrap ((i:Int)+j)=(i:Int)+j:=aU _ o_ o_;have ar:i+j<n+j:=o_
  have hz:dP bT a b i j (i+j)=0:=by
   rw[dP,if_neg o_];exact lE (zZ bp a i d)
  have o:=xH (dP bT a b i j) ar;rw[hz]at o;have hs:=Hc (n:=n+j) (i:=i+j) (dP bT a b i j) (dP bT a b (i+1) 0) (fun k _ hk=>by rw[sN,Qd bp d hk]);rw[sN,<-M5 bp d]at hs;have u:=xM bp a b i j;have ag:dz.wrap ((mulC bT a b i j:Nat):Int)=(mulC bT a b i j:Nat):=aU _ o_ o_;simp[e,Z,G,F,hi,ar,o,hs,ag,aa];exact rd (i+1) (show i+1<=n by omega) (he:=by simp[V])
 have:i=n:=o_
 subst this;have R:dR (i+m) (dP bT a b i 0)=dR (i+m) (ae bT (a*b)):=C0 fun k _=>by rw[sN,ih s]
 simp[hn,R,A];refine cp c (by simp[t];exact⟨rfl,rfl⟩) ?_ (h1:=by simp[ge,t]);simp
theorem asQ{a b i:Nat}(c:0<b):(a/bT^(i+1)% b*bT+ae bT a i)/b=ae bT (a/b) i/\(a/bT^(i+1)% b*bT+ae bT a i)% b=a/bT^i% b:=by
 have e:=wZ (B:=bT) a i;have g:=iz (a/bT^(i+1)) b;have f:a/bT^i=(a/bT^(i+1)% b*bT+ae bT a i)+a/bT^(i+1)/b*bT*b:=by
  rw[e];generalize ae bT a i=d;generalize a/bT^(i+1)/b=Q,a/bT^(i+1)% b=R at*;rw[<-g,i5,h3 b,kx Q b bT];omega
 have j:(a/bT^(i+1)% b*bT+ae bT a i)/b<bT:=by
  rw[h9 c];have k:=cQ bp a i;have h:=h7 bT (show a/bT^(i+1)% b+1<=b from i0 _ c);rw[i5,jp]at h;rw[h3 bT];omega
 constructor
 ·conv=>rhs;rw[ae,ik,h3 b,<-ik,f,Nat.add_mul_div_right _ _ c,la,ih j]
 ·rw[f,la]
theorem DZ(r x:Nat):(r:Int)*1000000000+x=((r*bT+x:Nat):Int):=by
 rw[fb,ei];rfl
def qT(Q i k:Nat):Nat:=if i<=k then ae bT Q k else 0
theorem H3{m Q i:Nat}:(dR m (qT Q (i+1))).set i (.p (.int .i64 (ae bT Q i:Nat)))=dR m (qT Q i):=by
 have:=Hc (n:=m) (i:=i) (qT Q (i+1)) (qT Q i) (fun k _ hk=>by
  rw[qT,qT]
  by_cases h:i<=k
  ·rw[if_pos h,if_pos o_]
  ·rw[if_neg h,if_neg o_])
 rw[<-this,qT,if_pos (ip _)]
theorem Q9{m Q:Nat}:dR m (qT Q 0)=dR m (ae bT Q):=C0 fun k _=>by rw[qT,if_pos (i9 _)]
theorem Ra{m Q:Nat}:gj m (AV.p (.int .i64 0))=dR m (qT Q m):=by
 rw[Py];exact C0 fun k hk=>by rw[qT,if_neg o_]
theorem RF{m N:Nat}(h:N<bT^m)(b:m<=1048576):∃l:List Nat,l.length=m/\dR m (ae bT N)=l.map (AV.p∘fun x:Nat=>PV.int .i64 x)/\aq prog 305 [.seq (iP l)] (eT N):=by
 refine⟨(gi m).map (ae bT N),s_,GC m _,?_⟩;have a:=xR ((gi m).map (ae bT N)) (by simp;omega);rw[show fC ((gi m).map (ae bT N))=aw bT N from lF bp h]at a;exact a
theorem NH(a d:Nat)(s:0<d)(T:d<bT)(K:(aw bT a).length<=1000000):aq prog 304 [eT a,.int .i64 d] (.aC [eT (a/d),.int .i64 (a% d:Nat)]):=by
 refine gA_ nf func304 mix ?_;have I:∀i(h:i<(aw bT a).length),(aw bT a)[i]=ae bT a i:=fun i h=>fH bp h;have u:=cL bp a;obtain⟨l,j,v,e⟩:=RF (m:=(aw bT a).length) (N:=a/d) (h5 (j5 _ _) u) o_;have g:a/bT^(aw bT a).length% d=0:=by rw[i2 u,Nat.zero_mod]
 have y:a/bT^0% d=a% d:=by rw[i3,i8]
 have S:bT=1000000000:=rfl;simp only[eT]at e⊢;simp only[iP]at e;generalize aw bT (a/d)=W,aw bT a=x at*;obtain⟨n,hn⟩:∃n,x.length=n:=⟨_,rfl⟩
 rw[hn]at j v g K;generalize V:a% d=rem at*;obtain⟨f,hf⟩:∃f:Nat->Nat,∀i,a/bT^i% d=f i:=⟨_,fun _=>rfl⟩
 have w:=fun i=>asQ (a:=a) (b:=d) (i:=i) s;have t:∀i,f i<d:=fun i=>by rw[<-hf];exact i0 _ s
 simp only[hf]at g y w;have D:dz.wrap ((n:Int)-1)=n-1:=aU _ o_ o_;simp[f304,hn,D];refine⟨by simp only[dH];omega,?_⟩;rw[Ra (Q:=a/d)];refine lp (α:=Nat) (fun i=>⟨[(8,.p (.int .i64 ((i:Int)-1))),(7,.p (.int .i64 (f i:Nat))),(6,.sl 0 0 1 0 n),(1,.p (.int .i64 d)),(0,.p (.seq (x.map fun x:Nat=>.int .i64 x)))],[.arr .exact 0 1 (dR n (qT (a/d) i))]⟩)
  (fun i=>i<=n) (fun i=>i) n (ip _) ?_ (he:=by simp[g])
 intro i k1
 by_cases hi:0<i
 ·obtain⟨k,rfl⟩:∃k,i=k+1:=⟨i-1,o_⟩
  have E:dz.wrap ((k:Int)-1)=k-1:=aU _ o_ o_;have o:k<x.length:=o_
  have hx:=I k o;have L:x[k]?=some (ae bT a k):=by rw[gc o,hx]
  obtain⟨r1,M⟩:=w k;have aO:=H3 (m:=n) (Q:=a/d) (i:=k);have gk:=xH (qT (a/d) (k+1)) (show k<n by omega);have J:k<n:=o_
  have P:=t (k+1);have U:=cQ bp a k;have hq:=cQ bp (a/d) k;have R:=t k;generalize f (k+1)=c,F:f k=z,ae bT a k=dk,ae bT (a/d) k=q at*;have w1:dz.wrap ((c:Int)*1000000000)=c*1000000000:=aU _ o_ o_;have O:dz.wrap ((c:Int)*1000000000+dk)=c*1000000000+dk:=aU _ o_ o_;have r:(c:Int)*1000000000+dk=((c*bT+dk:Nat):Int):=DZ c dk;have A:((c:Int)*1000000000+dk).tdiv d=q:=by
   rw[r,ec (eb _),<-ej,r1]
  have B:((c:Int)*1000000000+dk).tmod d=z:=by
   rw[r,ed (eb _),<-em,M]
  have C:dz.wrap (q:Int)=q:=aU _ o_ o_;have G:¬(d:Int)=0:=o_
  have H:¬d=0:=o_
  simp[hn,E,hx,L,J,o,w1,O,A,B,C,G,H,gk,aO,aa];exact rd k (show k<=n by omega) (he:=by simp[F])
 ·obtain rfl:i=0:=by omega
  simp[Q9,v,y];refine cp e (by simp[j];exact⟨rfl,rfl⟩) ?_ (h1:=by simp[ge,j]);simp
def mQ(a b c:Nat):Nat->Nat->Nat
 |0,_=>0
 |t+1,r=>if bT<=t+1\/r*bT+c<(t+1)*b then(if bT<=r+a then t else mQ a b c t (r+a))else t+1
theorem aGO{a b c t r:Nat}(h:0<t):mQ a b c t r=if bT<=t\/r*bT+c<t*b then(if bT<=r+a then t-1 else mQ a b c (t-1) (r+a))else t:=by
 cases t with
 |zero=>exact absurd h (Nat.lt_irrefl 0)
 |succ t=>rw[mQ,i6]
theorem Ot{a b:Nat}(c:a<bT)(d:b<bT):dz.wrap ((a:Int)*b)=(a:Int)*b:=by
 have e:a*b<=999999999*999999999:=kp (by simp only[bT]at c;omega) (by simp only[bT]at d;omega);rw[<-ei];generalize a*b=P at*;exact aU _ o_ o_
theorem U9{a b r w:Nat}:(r:Int)*1000000000+w<(a:Int)*b↔r*bT+w<a*b:=by
 rw[DZ,<-ei];exact Int.ofNat_lt
theorem Ef{r v:Nat}:(1000000000:Int)<=(r:Int)+v↔bT<=r+v:=by simp only[bT];omega
theorem T0{t:Nat}:(1000000000:Int)<=(t:Int)↔bT<=t:=by simp only[bT];omega
theorem aQ0{t:Nat}(h:0<t)(a:t<=bT+1):dz.wrap ((t:Int)-1)=((t-1:Nat):Int):=by
 simp only[bT]at a;rw[aU _ o_ o_];omega
theorem SW{a v2 w0 w1 w2 Q:Nat}(u:bT<=2*a)(v:a<bT)(m:w0<=a)(w:w1<bT)(s:Q<bT)
 (d:∀q r,q*a+r=w0*bT+w1->q<bT->q*v2<=r*bT+w2->q<=Q+1)(k:∀q r,q*a+r=w0*bT+w1->r*bT+w2<q*v2->Q<q)
 (l:∀q r,bT<=r->q<bT->q*v2<=r*bT+w2):∀t r,t*a+r=w0*bT+w1->Q<=t->r<bT->t<=bT+1->Q<=mQ a v2 w2 t r/\mQ a v2 w2 t r<=Q+1/\mQ a v2 w2 t r<bT
 |0,r,b,c,n,o=>by
  rw[mQ];exact⟨c,o_,o_⟩
 |t+1,r,b,c,n,o=>by
  rw[mQ]
  by_cases hc:bT<=t+1\/r*bT+w2<(t+1)*v2
  ·rw[if_pos hc];have hq:Q<=t:=by
    rcases hc with h|h
    ·omega
    ·have:=k _ _ b h;omega
   have i:t*a+(r+a)=w0*bT+w1:=by rw[i5,jp]at b;omega
   by_cases f:bT<=r+a
   ·rw[if_pos f];have g:t<bT:=by
     rcases ii t bT with h|h
     ·exact h
     ·have e:t=bT:=by omega
      subst e;have:=h7 bT m;rw[h3 a]at this;omega
    exact⟨hq,d _ _ i g (l _ _ f g),g⟩
   ·rw[if_neg f];exact SW u v m w s d k l t (r+a) i hq o_ o_
  ·rw[if_neg hc];have j:t+1<bT:=by
    rcases ii (t+1) bT with h|h
    ·exact h
    ·exact(hc (.inl h)).elim
   have p:(t+1)*v2<=r*bT+w2:=by
    rcases ii (r*bT+w2) ((t+1)*v2)with h|h
    ·exact(hc (.inr h)).elim
    ·exact h
   exact⟨c,d _ _ b j p,j⟩
theorem aGH(W V N j n:Nat)(k:AK)(az:Nat)(f:Nat->Nat)(hn:2<=n)(ay:(aw bT V).length=n)(aN:bT<=2*ae bT V (n-1))(aA:W<V*bT)(a6:N<=1000000)(aQ:j+n<N)
 (hf:∀i,i<=n->f (j+i)=ae bT W i):∃t,W/V<=t/\t<=W/V+1/\t<bT/\
 dE prog 306 [.arr k az 1 (dR N f)] [.sl 0 az 1 0 N,.p (eT V),.p (.int .i64 j)] [.arr k az 1 (dR N f)] (.p (.int .i64 t)):=by
 have aO:bT=1000000000:=rfl;have A:V<bT^n:=by rw[<-ay];exact cL bp V
 have O:bT^(n-1)<=V:=by
  rcases ii V (bT^(n-1))with h|h
  ·have:=eZ bp (n-1) V h;omega
  ·exact h
 obtain⟨ak,aP⟩:=Hm bp (show 1<=n by omega) A aA;have an:W/bT^n=ae bT W n:=by
  rw[ae,ih];have:=cQ bp V (n-1);omega
 have o:W/bT^(n-1)=ae bT W n*bT+ae bT W (n-1):=by
  rw[wZ,show n-1+1=n by omega,an]
 have C:=Rw bp hn O A (W:=W);have U:=fun q r=>IG bp hn O A (W:=W) (q:=q) (r:=r);have S:=fun q r=>SV bp hn O A (W:=W) (q:=q) (r:=r);have aE:=fun q r=>Rv bp (V:=V) (W:=W) (n:=n) (q:=q) (r:=r);rw[o]at C U S;have q1:=cQ bp W n;have a1:=cQ bp W (n-1);have bh:=cQ bp W (n-2);have q4:=cQ bp V (n-1);have a2:=cQ bp V (n-2);have au:=hf n (ip _);have av:=hf (n-1) o_;have ax:=hf (n-2) o_;rw[an]at ak;have B:(aw bT V)[n-1]?=some (ae bT V (n-1)):=by rw[gc o_,fH bp o_]
 have R:(aw bT V)[n-2]?=some (ae bT V (n-2)):=by rw[gc o_,fH bp o_]
 have aC:∀h:n-1<(aw bT V).length,(aw bT V)[n-1]=ae bT V (n-1):=fun h=>fH bp h;have aD:∀h:n-2<(aw bT V).length,(aw bT V)[n-2]=ae bT V (n-2):=fun h=>fH bp h;simp only[eT];generalize aw bT V=y,a7:W/V=Q,bc:ae bT W n=w0,bd:ae bT W (n-1)=w1,be:ae bT W (n-2)=d,a9:ae bT V (n-1)=a,bb:ae bT V (n-2)=v2 at*;clear o an A O aA hf;have g1:=xH f (show j+n<N by omega);have g2:=xH f (show j+(n-1)<N by omega);have g3:=xH f (show j+(n-2)<N by omega);rw[au]at g1;rw[av]at g2;rw[ax]at g3;have D:=zX N f;have ao:∀aq:Nat×Nat->Prop,ba aq (dR N f):=fun aq=>by simp
 generalize dR N f=u at*;obtain⟨c,g⟩:∃c,c=w0*bT+w1:=⟨_,rfl⟩
 obtain⟨b,Z⟩:∃b,b=c/a:=⟨_,rfl⟩
 obtain⟨r0,X⟩:∃r0,r0=c% a:=⟨_,rfl⟩
 have aR:0<a:=o_
 have aF:b*a+r0=c:=by rw[Z,X,h3];exact iz _ _
 have al:r0<bT:=i1 (by rw[X];exact i0 _ aR) q4;have am:b<=bT+1:=by
  have aL:=h7 bT ak;rw[h3 a]at aL;rcases ii (bT+1) b with h|h
  ·have aM:=h7 a (show bT+2<=b from h);rw[i5]at aM;omega
  ·exact h
 rw[<-g]at C U S;rw[<-Z]at C;have P:=SW (v2:=v2) (w2:=d) aN q4 ak a1 aP (by rw[<-g];exact U) (by rw[<-g];exact S) aE b r0 (by rw[<-g];exact aF) C al am;refine⟨mQ a v2 d b r0,P.1,P.2.1,P.2.2,?_⟩;obtain⟨T,o⟩:∃T,T=mQ a v2 d b r0:=⟨_,rfl⟩
 rw[<-o];clear P C U S aE;have l:y.length=n:=ay;have wa:dz.wrap ((j:Int)+n)=(j+n:Nat):=by rw[aU _ o_ o_];omega
 have J:dz.wrap ((j:Int)+n)=(j:Int)+n:=aU _ o_ o_;have wb:dz.wrap ((j:Int)+n-1)=(j:Int)+n-1:=aU _ o_ o_;have w:dz.wrap ((n:Int)-1)=(n:Int)-1:=aU _ o_ o_;have wd:dz.wrap ((n:Int)-2)=(n:Int)-2:=aU _ o_ o_;have ah:dz.wrap ((j:Int)+n-2)=(j:Int)+n-2:=aU _ o_ o_;have a3:((j:Int)+n).toNat=j+n:=o_
 have a4:((j:Int)+n-1).toNat=j+(n-1):=o_
 have v:((n:Int)-1).toNat=n-1:=o_
 have ag:((n:Int)-2).toNat=n-2:=o_
 have te:((j:Int)+n-2).toNat=j+(n-2):=o_
 have wf:dz.wrap ((w0:Int)*1000000000)=(w0:Int)*1000000000:=aU _ o_ o_;have aB:(w0:Int)*1000000000+w1=(c:Nat):=by rw[g];exact DZ w0 w1
 have a8:c<1000000000000000000:=by rw[g,aO];omega
 have aH:dz.wrap ((w0:Int)*1000000000+w1)=(c:Nat):=by rw[aB];exact aU _ o_ o_
 have ar:((c:Nat):Int).tdiv a=b:=by rw[ec (eb _),<-ej,<-Z]
 have dr:((c:Nat):Int).tmod a=r0:=by rw[ed (eb _),<-em,<-X]
 have aS:¬(a:Int)=0:=o_
 have aT:¬a=0:=o_
 have aI:dz.wrap (b:Int)=b:=aU _ o_ o_;have s:n-1<y.length:=o_
 have G:n-2<y.length:=o_
 have E:=aC s;have ab:=aD G;have aG:j+n<u.length:=o_
 have aV:j+(n-1)<u.length:=o_
 have F:j+(n-2)<u.length:=o_
 have aW:j+(n-1)<N:=o_
 have ac:j+(n-2)<N:=o_
 have aJ:u[j+n]=.p (.int .i64 w0):=by rw[gc aG]at g1;exact l0 g1
 have aK:u[j+(n-1)]=.p (.int .i64 w1):=by rw[gc aV]at g2;exact l0 g2
 have M:u[j+(n-2)]=.p (.int .i64 d):=by rw[gc F]at g3;exact l0 g3
 have I:¬u=[]:=by rintro rfl;simp at aG
 have aX:0<=(j:Int)+n:=o_
 have aY:0<=(j:Int)+n-1:=o_
 have bf:0<=(j:Int)+n-2:=o_
 have a0:0<=(n:Int)-1:=o_
 have bg:0<=(n:Int)-2:=o_
 have aZ:1<=(j:Int)+n:=o_
 have ad:2<=(j:Int)+n:=o_
 have H:1<=(n:Int):=o_
 have af:2<=(n:Int):=o_
 refine iC nf (i_ func306) mix (by simp[f306]) ?_;simp[f306,l,J,wb,w,a3,a4,v,g1,g2,B,E,wf,aH,ar,dr,aS,aT,aI,D,aQ,s,aJ,aK,I,aX,aY,a0,aZ,H,aW,aa];refine lp (α:=Nat×Nat) (fun x=>⟨[(10,.p (.int .i64 x.2)),(9,.p (.int .i64 x.1)),(7,.p (.int .i64 n)),(2,.p (.int .i64 j)),(1,.p (.seq (y.map fun x:Nat=>.int .i64 x))),(0,.sl 0 az 1 0 N)],[.arr k az 1 u]⟩)
  (fun x=>T=mQ a v2 d x.1 x.2/\x.2<bT/\x.1<=bT+1) (fun x=>x.1) (b,r0) ⟨o,al,am⟩ ?_ (hr2:=by simp[ao])
 clear g aF Z X aB aH ar dr o wf al am aI aC aD au av ax;rintro⟨t,r⟩ ⟨k1,k2,k3⟩;dsimp only at k1 k2 k3;have ai:dz.wrap ((r:Int)*1000000000)=(r:Int)*1000000000:=aU _ o_ o_;have aj:dz.wrap ((r:Int)*1000000000+d)=(r:Int)*1000000000+d:=aU _ o_ o_;have K:dz.wrap ((r:Int)+a)=(r:Int)+a:=aU _ o_ o_;rcases lq t with z|z
 ·subst z;rw[mQ]at k1;have c1:¬(r:Int)*1000000000+d<0:=by rw[DZ];exact Int.not_lt.2 (eb _)
  have a5:dz.wrap 0=0:=rfl;simp[l,a5,wd,ag,ai,aj,K,ah,te,R,ab,G,g3,M,F,ac,D,I,ad,af,J,c1,k1,aa]
 rw[aGO z]at k1;have Y:=aQ0 z k3;have k4:∀x,x<=bT+1->x-1<=bT+1:=fun x h=>h4 (kX _ _) h;have k5:t-1<t:=Nat.sub_lt z d_
 by_cases c0:bT<=t
 ·have m:=T0.2 c0;rw[if_pos (.inl c0)]at k1
  by_cases c2:bT<=r+a
  ·have e:=Ef.2 c2;rw[if_pos c2]at k1;simp[m,Y,l,w,v,B,E,s,H,K,e,k1]
  ·have e:=mt Ef.1 c2;rw[if_neg c2]at k1;simp[m,Y,l,w,v,B,E,s,H,K,e];exact rd (t-1,r+a) ⟨k1,kF c2,k4 _ k3⟩ k5 (he:=s_) (hr2:=by simp[ao])
 have m:=mt T0.1 c0;have ap:=Ot (kF c0) a2
 by_cases c1:r*bT+d<t*v2
 ·have L:=U9.2 c1;rw[if_pos (.inr c1)]at k1
  by_cases c2:bT<=r+a
  ·have e:=Ef.2 c2;rw[if_pos c2]at k1;simp[m,Y,l,w,v,B,E,s,H,K,e,k1,wd,ag,ai,aj,ap,ah,te,R,ab,G,g3,M,F,ac,D,I,ad,af,J,L,aa]
   done
  ·have e:=mt Ef.1 c2;rw[if_neg c2]at k1;simp[m,Y,l,w,v,B,E,s,H,K,e,wd,ag,ai,aj,ap,ah,te,R,ab,G,g3,M,F,ac,D,I,ad,af,J,L,aa];exact rd (t-1,r+a) ⟨k1,kF c2,k4 _ k3⟩ k5 (he:=s_) (hr2:=by simp[ao])
 ·have L:=mt U9.1 c1;rw[if_neg (fun h=>h.elim c0 c1)]at k1;simp[m,l,w,v,wd,ag,ai,aj,ap,ah,te,R,ab,G,g3,M,F,ac,D,I,ad,af,J,L,k1,aa]
theorem av6{b k f d:Nat}(n:b<bT^(k+1))(h:d=b/bT^k)(p:0<d)(hf:f=bT/(d+1)):0<f/\f<bT/\b*f<bT^(k+1)/\bT^k<=b*f/\bT<=2*ae bT (b*f) k:=by
 have e:0<bT^k:=iA d_;have s:d<bT:=by
  rw[h,h9 e,h3,<-h8];exact n
 have r:bT=1000000000:=rfl;have g:=j8 bT (d+1);have j:=Nat.lt_div_mul_add (a:=bT) (show 0<d+1 by omega);rw[<-hf]at g j;have i:0<f:=by rw[hf];exact j6 o_ o_
 have q:f<bT:=by
  rw[hf];exact kP d_ o_
 have o:b<(d+1)*bT^k:=by
  rw[<-h9 e,<-h];omega
 have l:d*bT^k<=b:=by rw[h];exact j8 _ _
 have m:b*f<bT^(k+1):=by
  rw[h8];have e1:b*f<(d+1)*bT^k*f:=j9 o i;have e2:(d+1)*bT^k*f=f*(d+1)*bT^k:=by rw[h3,<-iB]
  have e3:=h7 (bT^k) g;rw[h3 (bT^k) bT];omega
 refine⟨i,q,m,?_,?_⟩
 ·have e1:1*bT^k<=d*bT^k:=h7 _ p;rw[jp]at e1;exact h4 (h4 e1 l) (kh _ i)
 ·have e1:b*f/bT^k=ae bT (b*f) k:=by
   rw[ae,ih];rw[h9 e,h3 bT,<-h8];exact m
  have e2:d*f<=b*f/bT^k:=by
   rw[li e,kx];exact h7 _ l
  rw[e1]at e2;have e3:d+f<=d*f+1:=by
   obtain⟨d',rfl⟩:∃d',d=d'+1:=⟨d-1,o_⟩
   obtain⟨c,rfl⟩:∃c,f=c+1:=⟨f-1,o_⟩
   have:(d'+1)*(c+1)=d'*c+d'+c+1:=by rw[i5,js,jp,kH];omega
   omega
  have e4:f*(d+1)=d*f+f:=by rw[js,kH,h3]
  rw[e4]at g j;generalize d*f=P,ae bT (b*f) k=Z at*;omega
def iE(V R t i:Nat):Nat:=(t*(V% bT^i)+R% bT^i)/bT^i
theorem awJ{V R t:Nat}:iE V R t 0=0:=by simp[iE,lv]
theorem PK{W V R t n i:Nat}(h:R+t*V=W+bT^(n+1))(hi:i<=n):ae bT R i+t*ae bT V i+iE V R t i=ae bT W i+iE V R t (i+1)*bT:=by
 have k:0<bT^i:=iA d_;have l:0<bT^(i+1):=iA d_;have d:(t*(V% bT^(i+1))+R% bT^(i+1))% bT^(i+1)=W% bT^(i+1):=by
  have e1:(t*V+R)% bT^(i+1)=(t*(V% bT^(i+1))+R% bT^(i+1))% bT^(i+1):=by
   have a:=iz V (bT^(i+1));have e:=iz R (bT^(i+1));have f:t*V+R=t*(V% bT^(i+1))+R% bT^(i+1)+bT^(i+1)*(t*(V/bT^(i+1))+R/bT^(i+1)):=by
    have g:t*V=t*(V% bT^(i+1))+bT^(i+1)*(t*(V/bT^(i+1))):=by
     conv=>lhs;rw[<-a]
     rw[js,<-iB,h3 t (bT^(i+1)),iB];omega
    rw[g,js]
    conv=>lhs;rw[<-e]
    omega
   rw[f,kc]
  rw[<-e1,j2 (t*V),h];have:bT^(i+1)∣bT^(n+1):=kL _ o_;obtain⟨c,hc⟩:=this;rw[hc,kc]
 have e2:=iz (t*(V% bT^(i+1))+R% bT^(i+1)) (bT^(i+1));have e3:=iz (t*(V% bT^i)+R% bT^i) (bT^i);rw[d]at e2;rw[show(t*(V% bT^(i+1))+R% bT^(i+1))/bT^(i+1)=iE V R t (i+1)from rfl]at e2;rw[show(t*(V% bT^i)+R% bT^i)/bT^i=iE V R t i from rfl]at e3;have j:(t*(V% bT^i)+R% bT^i)% bT^i=W% bT^i:=by
  have:=congrArg (·% bT^i) d
  have b:bT^i∣bT^(i+1):=kL _ o_;rw[kA _ b,kA _ b]at this;rw[<-this,mod_pow_succ,mod_pow_succ];rw[js];have:t*(V% bT^i)+t*(bT^i*ae bT V i)+(R% bT^i+bT^i*ae bT R i)=t*(V% bT^i)+R% bT^i+bT^i*(t*ae bT V i+ae bT R i):=by
   rw[js,<-iB t,h3 t (bT^i),iB];omega
  rw[this,kc]
 rw[j]at e3;rw[mod_pow_succ,mod_pow_succ,mod_pow_succ,h8]at e2;have e4:bT^i*(ae bT R i+t*ae bT V i+iE V R t i)=bT^i*(ae bT W i+iE V R t (i+1)*bT):=by
  have a:t*(V% bT^i+bT^i*ae bT V i)=t*(V% bT^i)+bT^i*(t*ae bT V i):=by
   rw[js,<-iB t,h3 t (bT^i),iB]
  rw[a]at e2;rw[js,js,js];rw[iB (bT^i),h3 bT]at e2;generalize bT^i*ae bT R i=m,bT^i*(t*ae bT V i)=o,bT^i*iE V R t i=p,bT^i*ae bT W i=q,bT^i*(iE V R t (i+1)*bT)=r,t*(V% bT^i)=s at*;omega
 exact Nat.eq_of_mul_eq_mul_left k e4
theorem awI{r p w b':Nat}(h:r+p=w+b'*bT)(j:r<bT)(k:w<bT):(w<p% bT/\r+p% bT=w+bT/\b'=p/bT+1)\/(p% bT<=w/\r+p% bT=w/\b'=p/bT):=by
 have e:=iz p bT;have i:=i0 p (show 0<bT by decide);generalize p/bT=q,p% bT=m at*;have b:r+m+bT*q=w+b'*bT:=o_
 rw[h3 bT]at b;rcases Nat.lt_trichotomy b' q with a|a|a
 ·have:=h7 bT (show b'+1<=q from a);rw[i5,jp]at this;omega
 ·subst a;right;omega
 ·have d:=h7 bT (show q+1<=b' from a);rw[i5,jp]at d;have f:b'=q+1:=by
   rcases ii (q+1) b' with c|c
   ·have g:=h7 bT (show q+2<=b' from c);rw[i5]at g;omega
   ·omega
  subst f;rw[i5,jp]at b;left;omega
theorem aDp{W V t n:Nat}(x:0<V)(j:V<bT^n)(l:W<bT^(n+1))(B:W/V<=t)(C:t<=W/V+1):
 ∃R,R+t*V=W+bT^(n+1)/\
 ((t=W/V/\iE V R t n=ae bT W n/\∀i,i<=n->ae bT R i=ae bT (W% V) i)\/
  (t=W/V+1/\iE V R t n=ae bT W n+1/\dN bT R V n=1/\∀i,i<=n->ae bT (R+V) i=ae bT (W% V) i)):=by
 have G:0<bT^n:=iA d_;have A:0<bT^(n+1):=iA d_;have k:V<bT^(n+1):=h2 j (h0 d_ o_);have y:=iz W V;have o:=i0 W x;have d:bT^(n+1)=bT^n*bT:=h8 _ _;have E:bT=1000000000:=rfl;have z:W% V<bT^n:=i1 o j;have hz:ae bT (W% V) n=0:=lE z;have q:ae bT V n=0:=lE j;have m:∀R,R+t*V=W+bT^(n+1)->ae bT R n+iE V R t n=ae bT W n+iE V R t (n+1)*bT:=fun R u=>by
  have:=PK u (ip n);rw[q,ls,Nat.add_zero]at this;exact this
 rcases ii t (W/V+1)with s|s
 ·have b:t=W/V:=by omega
  have r:t*V+W% V=W:=by rw[b,h3];exact y
  refine⟨W% V+bT^(n+1),o_,.inl ⟨b,?_,fun i hi=>?_⟩⟩
  ·have e:=m (W% V+bT^(n+1)) o_;have f:iE V (W% V+bT^(n+1)) t (n+1)=0:=by
    rw[iE,ih k,Nat.add_mod_right,ih (i1 o k),r,i2 l]
   have a:ae bT (W% V+bT^(n+1)) n=0:=by
    rw[<-hz];exact zU o_
   rw[f,a]at e;omega
  ·exact zU o_
 ·have b:t=W/V+1:=by omega
  have r:t*V+W% V=W+V:=by rw[b,i5,jp,h3];omega
  have F:V<=bT^(n+1)+W% V:=o_
  refine⟨bT^(n+1)+W% V-V,o_,.inr ⟨b,?_,?_⟩⟩
  ·have e:=m (bT^(n+1)+W% V-V) o_;have v:bT^(n+1)+W% V-V<bT^(n+1):=by omega
   have f:iE V (bT^(n+1)+W% V-V) t (n+1)=1:=by
    rw[iE,ih k,ih v];have:t*V+(bT^(n+1)+W% V-V)=W+bT^(n+1):=o_
    rw[this,Nat.add_div_right _ A,i2 l]
   have a:ae bT (bT^(n+1)+W% V-V) n=bT-1:=by
    have g:(bT^(n+1)+W% V-V)/bT^n=bT-1:=by
     refine ll ?_ ?_
     ·rw[lt,jp,h3 bT,<-d];omega
     ·rw[show bT-1+1=bT by decide,h3 bT,<-d];omega
    rw[ae,g];decide
   rw[f,a]at e;omega
  ·have w:bT^(n+1)+W% V-V+V=W% V+bT^(n+1):=by omega
   have p:∀i,i<=n->ae bT (bT^(n+1)+W% V-V+V) i=ae bT (W% V) i:=fun i hi=>by
    rw[w];exact zU o_
   refine⟨?_,p⟩;have h:=(uC bp (bT^(n+1)+W% V-V) V n).1;have D:=n7 bp (bT^(n+1)+W% V-V) V n;rw[p n (ip _),hz,q]at h;have a:ae bT (bT^(n+1)+W% V-V) n=bT-1:=by
    have g:(bT^(n+1)+W% V-V)/bT^n=bT-1:=by
     refine ll ?_ ?_
     ·rw[lt,jp,h3 bT,<-d];omega
     ·rw[show bT-1+1=bT by decide,h3 bT,<-d];omega
    rw[ae,g];decide
   rw[a]at h;generalize dN bT (bT^(n+1)+W% V-V) V n=c at*;rcases ii 0 c with hc|hc
   ·omega
   ·have:c=0:=by omega
    subst this;simp only[bT]at h;omega
theorem aDn{V R t i:Nat}:iE V R t i<=t:=by
 have a:0<bT^i:=iA d_;have b:=i0 V a;have c:=i0 R a;rw[iE];refine Nat.le_of_lt_succ ?_;rw[h9 a];have d:=kw t (lc b);rw[Nat.succ_mul];omega
theorem aQ1{t v a w r b':Nat}(h:r+(t*v+a)=w+b'*bT)(f:r<bT)(g:w<bT)(b:t<bT)(c:v<bT)(i:a<=t):
 ∃(p q m:Nat),dz.wrap ((t:Int)*v)=(t:Int)*v/\dz.wrap ((t:Int)*v+a)=p/\(p:Int).tmod 1000000000=m/\(p:Int).tdiv 1000000000=q/\q<bT/\m<bT/\
 (((w:Int)-m<0/\(w:Int)-m+1000000000=r/\b'=q+1)\/(¬(w:Int)-m<0/\(w:Int)-m=r/\b'=q)):=by
 have d:t*v<=999999999*999999999:=kp (by simp only[bT]at b;omega) (by simp only[bT]at c;omega);have j:=awI h f g;have e:=i0 (t*v+a) (show 0<bT by decide);have hq:(t*v+a)/bT<bT:=by
  rw[h9 d_];simp only[bT]at b⊢;omega
 refine⟨t*v+a,(t*v+a)/bT,(t*v+a)% bT,Ot b c,?_,?_,?_,hq,e,?_⟩
 ·rw[<-ei,<-fb];generalize t*v=P at*;simp only[bT]at b;exact aU _ o_ o_
 ·rw[ed (eb _),em];rfl
 ·rw[ec (eb _),ej];rfl
 ·generalize (t*v+a)/bT=q at*;generalize (t*v+a)% bT=m at*;clear h d;simp only[bT]at*;omega
def du(n:Nat)(f:Nat->Int):List AV:=(gi n).map fun j=>.p (.int .i64 (f j))
theorem n8(n:Nat)(f:Nat->Int):(du n f).length=n:=by simp[du]
theorem U0(n:Nat)(f:Nat->Nat):dR n f=du n (fun k=>(f k:Nat)):=rfl
theorem aQw{n j:Nat}(f:Nat->Int)(h:j<n):(du n f)[j]?=some (.p (.int .i64 (f j))):=by
 rw[du,hg,ht h];rfl
theorem Af{n i:Nat}{v:Int}(f g:Nat->Int)(c:g i=v)(h:∀j,j<n->j≠i->g j=f j):(du n f).set i (.p (.int .i64 v))=du n g:=by
 apply ho (by simp[du]);intro j d b;rw[n8]at b;rw[hQ];simp only[du,hb,g9]
 by_cases a:i=j
 ·subst a;rw[if_pos rfl,c]
 ·rw[if_neg a,h j b (fun e=>a e.symm)]
@[simp] theorem aUR{N:Nat×Nat->Prop}{n:Nat}{f:Nat->Int}:ba N (du n f)=True:=by
 rw[df,eq_iff_iff,iff_true];intro v a;simp only[du,hp]at a;obtain⟨x,_,rfl⟩:=a;trivial
theorem QE{n:Nat}{f g:Nat->Int}(h:∀j,j<n->f j=g j):du n f=du n g:=by
 rw[du,du];apply hJ;intro j a;rw[h j (hZ.1 a)]
def im(X R j i k:Nat):Int:=if j<=k/\k<j+i then(ae bT R (k-j):Nat)else(ae bT X k:Nat)
theorem win_zero{X R j k:Nat}:im X R j 0 k=(ae bT X k:Nat):=by rw[im,if_neg o_]
theorem HQ{X R j i:Nat}:im X R j i (j+i)=(ae bT X (j+i):Nat):=by rw[im,if_neg o_]
theorem aRM{X R j i:Nat}:im X R j (i+1) (j+i)=(ae bT R i:Nat):=by
 rw[im,if_pos o_,ko]
theorem aRN{X R j i k:Nat}(h:k≠j+i):im X R j (i+1) k=im X R j i k:=by
 rw[im,im]
 by_cases a:j<=k/\k<j+i
 ·rw[if_pos a,if_pos o_]
 ·rw[if_neg a,if_neg o_]
def iX(X R S j n i k:Nat):Int:=if k=j+n then -1 else if j<=k/\k<j+i then(ae bT S (k-j):Nat)else im X R j n k
theorem aRJ{X R S j n i:Nat}(h:i<n):iX X R S j n i (j+i)=(ae bT R i:Nat):=by
 rw[iX,if_neg o_,if_neg o_,im,if_pos o_,ko]
theorem aRK{X R S j n i:Nat}(h:i<n):iX X R S j n (i+1) (j+i)=(ae bT S i:Nat):=by
 rw[iX,if_neg o_,if_pos o_,ko]
theorem aRL{X R S j n i k:Nat}(h:k≠j+i):iX X R S j n (i+1) k=iX X R S j n i k:=by
 rw[iX,iX]
 by_cases a:k=j+n
 ·rw[if_pos a,if_pos a]
 ·rw[if_neg a,if_neg a]
  by_cases b:j<=k/\k<j+i
  ·rw[if_pos b,if_pos o_]
  ·rw[if_neg b,if_neg o_]
theorem ave{X V j n N:Nat}(d:0<V)(c:V<bT^n)(e:X<V*bT^(j+1)){g:Nat->Int}(h:∀k,k<N->g k=if k=j+n then 0 else if j<=k/\k<j+n then(ae bT (X/bT^j% V) (k-j):Nat)else(ae bT X k:Nat)):
 du N g=du N fun k=>(ae bT (X% (V*bT^j)) k:Nat):=by
 refine QE fun k hk=>?_;rw[h k hk,(Cu (B:=bT) (R:=X) (V:=V) (j:=j)).1,Ox bp];have i:=i0 (X/bT^j) d;have f:X<bT^(n+(j+1)):=by
  rw[i7];exact i1 e (j9 c (iA d_))
 by_cases a:k<j
 ·rw[if_pos a,if_neg o_,if_neg o_]
 ·rw[if_neg a]
  by_cases l:k<j+n
  ·rw[if_neg o_,if_pos o_]
  ·have hz:ae bT (X/bT^j% V) (k-j)=0:=lE (h2 (i1 i c) (h0 d_ o_));rw[hz]
   by_cases b:k=j+n
   ·rw[if_pos b]
   ·rw[if_neg b,if_neg o_];have:ae bT X k=0:=lE (h2 f (h0 d_ o_));rw[this]
theorem H4{f:Nat}(a:0<f)(h:f<bT):eT f=.seq [.int .i64 f]:=by rw[eT,qV a h];rfl
theorem auX{r:Nat}(h:r<bT):fC [r]=aw bT r:=by
 have:=lF bp (m:=1) (n:=r) (by rw[kd];exact h);rw[<-this,row,hX,gt,hu,ae,i3,i8,ih h]
@[simp] theorem aUK{σ:Nat->Nat}{n:Nat}{f:Nat->Int}:dt σ (du n f)=du n f:=by
 have:∀l:List Nat,dt σ (l.map fun j=>AV.p (.int .i64 (f j)))=l.map fun j=>AV.p (.int .i64 (f j)):=by
  intro l
  induction l with
  |nil=>rfl
  |cons a r b=>simp only[gt,dt,b];rfl
 exact this _
@[simp] theorem aUP{n j:Nat}{f:Nat->Int}(h:j<(du n f).length):(du n f)[j]=.p (.int .i64 (f j)):=by
 simp only[du,hb,g9]
@[simp] theorem aUM{n j:Nat}{f:Nat->Nat}(h:j<(dR n f).length):(dR n f)[j]=.p (.int .i64 (f j:Nat)):=by
 simp only[dR,hb,g9]
@[simp] theorem aUQ{n:Nat}{f:Nat->Int}:(du (n+1) f=[])=False:=by
 rw[eq_iff_iff,iff_false];intro h;have:=congrArg hA h;rw[n8]at this;simp at this
theorem Ii(a b:Nat)(K:0<b)(cV:(aw bT a).length<=400000)(b4:(aw bT b).length<=400000):aq prog 253 [eT a,eT b] (.aC [eT (a/b),eT (a% b)]):=by
 have bK:=NJ a b o_ o_;refine gA_ nf func253 mix ?_;simp[f253];refine c2 bK ?_
 by_cases S:a<b
 ·have G:=sX.2 S;simp[G,i2 S,ih S,eT,DY]
 have G:¬gR a b<0:=fun h=>S (sX.1 h);have a3:∀i(h:i<(aw bT b).length),(aw bT b)[i]=ae bT b i:=fun i h=>fH bp h;have C:=cL bp b
 by_cases b2:(aw bT b).length=1
 ·rw[b2,kd]at C;have L:=NH a b K C o_;have b9:=i0 a K;have cd:=auX (i1 b9 C);have ap:=xR [a% b] s_;rw[cd]at ap;have cR:=qV K C;rw[H4 K C];simp only[eT,iP]at L ap⊢;generalize aw bT (a/b)=cI,aw bT (a% b)=cJ,aw bT a=x,a% b=da at*;simp[G];refine c2 L ?_;simp;refine cp ap (by simp;exact⟨rfl,rfl⟩) ?_;simp
 have cU:2<=(aw bT b).length:=by
  rcases ii (aw bT b).length 1 with h|h
  ·have e:(aw bT b).length=0:=by omega
   rw[e,i3]at C;omega
  ·omega
 obtain⟨k,hk⟩:∃k,(aw bT b).length=k+1:=⟨(aw bT b).length-1,o_⟩
 obtain⟨n,hn⟩:∃n,n=k+1:=⟨_,rfl⟩
 rw[hk]at C;obtain⟨d,Z⟩:∃d,d=b/bT^k:=⟨_,rfl⟩
 have ay:bT^k<=b:=by
  rcases ii b (bT^k)with h|h
  ·have:=eZ bp k b h;omega
  ·exact h
 have bc:0<bT^k:=iA d_;have bL:0<d:=by rw[Z];exact j6 ay bc
 have bP:d<bT:=by rw[Z,h9 bc,h3,<-h8];exact C
 have a4:ae bT b k=d:=by rw[ae,<-Z,ih bP]
 obtain⟨f,hf⟩:∃f,f=bT/(d+1):=⟨_,rfl⟩
 obtain⟨f0,f1,f2,f3,f4⟩:=av6 C Z bL hf;obtain⟨V,I⟩:∃V,V=b*f:=⟨_,rfl⟩
 rw[<-I]at f2 f3 f4;have aW:(aw bT V).length=n:=by
  have H:=eZ bp (k+1) V f2;have bB:=N8 bp f3;omega
 have ag:=Ie b f (by rw[qV f0 f1];simp;omega);have ah:=Ie a f (by rw[qV f0 f1];simp;omega);rw[H4 f0 f1,<-I]at ag;rw[H4 f0 f1]at ah;have bN:(aw bT b)[k]?=some d:=by rw[gc o_,a3 k o_,a4]
 have bO:∀h:k<(aw bT b).length,(aw bT b)[k]=d:=fun h=>by rw[a3 k h,a4]
 have cX:(aw bT b).length<=400000:=b4;have cP:bT=1000000000:=rfl;have wd:dz.wrap ((d:Int)+1)=(d:Int)+1:=aU _ o_ o_;have bR:(1000000000:Int).tdiv ((d:Int)+1)=(f:Nat):=by
  rw[ec d_,hf,ej];rfl
 have bM:¬(d:Int)+1=0:=o_
 have cB:dz.wrap (k:Int)=k:=aU _ o_ o_;have wf:dz.wrap (f:Int)=f:=aU _ o_ o_;have b3:¬(k:Int)+1=1:=o_
 have bX:¬k=0:=o_
 have bl:k<(aw bT b).length:=o_
 have bZ:=bO bl;simp only[eT]at ag ah⊢;generalize cn:aw bT (a/b)=cI,co:aw bT (a% b)=cJ,aF:aw bT a=x,c5:aw bT b=y,aj:aw bT V=s at*;simp[G,hk,b3,bX,cB,bN,bZ,bl,wd,bR,bM,wf];refine cp ag (by simp;exact⟨rfl,rfl⟩) ?_;simp[aW];refine cp ah (by simp;exact⟨rfl,rfl⟩) ?_;obtain⟨u,D⟩:∃u,aw bT (a*f)=u:=⟨_,rfl⟩
 obtain⟨c,M⟩:∃c,x.length=c:=⟨_,rfl⟩
 have be:u.length<=c+1:=by
  rw[<-D,<-M,<-aF];refine eZ bp _ _ ?_;rw[h8];exact j1 (cL bp a) f1
 have ci:∀i(h:i<u.length),u[i]=ae bT (a*f) i:=fun i h=>by
  have:=fH bp (n:=a*f) (i:=i) (by rw[D];exact h);simp only[D]at this;exact this
 rw[D];have cO:b<=a*f:=h4 (Nat.le_of_not_lt S) (kh _ f0);have bg:¬u=[]:=by
  intro h;rw[h]at D;have:=zK.1 D;omega
 have a0:a*f<bT^u.length:=by rw[<-D];exact cL bp _
 have ai:hH (AV.p∘fun x:Nat=>PV.int dz x) u=du u.length fun k=>(ae bT (a*f) k:Nat):=by
  apply ho (by simp[du]);intro i G cN;simp only[hb,Function.comp,du,g9];rw[ci i (by simpa using G)]
 have cg:u.length<=400001:=o_
 obtain⟨A,bf⟩:∃A,u.length=A:=⟨_,rfl⟩
 rw[bf]at a0 ai be cg;clear ag ah;have ch:¬(du A fun k=>(ae bT (a*f) k:Nat))=[]:=by rw[<-ai];simpa using bg
 have ce:¬A=0:=by rw[<-bf];exact fun h=>bg (List.length_eq_zero_iff.1 h)
 simp[M,ai,ch,ce,n8];refine⟨⟨by rw[<-ai];exact U3 u,by simp only[dH];omega⟩,?_⟩;have cW:c<=400000:=o_
 have bv:dz.wrap ((c:Int)+1)=c+1:=aU _ o_ o_;refine vW (fun s'=>∃l o,aQ s'.env 8=.sl 0 0 1 0 1/\aQ s'.env 9=.p (.seq (s.map fun x:Nat=>.int .i64 x))/\aQ s'.env 10=.p (.int .i64 n)/\aQ s'.env 11=.sl 2 l 1 0 (c+1)/\s'.heap=[.arr .frozen 0 1 [.p (.int .i64 f)],o,.arr .grow l 1 (du (c+1) fun k=>(ae bT (a*f) k:Nat))]) ?_ ?_
 ·refine lp (α:=Nat) (fun i=>⟨[(11,.sl 2 (i-A) 1 0 i),(10,.p (.int .i64 n)),(9,.p (.seq (s.map fun x:Nat=>.int .i64 x))),(8,.sl 0 0 1 0 1),(0,.p (.seq (x.map fun x:Nat=>.int .i64 x)))],[.arr .frozen 0 1 [.p (.int .i64 f)],.hole,.arr .grow (i-A) 1 (du i fun k=>(ae bT (a*f) k:Nat))]⟩)
   (fun i=>A<=i/\i<=c+1) (fun i=>c+1-i) A ⟨ip _,be⟩ ?_ (he:=s_) (hh:=s_)
  rintro i ⟨k1,k2⟩
  by_cases hi:i<c+1
  ·have bS:(i:Int)<c+1:=by omega
   have hz:ae bT (a*f) i=0:=lE (h2 a0 (h0 d_ k1));have cb:du (i+1) (fun k=>(ae bT (a*f) k:Nat))=du i (fun k=>(ae bT (a*f) k:Nat))++[.p (.int .i64 0)]:=by
    rw[du,hT,hW];simp[hz,du]
   have bd:i+1-A=i-A+1:=o_
   have cc:gx i (du i fun k=>(ae bT (a*f) k:Nat))=du i fun k=>(ae bT (a*f) k:Nat):=ge (by rw[n8];exact ip _);simp[M,bv,bS,n8,cc];refine⟨by simp only[dH];omega,?_⟩;exact rd (i+1) ⟨o_,hi⟩ (he:=by simp[bd]) (hh:=by simp[bd,cb]) (hr2:=s_)
  ·have ab:i=c+1:=by omega
   subst ab;simp[M,bv]
 rintro⟨bx,bQ⟩ ⟨l,o,E,P,Q,F,T⟩;dsimp only at E P Q F T;subst T;have c4:n<=c:=by
  rw[hn];rcases ii c (k+1)with h|h
  ·have H:=cL bp a;rw[aF,M]at H;have bB:=h2 H (h0 (show 0<bT by decide) (show c<=k by omega));omega
  ·exact h
 obtain⟨m,cZ⟩:∃m,m=c-n:=⟨_,rfl⟩
 have cE:dz.wrap ((c:Int)+1-n)=(m:Int)+1:=by rw[aU _ o_ o_];omega
 have cF:((m:Int)+1).toNat=m+1:=o_
 have cG:dz.wrap (m:Int)=m:=aU _ o_ o_;have b7:(m:Int)+1<=dH:=by simp only[dH];omega
 simp[E,P,Q,F,cE,cF,cG];refine⟨⟨o_,b7⟩,?_⟩;have av:0<V:=by rw[I];exact lu K f0
 have W:V<bT^n:=by rw[hn];exact f2
 have a1:a<bT^c:=by rw[<-M,<-aF];exact cL bp a
 have bH:a*f% (V*bT^(m+1))=a*f:=by
  refine ih ?_;rw[I,kx];refine j9 ?_ f0;refine h2 a1 ?_;rw[show c=k+(m+1)by omega,i7];exact h7 _ ay
 obtain⟨X,J⟩:∃X:Nat->Nat,∀j,X j=a*f% (V*bT^j):=⟨_,fun _=>rfl⟩
 have Y:∀j,X j<V*bT^j:=fun j=>by rw[J];exact i0 _ (lu av (iA d_))
 have bJ:∀j,X (j+1)% (V*bT^j)=X j:=fun j=>by
  rw[J,J,kA];exact Nat.mul_dvd_mul_left _ (kL _ o_)
 have bI:∀j,X (j+1)/bT^j/V=ae bT (a/b) j:=fun j=>by
  rw[J,<-(Cu (B:=bT) (R:=a*f% (V*bT^(j+1))) (V:=V) (j:=j)).2,h8,<-iB,Nat.mod_mul_right_div_self,<-ik,I,Nat.mul_div_mul_right _ _ f0,ae]
 have a6:=fun j(h:j<=m)=>aGH (X (j+1)/bT^j) V (c+1) j n .grow l (ae bT (X (j+1))) o_ (by rw[aj];exact aW) (by rw[hn,i6];exact f4) (by rw[h9 (iA d_),iB,h3 bT,<-h8];exact Y (j+1)) o_ o_ (fun i hi=>(uR (B:=bT) _ _ _).symm);simp only[eT,U0,aj]at a6;rw[show(gj (m+1) (AV.p (PV.int dz 0)))=dR (m+1) (qT (a/b) (m+1))from Ra];rw[show(du (c+1) fun k=>(ae bT (a*f) k:Nat))=du (c+1) fun k=>(ae bT (X (m+1)) k:Nat)by rw[J,bH]];refine vW (fun s'=>∃bn,aQ s'.env 8=.sl 0 0 1 0 1/\aQ s'.env 10=.p (.int .i64 n)/\aQ s'.env 11=.sl 2 l 1 0 (c+1)/\aQ s'.env 12=.sl 3 0 1 0 (m+1)/\s'.heap=[.arr .frozen 0 1 [.p (.int .i64 f)],bn,.arr .grow l 1 (du (c+1) fun k=>(ae bT (X 0) k:Nat)),.arr .exact 0 1 (dR (m+1) (ae bT (a/b)))]) ?_ ?_
 ·refine lp (α:=Nat) (fun j=>⟨[(13,.p (.int .i64 ((j:Int)-1))),(12,.sl 3 0 1 0 (m+1)),(11,.sl 2 l 1 0 (c+1)),(10,.p (.int .i64 n)),(9,.p (.seq (s.map fun x:Nat=>.int .i64 x))),(8,.sl 0 0 1 0 1)],[.arr .frozen 0 1 [.p (.int .i64 f)],.hole,.arr .grow l 1 (du (c+1) fun k=>(ae bT (X j) k:Nat)),.arr .exact 0 1 (dR (m+1) (qT (a/b) j))]⟩)
   (fun j=>j<=m+1) (fun j=>j) (m+1) (ip _) ?_ (he:=by simp[E,P,Q,F])
  intro j cS;rcases j with _|j
  ·simp[Q9]
  ·obtain⟨t,aL,am,an,bC⟩:=a6 j o_;have bW:¬(j:Int)<0:=by omega
   have bG:X (j+1)/bT^j<bT^(n+1):=by
    rw[h9 (iA d_),<-i7];refine h2 (Y (j+1)) ?_;rw[show n+1+j=n+(j+1)by omega,i7 bT n (j+1)];exact h7 _ (lc W)
   obtain⟨R,bE,bF⟩:=aDp av W bG aL am;have jk:=fun i(hi:i<=n)=>PK (i:=i) bE hi;have ax:∀i,ae bT (X (j+1)/bT^j) i=ae bT (X (j+1)) (j+i):=fun i=>uR _ _ _;have dd:((n:Nat):Int).toNat=n:=o_
   simp[-aX];rw[aX,aX];simp[-aX,bW];rw[aX,PD,aX];simp[-aX];refine cf bC [2] ?_;simp[-aX,sig,bA];rw[aX];simp[-aX];rw[aX,aX];simp[-aX];have aV:∀i(h:i<s.length),s[i]=ae bT V i:=fun i h=>by
    have:=fH bp (n:=V) (i:=i) (by rw[aj];exact h);simp only[aj]at this;exact this
   have aS:X (j+1)/bT^j/V=ae bT (a/b) j:=bI j;have cT:(j:Int)<=400000:=o_
   have c0:(n:Int)<=400001:=o_
   have a5:∀g:Nat->Int,(∀k,k<c+1->g k=if k=j+n then 0 else if j<=k/\k<j+n then(ae bT (X (j+1)/bT^j% V) (k-j):Nat)else(ae bT (X (j+1)) k:Nat))->du (c+1) g=du (c+1) fun k=>(ae bT (X j) k:Nat):=fun g az=>by
    rw[ave av W (Y (j+1)) az,bJ]
   have ck:du (c+1) (im (X (j+1)) R j 0)=du (c+1) fun k=>(ae bT (X (j+1)) k:Nat):=QE fun k _=>win_zero;refine lp (α:=Nat) (fun i=>⟨[(16,.p (.int .i64 i)),(15,.p (.int .i64 (iE V R t i:Nat))),(14,.p (.int .i64 t)),(13,.p (.int .i64 j)),(12,.sl 3 0 1 0 (m+1)),(11,.sl 2 l 1 0 (c+1)),(10,.p (.int .i64 n)),(9,.p (.seq (s.map fun x:Nat=>.int .i64 x))),(8,.sl 0 0 1 0 1)],[.arr .frozen 0 1 [.p (.int .i64 f)],.hole,.arr .grow l 1 (du (c+1) (im (X (j+1)) R j i)),.arr .exact 0 1 (dR (m+1) (qT (a/b) (j+1)))]⟩)
    (fun i=>i<=n) (fun i=>n-i) 0 (i9 _) ?_ (he:=by simp[awJ]) (hh:=by simp[ck])
   intro i hi;have bu:dz.wrap ((i:Int)+j)=(i:Int)+j:=aU _ o_ o_;have bs:((i:Int)+j).toNat=i+j:=o_
   have bm:¬((i:Int)+j<0):=o_
   have bt:dz.wrap ((i:Int)+1)=(i:Int)+1:=aU _ o_ o_
   by_cases ar:i<n
   ·have a8:(i:Int)<n:=by omega
    have ac:i<s.length:=o_
    have aE:=aV i ac;have aO:=jk i hi;rw[ax]at aO;have bo:=cQ bp (X (j+1)) (j+i);have cr:=cQ bp R i;have pv:=cQ bp V i;obtain⟨p,q,ak,s1,s2,bq,br,db,dc,cu⟩:=aQ1 (by rw[<-lb];exact aO) cr bo an pv aDn;have bk:im (X (j+1)) R j i (i+j)=(ae bT (X (j+1)) (j+i):Nat):=by rw[j2 i j,HQ]
    have a7:0<=(i:Int)+j:=o_
    have get:(du (c+1) (im (X (j+1)) R j i))[i+j]?=some (.p (.int .i64 (ae bT (X (j+1)) (j+i):Nat))):=by
     rw[aQw _ o_,j2 i j,HQ]
    have set:(du (c+1) (im (X (j+1)) R j i)).set (i+j) (.p (.int .i64 (ae bT R i:Nat)))=du (c+1) (im (X (j+1)) R j (i+1)):=by
     rw[j2 i j];exact Af _ _ aRM fun k _ hk=>aRN hk
    have ab:i+j<c+1:=o_
    have bh:s[i]?=some (ae bT V i):=by rw[gc ac,aE]
    generalize ae bT (X (j+1)) (j+i)=w,ae bT V i=v,ae bT R i=r,iE V R t i=cK,a2:iE V R t (i+1)=cM at*;have ca:¬(r:Int)<0:=o_
    have ww:dz.wrap ((w:Int)-ak)=(w:Int)-ak:=aU _ o_ o_;have bw:dz.wrap (q:Int)=q:=aU _ o_ o_;have aR:dz.wrap ((q:Int)+1)=(q:Int)+1:=aU _ o_ o_;rcases cu with⟨c1,c2,c3⟩|⟨c1,c2,c3⟩
    ·have wr:dz.wrap ((w:Int)-ak+1000000000)=r:=by rw[c2];exact aU _ o_ o_
     simp[a8,bu,bs,bm,ac,aE,bh,s1,s2,bq,br,ab,get,bk,a7,n8,ww,c1,wr,aR,set,bt,aa,aK,bU];exact rd (i+1) (show i+1<=n by omega) (he:=by simp[a2,c3,bw,aR])
    ·have wr:dz.wrap ((w:Int)-ak)=r:=by rw[ww,c2]
     simp[a8,bu,bs,bm,ac,aE,bh,s1,s2,bq,br,ab,get,bk,a7,n8,c1,wr,ca,set,bt,aa,aK,bU];exact rd (i+1) (show i+1<=n by omega) (he:=by simp[a2,c3,bw,aR])
   ·have bV:i=n:=by omega
    subst bV;have aP:dz.wrap ((j:Int)+i)=(j:Int)+i:=aU _ o_ o_;have aM:((j:Int)+i).toNat=j+i:=o_
    have aG:0<=(j:Int)+i:=o_
    have aA:j+i<c+1:=o_
    have bj:im (X (j+1)) R j i (j+i)=(ae bT (X (j+1)) (j+i):Nat):=HQ;have bo:=cQ bp (X (j+1)) (j+i);have aN:dz.wrap ((j:Int)-1)=(j:Int)-1:=aU _ o_ o_;rcases bF with⟨r1,U,aJ⟩|⟨r1,U,aJ,ct⟩
    ·rw[ax]at U;rw[U];generalize ae bT (X (j+1)) (j+i)=w at*;have ao:dz.wrap 0=0:=rfl;have al:dz.wrap ((w:Int)-w)=0:=by rw[fd];rfl
     have aD:t=ae bT (a/b) j:=by rw[r1,aS]
     have aI:(dR (m+1) (qT (a/b) (j+1))).set j (.p (.int .i64 t))=dR (m+1) (qT (a/b) j):=by rw[aD];exact H3
     have fs:(du (c+1) (im (X (j+1)) R j i)).set (j+i) (.p (.int .i64 0))=du (c+1) fun k=>(ae bT (X j) k:Nat):=by
      rw[Af _ (fun k=>if k=j+i then 0 else im (X (j+1)) R j i k) (if_pos rfl) (fun k _ hk=>if_neg hk)];refine a5 _ fun k _=>?_
      by_cases hk:k=j+i
      ·rw[if_pos hk,if_pos hk];rfl
      ·rw[if_neg hk,if_neg hk,im]
       by_cases z:j<=k/\k<j+i
       ·rw[if_pos z,if_pos z,aJ (k-j) o_]
       ·rw[if_neg z,if_neg z]
     have ad:j<m+1:=o_
     have b8:¬((ae bT (X j) (j+i):Nat):Int)<0:=o_
     simp[aP,aM,aG,aA,bj,n8,zX,al,ao,aN,ad,b8,fs,aI,aa,aK,bU];exact rd j (show j<=m+1 by omega)
    ·rw[ax]at U;rw[U];generalize ae bT (X (j+1)) (j+i)=w at*;have ao:dz.wrap 0=0:=rfl;have al:dz.wrap ((w:Int)-((w+1:Nat):Int))= -1:=by rw[show(w:Int)-((w+1:Nat):Int)= -1 by omega];rfl
     have cx:dz.wrap (-1)= -1:=rfl;have fs:(du (c+1) (im (X (j+1)) R j i)).set (j+i) (.p (.int .i64 (-1)))=du (c+1) (iX (X (j+1)) R (R+V) j i 0):=by
      refine Af _ _ (by rw[iX,if_pos rfl]) fun k _ hk=>?_;rw[iX,if_neg hk,if_neg o_]
     have aD:(t:Int)-1=ae bT (a/b) j:=by rw[r1,aS];omega
     have cH:dz.wrap ((t:Int)-1)=ae bT (a/b) j:=by rw[aD];have:=cQ bp (a/b) j;exact aU _ o_ o_
     have ad:j<m+1:=o_
     have cl:iX (X (j+1)) R (R+V) j i 0 (j+i)= -1:=by rw[iX,if_pos rfl]
     push_cast at al;simp[aP,aM,aG,aA,bj,n8,zX,al,ao,cx,cH,aN,ad,fs,cl,aa,aK,bU];refine lp (α:=Nat) (fun k=>⟨[(20,.p (.int .i64 k)),(19,.p (.int .i64 (dN bT R V k:Nat))),(14,.p (.int .i64 (ae bT (a/b) j:Nat))),(13,.p (.int .i64 j)),(12,.sl 3 0 1 0 (m+1)),(11,.sl 2 l 1 0 (c+1)),(10,.p (.int .i64 i)),(9,.p (.seq (s.map fun x:Nat=>.int .i64 x))),(8,.sl 0 0 1 0 1)],[.arr .frozen 0 1 [.p (.int .i64 f)],.hole,.arr .grow l 1 (du (c+1) (iX (X (j+1)) R (R+V) j i k)),.arr .exact 0 1 (dR (m+1) (qT (a/b) (j+1)))]⟩)
      (fun k=>k<=i) (fun k=>i-k) 0 (i9 _) ?_ (he:=by simp[Co])
     intro k hk;have cD:dz.wrap ((k:Int)+j)=(k:Int)+j:=aU _ o_ o_;have cw:((k:Int)+j).toNat=k+j:=o_
     have cq:0<=(k:Int)+j:=o_
     have cC:dz.wrap ((k:Int)+1)=(k:Int)+1:=aU _ o_ o_;obtain⟨q1,cs⟩:=uC bp R V k;have c7:=n7 bp R V k;have q4:=n7 bp R V (k+1);have c8:=cQ bp R k;have c9:=cQ bp V k
     by_cases a9:k<i
     ·have bY:(k:Int)<i:=by omega
      have aB:k<s.length:=o_
      have bi:=aV k aB;have cj:s[k]?=some (ae bT V k):=by rw[gc aB,bi]
      have b1:k+j<c+1:=o_
      have az:iX (X (j+1)) R (R+V) j i k (k+j)=(ae bT R k:Nat):=by rw[j2 k j,aRJ a9]
      have aO:(du (c+1) (iX (X (j+1)) R (R+V) j i k)).set (k+j) (.p (.int .i64 (ae bT (R+V) k:Nat)))=du (c+1) (iX (X (j+1)) R (R+V) j i (k+1)):=by
       rw[j2 k j];exact Af _ _ (aRK a9) fun x _ hx=>aRL hx
      have aL:((ae bT R k:Nat):Int)+(ae bT V k:Nat)+(dN bT R V k:Nat)=((ae bT R k+ae bT V k+dN bT R V k:Nat):Int):=o_
      have am:((ae bT R k+ae bT V k+dN bT R V k:Nat):Int).tmod 1000000000=(ae bT (R+V) k:Nat):=by
       rw[<-q1,ed (eb _),em];rfl
      have an:((ae bT R k+ae bT V k+dN bT R V k:Nat):Int).tdiv 1000000000=(dN bT R V (k+1):Nat):=by
       rw[<-cs,ec (eb _),ej];rfl
      rw[<-aL]at am an;have w1:dz.wrap ((ae bT R k:Nat)+(ae bT V k:Nat))=(ae bT R k:Nat)+(ae bT V k:Nat):=aU _ o_ o_;have cy:dz.wrap ((ae bT R k:Nat)+(ae bT V k:Nat)+(dN bT R V k:Nat))=(ae bT R k:Nat)+(ae bT V k:Nat)+(dN bT R V k:Nat):=aU _ o_ o_;have cz:dz.wrap (ae bT (R+V) k:Nat)=(ae bT (R+V) k:Nat):=by have:=cQ bp (R+V) k;exact aU _ o_ o_
      have cA:dz.wrap (dN bT R V (k+1):Nat)=(dN bT R V (k+1):Nat):=aU _ o_ o_;simp[bY,aB,bi,cj,cD,cw,cq,b1,az,aO,n8,w1,cy,cz,cA,am,an,cC,aa,aK,bU];exact rd (k+1) (show k+1<=i by omega)
     ·have b0:k=i:=by omega
      subst b0;have cm:iX (X (j+1)) R (R+V) j k k (j+k)= -1:=by rw[iX,if_pos rfl]
      have cv:dz.wrap (-1+1)=0:=rfl;have aI:(dR (m+1) (qT (a/b) (j+1))).set j (.p (.int .i64 (ae bT (a/b) j:Nat)))=dR (m+1) (qT (a/b) j):=H3;have bz:(du (c+1) (iX (X (j+1)) R (R+V) j k k)).set (j+k) (.p (.int .i64 0))=du (c+1) fun k=>(ae bT (X j) k:Nat):=by
       rw[Af _ (fun x=>if x=j+k then 0 else iX (X (j+1)) R (R+V) j k k x) (if_pos rfl) (fun x _ hx=>if_neg hx)];refine a5 _ fun x _=>?_
       by_cases hk:x=j+k
       ·rw[if_pos hk,if_pos hk];rfl
       ·rw[if_neg hk,if_neg hk,iX,if_neg hk]
        by_cases z:j<=x/\x<j+k
        ·rw[if_pos z,if_pos z,ct (x-j) o_]
        ·rw[if_neg z,if_neg z,im,if_neg z]
      rw[aJ];simp[aP,aM,aG,aA,cm,n8,zX,cv,ao,aN,ad,bz,aI,aa,aK,bU];exact rd j (show j<=m+1 by omega)
 rintro⟨bx,bQ⟩ ⟨bn,E,P,Q,F,T⟩;dsimp only at E P Q F T;subst T;have aY:X 0=a% b*f:=by rw[J,i3,kH,I,Nat.mul_mod_mul_right]
 have bD:a/b<bT^(m+1):=by
  rw[h9 K];refine h2 a1 ?_;rw[show c=m+1+k by omega,i7];exact kw _ ay
 obtain⟨c6,ba,b5,aT⟩:=RF (m:=m+1) (N:=a/b) bD o_;have aZ:X 0<bT^n:=h2 (by have:=Y 0;rwa [i3,kH]at this) (lc W);obtain⟨O,cY,af,b6,au⟩:∃O:List Nat,O=(gi (c+1)).map (ae bT (X 0))/\O.length=c+1/\dR (c+1) (ae bT (X 0))=O.map (AV.p∘fun x:Nat=>PV.int .i64 x)/\aq prog 305 [.seq (iP (O.take n))] (eT (X 0)):=by
  refine⟨_,rfl,s_,GC _ _,?_⟩;have e:((gi (c+1)).map (ae bT (X 0))).take n=(gi n).map (ae bT (X 0)):=QV o_ fun k hk=>rfl;rw[e];have H:=xR ((gi n).map (ae bT (X 0))) (by simp;omega);rw[show fC ((gi n).map (ae bT (X 0)))=aw bT (X 0)from lF bp aZ]at H;exact H
 have L:=NH (X 0) f f0 f1 (by
  have:=eZ bp n (X 0) aZ;omega)
 rw[aY,Nat.mul_div_cancel _ f0]at L;rw[aY]at au;rw[<-U0,b6,b5]at*;simp only[eT,cn,co,iP]at aT au L⊢;have aC:¬O=[]:=by intro h;rw[h]at af;simp at af
 have bb:n<=c+1:=o_
 simp[E,P,Q,F,af,aC,bb];refine ep au (by simp[af,bb,aC];first|exact⟨rfl,rfl⟩|rfl) (by simp[aC];first|exact⟨rfl,rfl⟩|rfl) ?_ (h1:=by simp[g8]);simp[E,aa,aK,bU];refine e2 L ?_;simp[F];refine⟨r_,?_⟩;refine cp aT (by simp[ba];first|exact⟨rfl,rfl⟩|rfl) ?_ (h1:=by simp[ge,ba]);simp
theorem ZQ(n:Nat):fC (aw bT n)=aw bT n:=by
 have h:=Hp bp (l:=aw bT n) (fun d a=>by
  obtain⟨i,hi,rfl⟩:=hK a;rw[fH bp hi];exact cQ bp _ _)
 rw[<-h,Pm bp]
theorem uw(neg:Bool)(n:Nat)(h:(aw bT n).length<=1048576):aq prog 254 [.bool neg,eT n] (eG (if neg=true then -(n:Int)else n)):=GO neg (aw bT n) n (ZQ n) h
theorem PF(a b:Nat)(g:(aw bT a).length<=400000)(h:(aw bT b).length<=400000):aq prog 252 [eT a,eT b] (eT (i4 a b)):=by
 refine gA_ nf func252 mix ?_;simp[f252];refine lp (α:=Nat×Nat) (fun x=>⟨[(1,.p (eT x.2)),(0,.p (eT x.1))],[]⟩)
  (fun x=>(aw bT x.1).length<=400000/\(aw bT x.2).length<=400000/\i4 x.1 x.2=i4 a b) (fun x=>x.2) (a,b) ⟨g,h,rfl⟩ ?_
 rintro⟨x,y⟩ ⟨e,d,c⟩;dsimp only at e d c
 by_cases hy:y=0
 ·subst hy;rw[lm]at c;rw[<-c];simp[eT,DY]
 ·have i:0<(aw bT y).length:=by
   rw[gg,Ne,zK];exact hy
  have f:=Ii x y o_ e d;have j:=i0 x (show 0<y by omega);simp[eT,i];refine c2 f ?_;simp;exact rd (y,x% y) ⟨d,by have:=eZ bp _ _ (i1 j (cL bp y));dsimp only;omega,by rw[<-c,kC y,<-lw,kC]⟩ (by dsimp only;omega) (he:=by simp[eT])
theorem aEp(a b:Nat)(h:a<9223372036854775808)(i:b<9223372036854775808):aq prog 248 [.int .i64 a,.int .i64 b] (.int .i64 (i4 a b:Nat)):=by
 refine gA_ nf func248 mix ?_;simp[f248];refine lp (α:=Nat×Nat) (fun x=>⟨[(1,.p (.int .i64 x.2)),(0,.p (.int .i64 x.1))],[]⟩)
  (fun x=>x.1<9223372036854775808/\x.2<9223372036854775808/\i4 x.1 x.2=i4 a b) (fun x=>x.2) (a,b) ⟨h,i,rfl⟩ ?_
 rintro⟨x,y⟩ ⟨g,d,c⟩;dsimp only at g d c
 by_cases f:y=0
 ·subst f;rw[lm]at c;rw[<-c];simp
 ·have m:(0:Int)<y:=by omega
  have e:0<y:=o_
  have o:¬(y:Int)=0:=o_
  have n:=i0 x e;have k:(x:Int).tmod y=(x% y:Nat):=by rw[ed (eb _),em]
  have l:dz.wrap ((x% y:Nat):Int)=(x% y:Nat):=aU _ o_ o_;generalize j:x% y=r at*;simp[e,f,k,l];exact rd (y,r) ⟨d,by dsimp only;omega,by rw[<-c,<-j,kC y,<-lw,kC]⟩ (by dsimp only;omega)
theorem azf{B a b x y K:Nat}(c:2<=B)(d:a<B^x)(e:b<B^y)(f:B^x<=B^K)(g:B^y<=B^K):a+b<B^(K+1):=by
 rw[h8];have:=kw (B^K) c;omega
theorem aze{a b K:Nat}(g:(aw bT a).length<=K)(h:(aw bT b).length<=K):(aw bT (a+b)).length<=K+1:=by
 have c:=cL bp a;have d:=cL bp b;have e:=h0 (show 0<bT by decide) g;have f:=h0 (show 0<bT by decide) h;exact eZ bp (K+1) (a+b) (azf bp c d e f)
theorem aEE(a b:Int)(l:(aw bT a.natAbs).length<=400000)(o:(aw bT b.natAbs).length<=400000):aq prog 181 [eG a,eG b] (eG (a+b)):=by
 have m:=aEi a.natAbs b.natAbs o_ o_;have k:=NJ a.natAbs b.natAbs o_ o_;have q:(aw bT (a.natAbs+b.natAbs)).length<=1048576:=by
  have r:=aze l o;omega
 refine gA_ nf func181 mix ?_
 by_cases hs:(a<0↔b<0)
 ·have t:(decide (a<0)==decide (b<0))=true:=by simp[hs]
  have d:=uw (decide (a<0)) (a.natAbs+b.natAbs) q;have f:(if decide (a<0)=true then -((a.natAbs+b.natAbs:Nat):Int)else((a.natAbs+b.natAbs:Nat):Int))=a+b:=by
   by_cases h:a<0
   ·have:=hs.1 h;simp[h];omega
   ·have:¬b<0:=fun c=>h (hs.2 c);simp[h];omega
  rw[f]at d;generalize a+b=s,a.natAbs+b.natAbs=n at*;have g:(a<0↔b<0)=True:=eq_true hs;simp only[eG]at d⊢;simp(maxDischargeDepth:=99) [f181,g,aa,e2 m,e2 d]
 ·have g:(a<0↔b<0)=False:=eq_false hs
  by_cases p:b.natAbs<=a.natAbs
  ·have i:0<=gR a.natAbs b.natAbs:=by
    have:=sX (a:=a.natAbs) (b:=b.natAbs);omega
   have j:=RG a.natAbs b.natAbs p o_;have d:=uw (decide (a<0)) (a.natAbs-b.natAbs) (by
    have:=eZ bp _ _ (h5 (kX a.natAbs b.natAbs) (cL bp a.natAbs));omega)
   have f:(if decide (a<0)=true then -((a.natAbs-b.natAbs:Nat):Int)else((a.natAbs-b.natAbs:Nat):Int))=a+b:=by
    by_cases h:a<0
    ·have:¬b<0:=fun c=>hs ⟨fun _=>c,fun _=>h⟩;simp[h];omega
    ·have:b<0:=by
      rcases fl b 0 with c|c
      ·exact c
      ·exact(hs ⟨fun e=>(h e).elim,fun e=>by omega⟩).elim
     simp[h];omega
   rw[f]at d;generalize a+b=s,a.natAbs-b.natAbs=n at*;simp only[eG]at d⊢;simp(maxDischargeDepth:=99) [f181,g,aa,i,c2 k,e2 j,e2 d]
  ·have i:¬0<=gR a.natAbs b.natAbs:=by
    have:=sX (a:=a.natAbs) (b:=b.natAbs);omega
   have j:=RG b.natAbs a.natAbs o_ o_;have d:=uw (decide (b<0)) (b.natAbs-a.natAbs) (by
    have:=eZ bp _ _ (h5 (kX b.natAbs a.natAbs) (cL bp b.natAbs));omega)
   have f:(if decide (b<0)=true then -((b.natAbs-a.natAbs:Nat):Int)else((b.natAbs-a.natAbs:Nat):Int))=a+b:=by
    by_cases h:b<0
    ·have:¬a<0:=fun c=>hs ⟨fun _=>h,fun _=>c⟩;simp[h];omega
    ·have:a<0:=by
      rcases fl a 0 with c|c
      ·exact c
      ·exact(hs ⟨fun e=>by omega,fun e=>(h e).elim⟩).elim
     simp[h];omega
   rw[f]at d;generalize a+b=s,b.natAbs-a.natAbs=n at*;simp only[eG]at d⊢;simp(maxDischargeDepth:=99) [f181,g,aa,i,c2 k,e2 j,e2 d]
theorem RH(a:Int)(d:(aw bT a.natAbs).length<=400000):aq prog 251 [eG a] (eG (-a)):=by
 have b:=uw (!decide (a<0)) a.natAbs o_;have c:(if(!decide (a<0))=true then -((a.natAbs:Nat):Int)else(a.natAbs:Nat))= -a:=by
  by_cases h:a<0
  ·simp[h];omega
  ·simp[h];omega
 rw[c]at b;refine gA_ nf func251 mix ?_;generalize -a=s at*;simp only[eG]at b⊢;simp[f251,aa,c2 b]
theorem Ah(a b:Int)(g:(aw bT a.natAbs).length+(aw bT b.natAbs).length<=1000000):aq prog 182 [eG a,eG b] (eG (a*b)):=by
 have f:=Ie a.natAbs b.natAbs g;have j:(aw bT (a.natAbs*b.natAbs)).length<=1000000:=by
  have c:=cL bp a.natAbs;have d:=cL bp b.natAbs;have i:=eZ bp ((aw bT a.natAbs).length+(aw bT b.natAbs).length) (a.natAbs*b.natAbs) (by rw[i7];exact j1 c d);omega
 have e:=uw ((!(decide (a<0)==decide (b<0)))) (a.natAbs*b.natAbs) o_;have h:(if(!(decide (a<0)==decide (b<0)))=true then -((a.natAbs*b.natAbs:Nat):Int)else((a.natAbs*b.natAbs:Nat):Int))=a*b:=by
  by_cases c:a<0<;>by_cases d:b<0
  ·simp[c,d];rw[ee (ey c),ee (ey d),Int.neg_mul_neg]
  ·simp[c,d];rw[ee (ey c),eo o_,fw,fv]
  ·simp[c,d];rw[ee (ey d),eo o_,gb,fv]
  ·simp[c,d];rw[eo o_,eo o_]
 rw[h]at e;refine gA_ nf func182 mix ?_;generalize a*b=s,a.natAbs*b.natAbs=n,hx:(!(decide (a<0)==decide (b<0)))=x at*;simp only[eG]at e⊢;simp(maxDischargeDepth:=99) [f182,aa,hx,e2 f,e2 e]
theorem atL:∀d:Nat,d<10->hS d (gx (d+1) [48,49,50,51,52,53,54,55,56,57])=[48+d]:=d_
theorem Cv(n a:Nat)(hn:n<9223372036854775808)(H:a<=1000):aq prog 249 [.int .i64 n,.int .i64 a] (.str (low (max a (nd n)) n)):=by
 have J:nd n<=19:=vG (i1 hn d_);refine gA_ nf func249 mix ?_;obtain⟨L,e⟩:∃L,L=max a (nd n):=⟨_,rfl⟩
 rw[<-e];obtain⟨g,b⟩:∃g:Nat->Nat,∀i,n/10^i=g i:=⟨_,fun _=>rfl⟩
 have A:g 0=n:=by rw[<-b,i3,i8]
 simp[f249];refine lp (α:=Nat) (fun i=>⟨[(0,.p (.int .i64 (g i:Nat))),(5,.p (.str (low i n))),(1,.p (.int .i64 a))],[]⟩)
  (fun i=>i<=L) (fun i=>L-i) 0 (i9 _) ?_ (he:=by simp[low,A])
 intro i hi;have q:low (i+1) n=(48+g i% 10)::low i n:=by
  rw[j2,uY,b,xu];rfl
 have hq:g (i+1)=g i/10:=by rw[<-b,<-b,h8,ik]
 have K:g i<=n:=by rw[<-b];exact j5 _ _
 have D:0<g i↔i<nd n:=by
  rw[<-b,rG,Nat.div_pos_iff];have:=iA (n:=i) (show 0<10 by decide);omega
 have l:=uX n i;have j:=atL (g i% 10) (i0 _ d_);have f:i<L↔0<g i\/i<a:=by rw[D,e];omega
 have E:=i0 (g i) (show 0<10 by decide);have r:(g i:Int).tmod 10=(g i% 10:Nat):=by rw[ed (eb _),em];rfl
 have t:(g i:Int).tdiv 10=(g (i+1):Nat):=by rw[hq,ec (eb _),ej (g i)];rfl
 have F:L<=1000:=by rw[e];omega
 generalize g i% 10=d at*;have m:hS d (48::gx d [49,50,51,52,53,54,55,56,57])=[48+d]:=j;generalize hz:g i=z,y:g (i+1)=z2,hs:low i n=s at*;have x:dz.wrap (z2:Int)=z2:=aU _ o_ o_;have v:dz.wrap (d:Int)=d:=aU _ o_ o_;have w:dz.wrap ((d:Int)+1)=d+1:=aU _ o_ o_;have u:((d:Int)+1).toNat=d+1:=o_
 have I:min (d+1) 10-d+i<9223372036854775808:=o_
 have G:(0:Int)<=d+1/\(d:Int)+1<=10/\(d:Int)<=max (d+1) 0:=o_
 by_cases k:i<L
 ·by_cases c:0<z
  ·simp[c,r,t,x,v,w,u,j,l];refine⟨o_,o_,?_⟩;exact rd (i+1) (show i+1<=L by omega) (he:=by simp[y,q,m])
  ·have o:i<a:=by rcases f.1 k with h|h;exact(c h).elim;exact h
   simp[c,o,r,t,x,v,w,u,j,l];refine⟨o_,o_,?_⟩;exact rd (i+1) (show i+1<=L by omega) (he:=by simp[y,q,m])
 ·have c:¬0<z:=fun h=>k (f.2 (.inl h));have o:¬i<a:=fun h=>k (f.2 (.inr h));have B:s=low L n:=by rw[<-hs];congr 1;omega
  have C:¬L<a:=o_
  simp[c,C,l,B,uX]
theorem auU{n i:Nat}(h:bT^(i+1)<=n):br (n/bT^i)=br (n/bT^(i+1))++low 9 (ae bT n i):=by
 have c:0<bT^i:=iA d_;have b:10^9<=n/bT^i:=by
  rw[li c,h3];rw[h8]at h;exact h
 have a:=avM b;have e1:n/bT^i/10^9=n/bT^(i+1):=by rw[ik,h8];rfl
 have e2:n/bT^i% 10^9=ae bT n i:=rfl;rw[e1,e2]at a;have d:0<n/bT^i:=h2 d_ b;have e:0<n/bT^(i+1):=j6 h (iA d_);rw[br,br,show max 1 (nd (n/bT^i))=nd (n/bT^i)by have:=DB d;omega,show max 1 (nd (n/bT^(i+1)))=nd (n/bT^(i+1))by have:=DB e;omega,a]
theorem HA(z:Int)(A:(aw bT z.natAbs).length<=1000000):aq prog 244 [eG z] (.str (bZ z)):=by
 refine gA_ nf func244 mix ?_
 by_cases hz:z=0
 ·subst hz;have u:bZ 0=[48]:=by rw[show(0:Int)=((0:Nat):Int)from rfl,zy,uG]
  simp[f244,eG,eT,DY,aa,u]
 obtain⟨n,hn⟩:∃n,z.natAbs=n:=⟨_,rfl⟩
 have K:0<n:=o_
 have J:0<(aw bT n).length:=by
  rw[gg,Ne,zK];omega
 obtain⟨k,hk⟩:∃k,(aw bT n).length=k+1:=⟨(aw bT n).length-1,o_⟩
 have f:=cL bp n;rw[hk]at f;have o:bT^k<=n:=by
  rcases ii n (bT^k)with h|h
  ·have:=eZ bp k n h;omega
  ·exact h
 have l:∀i(h:i<(aw bT n).length),(aw bT n)[i]=ae bT n i:=fun i h=>fH bp h;have q:n/bT^k=ae bT n k:=by
  rw[ae,ih];rw[h9 (iA d_),h3,<-h8];exact f
 have M:0<ae bT n k:=by rw[<-q];exact j6 o (iA d_)
 have c:=Cv (ae bT n k) 1 (i1 (cQ bp n k) d_) d_;rw[show low (max 1 (nd (ae bT n k))) (ae bT n k)=br (n/bT^k)by rw[q];rfl]at c;have v:∀i,aq prog 249 [.int .i64 (ae bT n i:Nat),.int .i64 (9:Nat)] (.str (low 9 (ae bT n i))):=fun i=>by
  have h:=Cv (ae bT n i) 9 (i1 (cQ bp n i) d_) d_;have H:nd (ae bT n i)<=9:=vG (cQ bp n i)
  rwa [show max 9 (nd (ae bT n i))=9 by omega]at h
 have a:br (n/bT^0)=br n:=by rw[i3,i8]
 have jk:∀i,i+1<=k->br (n/bT^i)=br (n/bT^(i+1))++low 9 (ae bT n i):=fun i hi=>auU (h4 (h0 d_ hi) o);have I:k<=1000000:=by rw[hn]at A;omega
 have C:bZ z=if z<0 then 45::br n else br n:=by rw[bZ,hn]
 have L:ae bT n k<bT:=cQ bp n k;have B:∀i,ae bT n i<bT:=fun i=>cQ bp n i;obtain⟨T,g⟩:∃T:Nat->List Nat,∀i,br (n/bT^i)=T i:=⟨_,fun _=>rfl⟩
 have j:∀i,(T i).length<=9000000+9:=fun i=>by
  rw[<-g];refine h4 (zx (k:=9*(k+1)) ?_ o_) o_;rw[kf];exact h5 (j5 _ _) f
 simp only[g]at c a jk;rw[C];simp only[eG,hn,eT,<-a];generalize hx:aw bT n=x at*;have w1:dz.wrap ((k:Int)+1-1)=k:=by rw[Int.add_sub_cancel];exact aU _ o_ o_
 have F:dz.wrap (k:Int)=k:=aU _ o_ o_;have t:dz.wrap ((k:Int)+1-2)=(k:Int)-1:=by rw[aU _ o_ o_];omega
 have y:¬(k:Int)+1=0:=o_
 have e:k<x.length:=o_
 have s:=l k e;have E:x[k]?=some (ae bT n k):=by rw[gc e,s]
 simp[f244,aa,hk,y,w1,F,t,e,s,E];refine c2 c ?_;simp[aa,hk,t];refine lp (α:=Nat) (fun i=>⟨[(4,.p (.int .i64 ((i:Int)-1))),(3,.p (.str (T i))),(1,.ptr 0 [])],[.box false (.p (.st 257 [.bool (decide (z<0)),.seq (x.map fun x:Nat=>.int .i64 x)]))]⟩)
  (fun i=>i<=k) (fun i=>i) k (ip _) ?_
 rintro i hi;have N:=B i;rcases i with _|i
 ·by_cases m:z<0
  ·have b:=h5 (lk (j 0) 1) (show 9000000+9+1<9223372036854775808 by decide);rw[a,j2]at b;simp[m,aa,a,b]
  ·simp[m,aa,a]
 ·have d:i<x.length:=by omega
  have r:=l i d;have D:x[i]?=some (ae bT n i):=by rw[gc d,r]
  have w:¬(i:Int)<0:=o_
  have G:dz.wrap ((i:Int)-1)=(i:Int)-1:=aU _ o_ o_;have b:=h5 (lk (j (i+1)) 9) (show 9000000+9+9<9223372036854775808 by decide);have aO:=jk i hi;simp[w,aa,d,r,D];refine c2 (v i) ?_;simp[G,uX];refine⟨b,?_⟩;exact rd i (show i<=k by omega) (he:=by simp[aO])
theorem Z7{s:List Nat}{i:Nat}(h:i<s.length):bm (s.take (i+1))=bm (s.take i)*10+(s[i]-48):=by
 rw[g7 h,Cz]
theorem zO{s:List Nat}{p:Nat->Bool}(h:s.all p=true)(i:Nat):(s.take i).all p=true:=by
 rw[gm]at h⊢;intro x hx;exact h x (List.mem_of_mem_take hx)
theorem Qw{s:List Nat}{p:Nat->Bool}(h:s.all p=true)(i:Nat):(s.drop i).all p=true:=by
 rw[gm]at h⊢;intro x hx;exact h x (List.mem_of_mem_drop hx)
theorem Df{c:Nat}(h:cN c=true):48<=c/\c<=57:=by
 simpa[cN]using h
theorem C7(s:List Nat)(e:s.all cN=true)(A:s.length<=18):aq prog 247 [.str s] (.int .i64 (bm s:Nat)):=by
 refine gA_ nf func247 mix ?_;obtain⟨L,g⟩:∃L,L=s.length:=⟨_,rfl⟩
 have k:bm (s.take L)=bm s:=by rw[g,hP]
 rw[<-k];obtain⟨v,b⟩:∃v:Nat->Nat,∀i,bm (s.take i)=v i:=⟨_,fun _=>rfl⟩
 have o:v 0=0:=by rw[<-b];rfl
 have q:∀i(h:i<s.length),v (i+1)=v i*10+(s[i]-48):=fun i h=>by rw[<-b,<-b,Z7 h]
 have f:∀i,i<=L->v i<10^i:=fun i hi=>by
  rw[<-b];exact lC i _ (by rw[gy];omega) (zO e i)
 rw[b];simp[f247];refine lp (α:=Nat) (fun i=>⟨[(4,.p (.int .i64 i)),(3,.p (.int .i64 (v i:Nat))),(0,.p (.str s))],[]⟩)
  (fun i=>i<=L) (fun i=>L-i) 0 (i9 _) ?_ (he:=by simp[o])
 intro i hi
 by_cases m:i<L
 ·have a:i<s.length:=by omega
  have j:=f i hi;have z:=f (i+1) m;have hc:=Df (gm.1 e s[i] (g0 a));have hs:=q i a;have n:10^i<=10^17:=h0 d_ o_;have y:v i<100000000000000000:=h2 j (by exact n);generalize d:s[i]=c,B:v i=x at*;have w1:dz.wrap (10*(x:Int))=10*(x:Int):=aU _ o_ o_;have r:dz.wrap (10*(x:Int)+c)=10*(x:Int)+c:=aU _ o_ o_;have t:dz.wrap (10*(x:Int)+c-48)=(v (i+1):Nat):=by rw[hs,aU _ o_ o_];omega
  have u:dz.wrap ((i:Int)+1)=(i:Int)+1:=aU _ o_ o_;have w:dz.wrap (c:Int)=c:=aU _ o_ o_;have l:s[i]?=some c:=by rw[gc a,d]
  simp[a,d,l,w1,r,t,u,w];exact rd (i+1) (show i+1<=L by omega)
 ·have a:¬i<s.length:=by omega
  have:i=L:=o_
  subst this;simp[a]
theorem Rg(c:Nat):∀s:List Nat,c∉(cC c s).1
 |[]=>by simp[cC]
 |x::r=>by
  rw[cC]
  split
  ·simp
  ·rename_i h;simp only[hj,not_or];exact⟨fun e=>h e.symm,Rg c r⟩
theorem Ai(s:List Nat)(w:s.length<=1048576):aq prog 246 [.str s] (.int .i64 ((cC 47 s).1.length:Nat)):=by
 refine gA_ nf func246 mix ?_;obtain⟨k,hk⟩:∃k,(cC 47 s).1.length=k:=⟨_,rfl⟩
 have r:=Rg 47 s;have v:k<=s.length:=by rw[<-hk];exact(xy 47 s).1
 have m:∀j(h:j<s.length),j<k->¬s[j]=47:=by
  intro j h u e;apply r;rcases sW 47 s with⟨_,b⟩|⟨_,b,_⟩
  ·have:s[j]=(cC 47 s).1[j]' o_:=by
    conv=>lhs;rw[hO b]
    rw[List.getElem_append_left]
   have d:(cC 47 s).1[j]' o_∈(cC 47 s).1:=g0 _;rw[<-this,e]at d;exact d
  ·rw[b];have d:s[j]∈s:=g0 _
   rwa [e]at d
 have b:∀(h:k<s.length),s[k]=47:=by
  intro h;rcases sW 47 s with⟨_,f⟩|⟨_,f,_⟩
  ·rw[hO f,List.getElem_append_right o_];simp[hk]
  ·rw[f]at hk;omega
 rw[hk];simp[f246];refine lp (α:=Nat) (fun i=>⟨[(3,.p (.int .i64 i)),(0,.p (.str s))],[]⟩)
  (fun i=>i<=k) (fun i=>k-i) 0 (i9 _) ?_
 intro i hi;have t:dz.wrap ((i:Int)+1)=(i:Int)+1:=aU _ o_ o_
 by_cases o:i<k
 ·have a:i<s.length:=by omega
  have hn:=m i a o;generalize l:s[i]=c at*;have g:s[i]?=some c:=by rw[gc a,l]
  have n:¬(c:Int)=47:=o_
  simp[a,l,g,n,hn,t];exact rd (i+1) (show i+1<=k by omega)
 ·have q:i=k:=by omega
  subst q
  by_cases a:i<s.length
  ·have hn:=b a;have g:s[i]?=some 47:=by rw[gc a,hn]
   simp[a,hn,g]
  ·have:i=s.length:=by omega
   simp[a,this]
theorem RE(n:Int)(K:-9223372036854775808<=n)(L:n<=9223372036854775807):aq prog 245 [.int .i64 n] (eG n):=by
 refine gA_ nf func245 mix ?_;obtain⟨N,M⟩:∃N,n.natAbs=N:=⟨_,rfl⟩
 have B:N<bT^3:=by
  have:bT^3=1000000000000000000000000000:=d_
  omega
 obtain⟨g,a⟩:∃g:Nat->Nat,∀i,N/bT^i=g i:=⟨_,fun _=>rfl⟩
 have D:g 0=N:=by rw[<-a,i3,i8]
 have F:∀i,g (i+1)=g i/bT:=fun i=>by rw[<-a,<-a,ik,h8]
 have y:∀i,ae bT N i=g i% bT:=fun i=>by rw[<-a];rfl
 have E:g 3=0:=by rw[<-a,i2 B]
 have f:∀i,g i<=N:=fun i=>by rw[<-a];exact j5 _ _
 have w:∀i,i<=3->g i=0->aq prog 254 [.bool (decide (n<0)),.seq (iP (row bT i N))] (eG n):=fun i G hi=>by
  have h:=GO (decide (n<0)) (row bT i N) N (lF bp (by
   rw[<-a]at hi;rcases ii N (bT^i)with h|h
   ·exact h
   ·have:=j6 h (iA (show 0<bT by decide));omega)) (by simp[row];omega)
  have e:(if decide (n<0)=true then -(N:Int)else N)=n:=by
   by_cases hn:n<0
   ·simp[hn];omega
   ·simp[hn];omega
  rwa [e]at h
 obtain⟨m,c⟩:∃m:Nat->Int,∀i,(if n<0 then -(g i:Int)else g i)=m i:=⟨_,fun _=>rfl⟩
 have H:m 0=n:=by rw[<-c,D];split<;>omega
 simp only[eG]at w⊢;simp[f245];refine lp (α:=Nat) (fun i=>⟨[(0,.p (.int .i64 (m i))),(2,.ptr 0 []),(3,.sl 1 i 1 0 i),(4,.p (.bool (decide (n<0))))],[.box false (.p (.st 257 [.bool false,.aI])),.arr .grow i 1 (fx i N)]⟩)
  (fun i=>i<=3) (fun i=>3-i) 0 (i9 _) ?_ (he:=by simp[H,fx]) (hh:=by simp[fx])
 intro i hi;have O:bT=1000000000:=rfl;have J:=i0 (g i) (show 0<bT by decide);have P:=f i;have C:=iz (g i) bT;have s:g i% bT=ae bT N i:=(y i).symm
 by_cases hz:g i=0
 ·have b:m i=0:=by rw[<-c,hz];split<;>rfl
  have hs:=w i hi hz;rcases i with _|i
  ·simp[b];refine cp hs (by simp[fx];first|exact⟨rfl,rfl⟩|rfl) ?_ (h1:=by simp[iP,row]);simp[aa]
  ·have d:¬fx (i+1) N=[]:=by intro h;have:=congrArg hA h;rw[jN]at this;simp at this
   simp[b];refine cp hs (by simp[jN,QF,d];first|exact⟨rfl,rfl⟩|rfl) ?_ (h1:=by simp[iP,row,g8,ge]);simp[aa]
 ·have G:i<3:=by
   rcases ii i 3 with h|h
   ·exact h
   ·rw[show i=3 by omega]at hz;exact(hz E).elim
  have x:=F i;have I:=y i;have j:=uJ i N;have v:gx i (fx i N)=fx i N:=ge (by rw[jN];exact ip _);rw[I]at j;obtain⟨r,z⟩:∃r,g i% bT=r:=⟨_,rfl⟩
  rw[z]at j J C;have s:=z.symm
  by_cases hn:n<0
  ·have b:m i= -(g i:Int):=by rw[<-c,if_pos hn]
   have k:m (i+1)= -(g (i+1):Int):=by rw[<-c,if_pos hn]
   have d:¬(g i:Int)=0:=o_
   have o:((g i:Nat):Int).tmod 1000000000=r:=by rw[s,ed (eb _),em];rfl
   have l:((g i:Nat):Int).tdiv 1000000000=(g (i+1):Nat):=by rw[x,ec (eb _),ej (g i)];rfl
   have wr:dz.wrap (r:Int)=r:=aU _ o_ o_;have A:dz.wrap (-(r:Int))= -r:=aU _ o_ o_;have q:dz.wrap (-(g (i+1):Int))= -(g (i+1):Nat):=aU _ (by have:=f (i+1);omega) (by have:=f (i+1);omega)
   by_cases t:r=0
   ·simp[b,hz,d,o,l,wr,A,q,t,v,jN];refine⟨by simp only[dH];omega,?_⟩;exact rd (i+1) (show i+1<=3 by omega) (he:=by simp[k]) (hh:=by simp[j,t])
   ·have u:0<r:=by omega
    simp[b,hz,d,o,l,wr,A,q,t,u,v,jN];refine⟨by simp only[dH];omega,?_⟩;exact rd (i+1) (show i+1<=3 by omega) (he:=by simp[k]) (hh:=by simp[j])
  ·have b:m i=(g i:Int):=by rw[<-c,if_neg hn]
   have k:m (i+1)=(g (i+1):Int):=by rw[<-c,if_neg hn]
   have d:¬(g i:Int)=0:=o_
   have o:((g i:Nat):Int).tmod 1000000000=r:=by rw[s,ed (eb _),em];rfl
   have l:((g i:Nat):Int).tdiv 1000000000=(g (i+1):Nat):=by rw[x,ec (eb _),ej (g i)];rfl
   have wr:dz.wrap (r:Int)=r:=aU _ o_ o_;have q:dz.wrap (g (i+1):Int)=(g (i+1):Nat):=aU _ (by have:=f (i+1);omega) (by have:=f (i+1);omega);have u:¬(r:Int)<0:=o_
   simp[b,hz,d,o,l,wr,q,u,v,jN];refine⟨by simp only[dH];omega,?_⟩;exact rd (i+1) (show i+1<=3 by omega) (he:=by simp[k]) (hh:=by simp[j])
theorem NO{d:List Nat}(c:d.all cN=true){L i:Nat}(f:L=d.length)(h:9*(i+1)<=L):
 bm (d.take (L-9*(i+1)))=bm (d.take (L-9*i))/10^9/\bm ((d.take (L-9*i)).drop (L-9*(i+1)))=bm (d.take (L-9*i))% 10^9:=by
 have e:=ha (L-9*(i+1)) (d.take (L-9*i));rw[hD,kO o_]at e;have a:=Pk (d.take (L-9*(i+1))) ((d.take (L-9*i)).drop (L-9*(i+1)));rw[e]at a;have b:((d.take (L-9*i)).drop (L-9*(i+1))).length=9:=by rw[hl,gy];omega
 rw[b]at a;have g:=lC 9 _ b (Qw (zO c _) _);generalize bm ((d.take (L-9*i)).drop (L-9*(i+1)))=y,bm (d.take (L-9*(i+1)))=x at*;rw[a];omega
theorem GP(s:List Nat)(k:(dK s).all cN=true)(J:s.length<=1000000):aq prog 250 [.str s] (eG (if cr s=true then -(bm (dK s):Int)else bm (dK s))):=by
 refine gA_ nf func250 mix ?_;obtain⟨d,v⟩:∃d,dK s=d:=⟨_,rfl⟩
 obtain⟨neg,f⟩:∃neg,cr s=neg:=⟨_,rfl⟩
 obtain⟨N,F⟩:∃N,bm d=N:=⟨_,rfl⟩
 have ah:d.length<=1000000:=by rw[<-v];exact h4 (sG s).1 J
 rw[v]at k⊢;rw[f,F];have ai:=J;simp[f250,-aX];rw[aX];simp[-aX];refine join (fun st=>aQ st.env 0=.p (.str s)/\aQ st.env 2=.ptr 0 []/\aQ st.env 3=.p (.bool neg)/\st.heap=[.box false (.p (.st 257 [.bool false,.aI]))]) ?_ ?_
 ·cases s with
  |nil=>simp[<-f,cr]
  |cons c r=>
   by_cases hc:c=45
   ·simp[<-f,cr,hc]
   ·have T:¬(c:Int)=45:=by omega
    simp[<-f,cr,hc,T]
 rintro⟨S,U⟩ ⟨a,b,e,n⟩;dsimp only at a b e n;subst n;refine join (fun st=>aQ st.env 0=.p (.str d)/\aQ st.env 2=.ptr 0 []/\aQ st.env 3=.p (.bool neg)/\st.heap=[.box false (.p (.st 257 [.bool false,.aI]))]) ?_ ?_
 ·cases neg with
  |false=>
   have D:s=d:=by rw[<-v,dK,f];rfl
   simp[a,b,e,D]
  |true=>
   cases s with
   |nil=>simp[cr]at f
   |cons c r=>
    have D:r=d:=by rw[<-v,dK,f];rfl
    simp[a,b,e,D]
 clear a b e;rintro⟨S,U⟩ ⟨a,b,e,n⟩;dsimp only at a b e n;subst n;obtain⟨L,u⟩:∃L,L=d.length:=⟨_,rfl⟩
 obtain⟨g,l⟩:∃g:Nat->Nat,∀i,N/bT^i=g i:=⟨_,fun _=>rfl⟩
 have B:∀i,9*i<=L->bm (d.take (L-9*i))=g i:=by
  intro i
  induction i with
  |zero=>intro _;rw[ls,Nat.sub_zero,u,hP,F,<-l,i3,i8]
  |succ i ad=>
   intro h;rw[(NO k u h).1,ad o_,<-l,<-l,ik,h8];rfl
 have V:∀i,9*(i+1)<=L->bm ((d.take (L-9*i)).drop (L-9*(i+1)))=ae bT N i:=fun i h=>by
  rw[(NO k u h).2,B i o_,<-l];rfl
 have ac:∀i,9*(i+1)<=L->aq prog 247 [.str ((d.take (L-9*i)).drop (L-9*(i+1)))] (.int .i64 (ae bT N i:Nat)):=fun i h=>by
  rw[<-V i h];exact C7 _ (Qw (zO k _) _) (by rw[hl,gy];omega)
 have I:∀i,9*i<=L->L<=9*i+9->g i=ae bT N i/\N<bT^(i+1):=fun i j q=>by
  have H:=lC _ (d.take (L-9*i)) rfl (zO k _);rw[B i j]at H;have y:g i<bT:=h2 H (by
   rw[show bT=10^9 from rfl];exact h0 d_ (by rw[gy];omega))
  refine⟨by rw[ae,l,ih y],?_⟩;rw[<-l,h9 (iA d_)]at y;rw[h8,h3];exact y
 have W:∀i,9*i<=L->L<=9*i+9->aq prog 247 [.str (d.take (L-9*i))] (.int .i64 (ae bT N i:Nat)):=fun i j q=>by
  rw[<-(I i j q).1,<-B i j];exact C7 _ (zO k _) (by rw[gy];omega)
 have G:∀i,9*i<=L->L<=9*i+9->aq prog 254 [.bool neg,.seq (iP (row bT (i+1) N))] (eG (if neg=true then -(N:Int)else N)):=fun i j q=>
  GO neg (row bT (i+1) N) N (lF bp (I i j q).2) (by simp[row];omega)
 generalize (if neg=true then -(N:Int)else N)=z at*;simp only[eG]at G⊢;rw[aX];simp[a,b,e,-aX];rw[aX];simp[a,b,e];refine lp (α:=Nat) (fun i=>⟨[(0,.p (.str (d.take (L-9*i)))),(2,.ptr 0 []),(3,.p (.bool neg)),(4,.sl 1 i 1 0 i)],[.box false (.p (.st 257 [.bool false,.aI])),.arr .grow i 1 (fx i N)]⟩)
  (fun i=>9*i<=L) (fun i=>L-i) 0 (i9 _) ?_ (he:=by simp[a,b,e,fx,u]) (hh:=by simp[fx])
 intro i hi;have x:(d.take (L-9*i)).length=L-9*i:=by rw[gy];omega
 have o:=ac i;have w:=W i hi;have E:(d.take (L-9*i)).take (L-9*(i+1))=d.take (L-9*(i+1)):=by rw[hD,kO o_]
 rw[show L-9*(i+1)=L-9*i-9 by omega]at o E;obtain⟨m,C⟩:∃m,m=L-9*i:=⟨_,rfl⟩
 rw[<-C]at x o w E;have O:=uJ i N;have P:gx i (fx i N)=fx i N:=ge (by rw[jN];exact ip _);have K:i+1<=dH:=by simp only[dH];omega
 by_cases af:9<m
 ·have o:=o o_;have Q:dz.wrap ((m:Int)-9)=(m:Int)-9:=aU _ o_ o_;have R:((m:Int)-9).toNat=m-9:=by omega
  have M:(9:Int)<=m:=o_
  have Z:9*(i+1)<=L:=o_
  rw[<-C];generalize ag:gx m d=t at*;have ab:gx m t=t:=ge o_;have A:(9:Int)<m:=o_
  have X:m-9=L-9*(i+1):=o_
  simp[x,A,Q,R,M,ab];refine c1 o ?_;simp[P,jN,K,<-O,x,Q,R,M,E];exact rd (i+1) Z (he:=by simp[X])
 ·have w:=w o_;have hs:=G i hi o_;rw[<-C];generalize gx m d=t at*;have A:¬(9:Int)<m:=by omega
  simp[x,A];refine c1 w ?_;simp[P,jN,K,<-O];have Y:¬fx (i+1) N=[]:=by intro h;have:=congrArg hA h;rw[jN]at this;simp at this
  refine cp hs (by simp[jN,QF,Y];first|exact⟨rfl,rfl⟩|rfl) ?_ (h1:=by simp[iP,row,g8,ge]);simp[aa]
def mf(s:List Nat):Int:=if cr s=true then -(bm (bQ s):Int)else bm (bQ s)
def jS(s:List Nat):Nat:=if fE s=true then bm (b6 s)else 1
theorem P7(s:List Nat)(q:(bQ s).all cN=true)(j:(b6 s).all cN=true)(F:s.length<=1000000):aq prog 179 [.str s] (.aC [eG (mf s),eG (jS s:Nat)]):=by
 refine gA_ nf func179 mix ?_;have e:=Ai s o_;obtain⟨J,f,g,v⟩:=O6 s;have A:=xy 47 s;have u:=RE 1 d_ d_;rcases sW 47 s with⟨q1,b⟩|⟨q1,b,M⟩
 ·have a:=GP (cC 47 s).1 (by rw[f];exact q) o_;rw[J,f]at a;have d:=GP (cC 47 s).2.1 (by
   rw[g];rw[gm]at j⊢;intro x hx;exact j x ((sG _).2 x hx)) o_
  have H:cr (b6 s)=false:=by
   rw[cr];cases l:b6 s with
   |nil=>simp
   |cons c r=>
    have:=Df (gm.1 j c (by rw[l];simp));simp;omega
  rw[g,dK,H]at d;have m:fE s=true:=by rw[<-v];exact q1
  have rL:mf s=if cr s=true then -(bm (bQ s):Int)else bm (bQ s):=rfl
  have i:jS s=bm (b6 s):=by rw[jS,if_pos m]
  rw[<-rL]at a;simp only[dp,if_false]at d;rw[<-i]at d;generalize hz:mf s=z,jS s=dn at*;obtain⟨h,o⟩:∃h,(cC 47 s).1=h:=⟨_,rfl⟩
  obtain⟨w,p⟩:∃w,(cC 47 s).2.1=w:=⟨_,rfl⟩
  rw[o,p]at b;rw[o]at e a;rw[p]at g;obtain⟨k,n⟩:∃k,h.length=k:=⟨_,rfl⟩
  rw[n]at e;have hk:k<s.length:=by rw[b];simp;omega
  have I:s.take k=h:=by rw[b,<-n];simp
  have l:s.drop (k+1)=b6 s:=by
   rw[<-g]
   conv=>lhs;rw[b,<-n]
   simp
  clear A b o p;have L:dz.wrap ((k:Int)+1)=(k:Int)+1:=aU _ o_ o_;have K:((k:Int)+1).toNat=k+1:=o_
  have G:¬(k:Int)=s.length:=o_
  have C:k+1<=s.length:=hk;have E:k<=s.length:=o_
  have B:(0:Int)<=k+1:=o_
  have D:(k:Int)+1<=s.length:=o_
  simp only[eG]at a d⊢;simp(maxDischargeDepth:=99) [f179,G,L,K,I,l,C,E,B,D,aa,c1 e,e1 a,e1 d]
 ·have a:=GP s (by
   have t:=f;rw[b]at t;rw[t];exact q) F
  have m:fE s=false:=by rw[<-v];exact q1
  have y:dK s=bQ s:=by rw[b]at f;exact f
  have rL:mf s=if cr s=true then -(bm (bQ s):Int)else bm (bQ s):=rfl
  have i:jS s=1:=by rw[jS,m];rfl
  rw[y,<-rL]at a;rw[i];rw[b]at e;generalize mf s=z at*;simp only[eG]at a u⊢;simp(maxDischargeDepth:=99) [f179,aa,c1 e,c1 a,c1 u]
theorem NP(n:Nat):(br n).length<=9*(aw bT n).length+1:=by
 rcases lq n with h|h
 ·subst h;rw[uG];simp
 ·have b:0<(aw bT n).length:=by rw[gg,Ne,zK];omega
  have a:=cL bp n;rw[show bT^(aw bT n).length=10^(9*(aw bT n).length)by rw[kf];rfl]at a;exact h4 (zx a o_) o_
def pz(n d:Int):Rat:=l1 n d
theorem Nu(n g:Nat):(aw bT (n/g)).length<=(aw bT n).length:=
 eZ bp _ _ (h5 (j5 n g) (cL bp n))
theorem Zq(n d:Nat)(a:0<d):(aw bT (i4 n d)).length<=(aw bT d).length:=
 eZ bp _ _ (h5 (kk n a) (cL bp d))
theorem Ga(n d:Int)(J:d≠0)(hn:(aw bT n.natAbs).length<=400000)(j:(aw bT d.natAbs).length<=400000):aq prog 180 [eG n,eG d] (.str (aR (pz n d))):=by
 refine gA_ nf func180 mix ?_;simp[f180,-aX,aa];rw[aX];simp[-aX,aa];refine join (fun st=>∃(e:Int)(d':Nat),0<d'/\(aw bT e.natAbs).length<=400000/\(aw bT d').length<=400000/\pz e d'=pz n d/\aQ st.env 2=.ptr 0 []/\aQ st.env 3=.ptr 1 []/\st.heap=[.box false (.p (eG e)),.box false (.p (eG (d':Nat)))]) ?_ ?_
 ·have N:=RH n hn;have M:=RH d j
  by_cases h:d<0
  ·simp[h,aa];refine e1 N ?_;simp[aa];refine e1 M ?_;simp[aa];refine⟨r_,?_⟩;refine⟨-n,d.natAbs,o_,by rw[eM];exact hn,j,?_,rfl,?_⟩
   ·rw[ee o_];exact me _ _
   ·rw[ee o_]
  ·have z:((d.natAbs:Nat):Int)=d:=eo o_;simp[h,aa];exact⟨n,d.natAbs,o_,hn,j,by rw[z],rfl,by rw[z]⟩
 rintro⟨R,S⟩ ⟨e,d',k1,k2,k3,k4,l,m,C⟩;dsimp only at l m C;subst C;rw[<-k4,show pz e d'=l1 e d' from rfl];clear k4 hn j J;obtain⟨t,u⟩:=nZ (n:=e) (show d'≠0 by omega);obtain⟨g,k⟩:∃g,i4 e.natAbs d'=g:=⟨_,rfl⟩
 have r:0<g:=by rw[<-k];exact j3 _ k1
 have A:(aw bT g).length<=400000:=by rw[<-k];exact h4 (Zq _ _ k1) k3
 rw[k]at t u;have x:=PF e.natAbs d' k2 k3;rw[k]at x;have G:=Ii e.natAbs g r k2 A;have H:=Ii d' g r k3 A;have W:(aw bT (e.natAbs/g)).length<=400000:=h4 (Nu _ _) k2;have X:(aw bT (d'/g)).length<=400000:=h4 (Nu _ _) k3;have v:=uw (decide (e<0)) (e.natAbs/g) o_;have f:=uw false (d'/g) o_;have s:(if decide (e<0)=true then -((e.natAbs/g:Nat):Int)else((e.natAbs/g:Nat):Int))=(l1 e d').num:=by
  rw[t];have K:(g:Int)∣e:=by rw[<-k];exact ew.2 (km _ _)
  obtain⟨c,hc⟩:=K;have L:(g:Int)≠0:=o_
  rw[hc,eq _ L,er,ea,Nat.mul_div_cancel_left _ r]
  by_cases I:c<0
  ·have:(g:Int)*c<0:=e7 o_ I;simp[this];omega
  ·have:¬(g:Int)*c<0:=by
    have:=eP (a:=(g:Int)) (b:=c) o_ o_;omega
   simp[this];omega
 rw[s]at v;simp only[dp,if_false]at f;have y:=HA (l1 e d').num (by
  rw[<-s];split
  ·rw[eM,ea];omega
  ·rw[ea];omega)
 have i:=HA ((d'/g:Nat):Int) (by rw[ea];omega);rw[zy]at i;have O:0<d'/g:=by
  refine j6 ?_ r;rw[<-k];exact kk _ k1
 have T:(bZ (l1 e d').num).length<=3600002:=by
  refine h4 (He _) ?_;have h:=NP (l1 e d').num.natAbs;have:(l1 e d').num.natAbs=e.natAbs/g:=by
   rw[<-s];split
   ·rw[eM,ea]
   ·rw[ea]
  rw[this]at h⊢;omega
 have U:(br (d'/g)).length<=3600001:=by
  have h:=NP (d'/g);omega
 have E:aR (l1 e d')=if d'/g=1 then bZ (l1 e d').num else bZ (l1 e d').num++47::br (d'/g):=by rw[aR,u]
 rw[E];clear E s t u;generalize (l1 e d').num=nn,Y:d'/g=q at*;simp only[eG,ea]at v f y i⊢;simp[l,m,aa];refine c2 x ?_;simp[l,m,aa];refine c2 G ?_;simp[l,m,aa];refine c2 H ?_;simp[l,m,aa];refine c2 v ?_;simp[l,m,aa];refine c1 y ?_;have P:∀h:q=1,aw bT q=[1]:=fun h=>by rw[h];exact qV d_ d_
 by_cases o:q=1
 ·have w:=P o;simp[o,eT,qV (show 0<1 by decide) (show 1<bT by decide)]
 ·have B:(bZ nn).length+1<9223372036854775808:=by omega
  have V:(bZ nn).length+((br q).length+1)<9223372036854775808:=o_
  by_cases D:q<bT
  ·have w:=qV O D;have Q:¬(q:Int)=1:=by omega
   simp[o,eT,w,Q];refine⟨B,?_⟩;simp only[eT,w,gt,hu]at f i;refine c2 f ?_;simp;refine c1 i ?_;simp;omega
  ·have j:¬((aw bT q).length:Int)=1:=by
    intro h;have F:(aw bT q).length=1:=o_
    have:=cL bp q;rw[F,kd]at this;exact D this
   simp[o,eT,j];refine⟨B,?_⟩;simp only[eT]at f i;refine c2 f ?_;simp;refine c1 i ?_;simp;omega
theorem Zv{n:Int}{g:Nat}(a:0<g)(h:g∣n.natAbs):n.tdiv g=n/g:=by
 obtain⟨c,hc⟩:=ew.2 h;subst hc;rw[Int.mul_tdiv_cancel_left _ o_,eq _ o_]
theorem Tv(n d:Int)(M:d≠0)(hn:n.natAbs<=4000000000000000000)(N:d.natAbs<=4000000000000000000):aq prog 178 [.int .i64 n,.int .i64 d] (.str (aR (pz n d))):=by
 refine gA_ nf func178 mix ?_;have e:¬n< -4000000000000000000:=o_
 have f:¬4000000000000000000<n:=o_
 have i:¬d< -4000000000000000000:=o_
 have j:¬4000000000000000000<d:=o_
 simp[f178,e,f,i,j,-aX];rw[aX];simp[e,f,i,j,-aX];rw[aX,aX];simp[e,f,i,j,-aX];refine join (fun st=>∃(a:Int)(d':Nat),0<d'/\a.natAbs<=4000000000000000000/\d'<=4000000000000000000/\pz a d'=pz n d/\aQ st.env 0=.p (.int .i64 a)/\aQ st.env 1=.p (.int .i64 (d':Nat))/\st.heap=[]) ?_ ?_
 ·have w1:dz.wrap (-n)= -n:=aU _ o_ o_;have m:dz.wrap (-d)= -d:=aU _ o_ o_
  by_cases h:d<0
  ·simp[h,w1,m,e,f,i,j];refine⟨-n,d.natAbs,o_,o_,o_,?_,rfl,?_⟩
   ·rw[ee o_];exact me _ _
   ·rw[ee o_]
  ·have H:((d.natAbs:Nat):Int)=d:=eo o_;simp[h,e,f,i,j];exact⟨n,d.natAbs,o_,o_,o_,by rw[H],rfl,by rw[H]⟩
 rintro⟨T,U⟩ ⟨a,d',k1,k2,k3,k4,o,r,I⟩;dsimp only at o r I;subst I;rw[<-k4,show pz a d'=l1 a d' from rfl];clear k4 hn N M e f i j;obtain⟨w,C⟩:=nZ (n:=a) (show d'≠0 by omega);obtain⟨g,k⟩:∃g,i4 a.natAbs d'=g:=⟨_,rfl⟩
 have E:0<g:=by rw[<-k];exact j3 _ k1
 rw[k]at w C;have G:=aEp a.natAbs d' o_ o_;rw[k]at G;have R:(if a< -a then -a else a)=(a.natAbs:Nat):=by split<;>omega
 have w1:dz.wrap (-a)= -a:=aU _ o_ o_;have y:a.tdiv g=(l1 a d').num:=by rw[w,Zv E (by rw[<-k];exact km _ _)]
 have z:(d':Int).tdiv g=(d'/g:Nat):=by rw[ec (eb _),ej]
 have S:(l1 a d').num.natAbs<=4000000000000000000:=by
  have P:(g:Int)∣a:=by rw[<-k];exact ew.2 (km _ _)
  obtain⟨c,hc⟩:=P;have Q:(g:Int)≠0:=o_
  rw[w,hc,eq _ Q];rw[hc,er,ea]at k2;exact h4 (le _ E) k2
 have O:d'/g<=4000000000000000000:=h4 (j5 _ _) k3;have Z:0<d'/g:=by
  refine j6 ?_ E;rw[<-k];exact kk _ k1
 have K:aR (l1 a d')=if d'/g=1 then bZ (l1 a d').num else bZ (l1 a d').num++47::br (d'/g):=by rw[aR,C]
 rw[K];clear K w C;generalize (l1 a d').num=nn,aa:d'/g=q at*;have x:¬g=0:=o_
 have t:=Cv nn.natAbs 1 o_ d_;have D:=Cv q 1 o_ d_;have V:(br nn.natAbs).length<=19:=zx (h5 S d_) d_;have W:(br q).length<=19:=zx (h5 O d_) d_;rw[show low (max 1 (nd nn.natAbs)) nn.natAbs=br nn.natAbs from rfl]at t;rw[show low (max 1 (nd q)) q=br q from rfl]at D;have Y:(if nn< -nn then -nn else nn)=(nn.natAbs:Nat):=by split<;>omega
 have m:dz.wrap (-nn)= -nn:=aU _ o_ o_;have A:dz.wrap nn=nn:=aU _ o_ o_;have B:dz.wrap (q:Int)=q:=aU _ o_ o_;simp[o,r,w1,R];refine c2 G ?_;have J:(1:Int)<q↔¬q=1:=o_
 have L:dz.wrap 1=1:=rfl;have X:(br nn.natAbs).length<9223372036854775808:=o_
 by_cases l:nn<0
 ·have F:bZ nn=45::br nn.natAbs:=by rw[bZ,if_pos l]
  rw[F];have v:nn< -nn:=o_
  have u:-nn=(nn.natAbs:Nat):=o_
  by_cases b:q=1
  ·simp[o,r,x,y,z,A,B,l,m,v,b];rw[u];refine c2 t ?_;simp[b,L];omega
  ·have s:=J.2 b;simp[o,r,x,y,z,A,B,l,m,v,b,s];rw[u];refine c2 t ?_;simp[b,s];refine⟨o_,o_,?_⟩;refine c2 D ?_;simp;omega
 ·have F:bZ nn=br nn.natAbs:=by rw[bZ,if_neg l]
  rw[F];have u:nn=(nn.natAbs:Nat):=o_
  have v:¬nn< -nn:=o_
  by_cases b:q=1
  ·simp[o,r,x,y,z,A,B,l,m,v,b];rw[show PV.int .i64 nn=.int .i64 (nn.natAbs:Nat)by rw[<-u]];refine c2 t ?_;simp[b,L];omega
  ·have s:=J.2 b;simp[o,r,x,y,z,A,B,l,m,v,b,s];rw[show PV.int .i64 nn=.int .i64 (nn.natAbs:Nat)by rw[<-u]];refine c2 t ?_;simp[b,s];refine⟨o_,o_,?_⟩;refine c2 D ?_;simp;omega
theorem DC(n:Int)(a:-9223372036854775808<=n)(b:n<=9223372036854775807):aq prog 170 [.int .i64 n] (.str (aR (n:Rat))):=by
 have e:=RE n a b;have d:=HA n (by
  have c:n.natAbs<bT^3:=by
   have:bT^3=1000000000000000000000000000:=d_
   omega
  have:=eZ bp 3 _ c;omega)
 have hq:aR (n:Rat)=bZ n:=by rw[aR,if_pos (mo n),mm]
 rw[hq];refine gA_ nf func170 mix ?_;simp[f170,c1 e,c1 d]
theorem aEG(s:List Nat)(B:(bQ s).all cN=true)(I:(b6 s).all cN=true)(ai:s.length<=1000000):
 ∃(n d:Int)(b:Bool),aq prog 177 [.str s] (.aC [.int .i64 n,.int .i64 d,.bool b])/\(b=true->n=mf s/\d=(jS s:Nat)/\n.natAbs<1000000000/\jS s<1000000000):=by
 by_cases J:20<s.length
 ·refine⟨0,0,false,?_,fun h=>by cases h⟩;refine gA_ nf func177 mix ?_;have m:(20:Int)<s.length:=by omega
  simp[f177,m]
 obtain⟨d,l⟩:∃d,dK s=d:=⟨_,rfl⟩
 obtain⟨neg,g⟩:∃neg,cr s=neg:=⟨_,rfl⟩
 have ag:d.length<=s.length:=by rw[<-l];exact(sG s).1
 have i:=Ai d o_;have z:(cC 47 d).1=bQ s:=by rw[<-l];rfl
 have M:(cC 47 d).2.1=b6 s:=by rw[<-l];rfl
 have O:(cC 47 d).2.2=fE s:=by rw[<-l];rfl
 have q:=sW 47 d;rw[z,M,O]at q;rw[z]at i;obtain⟨k,hk⟩:∃k,(bQ s).length=k:=⟨_,rfl⟩
 rw[hk]at i;have P:k<=d.length:=by rw[<-hk,<-z];exact(xy 47 d).1
 have m:¬(20:Int)<s.length:=o_
 obtain⟨b,o⟩:∃b:Bool,b=(decide (k<=9)&&decide (d.length-k<=10)):=⟨_,rfl⟩
 have L:b=true->(mf s).natAbs<1000000000/\jS s<1000000000:=fun h=>by
  rw[o]at h;simp only[dg,decide_eq_true_eq]at h;have u:=lC _ (bQ s) rfl B;rw[hk]at u;have ac:bm (bQ s)<1000000000:=h2 u (h0 (n:=10) d_ h.1);refine⟨by rw[mf];split<;>omega,?_⟩;rcases q with⟨q1,f⟩|⟨q1,f,ad⟩
  ·have V:(b6 s).length<=9:=by
    have:=congrArg hA f;simp at this;omega
   have W:=lC _ (b6 s) rfl I;rw[jS,if_pos q1];exact h2 W (h0 (n:=10) d_ V)
  ·rw[jS,q1,if_neg d_];decide
 refine⟨if b=true then mf s else 0,if b=true then(jS s:Nat)else 0,b,?_,fun h=>⟨if_pos h,if_pos h,by rw[if_pos h];exact(L h).1,(L h).2⟩⟩;refine gA_ nf func177 mix ?_;simp[f177,-aX];rw[aX];simp[-aX];rw[aX];simp[-aX];rw[aX,aX];simp[m,-aX];refine join (fun st=>aQ st.env 5=.p (.str s)/\aQ st.env 6=.p (.bool neg)/\st.heap=[]) ?_ ?_
 ·clear J m;cases s with
  |nil=>simp[<-g,cr]
  |cons c r=>
   by_cases hc:c=45
   ·simp[<-g,cr,hc]
   ·have Z:¬(c:Int)=45:=by omega
    simp[<-g,cr,hc,Z]
 rintro⟨T,aa⟩ ⟨a,e,t⟩;dsimp only at a e t;subst t;refine join (fun st=>aQ st.env 5=.p (.str d)/\aQ st.env 6=.p (.bool neg)/\st.heap=[]) ?_ ?_
 ·cases hn:neg with
  |false=>
   have E:s=d:=by rw[<-l,dK,g,hn];rfl
   simp[a,e,hn,E]
  |true=>
   clear i q hk M z O J m o;cases s with
   |nil=>simp[cr]at g;rw[hn]at g;cases g
   |cons c r=>
    have E:r=d:=by rw[<-l,dK,g,hn];rfl
    simp[a,e,hn,E]
 clear a e;rintro⟨T,aa⟩ ⟨a,e,t⟩;dsimp only at a e t;subst t;have af:dz.wrap ((k:Int)+1)=(k:Int)+1:=aU _ o_ o_;have F:dz.wrap ((d.length:Int)-k)=(d.length:Int)-k:=aU _ o_ o_;have ae:((k:Int)+1).toNat=k+1:=o_
 have nz:mf s=if neg=true then -(bm (bQ s):Int)else bm (bQ s):=by rw[mf,g]
 rw[nz];rcases ii 9 k with C|C
 ·have X:¬k<=9:=by omega
  have j:(9:Int)<k:=o_
  have D:b=false:=by rw[o];simp[X]
  simp[a,e,j,D,c1 i]
 rcases ii 10 (d.length-k)with H|H
 ·have U:¬d.length-k<=10:=by omega
  have j:¬(9:Int)<k:=o_
  have w:(10:Int)<(d.length:Int)-k:=o_
  have D:b=false:=by rw[o];simp[U]
  simp[a,e,j,w,F,D,c1 i]
 have j:¬(9:Int)<k:=o_
 have w:¬(10:Int)<(d.length:Int)-k:=o_
 have x:b=true:=by rw[o];simp[C,H]
 have Q:d.take k=bQ s:=by
  rcases q with⟨_,f⟩|⟨_,f,_⟩
  ·rw[f,<-hk];simp
  ·rw[<-f,<-hk];simp
 have K:=C7 (bQ s) B o_;have u:=lC _ (bQ s) rfl B;rw[hk]at u;have ac:bm (bQ s)<1000000000:=h2 u (h0 (n:=10) d_ C);rcases q with⟨q1,f⟩|⟨q1,f,ad⟩
 ·have y:k<d.length:=by rw[f];simp;omega
  have N:d.drop (k+1)=b6 s:=by
   conv=>lhs;rw[f,<-hk]
   simp
  have ah:(b6 s).length<=9:=by rw[<-N,hl];omega
  have Y:=C7 (b6 s) I o_;have A:jS s=bm (b6 s):=by rw[jS,if_pos q1]
  rw[A];generalize bm (b6 s)=aj,bm (bQ s)=v at*;have G:dz.wrap (-(v:Int))= -(v:Int):=aU _ o_ o_;clear f;simp[a,e];refine c1 i ?_;have R:(0:Int)<=k+1:=o_
  have ab:k+1<=d.length:=y;have S:(k:Int)+1<=d.length:=o_
  simp[a,e,j,w,F,x,P,Q];refine c1 K ?_;cases neg<;>
  ·simp[a,e,y,ab,af,ae,N,R,S,G,x,c1 Y]
 ·have y:¬k<d.length:=by rw[<-f,hk];omega
  have A:jS s=1:=by rw[jS,q1];rfl
  rw[A];generalize bm (bQ s)=v at*;have G:dz.wrap (-(v:Int))= -(v:Int):=aU _ o_ o_;simp[a,e];refine c1 i ?_;simp[a,e,j,w,F,x,P,Q];refine c1 K ?_;cases neg<;>simp[a,e,y,G,x]
theorem Ge{n k:Nat}(h:n<2^k):(aw bT n).length<=k/29+1:=by
 refine eZ bp _ _ (h2 h ?_);have a:2^29<=bT:=d_
 refine h4 ?_ (kv a _);rw[<-kf];exact h0 d_ o_
theorem Q2(q:Rat):mf (aR q)=q.num:=by
 obtain⟨a,b,_,_⟩:=zQ q;rw[mf,a,b,CQ]
 by_cases h:q.num<0
 ·rw[if_pos (by simpa using h)];omega
 ·rw[if_neg (by simpa using h)];omega
theorem Lo(q:Rat):jS (aR q)=q.den:=by
 obtain⟨_,_,a,b⟩:=zQ q;rw[jS,a,b]
 by_cases h:q.den=1
 ·rw[if_neg (by simpa using h),h]
 ·rw[if_pos (by simpa using h),if_neg h,CQ]
theorem EB(q:Rat):(bQ (aR q)).all cN=true/\(b6 (aR q)).all cN=true:=by
 obtain⟨_,a,_,b⟩:=zQ q;refine⟨by rw[a];exact vq _,?_⟩;rw[b];split
 ·rfl
 ·exact vq _
theorem uN{q:Rat}(h:aJ kB q):(aR q).length<=1000000:=by
 have a:(br q.num.natAbs).length<=33334:=AX (K:=kB) (k:=33334) h.1 d_ d_;have b:(br q.den).length<=33334:=AX (K:=kB) (k:=33334) h.2 d_ d_;have:=aRi q;omega
theorem CV(q:Rat)(h:aJ kB q):∃(n d:Int)(b:Bool),aq prog 177 [.str (aR q)] (.aC [.int .i64 n,.int .i64 d,.bool b])/\(b=true->n=q.num/\d=(q.den:Nat)/\n.natAbs<1000000000/\q.den<1000000000):=by
 have:=aEG (aR q) (EB q).1 (EB q).2 (uN h)
 rwa [Q2,Lo]at this
theorem zL(q:Rat)(h:aJ kB q):aq prog 179 [.str (aR q)] (.aC [eG q.num,eG (q.den:Nat)]):=by
 have:=P7 (aR q) (EB q).1 (EB q).2 (uN h)
 rwa [Q2,Lo]at this
theorem aF6(a b:Rat):pz (a.num*b.den+b.num*a.den) (a.den*b.den)=a+b:=by
 rw[Rat.add_def'];rfl
theorem aF7(a b:Rat):pz (a.num*b.num) (a.den*b.den)=a*b:=by
 rw[Rat.mul_def,Rat.normalize_eq_mkRat];rfl
theorem SZ(a b:Rat):((a.den:Nat):Int)*(b.den:Nat)≠0:=by
 have c:=a.den_pos;have d:=b.den_pos;exact Int.ne_of_gt (Int.mul_pos o_ o_)
theorem AL{x y:Int}(hx:x.natAbs<1000000000)(a:y.natAbs<1000000000):(x*y).natAbs<=999999998000000001:=by
 rw[er];exact kp (show x.natAbs<=999999999 by omega) (show y.natAbs<=999999999 by omega)
theorem zI{x y:Int}(hx:x.natAbs<2^kB)(a:y.natAbs<2^kB):(aw bT (x*y).natAbs).length<=10000:=by
 have h:=Ge (n:=(x*y).natAbs) (k:=kB+kB) (by rw[er,i7];exact j1 hx a);exact h4 h d_
theorem ny{x:Nat}(hx:x<2^kB):(aw bT x).length<=10000:=h4 (Ge hx) d_
theorem tF(a b:Rat)(h:aJ kB a)(i:aJ kB b):aq prog 95 [.str (aR a),.str (aR b)] (.str (aR (a+b))):=by
 obtain⟨n,d,p,A,E⟩:=CV a h;obtain⟨m,e,r,B,F⟩:=CV b i;have t:=zL a h;have u:=zL b i;refine gA_ nf func95 mix ?_;rw[<-aF6];have z:=SZ a b
 by_cases j:p=true/\r=true
 ·obtain⟨rfl,rfl,k1,k2⟩:=E j.1;obtain⟨rfl,rfl,k3,k4⟩:=F j.2;have N:=AL k1 (show((b.den:Nat):Int).natAbs<1000000000 by rw[ea];exact k4);have O:=AL k3 (show((a.den:Nat):Int).natAbs<1000000000 by rw[ea];exact k2);have P:=AL (show((a.den:Nat):Int).natAbs<1000000000 by rw[ea];exact k2) (show((b.den:Nat):Int).natAbs<1000000000 by rw[ea];exact k4);have C:=Tv (a.num*b.den+b.num*a.den) (a.den*b.den) z o_ o_;have w1:dz.wrap (a.num*(b.den:Nat))=a.num*(b.den:Nat):=aU _ o_ o_;have H:dz.wrap (b.num*(a.den:Nat))=b.num*(a.den:Nat):=aU _ o_ o_;have I:dz.wrap (a.num*(b.den:Nat)+b.num*(a.den:Nat))=a.num*(b.den:Nat)+b.num*(a.den:Nat):=aU _ o_ o_;have J:dz.wrap (((a.den:Nat):Int)*(b.den:Nat))=((a.den:Nat):Int)*(b.den:Nat):=aU _ o_ o_;have g:p=true:=j.1;have q:r=true:=j.2;simp(maxDischargeDepth:=99) [f95,g,q,w1,H,I,J,c1 A,c1 B,c2 C]
 ·have l:a.num.natAbs<2^kB:=h.1;have o:b.num.natAbs<2^kB:=i.1;have c:((a.den:Nat):Int).natAbs<2^kB:=by rw[ea];exact h.2
  have f:((b.den:Nat):Int).natAbs<2^kB:=by rw[ea];exact i.2
  have w:=Ah a.num (b.den:Nat) (by have:=ny l;have:=ny f;omega);have x:=Ah b.num (a.den:Nat) (by have:=ny o;have:=ny c;omega);have y:=Ah (a.den:Nat) (b.den:Nat) (by have:=ny c;have:=ny f;omega);have K:=zI l f;have L:=zI o c;have M:=zI c f;have v:=aEE (a.num*(b.den:Nat)) (b.num*(a.den:Nat)) o_ o_;have G:(aw bT (a.num*(b.den:Nat)+b.num*(a.den:Nat)).natAbs).length<=400000:=by
   refine h4 (Ge (k:=kB+kB+1) ?_) d_;have q1:(a.num*(b.den:Nat)).natAbs<2^(kB+kB):=by rw[er,i7];exact j1 l f
   have Q:(b.num*(a.den:Nat)).natAbs<2^(kB+kB):=by rw[er,i7];exact j1 o c
   rw[h8];omega
  have s:=Ga (a.num*(b.den:Nat)+b.num*(a.den:Nat)) ((a.den:Nat)*(b.den:Nat)) z G o_;simp[f95];refine c1 A ?_;simp;refine c1 B ?_;have D:(p=false)\/(p=true/\r=false):=by cases p<;>cases r<;>simp_all
  rcases D with g|⟨g,q⟩
  ·simp(maxDischargeDepth:=99) [g,aa,c1 t,c1 u,e2 w,e2 x,e2 v,e2 y,e2 s]
  ·simp(maxDischargeDepth:=99) [g,q,aa,c1 t,c1 u,e2 w,e2 x,e2 v,e2 y,e2 s]
theorem ft(a b:Rat)(f:aJ kB a)(g:aJ kB b):aq prog 169 [.str (aR a),.str (aR b)] (.str (aR (a*b))):=by
 obtain⟨n,d,p,x,B⟩:=CV a f;obtain⟨m,e,r,y,C⟩:=CV b g;have s:=zL a f;have t:=zL b g;refine gA_ nf func169 mix ?_;rw[<-aF7];have w:=SZ a b
 by_cases h:p=true/\r=true
 ·obtain⟨rfl,rfl,k1,k2⟩:=B h.1;obtain⟨rfl,rfl,k3,k4⟩:=C h.2;have G:=AL k1 k3;have H:=AL (show((a.den:Nat):Int).natAbs<1000000000 by rw[ea];exact k2) (show((b.den:Nat):Int).natAbs<1000000000 by rw[ea];exact k4);have z:=Tv (a.num*b.num) (a.den*b.den) w o_ o_;have w1:dz.wrap (a.num*b.num)=a.num*b.num:=aU _ o_ o_;have D:dz.wrap (((a.den:Nat):Int)*(b.den:Nat))=((a.den:Nat):Int)*(b.den:Nat):=aU _ o_ o_;have c:p=true:=h.1;have i:r=true:=h.2;simp(maxDischargeDepth:=99) [f169,c,i,w1,D,c1 x,c1 y,c2 z]
 ·have j:a.num.natAbs<2^kB:=f.1;have l:b.num.natAbs<2^kB:=g.1;have k:((a.den:Nat):Int).natAbs<2^kB:=by rw[ea];exact f.2
  have o:((b.den:Nat):Int).natAbs<2^kB:=by rw[ea];exact g.2
  have u:=Ah a.num b.num (by have:=ny j;have:=ny l;omega);have v:=Ah (a.den:Nat) (b.den:Nat) (by have:=ny k;have:=ny o;omega);have E:=zI j l;have F:=zI k o;have q:=Ga (a.num*b.num) ((a.den:Nat)*(b.den:Nat)) w o_ o_;simp[f169];refine c1 x ?_;simp;refine c1 y ?_;have A:(p=false)\/(p=true/\r=false):=by cases p<;>cases r<;>simp_all
  rcases A with c|⟨c,i⟩
  ·simp(maxDischargeDepth:=99) [c,aa,c1 s,c1 t,e2 u,e2 v,e2 q]
  ·simp(maxDischargeDepth:=99) [c,i,aa,c1 s,c1 t,e2 u,e2 v,e2 q]
theorem aG0{a:Rat}(h:a≠0):pz (a.den:Nat) a.num=a⁻¹:=by
 rw[Rat.inv_def];rfl
theorem Ss{a:Rat}(h:a≠0):a.num≠0:=fun e=>h (Rat.num_eq_zero.1 e)
theorem FZ(a:Rat)(b:aJ kB a)(c:a≠0):aq prog 97 [.str (aR a)] (.str (aR a⁻¹)):=by
 have g:=zL a b;have e:a.num.natAbs<2^kB:=b.1;have f:((a.den:Nat):Int).natAbs<2^kB:=by rw[ea];exact b.2
 have d:=Ga ((a.den:Nat):Int) a.num (Ss c) (by have:=ny f;omega) (by have:=ny e;omega);rw[aG0 c]at d;refine gA_ nf func97 mix ?_;simp[f97,aa,c1 g,c2 d]
theorem pQ(a b:Rat)(g:aJ kB a)(d:aJ kB b)(e:b≠0):aq prog 165 [.str (aR a),.str (aR b)] (.str (aR (a/b))):=by
 have f:=FZ b d e;have c:=ft a b⁻¹ g (lH d);rw[<-l4]at c;refine gA_ nf func165 mix ?_;simp[f165,c1 f,c2 c]
theorem RL(s:List Nat)(g:s.length<=1048576):aq prog 164 [.str s] (.int .i64 (if s=[48]then 0 else if cr s=true then -1 else 1)):=by
 refine gA_ nf func164 mix ?_
 by_cases b:s=[48]
 ·simp[f164,b]
 ·cases s with
  |nil=>simp[f164,cr]
  |cons c r=>
   by_cases hc:c=45
   ·simp[f164,cr,hc]
   ·have e:¬(c:Int)=45:=by omega
    have d:¬(c=48/\r=[]):=fun h=>b (by rw[h.1,h.2])
    by_cases a:c=48
    ·have f:¬r=[]:=fun h=>d ⟨a,h⟩;simp[f164,cr,a,f]
    ·simp[f164,cr,hc,e,a]
theorem CG(q:Rat):q.num<0↔q<0:=by
 have h:=HW q
 by_cases b:q<0
 ·rw[if_pos b]at h;refine⟨fun _=>b,fun _=>?_⟩
  by_cases a:q.num<0
  ·exact a
  ·rw[if_neg a]at h;split at h<;>omega
 ·refine⟨fun a=>?_,fun a=>(b a).elim⟩;rw[if_neg b,if_pos a]at h
  split at h<;>omega
def bP(q:Rat):Int:=if q<0 then -1 else if q=0 then 0 else 1
theorem o8:aR 0=[48]:=by
 have h:bZ 0=[48]:=by rw[show(0:Int)=((0:Nat):Int)from rfl,zy,uG]
 rw[aR,if_pos (show(0:Rat).den=1 from rfl)];exact h
theorem Gp(q:Rat):aR q=[48]↔q=0:=by
 rw[<-o8];exact⟨fun h=>aRh h,fun h=>by rw[h]⟩
theorem aQH(q:Rat):(if aR q=[48]then(0:Int)else if cr (aR q)=true then -1 else 1)=bP q:=by
 have c:=(zQ q).1;have a:=Gp q;have b:q<0↔q.num<0:=(CG q).symm;rw[c,bP]
 by_cases hz:q=0
 ·subst hz;rw[if_pos (a.2 rfl),if_neg d_,if_pos rfl]
 ·rw[if_neg (fun h=>hz (a.1 h))]
  by_cases hn:q<0
  ·rw[if_pos (by simpa using b.1 hn),if_pos hn]
  ·rw[if_neg (by simpa using fun h=>hn (b.2 h)),if_neg hn,if_neg hz]
theorem nE(q:Rat)(h:aJ kB q):aq prog 164 [.str (aR q)] (.int .i64 (bP q)):=by
 have:=RL (aR q) (by have:=uN h;omega)
 rwa [aQH]at this
theorem Il{q:Rat}(h:q<0):aR q=45::aR (-q):=by
 have a:q.num<0:=(CG q).2 h;have e1:bZ q.num=45::br q.num.natAbs:=by rw[bZ,if_pos a]
 have e2:bZ (-q).num=br q.num.natAbs:=by rw[m1,bZ,if_neg o_,eM]
 rw[aR,aR,Rat.neg_den,e1,e2]
 split<;>rfl
theorem yn(q:Rat)(h:aJ kB q):aq prog 167 [.str (aR q)] (.str (aR (-q))):=by
 have a:=nE q h;have d:=uN h;refine gA_ nf func167 mix ?_
 by_cases hn:q<0
 ·have hs:bP q= -1:=by rw[bP,if_pos hn]
  rw[hs]at a;have b:=Il hn;rw[b]at a d⊢;simp[f167,c1 a]
 ·by_cases hz:q=0
  ·have hs:bP q=0:=by rw[bP,if_neg hn,if_pos hz]
   rw[hs]at a;have hq:-q=q:=by rw[hz];rfl
   rw[hq];simp[f167,c1 a]
  ·have hs:bP q=1:=by rw[bP,if_neg hn,if_neg hz]
   rw[hs]at a;have c:-q<0:=by
    rw[<-CG,m1];have e:¬q.num<0:=fun h=>hn ((CG q).1 h);have f:=Ss hz;omega
   have b:=Il c;rw[Rat.neg_neg]at b;rw[b];have g:(aR q).length+1<9223372036854775808:=o_
   simp[f167];refine c1 a ?_;simp;refine c1 a ?_;simp;omega
theorem lY(a b:Rat)(f:aJ kB a)(d:aJ kB b):aq prog 90 [.str (aR a),.str (aR b)] (.str (aR (a-b))):=by
 have e:=yn b d;have c:=tF a (-b) f (jQ d);rw[<-Rat.sub_eq_add_neg]at c;refine gA_ nf func90 mix ?_;simp[f90,c1 e,c2 c]
theorem aQG(a b:Rat):bP (a-b)=c8 a b:=by
 have c:a-b<0↔a<b:=by
  rw[<-m2,<-m2,<-Rat.le_iff_sub_nonneg]
 have d:a-b=0↔a=b:=by
  constructor
  ·intro h;have e:a-b+b=0+b:=by rw[h]
   rwa [l2,l5]at e
  ·rintro rfl;exact mx
 rw[bP,c8]
 by_cases h:a<b
 ·rw[if_pos (c.2 h),if_pos h]
 ·rw[if_neg (fun x=>h (c.1 x)),if_neg h]
  by_cases hz:a=b
  ·rw[if_pos (d.2 hz),if_pos hz]
  ·rw[if_neg (fun x=>hz (d.1 x)),if_neg hz]
theorem ue(a b:Rat)(d:aJ (kB/3) a)(e:aJ (kB/3) b):aq prog 166 [.str (aR a),.str (aR b)] (.int .i64 (c8 a b)):=by
 have f:=lY a b (d.mono d_) (e.mono d_);have c:=nE (a-b) ((fK d e).mono d_);rw[aQG]at c;refine gA_ nf func166 mix ?_;simp[f166,c2 f,c1 c]
theorem Tl{a b:Nat}(h:a<=b):10^a<=10^b:=h0 d_ h
theorem Tk{s:List Nat}{k:Nat}(h:s.length<=k)(a:s.all cN=true):bm s<10^k:=h2 (lC _ s rfl a) (Tl h)
theorem aPH{x a b:Nat}(hx:x<10^a)(h:a<=9*b):(aw bT x).length<=b:=eZ bp b x (h2 hx (by
 rw[show bT^b=10^(9*b)by rw[kf];rfl];exact Tl h))
theorem awG(s:List Nat)(C:s.length<=1048576):aq prog 316 [.str s] (.bool (s.all cN)):=by
 refine gA_ nf func316 mix ?_;obtain⟨k,hk,n,o⟩:=Gy (fun j=>cN (s[j]?.getD 0)) s.length;have e:∀j(h:j<s.length),s[j]?.getD 0=s[j]:=fun j h=>by rw[gc h];rfl
 have A:s.all cN=decide (k=s.length):=by
  rcases o with h|⟨a,b⟩
  ·rw[h,decide_eq_true rfl,gm];intro x hx;obtain⟨j,z,rfl⟩:=hK hx;have:=n j o_
   rwa [e j z]at this
  ·rw[decide_eq_false o_];rw[e k a]at b
   by_cases m:s.all cN=true
   ·have:=gm.1 m _ (g0 a);rw[this]at b;cases b
   ·simpa using m
 rw[A];simp[f316];refine lp (α:=Nat) (fun i=>⟨[(3,.p (.int .i64 i)),(0,.p (.str s))],[]⟩)
  (fun i=>i<=k) (fun i=>k-i) 0 (i9 _) ?_
 intro i hi;have B:dz.wrap ((i:Int)+1)=(i:Int)+1:=aU _ o_ o_
 by_cases w:i<k
 ·have l:i<s.length:=by omega
  have hn:=n i w;rw[e i l]at hn;have D:=Df hn;generalize d:s[i]=c at*;have f:s[i]?=some c:=by rw[gc l,d]
  have a:¬(c:Int)<48:=o_
  have b:¬(57:Int)<c:=o_
  have r:¬c<48:=o_
  have t:¬57<c:=o_
  simp[l,d,f,a,b,r,t,B];exact rd (i+1) (show i+1<=k by omega)
 ·have y:i=k:=by omega
  subst y;rcases o with h|⟨a,b⟩
  ·simp[h]
  ·rw[e i a]at b;have q:¬i=s.length:=by omega
   generalize d:s[i]=c at*;have f:s[i]?=some c:=by rw[gc a,d]
   by_cases hc:c<48
   ·have g:(c:Int)<48:=by omega
    simp[a,d,f,hc,g,q]
   ·have u:57<c:=by
     simp only[cN,Bool.and_eq_false_iff,decide_eq_false_iff_not]at b;omega
    have g:¬(c:Int)<48:=o_
    have v:(57:Int)<c:=o_
    simp[a,d,f,hc,g,u,v,q]
theorem OS(s:List Nat)(i:s.length<=1048576):aq prog 274 [.str s] (.bool (eE s)):=by
 have b:=awG s i;refine gA_ nf func274 mix ?_;cases s with
 |nil=>simp[f274,eE]
 |cons c r=>
  have j:(c:Int)=48↔c=48:=o_
  by_cases a:r=[]
  ·subst a;have e:eE [c]=[c].all cN:=by
    rw[eE]
    by_cases h:c=48
    ·subst h;rfl
    ·simp[h]
   rw[e];simp[f274,c1 b]
  ·have d:0<r.length:=gg.2 a;have hz:¬(r.length:Int)+1=0:=by omega
   have f:(1:Int)<r.length+1:=o_
   by_cases hc:c=48
   ·have e:eE (c::r)=false:=by rw[eE,hc];simp[a]
    rw[e];simp[f274,a,hc,d,hz,f]
   ·have g:¬(c:Int)=48:=by omega
    have e:eE (c::r)=(c::r).all cN:=by rw[eE];simp[hc]
    rw[e];simp[f274,a,hc,g,d,hz,f];refine c1 b ?_;simp
theorem AH(s:List Nat)(hs:kG s):aq prog 215 [.str s] (.int .i64 (cz s)):=by
 refine gA_ nf func215 mix ?_;obtain⟨aY,aL⟩:=hs;obtain⟨d,R⟩:∃d,dK s=d:=⟨_,rfl⟩
 obtain⟨neg,o⟩:∃neg,cr s=neg:=⟨_,rfl⟩
 have aP:d.length<=s.length:=by rw[<-R];exact(sG s).1
 have T:=Ai d o_;have X:(cC 47 d).1=bQ s:=by rw[<-R];rfl
 have V:(cC 47 d).2.1=b6 s:=by rw[<-R];rfl
 have ag:(cC 47 d).2.2=fE s:=by rw[<-R];rfl
 have m:=sW 47 d;have B:=xy 47 d;rw[X,V,ag]at m;rw[X]at T B;rw[V]at B;obtain⟨k,hk⟩:∃k,(bQ s).length=k:=⟨_,rfl⟩
 rw[hk]at T;have S:k<=d.length:=by rw[<-hk];exact B.1
 have av:d.take k=bQ s:=by
  rcases m with⟨_,D⟩|⟨_,D,_⟩
  ·rw[D,<-hk];simp
  ·rw[<-D,<-hk];simp
 have L:=OS (bQ s) o_;have i:=OS (b6 s) o_;simp[f215,-aX];rw[aX];simp[-aX];rw[aX];simp[-aX];refine join (fun st=>aQ st.env 0=.p (.str s)/\aQ st.env 3=.p (.str d)/\st.heap=[]) ?_ ?_
 ·cases hn:neg with
  |false=>
   have au:s=d:=by rw[<-R,dK,o,hn];rfl
   clear T m hk V X ag av L i B S;subst au;cases s with
   |nil=>simp
   |cons c r=>
    rw[hn]at o;have hc:¬c=45:=fun h=>by rw[h]at o;simp[cr]at o
    have am:¬(c:Int)=45:=o_
    simp[hc,am]
  |true=>
   clear T m hk V X ag av L i B S;cases s with
   |nil=>simp[cr]at o;rw[hn]at o;cases o
   |cons c r=>
    have au:r=d:=by rw[<-R,dK,o,hn];rfl
    rw[hn]at o;have hc:c=45:=by simpa[cr]using o
    simp[hc,au]
 rintro⟨aG,aT⟩ ⟨G,f,ai⟩;dsimp only at G f ai;subst ai;have af:qf s=(eE (bQ s)&&!(neg&&decide (bQ s=[48]))&&(!fE s||(eE (b6 s)&&decide (b6 s≠[48])&&decide (b6 s≠[49])))):=by rw[qf,o]
 have a6:d.length<=1048576:=o_
 have U:(bQ s).all cN=true->(b6 s).all cN=true->fE s=true->0<k->d.length<=1000000->aq prog 179 [.str d] (.aC [eG (bm (bQ s):Nat),eG (bm (b6 s):Nat)]):=fun l N ax aC aZ=>by
  have ak:cr d=false/\dK d=d:=by
   have aF:cr d=false:=by
    rcases m with⟨_,D⟩|⟨q1,_⟩
    ·cases W:bQ s with
     |nil=>rw[W]at hk;simp at hk;omega
     |cons c r=>
      rw[W]at D l;have:=Df (gm.1 l c s_);rw[D,cr];simp;omega
    ·rw[ax]at q1;cases q1
   exact⟨aF,by rw[dK,aF];rfl⟩
  have e1:bQ d=bQ s:=by rw[bQ,ak.2,X]
  have e2:b6 d=b6 s:=by rw[b6,ak.2,V]
  have e3:fE d=true:=by rw[fE,ak.2,ag];exact ax
  have:=P7 d (by rw[e1];exact l) (by rw[e2];exact N) aZ;rw[mf,jS,e1,e2,ak.1,if_pos e3]at this;exact this
 rw[cz];generalize qf s=M,bQ s=j,b6 s=e,fE s=fr at*;have aj:gx k d=j:=av
 by_cases J:eE j=true
 ·have aC:0<k:=by
   rw[<-hk,gg];intro h;rw[h]at J;cases J
  obtain⟨c,r,hs⟩:∃c r,s=c::r:=by
   cases s with
   |nil=>
    have:d.length<=0:=by simpa using aP
    omega
   |cons c r=>exact⟨c,r,rfl⟩
  have an:c=45↔neg=true:=by rw[<-o,hs];simp[cr]
  have am:(c:Int)=45↔c=45:=o_
  rw[J]at L;clear aL aY R o X V ag
  by_cases O:neg=true/\j=[48]
  ·have hf:M=false:=by rw[af,O.1,O.2];simp
   have aO:=an.2 O.1;rw[if_pos hf];clear m B i U an am;subst hs aO;have W:=O.2;simp[G,f];refine c1 T ?_;simp[G,f,S,aj];refine c1 L ?_;simp[G,f,S,aj,W]
  ·subst hs;rw[aX];simp[G,f,-aX];refine c1 T ?_;simp[G,f,-aX];refine join (fun st=>aQ st.env 3=.p (.str d)/\aQ st.env 4=.p (.int .i64 k)/\st.heap=[]) ?_ ?_
   ·by_cases l:c=45
    ·have W:¬j=[48]:=fun h=>O ⟨an.1 l,h⟩;subst l;clear m B i U;simp[G,f,S,aj,W,c1 L]
    ·have aI:¬(c:Int)=45:=by omega
     clear m B i U;simp[G,f,S,aj,l,aI,c1 L]
   clear G f;rintro⟨aG,aT⟩ ⟨f,q,ai⟩;dsimp only at f q ai;subst ai;cases ah:fr with
   |false=>
    have n:k=d.length:=by
     rcases m with⟨q1,_⟩|⟨_,D,_⟩
     ·rw[ah]at q1;cases q1
     ·rw[<-hk,D]
    have aD:¬k<d.length:=o_
    have aR:e=[]:=by
     rcases m with⟨q1,_⟩|⟨_,_,a3⟩
     ·rw[ah]at q1;cases q1
     ·exact a3
    have hf:M=true:=by
     rw[af,J,ah];simp
     by_cases l:neg=true
     ·exact .inr fun N=>O ⟨l,N⟩
     ·exact .inl (by simpa using l)
    have Y:dz.wrap ((d.length:Int)-k)=0:=by rw[n,fd];rfl
    have Z:dz.wrap (-1)= -1:=rfl;rw[hf,hk,aR];clear m B i U
    by_cases I:600<k
    ·have t:¬(k:Int)<=600:=by omega
     have u:¬k<=600:=o_
     have v:(600:Int)<k:=o_
     simp[f,q,aD,I,t,u,v]
    ·have t:(k:Int)<=600:=by omega
     have u:k<=600:=o_
     have v:¬(600:Int)<k:=o_
     simp[f,q,aD,I,t,u,v,Y,Z]
   |true=>
    rw[ah]at af U;have ar:d=j++47::e:=by
     rcases m with⟨_,D⟩|⟨q1,_⟩
     ·exact D
     ·rw[ah]at q1;cases q1
    have n:k<d.length:=by rw[ar];simp;omega
    have C:d.drop (k+1)=e:=by
     conv=>lhs;rw[ar,<-hk]
     simp
    have a7:d.length=k+1+e.length:=by rw[ar];simp;omega
    have F:dz.wrap ((k:Int)+1)=(k:Int)+1:=aU _ o_ o_;have E:((k:Int)+1).toNat=k+1:=o_
    have w:(0:Int)<=k+1:=o_
    have y:(k:Int)+1<=d.length:=o_
    have z:k+1<=d.length:=n;clear m B;have ae:M=(eE e&&decide (e≠[48])&&decide (e≠[49])):=by
     rw[af,J];have:(neg&&decide (j=[48]))=false:=by
      by_cases l:neg=true
      ·have:¬j=[48]:=fun N=>O ⟨l,N⟩;simp[this]
      ·have:neg=false:=by simpa using l
       rw[this];rfl
     rw[this];simp
    by_cases ao:M=true
    ·rw[ao]at ae;have aV:¬M=false:=by rw[ao];decide
     rw[if_neg aV];have aK:eE e=true/\¬e=[48]/\¬e=[49]:=by
      have:=ae.symm;simp only[dg,decide_eq_true_eq]at this;exact⟨this.1.1,this.1.2,this.2⟩
     obtain⟨K,H,A⟩:=aK;rw[K]at i;rw[hk];have Y:dz.wrap ((d.length:Int)-k)=(d.length:Int)-k:=aU _ o_ o_;have Z:dz.wrap ((d.length:Int)-k-1)=e.length:=by rw[aU _ o_ o_];omega
     by_cases I:600<k
     ·have t:¬(k:Int)<=600:=by omega
      have u:¬k<=600:=o_
      have v:(600:Int)<k:=o_
      simp[f,q,n,F,E,w,y,z,C,H,A,I,t,u,v,c1 i]
     by_cases ab:600<e.length
     ·have t:(k:Int)<=600:=by omega
      have u:k<=600:=o_
      have v:¬(600:Int)<k:=o_
      have ac:(600:Int)<e.length:=o_
      simp[f,q,n,F,E,w,y,z,C,H,A,I,t,u,v,Y,Z,ab,ac,c1 i]
     have t:(k:Int)<=600:=o_
     have u:k<=600:=o_
     have v:¬(600:Int)<k:=o_
     have ac:¬(600:Int)<e.length:=o_
     have Q:=U (lX J) (lX K) rfl aC o_;have aS:=CR K H;have a1:j.length<=700:=o_
     have a2:e.length<=700:=o_
     have aM:bm j<10^700:=Tk (s:=j) (k:=700) a1 (lX J);have aN:bm e<10^700:=Tk (s:=e) (k:=700) a2 (lX K);have aE:∀x:Nat,x<10^700->(aw bT x).length<=400000:=fun x hx=>h4 (aPH (a:=700) (b:=78) hx d_) d_;have P:=PF (bm j) (bm e) (aE _ aM) (aE _ aN);have aA:0<i4 (bm j) (bm e):=j3 _ aS;generalize bm j=a5,bm e=a4 at*;obtain⟨g,al⟩:∃g,i4 a5 a4=g:=⟨_,rfl⟩
     simp only[al]at P aA⊢;have a0:¬(600<k\/600<e.length):=fun h=>by rcases h with h|h;exact I h;exact ab h
     rw[if_neg a0];simp only[eG,ea]at Q
     by_cases ap:g=1
     ·subst ap;have ad:aw bT 1=[1]:=qV d_ d_;simp only[eT,ad]at P Q;simp(maxDischargeDepth:=99) [f,q,n,F,E,w,y,z,C,H,A,I,t,u,v,Y,Z,ab,ac,aa,al,c1 i,c1 Q,c2 P]
     ·by_cases aB:g<bT
      ·have ad:aw bT g=[g]:=qV aA aB;have aW:¬(g:Int)=1:=by omega
       simp only[eT,ad]at P Q;simp(maxDischargeDepth:=99) [f,q,n,F,E,w,y,z,C,H,A,I,t,u,v,Y,Z,ab,ac,aa,ap,aW,al,c1 i,c1 Q,c2 P]
      ·have ad:¬((aw bT g).length:Int)=1:=by
        intro h;have N:(aw bT g).length=1:=o_
        have:=cL bp g;rw[N,kd]at this;exact aB this
       simp only[eT]at P Q;simp(maxDischargeDepth:=99) [f,q,n,F,E,w,y,z,C,H,A,I,t,u,v,Y,Z,ab,ac,aa,ap,ad,al,c1 i,c1 Q,c2 P]
    ·have az:M=false:=by simpa using ao
     rw[if_pos az]
     by_cases K:eE e=true
     ·rw[K]at i
      by_cases H:e=[48]
      ·simp[f,q,n,F,E,w,y,z,C];refine c1 i ?_;simp[f,q,n,F,E,w,y,z,C,H]
      ·have A:e=[49]:=by
        rw[K]at ae
        by_cases A:e=[49]
        ·exact A
        ·rw[az]at ae;simp[H,A]at ae
       simp[f,q,n,F,E,w,y,z,C];refine c1 i ?_;simp[f,q,n,F,E,w,y,z,C,A]
     ·have aJ:eE e=false:=by simpa using K
      rw[aJ]at i;simp[f,q,n,F,E,w,y,z,C,c1 i]
 ·have ay:eE j=false:=by simpa using J
  have hf:M=false:=by rw[af,ay];rfl
  rw[if_pos hf];rw[ay]at L;simp(maxDischargeDepth:=99) [G,f,S,aj,c1 T,c1 L]
theorem YU(l:List (List Nat))(f:l.length<=1000000)(hs:∀s∈l,kG s):aq prog 114 [.seq (l.map .str)] (.int .i64 (bN (l.map cz))):=by
 refine gA_ nf func114 mix ?_;simp[f114];refine lp (α:=Nat) (fun i=>⟨[(3,.p (.int .i64 i)),(0,.p (.seq (l.map .str)))],[]⟩) (fun i=>i<=l.length/\bN ((l.drop i).map cz)=bN (l.map cz)) (fun i=>l.length-i) 0 s_ ?_;rintro i ⟨e,a⟩
 by_cases hi:i<l.length
 ·rw[g6 hi]at a;have d:=cE (i:=i) o_;have hc:=AH l[i] (hs _ (g0 hi));obtain⟨s,b⟩:∃s,l[i]=s:=⟨_,rfl⟩
  have c:l[i]?=some s:=by rw[gc hi,b]
  rw[b]at hc a;simp[hi,c,b];refine c1 hc ?_
  by_cases he:cz s=0
  ·simp[bN,he]at a;simp[he,d];exact rd (i+1) ⟨hi,by simpa using a⟩
  ·simp[bN,he]at a;simp[he,<-a]
 ·have:i=l.length:=by omega
  subst this;simp[bN]at a;simp[<-a]
theorem Cd(p:bM)(a:jx p):aq prog 43 [cW p] (.int .i64 (eB p)):=by
 have hc:=YU [p.x,p.y] s_ (by intro s hs;simp at hs;rcases hs with rfl|rfl;exact a.1;exact a.2);refine gA_ nf func43 mix ?_;simp[f43,aa];refine cp hc (by simp;exact⟨rfl,rfl⟩) ?_;simp[eB]
theorem M7(z:Int):47∉bZ z:=by
 rw[bZ];split
 ·simp only[hj,not_or];exact⟨d_,EI (vq _) rfl⟩
 ·exact EI (vq _) rfl
theorem E5(q:Rat):(cC 47 (aR q)).1=bZ q.num/\(q.den≠1->aR q=bZ q.num++47::br q.den)/\(q.den=1->aR q=bZ q.num):=by
 by_cases h:q.den=1
 ·have e:aR q=bZ q.num:=by rw[aR,if_pos h]
  refine⟨?_,fun a=>(a h).elim,fun _=>e⟩;rw[e,Gt 47 _ (M7 _)]
 ·have e:aR q=bZ q.num++47::br q.den:=by rw[aR,if_neg h]
  refine⟨?_,fun _=>e,fun a=>(h a).elim⟩;rw[e,GM 47 _ _ (M7 _)]
theorem aDW(q:Rat)(h:aJ kB q):aq prog 217 [.str (aR q)] (.str (bZ q.num)):=by
 have i:=uN h;obtain⟨e,c,d⟩:=E5 q;have hs:=Ai (aR q) o_;rw[e]at hs;have g:(aR q).take (bZ q.num).length=bZ q.num:=by
  by_cases b:q.den=1
  ·rw[d b];simp
  ·rw[c b];simp
 have f:(bZ q.num).length<=(aR q).length:=by
  by_cases b:q.den=1
  ·rw[d b];exact ip _
  ·rw[c b];simp
 refine gA_ nf func217 mix ?_;generalize bZ q.num=a,aR q=s at*;simp[f217,g,f,c1 hs]
theorem aDO(q:Rat)(h:aJ kB q):aq prog 218 [.str (aR q)] (.str (br q.den)):=by
 have d:=uN h;obtain⟨i,j,k⟩:=E5 q;have hs:=Ai (aR q) o_;rw[i]at hs;refine gA_ nf func218 mix ?_
 by_cases c:q.den=1
 ·have e:=k c;rw[c,aRg];rw[e]at hs⊢;generalize bZ q.num=a at*;simp[f218,c1 hs]
 ·have e:=j c;rw[e]at hs d⊢;generalize bZ q.num=a,br q.den=b at*;simp only[g4,hw]at d;have m:¬(a.length:Int)=(a.length:Int)+(b.length+1):=by omega
  have p:dz.wrap ((a.length:Int)+1)=(a.length:Int)+1:=aU _ o_ o_;have o:((a.length:Int)+1).toNat=a.length+1:=o_
  have f:(0:Int)<=(a.length:Int)+1:=o_
  have g:(a.length:Int)+1<=(a.length:Int)+(b.length+1):=o_
  have l:hS (a.length+1) (a++47::b)=b:=s_
  have n:gx (a.length+(b.length+1)) (a++47::b)=a++47::b:=ge s_;simp[f218,m,p,o,f,g,l,n,c1 hs]
theorem aDJ(z:Int)(h:(bZ z).length<=1000000):aq prog 216 [.str (bZ z)] (.str (br z.natAbs)):=by
 have a:=RL (bZ z) o_;have f:cr (bZ z)=decide (z<0):=by
  have:=(CA z []).1;rwa [hd]at this
 have d:bZ z=[48]↔z=0:=by
  have e:bZ z=aR (z:Rat):=by rw[aR,if_pos (mo z),mm]
  rw[e,Gp]
  exact_mod_cast Iff.rfl
 refine gA_ nf func216 mix ?_;rw[f]at a
 by_cases hz:z<0
 ·have e:bZ z=45::br z.natAbs:=by rw[bZ,if_pos hz]
  rw[if_neg (fun x=>by have:=d.1 x;omega),if_pos (by simpa using hz)]at a;rw[e]at a⊢;simp[f216,c1 a]
 ·have e:bZ z=br z.natAbs:=by rw[bZ,if_neg hz]
  have b:∃v:Int,¬v<0/\aq prog 164 [.str (bZ z)] (.int .i64 v):=by
   by_cases c:bZ z=[48]
   ·rw[if_pos c]at a;exact⟨0,o_,a⟩
   ·rw[if_neg c,if_neg (by simpa using hz)]at a;exact⟨1,o_,a⟩
  obtain⟨v,g,b⟩:=b;rw[e]at b⊢;simp[f216,g,c1 b]
def fW(s:List Nat)(D:Nat):Bool:=decide (s.length<=2*D+2)&&decide (cz s=0)&&decide ((br (aS s).num.natAbs).length<=D)&&decide ((br (aS s).den).length<=D)
theorem aFd{s:List Nat}(h:cz s=0):aJ kB (aS s):=by
 obtain⟨b,c⟩:=Ke h;have a:(10:Nat)^mD<=2^kB:=h4 (QJ mD) (h0 d_ d_);exact⟨h2 b a,h2 c a⟩
theorem D7(s:List Nat)(D:Nat)(hs:kG s)(u:D<=100000):aq prog 113 [.str s,.int .i64 D] (.bool (fW s D)):=by
 have g:=AH s hs;have v:=hs.1;refine gA_ nf func113 mix ?_;have w1:dz.wrap (2*(D:Int))=2*(D:Int):=aU _ o_ o_;have h:dz.wrap (2*(D:Int)+2)=2*(D:Int)+2:=aU _ o_ o_
 by_cases l:s.length<=2*D+2
 ·have f:(s.length:Int)<=2*(D:Int)+2:=by omega
  by_cases d:cz s=0
  ·have k:=aFd d;have e:=(iQ d).1;rw[d]at g;have j:=aDW (aS s) k;have o:=aDO (aS s) k;have q:(bZ (aS s).num).length<=1000000:=by
    have:=uN k;obtain⟨_,r,t⟩:=E5 (aS s)
    by_cases p:(aS s).den=1
    ·rw[t p]at this;exact this
    ·rw[r p]at this;simp at this;omega
   have n:=aDJ (aS s).num q;rw[e]at j o;have hf:fW s D=(decide ((br (aS s).num.natAbs).length<=D)&&decide ((br (aS s).den).length<=D)):=by
    rw[fW,decide_eq_true l,decide_eq_true d];simp
   rw[hf];generalize br (aS s).num.natAbs=a,br (aS s).den=b,bZ (aS s).num=c at*
   by_cases m:a.length<=D
   ·have i:(a.length:Int)<=D:=by omega
    simp(maxDischargeDepth:=99) [f113,w1,h,f,m,i,c1 g,c1 j,c1 n,c1 o]
   ·have i:¬(a.length:Int)<=D:=by omega
    simp(maxDischargeDepth:=99) [f113,w1,h,f,m,i,c1 g,c1 j,c1 n]
  ·have hf:fW s D=false:=by rw[fW,decide_eq_false d];simp
   rw[hf];simp[f113,w1,h,f,d,c1 g]
 ·have f:¬(s.length:Int)<=2*(D:Int)+2:=by omega
  have hf:fW s D=false:=by rw[fW,decide_eq_false l];simp
  rw[hf];simp[f113,w1,h,f]
structure V2 where
 x:Rat
 y:Rat
def eV(v:V2):PV:=cW ⟨aR v.x,aR v.y⟩
@[simp] theorem aVl(v:V2):aK (eV v)=.agg 31:=rfl
@[simp] theorem aTK(v:V2):cm (eV v)=[.str (aR v.x),.str (aR v.y)]:=rfl
theorem Dj(x y:Rat):eV ⟨x,y⟩=.st 31 [.str (aR x),.str (aR y)]:=rfl
def bc(k:Nat)(v:V2):Prop:=aJ k v.x/\aJ k v.y
theorem bc.mono{k l:Nat}{v:V2}(h:bc k v)(a:k<=l):bc l v:=⟨h.1.mono a,h.2.mono a⟩
def V2.sub(v w:V2):V2:=⟨v.x-w.x,v.y-w.y⟩
def V2.add(v w:V2):V2:=⟨v.x+w.x,v.y+w.y⟩
def V2.mul(v:V2)(k:Rat):V2:=⟨v.x*k,v.y*k⟩
def V2.dot(v w:V2):Rat:=v.x*w.x+v.y*w.y
def V2.bg(v w:V2):Rat:=v.x*w.y-v.y*w.x
theorem gD{k l:Nat}{v w:V2}(h:bc k v)(a:bc l w):bc (k+l+1) (v.sub w):=⟨fK h.1 a.1,fK h.2 a.2⟩
theorem dh{k l:Nat}{v w:V2}(h:bc k v)(a:bc l w):aJ (k+l+(k+l)+1) (v.dot w):=ku (bh h.1 a.1) (bh h.2 a.2)
theorem nQ{k l:Nat}{v w:V2}(h:bc k v)(a:bc l w):aJ (k+l+(k+l)+1) (v.bg w):=fK (bh h.1 a.2) (bh h.2 a.1)
theorem aPr{k l:Nat}{v:V2}{a:Rat}(h:bc k v)(b:aJ l a):bc (k+l) (v.mul a):=⟨bh h.1 b,bh h.2 b⟩
def kQ:Nat:=20000
theorem eQ{q:Rat}(h:aJ kQ q):aJ kB q:=h.mono d_
theorem po(v w:V2)(a:bc kQ v)(b:bc kQ w):aq prog 27 [eV v,eV w] (eV (v.sub w)):=by
 have c:=lY v.x w.x (eQ a.1) (eQ b.1);have d:=lY v.y w.y (eQ a.2) (eQ b.2);refine gA_ nf func27 mix ?_;rw[V2.sub,Dj];simp(maxDischargeDepth:=99) [f27,aa,e2 c,e2 d]
theorem x9(v w:V2)(a:bc kQ v)(b:bc kQ w):aq prog 84 [eV v,eV w] (.str (aR (v.dot w))):=by
 have c:=ft v.x w.x (eQ a.1) (eQ b.1);have d:=ft v.y w.y (eQ a.2) (eQ b.2);have e:=tF (v.x*w.x) (v.y*w.y) ((bh a.1 b.1).mono d_) ((bh a.2 b.2).mono d_);refine gA_ nf func84 mix ?_;rw[V2.dot];simp(maxDischargeDepth:=99) [f84,aa,e2 c,e2 d,e2 e]
theorem Bn(v w:V2)(a:bc kQ v)(b:bc kQ w):aq prog 163 [eV v,eV w] (.str (aR (v.bg w))):=by
 have c:=ft v.x w.y (eQ a.1) (eQ b.2);have d:=ft v.y w.x (eQ a.2) (eQ b.1);have e:=lY (v.x*w.y) (v.y*w.x) ((bh a.1 b.2).mono d_) ((bh a.2 b.1).mono d_);refine gA_ nf func163 mix ?_;rw[V2.bg];simp(maxDischargeDepth:=99) [f163,aa,e2 c,e2 d,e2 e]
theorem uV(v:V2)(a:bc kQ v):aq prog 85 [eV v] (.str (aR (v.dot v))):=by
 refine gA_ nf func85 mix ?_;simp[f85,aa,c2 (x9 v v a a)]
def bK(r:Int):Rat:=((4*r*r:Int):Rat)
theorem xZ{r:Int}(a:0<=r)(b:r<=1000000):0<=4*r*r/\4*r*r<=4000000000000:=by
 have c:=eP a a;have d:=Int.mul_le_mul b b a d_;rw[Int.mul_assoc];omega
theorem mG{r:Int}(a:0<=r)(b:r<=1000000):aJ 42 (bK r):=by
 have:=xZ a b;exact pg o_ d_
theorem Ih(r:Int)(a:0<=r)(b:r<=1000000):aq prog 87 [.int .i64 r] (.str (aR (bK r))):=by
 have e:=xZ a b;have c:=DC (4*r*r) o_ o_;have w1:dz.wrap (4*r)=4*r:=aU _ o_ o_;have d:dz.wrap (4*r*r)=4*r*r:=aU _ o_ o_;refine gA_ nf func87 mix ?_;rw[bK];simp[f87,w1,d,c1 c]
def bO(r:Int)(w d:V2):Rat:=w.dot d*w.dot d-d.dot d*(w.dot w-bK r)
theorem asS{r:Int}{w d:V2}(c:0<=r)(e:r<=1000000)(b:bc 500 w)(a:bc 500 d):aJ 12000 (bO r w d):=by
 refine(fK (bh (dh b a) (dh b a)) (bh (dh a a) (fK (dh b b) (mG c e)))).mono d_
theorem HK(r:Int)(w d:V2)(i:0<=r)(j:r<=1000000)(c:bc 500 w)(b:bc 500 d):aq prog 86 [.int .i64 r,eV w,eV d] (.str (aR (bO r w d))):=by
 have l:bc kQ w:=c.mono d_;have k:bc kQ d:=b.mono d_;have a:=dh c b;have f:=dh b b;have h:=dh c c;have g:=mG i j;have e:=fK h g;have o:=x9 w d l k;have q:=ft (w.dot d) (w.dot d) (a.mono d_) (a.mono d_);have t:=uV d k;have u:=uV w l;have p:=Ih r i j;have m:=lY (w.dot w) (bK r) (h.mono d_) (g.mono d_);have s:=ft (d.dot d) (w.dot w-bK r) (f.mono d_) (e.mono d_);have n:=lY (w.dot d*w.dot d) (d.dot d*(w.dot w-bK r)) ((bh a a).mono d_) ((bh f e).mono d_);refine gA_ nf func86 mix ?_;rw[bO];simp(maxDischargeDepth:=99) [f86,aa,c2 o,e2 q,e1 t,e1 u,e1 p,e2 m,e2 s,e2 n]
def tA(r:Int)(w d:V2):Bool:=decide (0<bP (w.dot d))&&decide (0<bP (bO r w d))
theorem aDR(r:Int)(w d:V2)(c:0<=r)(e:r<=1000000)(b:bc 500 w)(a:bc 500 d):aq prog 80 [.int .i64 r,eV w,eV d] (.bool (tA r w d)):=by
 have f:=x9 w d (b.mono d_) (a.mono d_);have g:=nE (w.dot d) ((dh b a).mono d_);have j:=HK r w d c e b a;have i:=nE (bO r w d) ((asS c e b a).mono d_);refine gA_ nf func80 mix ?_;rw[tA];generalize bP (w.dot d)=s1,bP (bO r w d)=s2 at*
 by_cases h:0<s1
 ·simp(maxDischargeDepth:=99) [f80,aa,h,c2 f,c1 g,c3 j,c1 i]
 ·simp(maxDischargeDepth:=99) [f80,aa,h,c2 f,c1 g]
structure S3 where
 a:Rat
 b:Rat
 d:Rat
def eS(s:S3):PV:=.st 58 [.str (aR s.a),.str (aR s.b),.str (aR s.d)]
@[simp] theorem aVb(s:S3):aK (eS s)=.agg 58:=rfl
@[simp] theorem aTB(s:S3):cm (eS s)=[.str (aR s.a),.str (aR s.b),.str (aR s.d)]:=rfl
theorem ky(a b d:Rat):eS ⟨a,b,d⟩=.st 58 [.str (aR a),.str (aR b),.str (aR d)]:=rfl
def uM(r:Int)(w d:V2):S3:=⟨w.dot d/d.dot d,-(d.dot d)⁻¹,bO r w d⟩
theorem ZY(r:Int)(w d:V2)(e:0<=r)(f:r<=1000000)(c:bc 500 w)(a:bc 500 d)(hz:d.dot d≠0):aq prog 81 [.int .i64 r,eV w,eV d] (eS (uM r w d)):=by
 have b:=dh a a;have i:=uV d (a.mono d_);have g:=x9 w d (c.mono d_) (a.mono d_);have l:=pQ (w.dot d) (d.dot d) ((dh c a).mono d_) (b.mono d_) hz;have j:=FZ (d.dot d) (b.mono d_) hz;have h:=yn (d.dot d)⁻¹ ((lH b).mono d_);have k:=HK r w d e f c a;refine gA_ nf func81 mix ?_;rw[uM,ky];simp(maxDischargeDepth:=99) [f81,aa,c1 i,e2 g,e2 l,e1 j,e1 h,e3 k]
theorem au2:prog.stoodInHeld 32=false:=k_
@[simp] theorem aS3:qp prog 32=true:=k_
def xD(a b c d:List Nat):Bool:=decide (a=c/\b=d)
@[simp] theorem aS7{a b c d:List Nat}:gE prog 9 32 (.st 31 [.str a,.str b]) (.st 31 [.str c,.str d])=some (xD a b c d):=by
 have e:=underlying32;have:((a==c)&&((b==d)&&true))=xD a b c d:=by
  rw[xD,Bool.eq_iff_iff];simp
 rw[<-this];simp[gE,e,au2,ju,aK]
theorem aEf:aq prog 68 [] (eV ⟨0,0⟩):=by
 refine gA_ nf func68 mix ?_;rw[Dj,o8];simp[f68,aa]
def jR(p:bM):Int:=if eB p=0/\p.x=[48]/\p.y=[48]then 6 else eB p
theorem ML(p:bM)(e:jx p):aq prog 14 [cW p] (.int .i64 (jR p)):=by
 have a:=Cd p e;have b:=aEf;rw[Dj,o8]at b;refine gA_ nf func14 mix ?_;rw[jR];obtain⟨x,y⟩:=p;simp only[cW]at*;generalize eB ⟨x,y⟩=c at*
 by_cases h:c=0
 ·by_cases hx:x=[48]
  ·by_cases d:y=[48]
   ·simp[f14,aa];refine c1 a ?_;simp[h,aa];refine e0 b ?_;simp[hx,d,xD,h]
   ·simp[f14,aa];refine c1 a ?_;simp[h,aa];refine e0 b ?_;simp[hx,d,xD,h]
  ·simp[f14,aa,h,hx,xD,c1 a,e0 b]
 ·simp[f14,aa,h,c1 a]
theorem HE(p:bM)(D:Nat)(d:jx p)(c:D<=100000):aq prog 44 [cW p,.int .i64 D] (.bool (fW p.x D&&fW p.y D)):=by
 have a:=D7 p.x D d.1 c;have b:=D7 p.y D d.2 c;refine gA_ nf func44 mix ?_;obtain⟨x,y⟩:=p;dsimp only at a b⊢;simp only[cW];cases hx:fW x D
 ·rw[hx]at a;simp[f44,aa,c2 a]
 ·rw[hx]at a;simp[f44,aa,c2 a,c2 b]
def gV(k:Nat)(s:S3):Prop:=aJ k s.a/\aJ k s.b/\aJ k s.d
theorem gV.mono{k l:Nat}{s:S3}(h:gV k s)(a:k<=l):gV l s:=⟨h.1.mono a,h.2.1.mono a,h.2.2.mono a⟩
def S3.add(s t:S3):S3:=⟨s.a+t.a,s.b+t.b,s.d⟩
def S3.mul(s t:S3):S3:=⟨s.a*t.a+s.b*t.b*s.d,s.a*t.b+t.a*s.b,s.d⟩
def S3.times(x:Rat)(s:S3):S3:=⟨x*s.a,x*s.b,s.d⟩
theorem AY{k l:Nat}{x:Rat}{s:S3}(hx:aJ k x)(hs:gV l s):gV (k+l) (S3.times x s):=⟨bh hx hs.1,bh hx hs.2.1,hs.2.2.mono o_⟩
theorem aPn{k l:Nat}{s t:S3}(hs:gV k s)(a:gV l t):gV (k+l+(k+l+k)+1) (s.mul t):=
 ⟨ku (bh hs.1 a.1) (bh (bh hs.2.1 a.2.1) hs.2.2),(ku (bh hs.1 a.2.1) (bh a.1 hs.2.1)).mono o_,hs.2.2.mono o_⟩
def kS:Nat:=8000
theorem D6(s t:S3)(hs:gV 30000 s)(c:gV 30000 t):aq prog 176 [eS s,eS t] (eS (s.add t)):=by
 have d:=tF s.a t.a (hs.1.mono d_) (c.1.mono d_);have e:=tF s.b t.b (hs.2.1.mono d_) (c.2.1.mono d_);refine gA_ nf func176 mix ?_;rw[S3.add,ky];simp(maxDischargeDepth:=99) [f176,aa,e2 d,e2 e]
theorem Iq(s t:S3)(hs:gV 20000 s)(c:gV 20000 t):aq prog 93 [eS s,eS t] (eS (s.mul t)):=by
 have e:=ft s.a t.a (hs.1.mono d_) (c.1.mono d_);have f:=ft s.b t.b (hs.2.1.mono d_) (c.2.1.mono d_);have g:=ft (s.b*t.b) s.d ((bh hs.2.1 c.2.1).mono d_) (hs.2.2.mono d_);have h:=tF (s.a*t.a) ((s.b*t.b)*s.d) ((bh hs.1 c.1).mono d_) ((bh (bh hs.2.1 c.2.1) hs.2.2).mono d_);have i:=ft s.a t.b (hs.1.mono d_) (c.2.1.mono d_);have j:=ft t.a s.b (c.1.mono d_) (hs.2.1.mono d_);have k:=tF (s.a*t.b) (t.a*s.b) ((bh hs.1 c.2.1).mono d_) ((bh c.1 hs.2.1).mono d_);refine gA_ nf func93 mix ?_;rw[S3.mul,ky];simp(maxDischargeDepth:=99) [f93,aa,e2 e,e2 f,e2 g,e2 h,e2 i,e2 j,e2 k]
theorem AZ(a b d:List Nat):aq prog 171 [.str a,.str b,.str d] (.st 58 [.str a,.str b,.str d]):=by
 refine gA_ nf func171 mix ?_;simp[f171,aa]
theorem vS(x:Rat)(s:S3)(hx:aJ 30000 x)(hs:gV 30000 s):aq prog 96 [.str (aR x),eS s] (eS (S3.times x s)):=by
 have c:=ft x s.a (hx.mono d_) (hs.1.mono d_);have e:=ft x s.b (hx.mono d_) (hs.2.1.mono d_);have f:=AZ (aR (x*s.a)) (aR (x*s.b)) (aR s.d);refine gA_ nf func96 mix ?_;rw[S3.times,ky];simp(maxDischargeDepth:=99) [f96,aa,e2 c,e2 e,e3 f]
structure P4 where
 x:S3
 y:S3
def gY(p:P4):PV:=.st 60 [eS p.x,eS p.y]
@[simp] theorem aU6(p:P4):aK (gY p)=.agg 60:=rfl
@[simp] theorem aTw(p:P4):cm (gY p)=[eS p.x,eS p.y]:=rfl
theorem aGa(x y:S3):gY ⟨x,y⟩=.st 60 [eS x,eS y]:=rfl
@[simp] theorem ceS:prog.cellsOf 58=3:=k_
def wv(k:Nat)(p:P4):Prop:=gV k p.x/\gV k p.y
theorem wv.mono{k l:Nat}{p:P4}(h:wv k p)(a:k<=l):wv l p:=⟨h.1.mono a,h.2.mono a⟩
def P4.dot(v:V2)(p:P4):S3:=(S3.times v.x p.x).add (S3.times v.y p.y)
theorem Jv(v:V2)(p:P4)(b:bc 3000 v)(a:wv 3000 p):aq prog 94 [eV v,gY p] (eS (P4.dot v p)):=by
 have c:=vS v.x p.x (b.1.mono d_) (a.1.mono d_);have d:=vS v.y p.y (b.2.mono d_) (a.2.mono d_);have e:=D6 (S3.times v.x p.x) (S3.times v.y p.y) ((AY b.1 a.1).mono d_) ((AY b.2 a.2).mono d_);refine gA_ nf func94 mix ?_;rw[P4.dot];simp(maxDischargeDepth:=99) [f94,aa,e2 c,e2 d,e2 e]
theorem l6(q:Rat):bP q= -1\/bP q=0\/bP q=1:=by
 rw[bP];split
 ·exact .inl rfl
 ·split
  ·exact .inr (.inl rfl)
  ·exact .inr (.inr rfl)
theorem Is(x y:Rat):c8 x y= -1\/c8 x y=0\/c8 x y=1:=by
 rw[c8];split
 ·exact .inl rfl
 ·split
  ·exact .inr (.inl rfl)
  ·exact .inr (.inr rfl)
theorem l8{a b:Int}(c:a= -1\/a=0\/a=1)(d:b= -1\/b=0\/b=1):a*b= -1\/a*b=0\/a*b=1:=by
 rcases c with rfl|rfl|rfl<;>rcases d with rfl|rfl|rfl<;>simp
theorem l7{a:Int}(b:a= -1\/a=0\/a=1):dz.wrap a=a:=by
 rcases b with rfl|rfl|rfl<;>decide
def jJ(a b o:Int):Int:=if 0<=a*b then(if a=0 then b else a)else a*o
def bR(s:S3):Int:=jJ (bP s.a) (bP s.b*bP s.d) (c8 (s.a*s.a) (s.b*s.b*s.d))
theorem Vz{a b o:Int}(c:a= -1\/a=0\/a=1)(d:b= -1\/b=0\/b=1)(e:o= -1\/o=0\/o=1):jJ a b o= -1\/jJ a b o=0\/jJ a b o=1:=by
 rw[jJ]
 split
 ·split
  ·exact d
  ·exact c
 ·exact l8 c e
theorem yp(s:S3):bR s= -1\/bR s=0\/bR s=1:=Vz (l6 _) (l8 (l6 _) (l6 _)) (Is _ _)
theorem BN(s:S3)(e:aJ 16600 s.a)(f:aJ 13000 s.b)(i:aJ 8000 s.d)(u:aJ 32000 (s.b*s.b*s.d)):aq prog 168 [eS s] (.int .i64 (bR s)):=by
 have l:=nE s.a (e.mono d_);have m:=nE s.b (f.mono d_);have n:=nE s.d (i.mono d_);have p:=ft s.a s.a (e.mono d_) (e.mono d_);have q:=ft s.b s.b (f.mono d_) (f.mono d_);have r:=ft (s.b*s.b) s.d ((bh f f).mono d_) (i.mono d_);have t:=ue (s.a*s.a) (s.b*s.b*s.d) ((bh e e).mono d_) (u.mono d_);have g:=l6 s.a;have h:=l8 (l6 s.b) (l6 s.d);have k:=Is (s.a*s.a) (s.b*s.b*s.d);have w1:=l7 h;refine gA_ nf func168 mix ?_;rw[bR];generalize c8 (s.a*s.a) (s.b*s.b*s.d)=o,bP s.a=x,bP s.b=y1,bP s.d=y2 at*;have j:=l7 (l8 g h);have w:=l7 (l8 g k);simp[f168,aa,-aX];rw[aX];simp[-aX,aa];rw[aX];simp[-aX,aa];refine e1 l ?_;simp[aa];refine e1 m ?_;simp[aa];refine e1 n ?_;simp[aa,w1];generalize y1*y2=y at*;rw[jJ]
 by_cases c:0<=x*y
 ·rw[if_pos c]
  by_cases c2:x=0
  ·subst c2;have v:dz.wrap 0=0:=by decide
   simp[v,aa]
  ·rw[if_neg c2];simp[c,c2,j,aa]
 ·rw[if_neg c];simp(maxDischargeDepth:=99) [c,j,aa,w,e2 p,e2 q,e2 r,e2 t]
theorem D5(s:S3)(hs:gV 8000 s):aq prog 168 [eS s] (.int .i64 (bR s)):=BN s (hs.1.mono d_) (hs.2.1.mono d_) (hs.2.2.mono d_) ((bh (bh hs.2.1 hs.2.1) hs.2.2).mono d_)
namespace Hk
def mN:Nat:=9223372036854775808
def Dn:Nat:=1606938044258990275541962092341162602522202993782792835301376
def tL{α:Type}(n:Nat)(f:Nat->α):α:=match n with
 |0=>f 0
 |k+1=>f (k+1)
theorem Ap{α:Type}(n:Nat)(f:Nat->α):tL n f=f n:=by cases n<;>rfl
def Ee{α:Type}(z:Int)(f:Int->α):α:=match z with
 | .ofNat n=>tL n fun n=>f (.ofNat n)
 | .negSucc n=>tL n fun n=>f (.negSucc n)
theorem Rh{α:Type}(z:Int)(f:Int->α):Ee z f=f z:=by cases z<;>simp[Ee,Ap]
def tW:Int->Bool
 | .ofNat n=>j7 n mN
 | .negSucc n=>j7 (n+1) mN
theorem Hf{z:Int}:tW z=true↔z.natAbs<9223372036854775808:=by
 cases z with
 |ofNat n=>simp only[tW,kb,mN];exact Iff.rfl
 |negSucc n=>simp only[tW,kb,mN];exact Iff.rfl
def rM:Int->Int->Bool
 | .ofNat a,.ofNat b=>ix a b
 | .negSucc a,.negSucc b=>ix a b
 |_,_=>false
theorem Dy:∀{a b:Int},rM a b=true->a=b
 | .ofNat a,.ofNat b,h=>by simp only[rM]at h;rw[h6 h]
 | .negSucc a,.negSucc b,h=>by simp only[rM]at h;rw[h6 h]
 | .ofNat a,.negSucc b,h=>by simp[rM]at h
 | .negSucc a,.ofNat b,h=>by simp[rM]at h
def yx(z:Int):Option PV:=bif tW z then some (gf z)else bif ix z.natAbs mN then none else some (mM z)
theorem C6{z:Int}{p:PV}(h:yx z=some p)(m:Bool):eI ⟨z,m⟩=p:=by
 unfold yx at h;rw[kW];rcases hs:tW z with _|_
 ·simp only[hs,cond_false]at h;rcases a:ix z.natAbs mN with _|_
  case true=>rw[a]at h;cases h
  ·have c:¬ix z.natAbs mN=true:=by rw[a];decide
   rw[a,cond_false]at h;simp only[lz]at h;have b:¬z.natAbs<9223372036854775808:=fun h=>by rw[Hf.2 h]at hs;cases hs
   have d:z.natAbs≠9223372036854775808:=fun e=>c (by rw[e];rfl);rw[if_neg,h];simp only[NI.sm,dq,decide_eq_true_eq,dg,not_or,not_and];exact⟨o_,fun h=>by omega⟩
 ·simp only[hs,cond_true,lz]at h;have b:=Hf.1 hs;rw[if_pos,h];simp only[NI.sm,dq,decide_eq_true_eq,dg];exact .inl o_
def Bh:List PV->Option (List Nat)
 |[]=>some []
 | .int .u64 (.ofNat x)::r=>match Bh r with
  |some l=>some (x::l)
  |none=>none
 |_=>none
theorem RV:∀{l:List PV}{a:List Nat},Bh l=some a->l=a.map fun x:Nat=>PV.int .u64 x
 |[],a,h=>by simp only[Bh,lz]at h;subst h;rfl
 |v::r,a,h=>by
  unfold Bh at h
  split at h
  ·rename_i e;cases e
  ·rename_i x c e;cases e
   split at h
   ·rename_i l b;simp only[lz]at h;subst h;rw[RV b];rfl
   ·cases h
  ·cases h
def wC:List Nat->List Nat->Bool
 |[],[]=>true
 |x::a,y::b=>bif ix x y then wC a b else false
 |_,_=>false
theorem G9:∀{a b:List Nat},wC a b=true->a=b
 |[],[],_=>rfl
 |[],_::_,h=>by simp[wC]at h
 |_::_,[],h=>by simp[wC]at h
 |x::a,y::b,h=>by
  simp only[wC,dl]at h
  split at h
  ·rename_i hx;rw[h6 hx,G9 h]
  ·cases h
def Ec:PV->Option Int
 | .st u [.int .i64 z,.aI]=>bif ix u 121 then(bif tW z then some z else none)else none
 | .st u [.int .i64 s,.seq l]=>match Bh l with
  |some a=>tL (kg wB a) fun n=>bif ix u 121&&(j7 mN n&&wC (aw wB n) a)then
   (bif rM s 1 then some (.ofNat n)else bif rM s (-1)then some (.negSucc (n-1))else none)else none
  |none=>none
 |_=>none
theorem Rj{p:PV}{z:Int}(h:Ec p=some z):p=eI ⟨z,false⟩:=by
 unfold Ec at h
 split at h
 ·rename_i u y;simp only[dl]at h
  split at h
  ·rename_i f
   split at h
   ·rename_i hs;simp only[lz]at h;subst h;rw[h6 f];exact(C6 (by rw[yx,hs];rfl) false).symm
   ·cases h
  ·cases h
 ·rename_i u s l
  split at h
  ·rename_i g hn;rw[Ap]at h;have e:=RV hn;generalize kg wB g=n at h;simp only[dl]at h
   split at h
   ·rename_i hc;simp only[dg,kb]at hc;obtain⟨b,i,c⟩:=hc;have d:=G9 c;have j:mN=9223372036854775808:=rfl;rw[h6 b,e,<-d];have key:∀z:Int,z.natAbs=n->eI ⟨z,false⟩=mM z:=fun z hz=>by
     refine C6 ?_ false;have e1:tW z=false:=by
      rcases a:tW z with _|_
      ·rfl
      ·have:=Hf.1 a;omega
     have e2:ix z.natAbs mN=false:=by
      rcases a:ix z.natAbs mN with _|_
      ·rfl
      ·have:=h6 a;omega
     rw[yx,e1,e2];rfl
    split at h
    ·rename_i hs;simp only[lz]at h;subst h;rw[Dy hs,key _ rfl,mM,if_neg (by show¬((n:Int)<0);omega)];rfl
    ·split at h
     ·rename_i hs;simp only[lz]at h;subst h;rw[Dy hs,key _ (by show n-1+1=n;omega),mM,if_pos o_];have:(e8 (n-1)).natAbs=n:=by show n-1+1=n;omega
      rw[this];rfl
     ·cases h
   ·cases h
  ·cases h
 ·cases h
def I3(n:Int)(d:Nat):Bool:=j7 0 d&&(j7 n.natAbs Dn&&(j7 d Dn&&ix (i4 n.natAbs d) 1))
def tJ:PV->Option (Int×Nat)
 | .st u [a,b]=>match Ec a,Ec b with
  |some n,some (.ofNat d)=>bif ix u 123&&I3 n d then some (n,d)else none
  |_,_=>none
 |_=>none
def fr(n:Int)(d:Nat):NF:=⟨l1 n d,false⟩
theorem ZP:Dn=2^200:=d_
theorem Hg{p:PV}{n:Int}{d:Nat}(h:tJ p=some (n,d)):p=eF (fr n d)/\d≠0/\aJ kB (fr n d).q:=by
 unfold tJ at h
 split at h
 case h_2=>cases h
 rename_i u a b
 split at h
 case h_2=>cases h
 rename_i c d' g i;simp only[dl]at h
 split at h
 case isFalse=>cases h
 rename_i hc;simp only[lz,Prod.mk.injEq]at h;obtain⟨rfl,rfl⟩:=h;simp only[I3,dg,kb]at hc;obtain⟨c1,c2,c3,c4,c5⟩:=hc;have f:=h6 c5;have e:d'≠0:=o_
 obtain⟨e1,e2⟩:=nZ (n:=c) e;rw[f]at e1 e2;simp only[e9,fm,i8]at e1 e2;rw[ZP]at c3 c4;refine⟨?_,e,(GW e c3 c4).mono d_⟩;rw[h6 c1,Rj g,Rj i,eF];have g1:(fr c d').num=⟨c,false⟩:=by rw[NF.num,fr,e1]
 have g2:(fr c d').den=⟨(d':Int),false⟩:=by rw[NF.den,fr,e2];rfl
 rw[g1,g2];rfl
def qo(n:Int)(d:Nat):Option PV:=
 tL (i4 n.natAbs d) fun g=>Ee (n/g) fun n=>tL (d/g) fun d=>match yx n,yx (.ofNat d)with
  |some a,some b=>some (.st 123 [a,b])
  |_,_=>none
theorem sV{n:Int}{d:Nat}{p:PV}(f:d≠0)(h:qo n d=some p)(m:Bool):p=eF ⟨l1 n d,m⟩:=by
 obtain⟨e1,e2⟩:=nZ (n:=n) f;simp only[qo,Ap,Rh]at h
 split at h
 case h_2=>cases h
 rename_i a b c e;simp only[lz]at h;subst h;rw[eF];have g1:(NF.num ⟨l1 n d,m⟩)=⟨n/(i4 n.natAbs d:Nat),m⟩:=by rw[NF.num,e1]
 have g2:(NF.den ⟨l1 n d,m⟩)=⟨((d/i4 n.natAbs d:Nat):Int),false⟩:=by rw[NF.den,e2];rfl
 rw[g1,g2,C6 c,<-C6 e false];rfl
def two(op:Int->Nat->Int->Nat->Option PV)(a b:PV):Option PV:=match tJ a,tJ b with
 |some (n,d),some (m,e)=>op n d m e
 |_,_=>none
theorem Au{op:Int->Nat->Int->Nat->Option PV}{a b p:PV}(h:two op a b=some p):
 ∃n d m e,a=eF (fr n d)/\b=eF (fr m e)/\d≠0/\e≠0/\aJ kB (fr n d).q/\aJ kB (fr m e).q/\op n d m e=some p:=by
 unfold two at h
 split at h
 case h_2=>cases h
 rename_i n d m e j k;obtain⟨c,a2,a3⟩:=Hg j;obtain⟨f,g,i⟩:=Hg k;exact⟨n,d,m,e,c,f,a2,g,a3,i,h⟩
def Uy(n:Int)(d:Nat)(m:Int)(e:Nat):Option PV:=qo (n*e+m*d) (d*e)
def UA(n:Int)(d:Nat)(m:Int)(e:Nat):Option PV:=qo (n*e-m*d) (d*e)
def Uz(n:Int)(d:Nat)(m:Int)(e:Nat):Option PV:=qo (n*m) (d*e)
def EA:Int->Int
 | .ofNat n=>bif ix n 0 then 0 else 1
 | .negSucc _=>-1
theorem QC(z:Int):EA z=if z<0 then -1 else if z=0 then 0 else 1:=by
 cases z with
 |ofNat n=>
  rw[if_neg s_];cases n with
  |zero=>rfl
  |succ n=>rw[if_neg (by simp;omega)];rfl
 |negSucc n=>rw[if_pos o_];rfl
def I1(n:Int)(d:Nat)(m:Int)(e:Nat):Option PV:=some (.int .i64 (EA (n*e-m*d)))
def Ep(n:Int)(d:Nat)(m:Int)(e:Nat):Option PV:=match m with
 | .ofNat k=>bif ix k 0 then none else qo (n*e) (d*k)
 | .negSucc k=>qo (-(n*e)) (d*(k+1))
theorem yv{d:Nat}(h:d≠0):(d:Int)≠0:=o_
theorem aEx{n m:Int}{d e:Nat}{p:PV}(a:d≠0)(b:e≠0)(h:Uy n d m e=some p):p=eF ((fr n d).add (fr m e)):=by
 rw[NF.add,fr,fr];dsimp only;rw[mb _ _ (yv a) (yv b)];have:=sV (j4 a b) h;rw[ei]at this;exact this _
theorem aEB{n m:Int}{d e:Nat}{p:PV}(a:d≠0)(b:e≠0)(h:UA n d m e=some p):p=eF ((fr n d).sub (fr m e)):=by
 rw[NF.sub,NF.add,NF.neg,fr,fr];dsimp only;rw[mp,mb _ _ (yv a) (yv b)];have:=sV (j4 a b) h;rw[ei]at this;rw[fw,<-Int.sub_eq_add_neg];exact this _
theorem aEz{n m:Int}{d e:Nat}{p:PV}(a:d≠0)(b:e≠0)(h:Uz n d m e=some p):p=eF ((fr n d).mul (fr m e)):=by
 rw[NF.mul,fr,fr];dsimp only;rw[l3];have:=sV (j4 a b) h;rw[ei]at this;exact this _
theorem avy(x y:Rat):c8 x y=if x-y<0 then -1 else if x-y=0 then 0 else 1:=by
 have b:x-y<0↔x<y:=by
  constructor
  ·intro h;have a:=(md (c:=y)).2 h
   rwa [l2,l5]at a
  ·intro h;refine(md (c:=y)).1 ?_
   rwa [l2,l5]
 have a:x-y=0↔x=y:=by
  constructor
  ·intro h;have d:=congrArg (·+y) h
   simpa[l2,l5]using d
  ·intro h;rw[h,mx]
 simp only[c8,b,a]
theorem Gs(n:Int){d:Nat}(i:d≠0):(if l1 n d<0 then(-1:Int)else if l1 n d=0 then 0 else 1)=EA n:=by
 rw[HW,QC];obtain⟨e1,-⟩:=nZ (n:=n) i;have k:0<i4 n.natAbs d:=j3 _ o_;have j:((i4 n.natAbs d:Nat):Int)∣n:=by
  rw[ew];exact km _ _
 obtain⟨c,hc⟩:=j;rw[e1];generalize i4 n.natAbs d=g at*;have a:(0:Int)<g:=o_
 subst hc;rw[eq _ o_];have b:(g:Int)*c<0↔c<0:=by
  constructor
  ·intro h;refine Int.not_le.1 fun f=>?_;have:=eP (ey a) f;omega
  ·intro h;exact e7 a h
 have e:(g:Int)*c=0↔c=0:=by
  rw[Int.mul_eq_zero];constructor
  ·rintro(h|h)
   ·omega
   ·exact h
  ·exact fun h=>.inr h
 simp only[b,e]
theorem aEy{n m:Int}{d e:Nat}{p:PV}(a:d≠0)(b:e≠0)(h:I1 n d m e=some p):p=.int .i64 (c8 (fr n d).q (fr m e).q):=by
 simp only[I1,lz]at h;rw[<-h,avy,fr,fr];dsimp only;rw[Rat.divInt_sub_divInt _ _ (yv a) (yv b),<-ei,Gs _ (j4 a b)]
theorem SJ{n m:Int}{d e:Nat}{p:PV}(a:d≠0)(b:e≠0)(h:Ep n d m e=some p):p=eF ((fr n d).div (fr m e))/\(fr m e).q≠0:=by
 have hz:m≠0->(fr m e).q≠0:=fun f hq=>by
  rw[fr]at hq;dsimp only at hq;have:=Gs m b;rw[hq,if_neg d_,if_pos rfl,QC]at this
  split at this
  ·omega
  ·first
     |omega
     |(rw[if_neg f]at this;omega)
 rw[NF.div,fr,fr];dsimp only;unfold Ep at h;cases m with
 |ofNat k=>
  simp only[dl]at h
  split at h
  ·cases h
  ·rename_i hk;have c:k≠0:=fun e=>hk (by rw[e];rfl);have:=sV (j4 a c) h;refine⟨?_,hz (by show(k:Int)≠0;omega)⟩;have e:(l1 n d:Rat)/l1 (Int.ofNat k) e=l1 (n*e) (d*k):=by
    rw[l4,ms,l3];rfl
   rw[e];rw[ei]at this;exact this _
 |negSucc k=>
  dsimp only at h;have:=sV (j4 a (Nat.succ_ne_zero k)) h;refine⟨?_,hz o_⟩;have e:(l1 n d:Rat)/l1 (e8 k) e=l1 (-(n*e)) ((d:Int)*((k+1:Nat):Int)):=by
   rw[l4,ms,l3];rw[show e8 k= -((k+1:Nat):Int)from rfl,gb];rw[Rat.divInt_neg']
  rw[e];rw[ei]at this;exact this _
def Eo:Nat->Nat->Nat
 |0,_=>0
 |f+1,n=>bif ix n 0 then 0 else Eo f (n/10)+1
theorem aC7{a b:Nat}(h:a<b):j7 a b=true:=by rw[kb];exact h
theorem Ea{a b:Nat}(h:j7 a b=true):a<b:=by rw[kb]at h;exact h
theorem Su:∀(f n:Nat),n<10^f->Eo f n=nd n
 |0,n,h=>by
  have:n=0:=by simpa using h
  subst this;rw[nd];rfl
 |f+1,n,h=>by
  rw[Eo,nd]
  by_cases a:n=0
  ·subst a;rfl
  ·have b:ix n 0=false:=by
    rcases c:ix n 0 with _|_
    ·rfl
    ·exact(a (h6 c)).elim
   rw[b,cond_false,dif_neg a,Su f (n/10) (by rw[h9 o_];rw[h8]at h;exact h)]
def yO(n:Nat):List Nat:=tL (Eo 80 n) fun k=>bif j7 1 k then low k n else low 1 n
theorem DE{n:Nat}(h:n<10^80):yO n=br n:=by
 rw[yO,Ap,Su _ _ h,br];rcases a:j7 1 (nd n)with _|_
 ·have:¬1<nd n:=fun b=>by rw[aC7 b]at a;cases a
  rw[cond_false,Nat.max_eq_left o_]
 ·have:1<nd n:=Ea a;rw[cond_true,Nat.max_eq_right o_]
def Jj:Int->List Nat
 | .ofNat n=>yO n
 | .negSucc n=>45::yO (n+1)
theorem aRk{z:Int}(h:z.natAbs<10^80):Jj z=bZ z:=by
 cases z with
 |ofNat n=>rw[bZ,if_neg (by show¬((n:Int)<0);omega)];exact DE h
 |negSucc n=>rw[bZ,if_pos o_];exact congrArg (45::·) (DE h)
def Ji(n:Int)(d:Nat):List Nat:=bif ix d 1 then Jj n else Jj n++47::yO d
theorem PO{n:Int}{d:Nat}(a:d≠0)(b:i4 n.natAbs d=1):(fr n d).q.num=n/\(fr n d).q.den=d:=by
 obtain⟨e1,e2⟩:=nZ (n:=n) a;rw[b]at e1 e2;simp only[e9,fm,i8]at e1 e2;exact⟨e1,e2⟩
theorem PU{p:PV}{n:Int}{d:Nat}(h:tJ p=some (n,d)):i4 n.natAbs d=1/\n.natAbs<10^80/\d<10^80:=by
 unfold tJ at h
 split at h
 case h_2=>cases h
 split at h
 case h_2=>cases h
 simp only[dl]at h
 split at h
 case isFalse=>cases h
 rename_i hc;simp only[lz,Prod.mk.injEq]at h;obtain⟨rfl,rfl⟩:=h;simp only[I3,dg,kb]at hc;obtain⟨c1,c2,c3,c4,c5⟩:=hc;have a:Dn<10^80:=d_
 exact⟨h6 c5,o_,o_⟩
theorem aRj{p:PV}{n:Int}{d:Nat}(h:tJ p=some (n,d))(f:d≠0):Ji n d=aR (fr n d).q:=by
 obtain⟨g,b,c⟩:=PU h;obtain⟨e1,e2⟩:=PO f g;rw[Ji,aR,e1,e2,aRk b,DE c];rcases a:ix d 1 with _|_
 ·rw[cond_false,if_neg (fun e=>by rw[e]at a;cases a)]
 ·rw[cond_true,if_pos (h6 a)]
def tH:List Nat->Nat->Bool
 |[],_=>true
 |c::r,f=>match f with
  |0=>false
  |f+1=>bif j7 c 256 then tH r f else false
theorem Az:∀{s:List Nat}{f:Nat},tH s f=true->s.length<=f/\∀c∈s,c<256
 |[],_,_=>⟨i9 _,fun c hc=>by cases hc⟩
 |c::r,0,h=>by simp[tH]at h
 |c::r,f+1,h=>by
  simp only[tH,dl]at h
  split at h
  ·rename_i hc;obtain⟨b,a⟩:=Az h;refine⟨by simp;omega,fun x hx=>?_⟩;rcases hj.1 hx with rfl|hx
   ·exact Ea hc
   ·exact a x hx
  ·cases h
def Uq(z:Int):Bool:=match z with
 | .ofNat n=>ix n 0
 |_=>false
theorem aOF{z:Int}(h:Uq z=true):z=0:=by
 cases z with
 |ofNat n=>rw[h6 (show ix n 0=true from h)];rfl
 |negSucc n=>cases h
def IA(n:Int)(d:Nat):Option PV:=bif ix d 0 then none else qo n d
theorem aGf{n:Int}{d:Nat}{p:PV}(h:IA n d=some p)(m:Bool):p=eF ⟨l1 n d,m⟩:=by
 unfold IA at h;rcases a:ix d 0 with _|_
 ·rw[a]at h;exact sV (fun e=>by rw[e]at a;cases a) h m
 ·rw[a]at h;cases h
def IB(s:List Nat):Option PV:=bif Uq (cz s)&&tH s 1000 then
 Ee (if cr s=true then -(bm (bQ s):Int)else bm (bQ s)) fun n=>tL (if fE s=true then bm (b6 s)else 1) fun d=>IA n d else none
theorem aGg{s:List Nat}{p:PV}(h:IB s=some p):p=eF ⟨aS s,false⟩/\cz s=0/\s.length<=1048576:=by
 unfold IB at h;simp only[dl,Rh,Ap]at h
 split at h
 case isFalse=>cases h
 rename_i hc;rw[dg]at hc;obtain⟨c1,c2⟩:=hc;obtain⟨a,b⟩:=Az c2;refine⟨?_,aOF c1,o_⟩;rw[aS];exact aGf h false
def T8:Int->Bool
 | .ofNat n=>j7 n mN
 | .negSucc n=>j7 n mN
theorem aGV{z:Int}(h:T8 z=true):-9223372036854775808<=z/\z<=9223372036854775807:=by
 cases z with
 |ofNat n=>have:n<9223372036854775808:=Ea h;refine⟨?_,?_⟩<;>show _<=_<;>simp only[Int.ofNat_eq_natCast]<;>omega
 |negSucc n=>have:n<9223372036854775808:=Ea h;omega
def I5(f:Nat)(a:PV):Option PV:=match a with
 | .int .i64 z=>bif ix f 130&&T8 z then qo z 1 else none
 | .str s=>bif ix f 140 then IB s else bif ix f 284&&tH s 1000 then some (.int .i64 (cz s))else none
 | .st u [.str x,.str y]=>bif ix f 106&&(ix u 31&&(tH x 1000&&tH y 1000))then some (.int .i64 (eB ⟨x,y⟩))else none
 | .st u [c,e]=>match tJ (.st u [c,e])with
  |some (n,d)=>bif ix f 150 then qo (-n) d else
   bif ix f 188 then some (.int .i64 (EA n))else
   bif ix f 149 then Ep 1 1 n d else
   bif ix f 162 then some (.str (Ji n d))else
   bif ix f 129 then some (.bool false)else none
  |none=>none
 |_=>none
def yN(f:Nat)(a b:PV):Option PV:=
 bif ix f 193 then two Uy a b else
 bif ix f 194 then two UA a b else
 bif ix f 195 then two Uz a b else
 bif ix f 131 then two Ep a b else
 bif ix f 120 then two I1 a b else none
def hk(f:Nat):List PV->Option PV
 |[a]=>I5 f a
 |[a,b]=>yN f a b
 |_=>none
theorem TP(z:Int):l1 z ((1:Nat):Int)=(z:Rat):=by
 rw[show((1:Nat):Int)=1 from rfl,Rat.divInt_eq_div];rw[show((1:Int):Rat)=1 from rfl,l4,show(1:Rat)⁻¹=1 from by decide+kernel,Rat.mul_one]
theorem bq{a b:Nat}(h:ix a b=true):a=b:=h6 h
theorem aPs{f:Nat}{a v:PV}(h:I5 f a=some v):aq prog f [a] v:=by
 unfold I5 at h
 split at h
 ·rename_i z;simp only[dl]at h
  split at h
  ·rename_i hc;rw[dg]at hc;obtain⟨r1,t⟩:=aGV hc.2;rw[bq hc.1,sV d_ h true];have:=lL z r1 t;rw[NF.int]at this;rw[TP];exact this
  ·cases h
 ·rename_i s;simp only[dl]at h
  split at h
  ·rename_i hf;obtain⟨e1,e2,e3⟩:=aGg h;rw[bq hf,e1];exact lZ s e2 e3
  ·split at h
   ·rename_i hc;rw[dg]at hc;obtain⟨j,b⟩:=Az hc.2;simp only[lz]at h;subst h;rw[bq hc.1];exact DJ s o_ b
   ·cases h
 ·rename_i u x y;simp only[dl]at h
  split at h
  ·rename_i hc;simp only[dg]at hc;obtain⟨c1,c2,c3,c4⟩:=hc;obtain⟨j,b⟩:=Az c3;obtain⟨w,o⟩:=Az c4;simp only[lz]at h;subst h;rw[bq c1,bq c2];exact B8 ⟨x,y⟩ ⟨⟨by show x.length<=_;omega,b⟩,⟨by show y.length<=_;omega,o⟩⟩
  ·cases h
 ·rename_i u c e _
  split at h
  case h_2=>cases h
  rename_i n d l;obtain⟨r,g,i⟩:=Hg l;rw[r];simp only[dl]at h
  split at h
  ·rename_i hf;rw[bq hf,sV g h false,<-mp];exact ph _ i
  split at h
  ·rename_i hf;simp only[lz]at h;subst h;rw[bq hf,<-Gs n g];exact nH _
  split at h
  ·rename_i hf;obtain⟨e1,e2⟩:=SJ d_ g h;have e3:(fr 1 1).div (fr n d)=(fr n d).inv:=by
    rw[NF.div,NF.inv,fr,fr];dsimp only;rw[TP,l4];rw[show((1:Int):Rat)=1 from rfl,Rat.one_mul]
   rw[bq hf,e1,e3];exact yc _ i e2
  split at h
  ·rename_i hf;simp only[lz]at h;subst h;rw[bq hf,aRj l g];exact C2 _ i
  split at h
  ·rename_i hf;simp only[lz]at h;subst h;rw[bq hf];have m:=C9 _ i;obtain⟨p,j,b⟩:=PU l;obtain⟨e1,e2⟩:=PO g p;have hn:∀k,k<10^80->mS k=false:=fun k hk=>by
    rw[mS,decide_eq_false_iff_not];have A:nd k<=80:=Nat.not_lt.1 fun q=>by have:=(rG _ _).1 q;omega
    rw[uT];omega
   rw[pD,e1,e2,hn _ j,hn _ b]at m;exact m
  ·cases h
 ·cases h
theorem aRc{f:Nat}{a b v:PV}(h:yN f a b=some v):aq prog f [a,b] v:=by
 unfold yN at h;simp only[dl]at h
 split at h
 ·rename_i hf;obtain⟨n,d,m,e,rfl,rfl,c,g,j,k,i⟩:=Au h;rw[bq hf,aEx c g i];exact rJ _ _ j k
 split at h
 ·rename_i hf;obtain⟨n,d,m,e,rfl,rfl,c,g,j,k,i⟩:=Au h;rw[bq hf,aEB c g i];exact nG _ _ j k
 split at h
 ·rename_i hf;obtain⟨n,d,m,e,rfl,rfl,c,g,j,k,i⟩:=Au h;rw[bq hf,aEz c g i];exact fU _ _ j k
 split at h
 ·rename_i hf;obtain⟨n,d,m,e,rfl,rfl,c,g,j,k,i⟩:=Au h;obtain⟨e1,e2⟩:=SJ c g i;rw[bq hf,e1];exact vT _ _ j k e2
 split at h
 ·rename_i hf;obtain⟨n,d,m,e,rfl,rfl,c,g,j,k,i⟩:=Au h;rw[bq hf,aEy c g i];exact tC _ _ j k
 ·cases h
theorem aGR{f:Nat}{vs:List PV}{v:PV}(h:hk f vs=some v):aq prog f vs v:=by
 unfold hk at h
 split at h
 ·exact aPs h
 ·exact aRc h
 ·cases h
end Hk
theorem Jr{n:Nat}(h:n<10^80):aR ((n:Nat):Rat)=Hk.yO n:=by
 rw[Hk.DE h,aR,if_pos (by rfl),bZ,if_neg (by show¬((n:Int)<0);omega)];rfl
theorem Va:aR 2=[50]:=Jr (n:=2) d_
def dY(s t:S3):Int:=jJ (bR ⟨s.a-t.a,s.b,s.d⟩) (-(bP t.b*bP t.d)) (bR ⟨(s.a-t.a)*(s.a-t.a)+s.b*s.b*s.d-t.b*t.b*t.d,2*((s.a-t.a)*s.b),s.d⟩)
def yF(s:S3):Prop:=aJ 1300 s.a/\aJ 1300 s.b/\aJ 1300 s.d
theorem Bm{a:Int}(h:a= -1\/a=0\/a=1):-a= -1\/-a=0\/-a=1:=o_
theorem qJ:aJ 2 (2:Rat):=⟨d_,d_⟩
theorem Fj(s t:S3)(hs:gV 1800 s)(e:gV 1800 t)(f:aJ 2601 (s.a-t.a)):aq prog 82 [eS s,eS t] (.int .i64 (dY s t)):=by
 have p:=lY s.a t.a (hs.1.mono d_) (e.1.mono d_);have l:=BN ⟨s.a-t.a,s.b,s.d⟩ (f.mono d_) (hs.2.1.mono d_) (hs.2.2.mono d_) ((bh (bh hs.2.1 hs.2.1) hs.2.2).mono d_);have q:=nE t.b (e.2.1.mono d_);have r:=nE t.d (e.2.2.mono d_);have k1:=ft (s.a-t.a) (s.a-t.a) (f.mono d_) (f.mono d_);have k2:=ft s.b s.b (hs.2.1.mono d_) (hs.2.1.mono d_);have k3:=ft (s.b*s.b) s.d ((bh hs.2.1 hs.2.1).mono d_) (hs.2.2.mono d_);have i:=ku (bh f f) (bh (bh hs.2.1 hs.2.1) hs.2.2);have k4:=tF ((s.a-t.a)*(s.a-t.a)) (s.b*s.b*s.d) ((bh f f).mono d_) ((bh (bh hs.2.1 hs.2.1) hs.2.2).mono d_);have g:=bh f hs.2.1;have k5:=ft (s.a-t.a) s.b (f.mono d_) (hs.2.1.mono d_);have k6:=ft 2 ((s.a-t.a)*s.b) (qJ.mono d_) (g.mono d_);rw[Va]at k6;have k7:=ft t.b t.b (e.2.1.mono d_) (e.2.1.mono d_);have k8:=ft (t.b*t.b) t.d ((bh e.2.1 e.2.1).mono d_) (e.2.2.mono d_);have j:=bh (bh e.2.1 e.2.1) e.2.2;have k9:=lY ((s.a-t.a)*(s.a-t.a)+s.b*s.b*s.d) (t.b*t.b*t.d) (i.mono d_) (j.mono d_);have nK:=BN ⟨(s.a-t.a)*(s.a-t.a)+s.b*s.b*s.d-t.b*t.b*t.d,2*((s.a-t.a)*s.b),s.d⟩ ((fK i j).mono d_) ((bh qJ g).mono d_) (hs.2.2.mono d_) ((bh (bh (bh qJ g) (bh qJ g)) hs.2.2).mono d_);have k:=yp ⟨s.a-t.a,s.b,s.d⟩;have h:=l8 (l6 t.b) (l6 t.d);have n:=yp ⟨(s.a-t.a)*(s.a-t.a)+s.b*s.b*s.d-t.b*t.b*t.d,2*((s.a-t.a)*s.b),s.d⟩;have w1:=l7 h;refine gA_ nf func82 mix ?_;rw[dY];generalize bR ⟨(s.a-t.a)*(s.a-t.a)+s.b*s.b*s.d-t.b*t.b*t.d,2*((s.a-t.a)*s.b),s.d⟩=o,bR ⟨s.a-t.a,s.b,s.d⟩=x,bP t.b=y1,bP t.d=y2 at*;rw[ky]at l nK;clear i g j f;have v:=l7 (Bm h);have m:=l7 (l8 k (Bm h));have w:=l7 (l8 k n);have u:dz.wrap 0=0:=d_
 simp[f82,aa,-aX];rw[aX];simp[-aX,aa];rw[aX];simp[-aX,aa];refine e2 p ?_;simp[aa,-aX];refine⟨r_,?_⟩;rw[aX];simp[aa,-aX];refine e1 l ?_;simp[aa,-aX];refine e1 q ?_;simp[aa,-aX];refine e1 r ?_;simp[aa,w1,v];generalize -(y1*y2)=y at*;rw[jJ]
 by_cases c:0<=x*y
 ·rw[if_pos c]
  by_cases c2:x=0
  ·subst c2;simp[u,aa]
  ·rw[if_neg c2];simp[c,c2,m,aa]
 ·rw[if_neg c];simp+decide (maxDischargeDepth:=99) [c,m,aa,w,e2 k1,e2 k2,e2 k3,e2 k4,e2 k5,e2 k6,e2 k7,e2 k8,e2 k9,c1 nK]
theorem EJ(s t:S3)(hs:yF s)(a:yF t):aq prog 82 [eS s,eS t] (.int .i64 (dY s t)):=
 Fj s t ⟨hs.1.mono d_,hs.2.1.mono d_,hs.2.2.mono d_⟩ ⟨a.1.mono d_,a.2.1.mono d_,a.2.2.mono d_⟩ (fK hs.1 a.1)
end Go.ag
