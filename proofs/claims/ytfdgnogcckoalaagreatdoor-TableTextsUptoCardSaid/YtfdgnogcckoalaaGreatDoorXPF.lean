import Derived.Test.YtfdgnogcckoalaaGreatDoorXPE
import Derived.Lib.Builder
import Derived.WalkKit
import Derived.Laws.Externs
import Derived.Shelf.RegionOpenPlain
import Derived.Test.YtfdgnogcckoalaaGreatDoorXThC
import Derived.Lib.AtoiAll
/- Parts of a proof. -/
set_option maxRecDepth 100000
set_option maxHeartbeats 4000000
set_option linter.unusedSimpArgs false
set_option linter.unusedVariables false
set_option linter.unusedSectionVars false
open Go.Proofs.Tryz
open Bool renaming and_eq_true->dk, cond_eq_ite->dl, false_eq_true->dp, or_eq_true->dq
open Go renaming FuncId->dz, World->ea
open Go.IntKind renaming i64->eb
open Go.Oper renaming upon_value->ec
open Int renaming natAbs_natCast->ed, tmod_eq_emod_of_nonneg->ee, natCast_nonneg->ei, tdiv_eq_ediv_of_nonneg->ej, ofNat_natAbs_of_nonpos->en, natCast_emod->eo, natCast_mul->eq, natCast_ediv->et, natAbs_of_nonneg->ew, natAbs_mul->ez, mul_ediv_cancel_left->e6, ofNat_dvd_left->e7, le_of_lt->e8, natAbs_neg->e9, mul_nonneg->fb, mul_neg_of_pos_of_neg->fd, negSucc->fl, natCast_one->fm, natCast_add->fv, sub_self->fZ, lt_or_le->gb, ediv_one->gc, neg_neg->ge, neg_mul->gg, mul_neg->gi
open List renaming getElem?_eq_getElem->gj, take_of_length_le->gl, length_pos_iff->gm, range->gt, replicate->gx, all_eq_true->gy, map_cons->g0, length_take->g3, getElem_mem->g4, length_singleton->g5, take->g6, take_succ_eq_append_getElem->g7, length_append->g8, drop_eq_getElem_cons->g9, map_take->ha, getElem_range->hb, take_append_drop->hd, getElem_map->hg, getElem?_map->hn, length_drop->ho, ext_getElem->hp, mem_map->ht, append_nil->hu, getElem?_range->hv, mem_cons->hw, map_nil->hz, reverse_nil->hA, length->hB, range_succ->hC, length_map->hD, foldl_cons->hE, take_take->hF, getD_eq_getElem?_getD->hG, all_cons->hH, map_map->hK, dropWhile_sublist->hL, map->hM, map_congr_left->hN, getElem_of_mem->hO, flatten_append->hP, dropWhile_cons->hQ, mem_singleton->hR, getElem_of_eq->hS, foldl_append->hT, take_length->hU, length_cons->hV, getElem_set->hW, flatten_nil->hX, nil_append->hZ, mem_append->h2, map_append->h3, range_one->h4, mem_range->h5, drop->h6
open Nat renaming pow_le_pow_right->h7, lt_of_lt_of_le->h8, mul_comm->h9, le_trans->ih, lt_of_le_of_lt->ii, eq_of_beq_eq_true->ik, mul_le_mul_right->ip, pow_succ->ix, div_lt_iff_lt_mul->iz, mod_eq_of_lt->i0, lt_or_ge->i1, div_div_eq_div_mul->i2, beq->i3, le_refl->i4, div_add_mod->i5, pow_pos->i6, mod_lt->i7, mul_assoc->i8, lt_trans->i9, div_eq_of_lt->jp, pow_zero->js, gcd->j1, add_mul->j2, add_sub_cancel->j3, pow_add->j4, div_one->j5, zero_le->j6, one_mul->j7, mul_add->j8, mul_lt_mul''->j9, add_comm->kc, gcd_pos_of_pos_right->kd, mul_ne_zero->kh, div_le_self->kk, div_pos->km, blt->ko, div_mul_le_self->kp, mul_lt_mul_of_pos_right->kt, mul_le_mul->kv, blt_eq->kw, add_mul_mod_self_left->kz, pow_one->la, pow_mul->lb, le_mul_of_pos_right->lc, gcd_le_right->le, gcd_dvd_left->li, add_sub_cancel_left->lk, pow_le_pow_left->ll, mul_le_mul_left->lm, mul_right_comm->ln, mod_mod_of_dvd->lq, gcd_comm->ls, lt_of_not_le->lt, mul_one->lu, pow_dvd_pow->lv, min_eq_left->lw, div_lt_self->lz, sub_le->l0, add_mul_mod_self_right->l1, add_assoc->l2, le_of_lt->l3, le_mul_of_pos_left->l4, le_div_iff_mul_le->l5, add_le_add_right->md, div_eq_of_lt_le->mm, gcd_zero_right->mo, eq_zero_or_pos->mp, mul_zero->ms, sub_mul->mx, mul_pos->m0, mod_one->m1, gcd_rec->m2, mod_le->m3
open Option.some renaming injEq->m4, inj->m5
open Rat renaming divInt->m6, sub_add_cancel->m7, divInt_mul_divInt->m8, zero_add->m9, div_def->na, divInt_add_divInt->nb, add_lt_add_right->nc, neg_divInt_neg->nk, neg_divInt->nl, inv_divInt->nn, sub_self->np, neg_num->ns, not_le->nz
open UInt8 renaming ofNat->n0
namespace Go.Proofs
open Go.aw
theorem Tryz.Aa:prog.underlying 115=some (.pointer 118):=k_
theorem Tryz.FQ:prog.underlying 282=some .unsafePointer:=k_
theorem Tryz.Fe:(prog.info? 118).map (·.size)=some 2:=k_
theorem Tryz.az4:liesAt prog prog.depth 118 (2/prog.cellsOf 118) 0 118 1=true:=k_
set_option maxHeartbeats 1000000 in
set_option maxRecDepth 100000 in
theorem Tryz.Rr(b:Nat)(w:ea)(h0:w.cell? ⟨b,0,none⟩=some (.pointer (some ⟨b,0,none⟩))):
 Calls prog 138 #[.pointer (some ⟨b,0,none⟩)] w fun e w'=>e=.returned (.tuple #[])/\w'=w:=by
 obtain⟨j,hj,_⟩:=Option.map_eq_some_iff.1 Fe
 go_enter func138,ntmps138
 go_wp2
 rw[Lib.run_neq_ptr_same w _ Aa hj]
 go_wp2
 go_end0
 exact⟨rfl,rfl⟩
set_option maxHeartbeats 1000000 in
set_option maxRecDepth 100000 in
theorem Tryz.Rs(b:Nat)(w:ea)(h0:w.cell? ⟨b,0,none⟩=some (.pointer none))(hsh:w.shape? b=some (118,2))(hfz:w.frozen? ⟨b,0,none⟩=false):
 Calls prog 138 #[.pointer (some ⟨b,0,none⟩)] w fun e w'=>e=.returned (.tuple #[])/\w'=w.setCell ⟨b,0,none⟩ (.pointer (some ⟨b,0,none⟩)):=by
 obtain⟨j,hj,hjs⟩:=Option.map_eq_some_iff.1 Fe
 go_enter func138,ntmps138
 go_wp2
 rw[Lib.run_to_unsafe w ⟨b,0,none⟩ Aa FQ hj (by rw[hjs];decide) hsh (Nat.zero_lt_succ 1)];simp only[Result.andThen];rw[ec]
 go_wp2
 rw[run_callFunc_extern func220 k_ k_ k_ (e:=Extern.AbiNoEscape.same) k_];rw[Lib.run_noEscape];simp only[Result.andThen];rw[ec]
 go_wp2
 rw[Lib.run_from_unsafe w ⟨b,0,none⟩ FQ Aa hj hsh az4];simp only[Result.andThen];rw[ec]
 go_wp2
 go_end0
 exact⟨rfl,rfl⟩
end Go.Proofs
namespace Go.aw
open Go.Proofs
set_option linter.unusedSectionVars false
theorem z8:dF prog 117=some [1,1]:=k_
section
variable{w:ea}{aa ag:Nat->Prop}{β:Bd}{H:Heap}
theorem Sf{ak:Nat}{c0 c1 v:Value}{T:TypeId}(h:w.heap[ak]?=some (.cells #[c0,c1] T (0,0))):w.setCell ⟨ak,0,none⟩ v=w.setRow ak #[v,c1]:=by
 obtain⟨d,a⟩:=Array.getElem?_eq_some_iff.1 h;unfold World.setCell World.setRow;congr 1;apply Array.ext
 ·simp
 ·intro i b c;simp only[Array.getElem_modify]
  by_cases hi:ak=i
  ·subst hi;simp[a]
  ·simp[hi]
theorem RD{t x:AV}{cs:Array Value}(g:t=gV 117 [.p .dE,x]\/t=.st 117 [.p .dE,x])(h:bg prog w aa β H t cs.toList):∃y,cs=#[.pointer none,y]/\bg prog w aa β H x [y]:=by
 have a:bg prog w aa β H (.st 117 [.p .dE,x]) cs.toList:=by
  rcases g with rfl|rfl
  ·exact Kz.1 h
  ·exact h
 simp only[bg,z8,m4]at a;obtain⟨l,k,rfl,b,d⟩:=a;simp only[bG,bg,aV]at b;obtain⟨c,i,rfl,rfl,_,c2,j,rfl,e,f,rfl⟩:=b
 match c2,f with
 |[y],_=>exact⟨y,Array.ext' (by simpa using d),e⟩
theorem Rw{b:Nat}{x:AV}{cs:Array Value}(h:bg prog w aa β H (.st 117 [.ptr b [],x]) cs.toList):∃v y,cs=#[v,y]/\bH prog β H (.ptr b []) v:=by
 simp only[bg,z8,m4]at h;obtain⟨l,j,rfl,a,d⟩:=h;simp only[bG,bg]at a;obtain⟨c,g,rfl,⟨v,rfl,f⟩,_,c2,i,rfl,k,e,rfl⟩:=a
 match c2,e with
 |[y],_=>exact⟨v,y,Array.ext' (by simpa using d),f⟩
end
theorem Df{H:Heap}{b:Nat}{t x:AV}(d:H[b]?=some (.box false t))(g:t=gV 117 [.p .dE,x]\/t= .st 117 [.p .dE,x]):
 cm prog 138 H [.ptr b []] (H.set b (.box false (.st 117 [.ptr b [],x]))) (.p (.aE [])):=by
 refine⟨gN func138 k_,fun w aa ag β I f i J=>?_⟩;simp only[bh,ar]at i;obtain⟨v,vs,rfl,⟨_,G,K,L,rfl,j,A⟩,rfl⟩:=i;simp only[gd,m4]at j;subst j;obtain⟨rfl,rfl⟩:=A (.inl ⟨false,t,d⟩);obtain⟨cs,T,k1,k2,k3,_,k5⟩:=f.cJ b _ d;have E:ad t=.agg 117:=by
  rcases g with rfl|rfl
  ·exact Bf _ _
  ·rfl
 have o:T=118:=by
  rw[E]at k5;exact dv (by simpa[jn,Gl.bx,Oe]using k5)
 subst o;obtain⟨y,rfl,F⟩:=RD g k2;have n:¬aa (β.ak b)/\¬ag (β.ak b):=by simpa[cw]using k3
 refine(Rs (β.ak b) w (by simp[World.cell?,k1]) (by simp[World.shape?,k1]) (by simp[World.frozen?,k1])).mono ?_;rintro e w' ⟨rfl,rfl⟩;rw[Sf k1];have aJ:cg β H β (H.set b (.box false (.st 117 [.ptr b [],x]))):=oH d (.inl ⟨_,_,_,_,rfl,rfl⟩);have aj:∀z,aH H z->aH (H.set b (.box false (.st 117 [.ptr b [],x]))) z:=lI d (fun _ h=>h);have q:b<H.length:=(List.getElem?_eq_some_iff.1 d).1;have s:(H.set b (.box false (.st 117 [.ptr b [],x])))[b]?=some (.box false (.st 117 [.ptr b [],x])):=List.getElem?_set_self q;have m:aB (aH H) x:=by
  have:=f.refs b _ d;rcases g with rfl|rfl
  ·simp only[Obj.refs]at this;unfold gV at this
   split at this
   ·rename_i l hl;have hl:=lG hl
    match l,hl with
    |[a,c],hl=>simp at hl;rw[hl.2];simp[aB]
    |[],hl=>simp at hl
    |[_],hl=>simp at hl
    |_::_::_::_,hl=>simp at hl
   ·simp only[aB,aR]at this;exact this.2.1
  ·simp only[Obj.refs,aB,aR]at this;exact this.2.1
 have D:∀k,aa k->(w.setRow (β.ak b) #[.pointer (some ⟨β.ak b,0,none⟩),y]).heap[k]?=w.heap[k]?:=fun k u=>setRow_other w _ k _ (fun r=>n.1 (r▸u));have C:Obj.refs (aH (H.set b (.box false (.st 117 [.ptr b [],x])))) (.box false (.st 117 [.ptr b [],x])):=by
  simp only[Obj.refs,aB,aR,and_true];exact⟨⟨_,s,trivial⟩,aB.mono aj _ m⟩
 have B:=pI f d trivial (o':=.box false (.st 117 [.ptr b [],x])) trivial (fun _ h=>h) k1 (new:=#[.pointer (some ⟨β.ak b,0,none⟩),y]) n aJ
  ⟨_,118,setRow_heap w _ _ _ 118 _ k1,by
   simp only[bg,z8,m4];refine⟨_,[[.pointer (some ⟨β.ak b,0,none⟩)],[y]],rfl,?_,rfl⟩;simp only[bG,bg];exact⟨_,_,rfl,⟨_,rfl,⟨rfl,_,_,0,rfl,rfl,fun _=>⟨rfl,rfl⟩⟩⟩,rfl,_,_,rfl,bg.mono (fun _ x=>x) D aJ _ _ m F,rfl,rfl⟩,k3,s_,by simp[ad,jn,Gl.bx]⟩ C
 exact⟨_,β,aa,rfl,B,by simp[ar,aA,bf],by simp[aB]⟩
theorem Oa{H:Heap}{b:Nat}{x:AV}(c:H[b]?=some (.box false (.st 117 [.ptr b [],x]))):cm prog 138 H [.ptr b []] H (.p (.aE [])):=by
 refine⟨gN func138 k_,fun w aa ag β l g f m=>?_⟩;simp only[bh,ar]at f;obtain⟨v,vs,rfl,⟨_,j,n,i,rfl,a,d⟩,rfl⟩:=f;simp only[gd,m4]at a;subst a;obtain⟨rfl,rfl⟩:=d (.inl ⟨false,_,c⟩);obtain⟨cs,T,k1,k2,k3,_,k5⟩:=g.cJ b _ c;obtain⟨v,y,rfl,h⟩:=Rw k2;simp only[bH,bP]at h;obtain⟨_,k,o,i,rfl,a,d⟩:=h;simp only[gd,m4]at a;subst a;obtain⟨rfl,rfl⟩:=d (.inl ⟨false,_,c⟩);refine(Rr (β.ak b) w (by simp[World.cell?,k1])).mono ?_;rintro e w' ⟨rfl,rfl⟩;exact⟨_,β,aa,rfl,bV.refl g,by simp[ar,aA,bf],by simp[aB]⟩
end Go.aw
namespace Go.aw
open Go.Proofs
@[simp] theorem gu8:(Gl.u8:TypeId)=5:=(rfl)
def bU(t:List Nat):List AV:=t.map fun(c:Nat)=>AV.p (.int .u8 (c:Int))
theorem uL(t:List Nat):(bU t).length=t.length:=by simp[bU]
theorem aEG(a t:List Nat):bU (a++t)=bU a++bU t:=by simp[bU]
theorem BZ:∀t:List Nat,fc prog 1 (bU t)
 |[]=>by simp[bU,fc]
 |c::t=>by
  have:=BZ t;simp only[bU,g0]at this⊢;simp[fc];exact this
theorem Ic:∀(t:List Nat),(∀c∈t,c<256)->bytesOf (bU t)=some t
 |[],_=>rfl
 |c::t,a=>by
  have b:=a c s_;have:=Ic t fun c hc=>a c (by simp[hc]);show bytesOf (.p (.int .u8 (c:Int))::bU t)=some (c::t);rw[bytesOf,if_pos ⟨o_,o_⟩,this];simp
theorem Dg(t:List Nat)(a:t≠[])(h:t.length<=1048576):cm prog 52 [.box false (.p (.st 117 [.dE,.aK]))] [.ptr 0 [],.p (.str t)]
 [.box false (.st 117 [.ptr 0 [],.sl 1 0 1 0 t.length]),.arr .bytes 0 1 (bU t)] (.p (.aE [.int .i64 t.length,.fP])):=by
 refine fU nf (i_ func52) mix (by simp[f52]) ?_;simp[f52];refine ci (Df (b:=0) (t:=.p (.st 117 [.dE,.aK])) (x:=.p .aK) rfl (.inl rfl)) ?_;simp;refine⟨⟨BZ t,by simp only[cF];omega⟩,?_⟩;simp[a,bU]
theorem tZ(a t:List Nat)(v n:Nat)(f:n=a.length)(c:t≠[])(h:t.length<=1048576)(e:a.length<=1048576):cm prog 52 [.box false (.st 117 [.ptr 0 [],.sl 1 v 1 0 n]),.arr .bytes v 1 (bU a)] [.ptr 0 [],.p (.str t)]
 [.box false (.st 117 [.ptr 0 [],.sl 1 (v+1) 1 0 (n+t.length)]),.arr .bytes (v+1) 1 (bU (a++t))] (.p (.aE [.int .i64 t.length,.fP])):=by
 refine fU nf (i_ func52) mix (by simp[f52]) ?_;simp[f52];refine ci (Oa (b:=0) (x:=.sl 1 v 1 0 n) rfl) ?_;simp;refine⟨⟨BZ t,by rw[uL];omega,by rw[uL];simp only[cF];omega⟩,?_⟩;have d:g6 n (bU a)=bU a:=gl (by rw[uL];omega);simp[c,d,aEG];exact .inl rfl
theorem Oc(a:List Nat)(v n:Nat)(b:n=a.length)(d:a≠[])(g:a.length<=1048576)(e:∀c∈a,c<256):cm prog 142 [.box false (.st 117 [.ptr 0 [],.sl 1 v 1 0 n]),.arr .bytes v 1 (bU a)] [.ptr 0 []]
 [.box false (.st 117 [.ptr 0 [],.sl 1 v 1 0 n]),.dead] (.p (.str a)):=by
 refine fU nf (i_ func142) mix (by simp[f142]) ?_;have f:0<a.length:=gm.2 d;simp[f142];refine X5 (an:=v) (es:=bU a) rfl rfl (by rw[b];exact f) (by simp[bU,b]) ?_;simp;refine X7 (an:=v) (es:=bU a) (l:=a) rfl rfl rfl o_ (by simp[uL,b]) o_ rfl ?_ ?_ ?_ ?_
 ·kernel_rfl
 ·kernel_rfl
 ·rw[gl (by rw[uL];simp[b])];exact Ic a e
 simp
 repeat' with_reducible refine And.intro ?_ ?_
 all_goals rfl
theorem kq{σ:Nat->Nat}:∀{a b:List AV},cM σ (a++b)=cM σ a++cM σ b
 |[],b=>by simp[cM]
 |x::a,b=>by simp[cM,kq (a:=a)]
theorem yG:aq wB tB=[tB]:=sJ (by decide) (by decide)
theorem Vr(a:NI)(hs:a.sm=true):az prog 239 [eI a] (.str (bL a.v)):=by
 refine aP nf (i_ func239) mix (by simp[f239]) ?_;have r1:=NI.oU hs;simp[f239,ad,lP hs,mz hs,dA,cV];refine c1 (pF a.v r1.1 r1.2) ?_;simp
theorem Lr{m k A L:Nat}(e:0<m)(h:m*tB^k<=A)(a:A<wB^L):k<64*L:=by
 have b:2^k<=tB^k:=ll (by decide) k;have c:tB^k<=m*tB^k:=l4 _ e;rw[show wB=2^64 from rfl,<-lb]at a;have d:2^k<2^(64*L):=ii (ih b (ih c h)) a
 rwa [Nat.pow_lt_pow_iff_right (by decide)]at d
theorem Vq(a:NI)(hs:a.sm=false)(hl:okW a.v)(aw:(bd a.v.natAbs).length<=1000000):az prog 239 [eI a] (.str (bL a.v)):=by
 have N:=nw (eI a) a.v (lS a);have aI:=NI.yw (a:=a) (by rw[hs];decide);have ai:=h8 (ch ba a.v.natAbs) (h7 (show 0<wB by decide) (nu hl));obtain⟨c,cs,G⟩:=nL hs;refine aP nf (i_ func239) mix (by simp[f239]) ?_;simp[f239,ad,G,dA,cV];refine c1 N ?_;simp;refine ri (fun s'=>∃b:List (List Nat),jI 0 b=jI a.v.natAbs []/\(∀p∈b,p≠[]/\p.length<=18)/\b≠[]/\b.length<=57600000/\aO s'.env 3=.p (.bool (decide (a.v<0)))/\aO s'.env 6=.sl 2 b.length 1 0 b.length/\∃o,s'.heap=[.hole,o,.arr .grow b.length 1 (b.map fun p=>.p (.str p))]) ?_ ?_
 ·refine lp (α:=Nat×List (List Nat)×Bool) (fun x=>⟨[(6,.sl 2 x.2.1.length 1 0 x.2.1.length),(5,.sl 1 0 1 0 1),(4,.p (eN x.1)),(3,.p (.bool (decide (a.v<0))))],[.hole,.arr (if x.2.2=true then .frozen else .exact) 0 1 [.p (.int .u64 1000000000000000000)],.arr .grow x.2.1.length 1 (x.2.1.map fun p=>.p (.str p))]⟩)
   (fun x=>x.1<=a.v.natAbs/\jI x.1 x.2.1=jI a.v.natAbs []/\(∀p∈x.2.1,p≠[]/\p.length<=18)/\x.2.1.length<=57600000/\x.1*tB^x.2.1.length<=a.v.natAbs) (fun x=>x.1) (a.v.natAbs,[],false) ⟨i4 _,rfl,s_,s_,s_⟩ ?_
  rintro⟨m,b,f⟩ ⟨k1,k2,k3,k5,k4⟩;dsimp only at k1 k2 k3 k5 k4;rcases f with _|_
  ·simp only[dp,if_false];have ax:(aq wB m).length<=900000:=by
    have:=dJ ba _ _ (ii k1 (ch ba a.v.natAbs));have:=nu hl;omega
   by_cases hm:m=0
   ·subst hm;have aa:b≠[]:=by
     rintro rfl;rw[jI,jI,if_pos rfl,if_neg o_]at k2;have:=xW a.v.natAbs;rw[hA,hX,hu,hu]at k2;rw[<-k2]at this;simp at this
    simp[eN,kZ];refine⟨b,k2,k3,aa,k5,?_⟩;simp
   ·have d:=BC m tB (by decide) o_ (by rw[yG];decide);have Z:aq wB m≠[]:=mt rU.1 hm;have C:0<(aq wB m).length:=gm.2 Z;have aJ:=Jt hm b;have B:∀p∈b++[er m],p≠[]/\p.length<=18:=by
     intro p N;rcases h2.1 N with h|h
     ·exact k3 p h
     ·rw[hR.1 h];exact⟨Iv m,Iw m⟩
    have A:m/tB<m:=lz o_ (by decide);have aA:=Lr (show 0<m by omega) k4 ai;have w:m/tB*tB^(b++[er m]).length<=a.v.natAbs:=by
     rw[g8,g5,ix,h9 (tB^b.length),<-i8];exact ih (ip _ (kp _ _)) k4
    have y:(b++[er m]).length<=57600000:=by rw[g8,g5];omega
    have r:m% tB<tB:=i7 _ (by decide);have Q:m/tB=0->m% tB=m:=fun h=>by have:=i5 m tB;rw[h]at this;omega
    simp only[eN]at d⊢;rw[yG]at d;have P:=rU (n:=m/tB);have L:=NL (m% tB) (i9 r (by decide));have q:=NO [48] (18-(bd (m% tB)).length) o_ (by simp;omega);have aB:=Ce r;have ab:=Pf r;rw[Bs]at q;have l:er m=if m/tB=0 then bd (m% tB)else gx (18-(bd (m% tB)).length) 48++bd (m% tB):=by
     rw[er,ab];split
     ·rename_i h;rw[Q h]
     ·rfl
    have s:eb.wrap (18-((bd (m% tB)).length:Int))=(18-(bd (m% tB)).length:Nat):=by rw[aN _ o_ o_];omega
    have aE:((18-(bd (m% tB)).length:Nat):Int)=18-((bd (m% tB)).length:Int):=o_
    have u:∀t,t=er m->(b.map fun p=>AV.p (.str p))++[AV.p (.str t)]=(b++[er m]).map fun p=>AV.p (.str p):=fun t e=>by rw[e];simp
    by_cases F:m% tB=0
    ·have j:¬m/tB=0:=fun h=>hm (by rw[<-Q h];exact F);have E:0<(aq wB (m/tB)).length:=gm.2 (mt P.1 j);have e:gx (18-(bd (m% tB)).length) 48++bd (m% tB)=er m:=by rw[l,if_neg j]
     rw[F,ny]at e q s;rw[F,kZ]at d;simp only[g5]at e q s;have hf:=u _ e;generalize D:aq wB (m/tB)=ah at*;simp[C];refine cp d (by simp;exact⟨rfl,rfl⟩) ?_ (h1:=by simp[tB]);simp[E,s];refine c2 q ?_;simp;refine⟨by simp only[cF];omega,?_⟩;refine rd (m/tB,b++[er m],true) ⟨o_,by rw[aJ];exact k2,by simpa using B,y,w⟩ A (he:=by simp[D]) (hh:=by simp only[<-hf];simp) (hr2:=by simp only[<-hf];simp)
    ·have ae:aq wB (m% tB)=[m% tB]:=sJ o_ (i9 r (by decide));rw[ae]at d
     by_cases j:m/tB=0
     ·have e:bd (m% tB)=er m:=by rw[l,if_pos j]
      have hf:=u _ e;rw[j,kZ]at d;simp[C];refine cp d (by simp;exact⟨rfl,rfl⟩) ?_ (h1:=by simp[tB]);simp;refine c2 L ?_;simp;refine⟨by simp only[cF];omega,?_⟩;refine rd (m/tB,b++[er m],true) ⟨o_,by rw[aJ];exact k2,by simpa using B,y,w⟩ A (he:=by simp[j,kZ]) (hh:=by simp only[<-hf];simp) (hr2:=by simp only[<-hf];simp)
     ·have E:0<(aq wB (m/tB)).length:=gm.2 (mt P.1 j);have e:gx (18-(bd (m% tB)).length) 48++bd (m% tB)=er m:=by rw[l,if_neg j]
      have hf:=u _ e;generalize D:aq wB (m/tB)=ah at*;simp[C];refine cp d (by simp;exact⟨rfl,rfl⟩) ?_ (h1:=by simp[tB]);simp;refine c2 L ?_;simp[E,s];refine c2 q ?_;simp;refine⟨o_,by simp only[cF];omega,?_⟩;refine rd (m/tB,b++[er m],true) ⟨o_,by rw[aJ];exact k2,by simpa using B,y,w⟩ A (he:=by simp[D]) (hh:=by simp only[<-hf];simp) (hr2:=by simp only[<-hf];simp)
  ·simp only[if_true];have ax:(aq wB m).length<=900000:=by
    have:=dJ ba _ _ (ii k1 (ch ba a.v.natAbs));have:=nu hl;omega
   by_cases hm:m=0
   ·subst hm;have aa:b≠[]:=by
     rintro rfl;rw[jI,jI,if_pos rfl,if_neg o_]at k2;have:=xW a.v.natAbs;rw[hA,hX,hu,hu]at k2;rw[<-k2]at this;simp at this
    simp[eN,kZ];refine⟨b,k2,k3,aa,k5,?_⟩;simp
   ·have d:=BC m tB (by decide) o_ (by rw[yG];decide);have Z:aq wB m≠[]:=mt rU.1 hm;have C:0<(aq wB m).length:=gm.2 Z;have aJ:=Jt hm b;have B:∀p∈b++[er m],p≠[]/\p.length<=18:=by
     intro p N;rcases h2.1 N with h|h
     ·exact k3 p h
     ·rw[hR.1 h];exact⟨Iv m,Iw m⟩
    have A:m/tB<m:=lz o_ (by decide);have aA:=Lr (show 0<m by omega) k4 ai;have w:m/tB*tB^(b++[er m]).length<=a.v.natAbs:=by
     rw[g8,g5,ix,h9 (tB^b.length),<-i8];exact ih (ip _ (kp _ _)) k4
    have y:(b++[er m]).length<=57600000:=by rw[g8,g5];omega
    have r:m% tB<tB:=i7 _ (by decide);have Q:m/tB=0->m% tB=m:=fun h=>by have:=i5 m tB;rw[h]at this;omega
    simp only[eN]at d⊢;rw[yG]at d;have P:=rU (n:=m/tB);have L:=NL (m% tB) (i9 r (by decide));have q:=NO [48] (18-(bd (m% tB)).length) o_ (by simp;omega);have aB:=Ce r;have ab:=Pf r;rw[Bs]at q;have l:er m=if m/tB=0 then bd (m% tB)else gx (18-(bd (m% tB)).length) 48++bd (m% tB):=by
     rw[er,ab];split
     ·rename_i h;rw[Q h]
     ·rfl
    have s:eb.wrap (18-((bd (m% tB)).length:Int))=(18-(bd (m% tB)).length:Nat):=by rw[aN _ o_ o_];omega
    have aE:((18-(bd (m% tB)).length:Nat):Int)=18-((bd (m% tB)).length:Int):=o_
    have u:∀t,t=er m->(b.map fun p=>AV.p (.str p))++[AV.p (.str t)]=(b++[er m]).map fun p=>AV.p (.str p):=fun t e=>by rw[e];simp
    by_cases F:m% tB=0
    ·have j:¬m/tB=0:=fun h=>hm (by rw[<-Q h];exact F);have E:0<(aq wB (m/tB)).length:=gm.2 (mt P.1 j);have e:gx (18-(bd (m% tB)).length) 48++bd (m% tB)=er m:=by rw[l,if_neg j]
     rw[F,ny]at e q s;rw[F,kZ]at d;simp only[g5]at e q s;have hf:=u _ e;generalize D:aq wB (m/tB)=ah at*;simp[C];refine cp d (by simp;exact⟨rfl,rfl⟩) ?_ (h1:=by simp[tB]);simp[E,s];refine c2 q ?_;simp;refine⟨by simp only[cF];omega,?_⟩;refine rd (m/tB,b++[er m],true) ⟨o_,by rw[aJ];exact k2,by simpa using B,y,w⟩ A (he:=by simp[D]) (hh:=by simp only[<-hf];simp) (hr2:=by simp only[<-hf];simp)
    ·have ae:aq wB (m% tB)=[m% tB]:=sJ o_ (i9 r (by decide));rw[ae]at d
     by_cases j:m/tB=0
     ·have e:bd (m% tB)=er m:=by rw[l,if_pos j]
      have hf:=u _ e;rw[j,kZ]at d;simp[C];refine cp d (by simp;exact⟨rfl,rfl⟩) ?_ (h1:=by simp[tB]);simp;refine c2 L ?_;simp;refine⟨by simp only[cF];omega,?_⟩;refine rd (m/tB,b++[er m],true) ⟨o_,by rw[aJ];exact k2,by simpa using B,y,w⟩ A (he:=by simp[j,kZ]) (hh:=by simp only[<-hf];simp) (hr2:=by simp only[<-hf];simp)
     ·have E:0<(aq wB (m/tB)).length:=gm.2 (mt P.1 j);have e:gx (18-(bd (m% tB)).length) 48++bd (m% tB)=er m:=by rw[l,if_neg j]
      have hf:=u _ e;generalize D:aq wB (m/tB)=ah at*;simp[C];refine cp d (by simp;exact⟨rfl,rfl⟩) ?_ (h1:=by simp[tB]);simp;refine c2 L ?_;simp[E,s];refine c2 q ?_;simp;refine⟨o_,by simp only[cF];omega,?_⟩;refine rd (m/tB,b++[er m],true) ⟨o_,by rw[aJ];exact k2,by simpa using B,y,w⟩ A (he:=by simp[D]) (hh:=by simp only[<-hf];simp) (hr2:=by simp only[<-hf];simp)
 ·rintro⟨aH,aK⟩ ⟨b,q1,aF,V,q4,ar,T,o,al⟩;dsimp only at ar T al;subst al;have aC:0<b.length:=gm.2 V;have ac:bd a.v.natAbs=b.reverse.flatten:=by rw[<-Vg,q1,jI,if_neg o_];simp
  obtain⟨neg,M⟩:∃neg:Bool,neg=decide (a.v<0):=⟨_,rfl⟩
  obtain⟨S,O⟩:∃S:List Nat,S=if neg=true then[45]else[]:=⟨_,rfl⟩
  have am:bL a.v=S++b.reverse.flatten:=by
   rw[bL,<-ac,O,M]
   by_cases h:a.v<0
   ·simp[h]
   ·simp[h]
  obtain⟨g,J⟩:∃g:Nat->List Nat,g=fun k=>S++(b.reverse.take k).flatten:=⟨_,rfl⟩
  have K:g b.length=bL a.v:=by rw[J,am];dsimp only;rw[gl s_]
  have aD:∀k,(b.reverse.take k).flatten.length<=1000000:=fun k=>by
   have au:b.reverse.flatten=(b.reverse.take k).flatten++(b.reverse.drop k).flatten:=by rw[<-hP,hd]
   rw[ac,au,g8]at aw;omega
  have aL:S.length<=1:=by rw[O];split<;>simp
  have X:∀k,(g k).length<=1000001:=fun k=>by rw[J];dsimp only;rw[g8];have:=aD k;omega
  have l:∀k(h:k<b.length),g (k+1)=g k++b[b.length-1-k]' o_:=fun k h=>by
   rw[J];dsimp only;rw[g7 (by simpa using h),hP,List.getElem_reverse,<-List.append_assoc];simp
  have av:∀c∈bL a.v,c<256:=by
   intro c hc;rw[bL]at hc;have d:=sU a.v.natAbs;rw[gy]at d
   split at hc
   ·rcases hw.1 hc with h|h
    ·omega
    ·exact Kn (d c h)
   ·exact Kn (d c hc)
  have af:eb.wrap ((b.length:Int)-1)=b.length-1:=aN _ o_ o_;have aj:∀i(h:i<b.length),b[i]≠[]/\b[i].length<=18:=fun i h=>aF _ (g4 h);have H:=Oc (g b.length) (if neg=true then b.length else b.length-1) (g b.length).length rfl (by rw[K,am];intro h;rw[List.append_eq_nil_iff,<-ac]at h;have:=xW a.v.natAbs;rw[h.2]at this;simp at this) (by have:=X b.length;omega) (by rw[K];exact av);simp[ar,T,af]
  by_cases U:a.v<0
  ·rw[decide_eq_true U]at M;subst M;have ay:g 0=[45]:=by rw[J,O];simp
   simp only[if_true]at H;simp[U];refine cf (Dg [45] s_ s_) [3] ?_;simp[aX,sig,T,af];refine lp (α:=Nat) (fun k=>⟨[(11,.p (.int .i64 ((b.length:Int)-1-k))),(10,.ptr 3 []),(6,.sl 2 b.length 1 0 b.length)],[.hole,.hole,.arr .grow b.length 1 (b.map fun p=>.p (.str p)),.box false (.st 117 [.ptr 3 [],.sl 4 k 1 0 (g k).length]),.arr .bytes k 1 (bU (g k))]⟩)
    (fun k=>k<=b.length) (fun k=>b.length-k) 0 s_ ?_ (he:=by simp[T]) (hh:=by simp[ay,bU]) (hr2:=by simp[bU])
   intro k hk
   by_cases z:k<b.length
   ·have G:eb.wrap ((b.length:Int)-1-k-1)=b.length-1-(k+1:Nat):=by rw[aN _ o_ o_];omega
    have e1:((b.length:Int)-1-k).toNat=b.length-1-k:=o_
    have I:(k:Int)<=(b.length:Int)-1:=o_
    have R:b.length-1-k<b.length:=o_
    have hx:=aj _ R;have ag:=tZ (g k) (b[b.length-1-k]) k (g k).length rfl hx.1 o_ (by have:=X k;omega);simp[I,e1,R,V];refine cf ag [3,4] ?_ (aj:=by simp[sig,bU]) (aG:=by simp[sig]) (hr:=by simp[bU]);simp[sig,bU,aX,G,kq];refine rd (k+1) z (he:=by simp[l k z]) (hh:=by simp[l k z,bU]) (hr2:=by simp[bU])
   ·have Y:k=b.length:=by omega
    subst Y;have W:¬(b.length:Int)<=(b.length:Int)-1:=o_
    simp[W];refine cf H [3,4] ?_ (aj:=by simp[sig,bU]) (aG:=by simp[sig]) (hr:=by simp[bU]);simp[sig,aX,K]
  ·rw[decide_eq_false U]at M;subst M;simp only[dp,if_false]at H O;have ak:g 1=b[b.length-1]:=by rw[l 0 aC,J];simp[O]
   have ap:b.length-1<b.length:=o_
   have ao:=aj _ ap;have an:=Dg (b[b.length-1]) ao.1 o_;rw[<-ak]at an ao;simp[U,af]
   refine lp (α:=Option Nat) (fun st=>match st with
     |none=>⟨[(11,.p (.int .i64 ((b.length:Int)-1))),(10,.ptr 3 []),(6,.sl 2 b.length 1 0 b.length)],[.hole,.hole,.arr .grow b.length 1 (b.map fun p=>.p (.str p)),.box false (.p (.st 117 [.dE,.aK]))]⟩
     |some k=>⟨[(11,.p (.int .i64 ((b.length:Int)-1-(k+1)))),(10,.ptr 3 []),(6,.sl 2 b.length 1 0 b.length)],[.hole,.hole,.arr .grow b.length 1 (b.map fun p=>.p (.str p)),.box false (.st 117 [.ptr 3 [],.sl 4 k 1 0 (g (k+1)).length]),.arr .bytes k 1 (bU (g (k+1)))]⟩)
    (fun st=>match st with
     |none=>True
     |some k=>k+1<=b.length) (fun st=>match st with
     |none=>b.length+1
     |some k=>b.length-(k+1)) none trivial ?_ (he:=by simp[T])
   intro st hk;cases st with
   |none=>
    have G:eb.wrap ((b.length:Int)-1-1)=b.length-1-(0+1):=by rw[aN _ o_ o_];omega
    have e1:((b.length:Int)-1).toNat=b.length-1:=o_
    have I:(1:Int)<=(b.length:Int):=o_
    simp[I,e1,ap,V,<-ak];refine cf an [3] ?_;simp[aX,sig,G];refine rd (some 0) (by show 0+1<=b.length;omega) (by show b.length-(0+1)<b.length+1;omega) (he:=s_) (hh:=by simp[bU]) (hr2:=by simp[bU])
   |some k=>
    have hk:k+1<=b.length:=hk
    by_cases z:k+1<b.length
    ·have G:eb.wrap ((b.length:Int)-1-(k+1)-1)=b.length-1-(k+1+1):=by rw[aN _ o_ o_];omega
     have e1:((b.length:Int)-1-(k+1)).toNat=b.length-1-(k+1):=o_
     have I:(k:Int)+1<=(b.length:Int)-1:=o_
     have R:b.length-1-(k+1)<b.length:=o_
     have hx:=aj _ R;have ag:=tZ (g (k+1)) (b[b.length-1-(k+1)]) k (g (k+1)).length rfl hx.1 o_ (by have:=X (k+1);omega);simp[I,e1,R,V];refine cf ag [3,4] ?_ (aj:=by simp[sig,bU]) (aG:=by simp[sig]) (hr:=by simp[bU]);simp[sig,bU,aX,G,kq];refine rd (some (k+1)) z (by show b.length-(k+1+1)<b.length-(k+1);omega) (he:=by simp[l (k+1) z]) (hh:=by simp[l (k+1) z,bU]) (hr2:=by simp[bU])
    ·have Y:b.length=k+1:=by omega
     have W:¬(k:Int)+1<=(b.length:Int)-1:=o_
     rw[Y]at H K;rw[j3]at H;simp[W];refine cf H [3,4] ?_ (aj:=by simp[sig,bU]) (aG:=by simp[sig]) (hr:=by simp[bU]);simp[sig,aX,K]
theorem BD(a:NI)(hl:okW a.v)(b:(bd a.v.natAbs).length<=1000000):az prog 239 [eI a] (.str (bL a.v)):=by
 rcases h:a.sm with _|_
 ·exact Vq a h hl b
 ·exact Vr a h
open Go
theorem Jb:∀(r:List Nat)(a:Nat),a<=r.foldl (fun n c=>n*10+(c-48)) a
 |[],a=>i4 _
 |x::r,a=>ih (show a<=a*10+(x-48)by omega) (Jb r _)
theorem BS:∀(d:List Nat)(a:Nat),d.all bF=true->d.foldl (fun n c=>n*10+(c-48)) a<1000000000000000000->Lib.parseUint10 a (d.map n0)=.ok (d.foldl (fun n c=>n*10+(c-48)) a)
 |[],a,_,_=>rfl
 |c::r,a,h,hl=>by
  simp only[hH,dk]at h;have hc:=h.1;simp only[bF,dk,decide_eq_true_eq]at hc;have b:=Jb r (a*10+(c-48));rw[hE]at hl⊢;have e:(n0 c).toNat=c:=by simp;omega
  rw[g0,Lib.parseUint10,e,if_pos hc,if_neg o_,if_neg o_];exact BS r _ h.2 hl
theorem LZ{d:List Nat}(h:d.all bF=true)(b:d≠[])(f:d.length<=18):Lib.atoiAll (d.map n0)=.ok (aM d):=by
 have hl:=jg _ d rfl h;have i:10^d.length<=10^18:=h7 o_ f;cases d with
 |nil=>exact(b rfl).elim
 |cons c r=>
  have hc:=(dk ..▸(hH▸h):bF c=true/\r.all bF=true).1;simp only[bF,dk,decide_eq_true_eq]at hc;have e:(n0 c).toNat=c:=by simp;omega
  have g:aM (c::r)<1000000000000000000:=o_
  have a:=BS (c::r) 0 h g;rw[<-aM]at a;rw[g0]at a;rw[g0,Lib.atoiAll];simp only[e];rw[if_neg o_,Lib.parseMag,if_neg s_,a];dsimp only;rw[if_neg o_,if_neg o_,if_neg o_]
theorem Bc:∀(b:List Nat)(x:Nat),b.foldl (fun n c=>n*10+(c-48)) x=x*10^b.length+aM b
 |[],x=>by simp[aM]
 |c::b,x=>by
  rw[aM,hE,hE,Bc b,Bc b (0*10+(c-48)),hV,ix,j2,i8,h9 10];simp[l2]
theorem Jp(a b:List Nat):aM (a++b)=aM a*10^b.length+aM b:=by
 rw[aM,hT,Bc];rfl
theorem aD4(k:Nat):10^k<=2^(4*k):=by
 rw[lb];exact ll (by decide) k
theorem Jx{a K:Nat}(h:4*a<=K):10^a<=2^K:=ih (aD4 a) (h7 (by decide) h)
theorem uZ{n k:Nat}(h:n<2^k)(hk:k<=3*1000000):(bd n).length<=1000000:=
 C3 h hk (by decide)
theorem W4(a:NF)(h:cr kB a.q):az prog 176 [eF a] (.str (bK a.q)):=by
 have f:kB=100000:=rfl;have w:=Bj a;have c:=BD a.num (hJ h.1 px) (uZ h.1 o_);have d:=BD a.den (hJ (by rw[jY];exact h.2) px) (uZ (by rw[jY];exact h.2) o_);rw[kY]at c;rw[jC,rW]at d;have g:=uZ h.1 (show kB<=3*1000000 by omega);have i:=uZ h.2 (show kB<=3*1000000 by omega);have j:=B0 a.q.num;refine aP nf (i_ func176) mix (by simp[f176]) ?_;rw[bK]
 by_cases b:a.q.den=1
 ·have e:a.fw=true:=by simp[NF.fw,b]
  rw[e]at w;rw[if_pos b];simp[f176];refine c1 w ?_;simp[ad];refine c1 c ?_;simp
 ·have e:a.fw=false:=by simp[NF.fw,b]
  rw[e]at w;rw[if_neg b];simp[f176];refine c1 w ?_;simp[ad];refine e1 c ?_;simp[ad];refine⟨o_,?_⟩;refine e1 d ?_;simp;omega
def kR:Nat:=2800
theorem yz(s:List Nat)(i:(bQ s).all bF=true)(hl:(bQ s).length<=700):az prog 193 [.str s] (eI (.mk' (if bI s=true then -(aM (bQ s):Int)else aM (bQ s)))):=by
 refine aP nf (i_ func193) mix (by simp[f193]) ?_;simp[f193];refine c2 (WJ s) ?_;simp;refine c2 (BX s) ?_;simp;generalize bQ s=d at*;generalize bI s=neg at*;have w:eX 0=eI (.mk' 0):=(nO (by decide) (by decide)).symm;rw[show PV.st 162 [.int .i64 0,.aK]=eI (.mk' 0)from w];refine lp (α:=List Nat×NI) (fun x=>⟨[(4,.ptr 1 []),(3,.p (.bool neg)),(2,.ptr 0 []),(0,.p (.str x.1))],[.box false (.p (eI (.mk' 0))),.box false (.p (eI x.2))]⟩)
  (fun x=>∃m:Nat,x.2.v=m/\m*10^x.1.length+aM x.1=aM d/\x.1.all bF=true/\x.1.length<=700/\m<2^kR) (fun x=>x.1.length) (d,.mk' 0) ⟨0,rfl,s_,i,hl,i6 (by decide)⟩ ?_
 rintro⟨r,o⟩ ⟨m,k1,k2,k3,k4,k5⟩;dsimp only at k1 k2 k3 k4 k5;have R:kR=2800:=rfl;have c:o.v.natAbs<2^kR:=by rw[k1,ed];exact k5
 have H:okW o.v:=hJ c (by have:kB=100000:=rfl;omega)
 by_cases f:r=[]
 ·subst f;have u:o.v=aM d:=by rw[k1];simp[aM]at k2⊢;omega
  cases neg
  ·have e:eI (.mk' (aM d:Nat))=eI o:=mC (by rw[NI.iD,u]) (fun h=>by rw[NI.iD]at h;omega);simp;rw[e];simp[ad]
  ·have e:eI (.mk' (-(aM d:Nat)))=eI o.neg:=by rw[NI.neg,u]
   simp;rw[e];refine c1 (sW o H) ?_;simp[ad]
 ·have K:0<r.length:=gm.2 f;obtain⟨n,S⟩:∃n,n=min 18 r.length:=⟨_,rfl⟩
  have j:n<=r.length:=o_
  have U:0<n:=o_
  have F:n<=18:=o_
  have G:(if(r.length:Int)<18 then(r.length:Int)else 18)=n:=by split<;>omega
  have g:(r.take n).length=n:=by rw[g3];omega
  have a:=k3;rw[<-hd n r,List.all_append,dk]at a;have M:=jg _ (r.take n) rfl a.1;have C:=Af (r.take n) (aM (r.take n)) (LZ a.1 (by intro e;rw[e]at g;simp at g;omega) o_) o_;rw[g]at M;have q:10^n<=10^18:=h7 (by decide) F;have z:10^n<wB^1:=by rw[la];exact ii q (by decide)
  have A:((10^n:Nat):Int).natAbs<2^64:=by rw[ed];exact ii q (by decide)
  have N:=dJ ba 1 _ z;have vE:=xI c;have O:kB=100000:=rfl;have V:=jg _ d rfl i;have P:10^d.length<=2^kR:=Jx (by have:kR=2800:=rfl;omega);have I:=WZ (.of 10) n (10^n) (by decide) rfl o_ (by decide) o_;have E:=yW o (.mk' (10^n:Nat)) (by rw[NI.iD,ed];omega);have B:=vu (o.mul (.mk' (10^n:Nat))) (.of (aM (r.take n):Nat)) (hJ (oC (x:=o.v) (y:=((10^n:Nat):Int)) c A) o_) (hJ (k:=64) (show((aM (r.take n):Nat):Int).natAbs<2^64 by rw[ed];omega) o_);have l:=rh (aM (r.take n):Nat);rw[<-sZ o_ o_]at l;have t:=rh 10;rw[<-sZ (by decide) (by decide)]at t;have L:aM r=aM (r.take n)*10^(r.drop n).length+aM (r.drop n):=by rw[<-Jp,hd]
  have J:r.length=n+(r.drop n).length:=by rw[ho];omega
  have D:(m*10^n+aM (r.take n))*10^(r.drop n).length+aM (r.drop n)=aM d:=by
   rw[<-k2,L,J,j4,j2,i8,l2]
  generalize 10^n=T at*;generalize W:aM (r.take n)=b at*;have Q:m*T+b<=aM d:=by
   have:=lc (m*T+b) (show 0<10^(r.drop n).length from i6 (by decide));omega
  simp[f,K,G];refine⟨j,?_⟩;refine c1 C ?_;simp;refine e1 t ?_;simp;refine e2 I ?_;simp[ad];refine e2 E ?_;simp;refine e1 l ?_;simp;refine e2 B ?_;simp[ad];refine⟨rfl,j,?_⟩;refine rd (r.drop n,(o.mul (.mk' T)).add (.of b)) ⟨m*T+b,by rw[NI.qX,NI.lO,NI.iD,k1];rfl,D,a.2,by dsimp only;omega,o_⟩ (by dsimp only;omega)
theorem xZ{s:List Nat}(h:cS s=true):bI s=false/\bQ s=s:=by
 have b:=iY h;have:bI s=false:=by
  rw[bI,decide_eq_false_iff_not];intro a;cases s with
  |nil=>simp at a
  |cons c r=>
   simp at a;subst a;rw[hH,dk]at b;simp[bF]at b
 exact⟨this,by rw[bQ,this];rfl⟩
theorem Je(s:List Nat):bI (bN 47 s).1=bI s/\bQ (bN 47 s).1=bA s/\(bN 47 s).2.1=bM s/\(bN 47 s).2.2=dX s:=by
 cases s with
 |nil=>exact⟨rfl,rfl,rfl,rfl⟩
 |cons c r=>
  by_cases h:c=45
  ·subst h;have e:bN 47 (45::r)=(45::(bN 47 r).1,(bN 47 r).2.1,(bN 47 r).2.2):=by rw[bN,if_neg (by decide)]
   rw[e];exact⟨rfl,rfl,rfl,rfl⟩
  ·have b:bI (c::r)=false:=by rw[bI,decide_eq_false_iff_not];simpa using h
   have a:bQ (c::r)=c::r:=by rw[bQ,b];rfl
   have d:bI (bN 47 (c::r)).1=false:=by
    rw[bI,decide_eq_false_iff_not,bN]
    split
    ·simp
    ·simpa using h
   refine⟨by rw[b,d],?_,?_,?_⟩
   ·rw[bQ,d,bA,a];rfl
   ·rw[bM,a]
   ·rw[dX,a]
theorem Ma{s:List Nat}(h:bS s=0):cS (bA s)=true/\(bA s).length<=600/\(bM s).length<=600/\(dX s=true->cS (bM s)=true):=by
 unfold bS at h
 split at h
 ·cases h
 rename_i a
 split at h
 ·cases h
 rename_i d;have a:mB s=true:=by simpa using a
 simp only[mB,dk,dq,Bool.not_eq_true']at a;refine⟨a.1.1,o_,o_,fun c=>?_⟩;rcases a.2 with b|b
 ·rw[c]at b;cases b
 ·exact b.1.1
theorem Rd(z:Int):bQ (bL z)=bd z.natAbs:=by
 have:=(AP z []).2;simpa using this
theorem sq(c:Nat):∀s:List Nat,(bN c s).1.length<=s.length/\(bN c s).2.1.length<=s.length/\(∀x∈(bN c s).1,x∈s)/\(∀x∈(bN c s).2.1,x∈s)
 |[]=>by simp[bN]
 |y::r=>by
  have a:=sq c r;rw[bN]
  split
  ·simp;intro x hx;exact .inr hx
  ·simp only[hV,hw];refine⟨o_,o_,?_,fun x hx=>.inr (a.2.2.2 x hx)⟩;rintro x (rfl|hx)
   ·exact .inl rfl
   ·exact .inr (a.2.2.1 x hx)
theorem oD(s:List Nat):(bQ s).length<=s.length/\∀x∈bQ s,x∈s:=by
 rw[bQ]
 split
 ·exact⟨s_,fun x hx=>List.mem_of_mem_tail hx⟩
 ·exact⟨i4 _,fun _ h=>h⟩
theorem mH(s:List Nat)(h:bS s=0)(hl:s.length<=1048576):az prog 110 [.str s] (eF ⟨aY s,false⟩):=by
 obtain⟨l,r,t,m⟩:=Ma h;obtain⟨n,f,o,p⟩:=Je s;obtain⟨q1,q,a⟩:=kg h;have b:=NK s 47 hl;rw[o,p]at b;have c:=yz (bN 47 s).1 (by rw[f];exact iY l) (by rw[f];omega);rw[n,f]at c;have j:eI (NF.mk (aY s) false).num=eI (.mk' (if bI s=true then -(aM (bA s):Int)else aM (bA s))):=by
  show eI ⟨(aY s).num,false⟩=_;rw[q];rfl
 rw[<-j]at c;refine aP nf (i_ func110) mix (by simp[f110]) ?_;cases hf:dX s
 ·rw[hf]at b a;simp only[dp,if_false]at a;have e:(NF.mk (aY s) false).den=.mk' 1:=by
   show NI.mk' ((aY s).den:Int)=_;rw[a];rfl
  have i:=Cp (NF.mk (aY s) false).num;have k:eF (.whole (NF.mk (aY s) false).num)=eF ⟨aY s,false⟩:=by
   rw[eF,eF,e];rfl
  rw[k]at i;simp[f110];refine c2 b ?_;simp;refine c1 c ?_;simp;refine c1 i ?_;simp[ad]
 ·rw[hf]at b a;simp only[if_true]at a;have g:=m hf;obtain⟨d1,d2⟩:=xZ g;have d:=yz (bM s) (by rw[d2];exact iY g) (by rw[d2];omega);rw[d1,d2]at d;simp only[dp,if_false]at d;have e:eI (NF.mk (aY s) false).den=eI (.mk' (aM (bM s):Nat)):=by
   show eI (NI.mk' ((aY s).den:Int))=_;rw[a]
  rw[<-e]at d;rw[eF];simp[f110];refine c2 b ?_;simp;refine c1 c ?_;simp;refine c1 d ?_;simp[ad]
def lY(n:Nat):Bool:=decide (600<(bd n).length)
theorem MR(a:NI)(h:a.v.natAbs<2^kB):az prog 238 [eI a] (.bool (lY a.v.natAbs)):=by
 have l:kB=100000:=rfl;have d:=hJ h px;have g:=WV a d;have i:=BD a d (uZ h o_);have c:=BX (bL a.v);rw[Rd]at c;refine aP nf (i_ func238) mix (by simp[f238]) ?_;simp[f238];refine c1 g ?_
 by_cases j:1800<nP a.v.natAbs
 ·have b:(1800:Int)<(nP a.v.natAbs:Nat):=by omega
  have e:decide ((600:Int)<((bd a.v.natAbs).length:Nat))=lY a.v.natAbs:=by rw[lY,decide_eq_decide];omega
  simp[b];refine c1 i ?_;simp;refine c2 c ?_;simp[lY];omega
 ·have f:=h8 (JP a.v.natAbs) (h7 (show 0<2 by decide) (show nP a.v.natAbs<=3*600 by omega));have k:=HQ f (by decide);have e:lY a.v.natAbs=false:=by rw[lY,decide_eq_false_iff_not];omega
  have b:¬(1800:Int)<(nP a.v.natAbs:Nat):=o_
  simp[b,e]
def Dv(q:Rat):Bool:=lY q.num.natAbs||lY q.den
theorem WW(a:NF)(h:cr kB a.q):az prog 175 [eF a] (.bool (Dv a.q)):=by
 have b:=MR a.num h.1;have c:=MR a.den (by rw[jY];exact h.2);rw[kY]at b;rw[jY]at c;refine aP nf (i_ func175) mix (by simp[f175]) ?_;rw[Dv];cases hc:lY a.q.num.natAbs
 ·rw[hc]at b;simp[f175,ad];refine c1 b ?_;simp[ad];refine c1 c ?_;simp
 ·rw[hc]at b;simp[f175,ad];refine c1 b ?_;simp
def tf:List (Nat×Func)->dz->Option Func
 |[],_=>none
 |(i,g)::r,f=>bif i3 i f then some g else tf r f
def zM(P:Program):List (Nat×Func)->Prop
 |[]=>True
 |p::r=>al P p.1 p.2/\zM P r
theorem Cu{P:Program}:∀{l:List (Nat×Func)},zM P l->∀{f:Nat}{fn:Func},tf l f=some fn->al P f fn
 |[],_,f,fn,h=>by simp[tf]at h
 |(i,g)::r,a,f,fn,h=>by
  simp only[tf,dl]at h
  split at h
  ·rename_i hf;simp only[m4]at h;subst h;rw[<-ik hf];exact a.1
  ·exact Cu a.2 h
noncomputable def DR:List (Nat×Func):=[(2,f2),(3,f3),(4,f4),(5,f5),(6,f6),(7,f7),(8,f8),(9,f9),(10,f10),(11,f11),(12,f12),(13,f13),(14,f14),(15,f15),(16,f16),(17,f17),(18,f18),(19,f19),(20,f20),(21,f21),(22,f22),(23,f23),(24,f24),(25,f25),(26,f26),(27,f27),(28,f28),(29,f29),(30,f30),(31,f31),(32,f32),(33,f33),(34,f34),(35,f35),(36,f36),(37,f37),(38,f38),(39,f39),(40,f40),(41,f41),(42,f42),(43,f43),(44,f44),(45,f45),(46,f46),(47,f47),(48,f48),(49,f49),(50,f50),(51,f51),(52,f52),(53,f53),(54,f54),(55,f55),(56,f56),(57,f57),(58,f58),(59,f59),(60,f60),(61,f61),(62,f62),(63,f63),(64,f64),(65,f65),(66,f66),(67,f67),(68,f68),(69,f69),(70,f70),(71,f71),(72,f72),(73,f73),(74,f74),(75,f75),(76,f76),(77,f77),(78,f78),(79,f79),(80,f80),(81,f81),(82,f82),(83,f83),(84,f84),(85,f85),(86,f86),(87,f87),(88,f88),(89,f89),(90,f90),(91,f91),(92,f92),(93,f93),(94,f94),(95,f95),(96,f96),(97,f97),(98,f98),(99,f99),(100,f100),(101,f101),(102,f102),(103,f103),(104,f104),(105,f105),(106,f106),(107,f107),(108,f108),(109,f109),(110,f110),(111,f111),(112,f112),(113,f113),(114,f114),(115,f115),(116,f116),(117,f117),(118,f118),(119,f119),(120,f120),(121,f121),(122,f122),(123,f123),(124,f124),(125,f125),(126,f126),(127,f127),(128,f128),(129,f129),(130,f130),(131,f131),(132,f132),(133,f133),(134,f134),(135,f135),(136,f136),(137,f137),(138,f138),(139,f139),(140,f140),(141,f141),(142,f142),(143,f143),(144,f144),(145,f145),(146,f146),(147,f147),(148,f148),(149,f149),(150,f150),(151,f151),(152,f152),(153,f153),(154,f154),(155,f155),(156,f156),(157,f157),(158,f158),(159,f159),(160,f160),(161,f161),(162,f162),(163,f163),(164,f164),(165,f165),(166,f166),(167,f167),(168,f168),(169,f169),(170,f170),(171,f171),(172,f172),(173,f173),(174,f174),(175,f175),(176,f176),(177,f177),(178,f178),(179,f179),(180,f180),(181,f181),(182,f182),(183,f183),(184,f184),(185,f185),(186,f186),(187,f187),(188,f188),(189,f189),(190,f190),(191,f191),(192,f192),(193,f193),(194,f194),(195,f195),(196,f196),(197,f197),(198,f198),(199,f199),(200,f200),(201,f201),(202,f202),(203,f203),(204,f204),(205,f205),(206,f206),(207,f207),(208,f208),(209,f209),(210,f210),(211,f211),(212,f212),(213,f213),(214,f214),(215,f215),(216,f216),(217,f217),(218,f218),(219,f219),(221,f221),(222,f222),(223,f223),(224,f224),(225,f225),(226,f226),(227,f227),(228,f228),(229,f229),(230,f230),(231,f231),(232,f232),(233,f233),(234,f234),(235,f235),(236,f236),(237,f237),(238,f238),(239,f239),(240,f240),(241,f241),(242,f242),(243,f243),(244,f244),(245,f245),(246,f246),(247,f247),(248,f248),(249,f249),(250,f250),(251,f251),(252,f252),(253,f253),(254,f254),(255,f255),(256,f256),(257,f257),(258,f258),(259,f259),(260,f260),(261,f261),(262,f262),(263,f263),(264,f264),(265,f265),(266,f266),(267,f267),(268,f268),(269,f269),(270,f270),(271,f271),(272,f272),(273,f273),(274,f274),(275,f275),(276,f276),(277,f277),(278,f278),(279,f279),(280,f280),(281,f281),(282,f282),(283,f283),(284,f284),(285,f285),(286,f286),(287,f287),(288,f288),(290,f290),(292,f292),(293,f293),(294,f294),(295,f295),(296,f296),(297,f297),(298,f298),(299,f299),(300,f300),(301,f301),(302,f302),(303,f303),(304,f304),(305,f305),(306,f306),(307,f307),(308,f308),(309,f309),(310,f310),(311,f311),(312,f312),(313,f313),(314,f314),(315,f315),(316,f316),(317,f317),(318,f318),(319,f319),(320,f320),(321,f321),(322,f322),(323,f323),(324,f324),(325,f325),(327,f327),(329,f329),(330,f330),(331,f331),(332,f332),(333,f333),(334,f334),(336,f336),(337,f337),(338,f338),(339,f339),(340,f340),(341,f341),(342,f342),(343,f343),(344,f344),(345,f345),(346,f346),(347,f347),(348,f348),(349,f349),(350,f350),(351,f351),(352,f352),(353,f353),(355,f355),(356,f356),(357,f357),(358,f358),(359,f359),(360,f360),(361,f361),(362,f362),(363,f363),(364,f364),(365,f365),(366,f366),(367,f367),(368,f368),(369,f369),(370,f370),(371,f371),(372,f372),(373,f373),(374,f374),(375,f375),(376,f376),(377,f377),(379,f379),(380,f380),(381,f381),(382,f382),(383,f383),(384,f384),(385,f385),(386,f386),(387,f387),(388,f388),(389,f389),(390,f390),(420,f420)]
theorem FR:zM prog DR:=⟨i_ func2,i_ func3,i_ func4,i_ func5,i_ func6,i_ func7,i_ func8,i_ func9,i_ func10,i_ func11,i_ func12,i_ func13,i_ func14,i_ func15,i_ func16,i_ func17,i_ func18,i_ func19,i_ func20,i_ func21,i_ func22,i_ func23,i_ func24,i_ func25,i_ func26,i_ func27,i_ func28,i_ func29,i_ func30,i_ func31,i_ func32,i_ func33,i_ func34,i_ func35,i_ func36,i_ func37,i_ func38,i_ func39,i_ func40,i_ func41,i_ func42,i_ func43,i_ func44,i_ func45,i_ func46,i_ func47,i_ func48,i_ func49,i_ func50,i_ func51,i_ func52,i_ func53,i_ func54,i_ func55,i_ func56,i_ func57,i_ func58,i_ func59,i_ func60,i_ func61,i_ func62,i_ func63,i_ func64,i_ func65,i_ func66,i_ func67,i_ func68,i_ func69,i_ func70,i_ func71,i_ func72,i_ func73,i_ func74,i_ func75,i_ func76,i_ func77,i_ func78,i_ func79,i_ func80,i_ func81,i_ func82,i_ func83,i_ func84,i_ func85,i_ func86,i_ func87,i_ func88,i_ func89,i_ func90,i_ func91,i_ func92,i_ func93,i_ func94,i_ func95,i_ func96,i_ func97,i_ func98,i_ func99,i_ func100,i_ func101,i_ func102,i_ func103,i_ func104,i_ func105,i_ func106,i_ func107,i_ func108,i_ func109,i_ func110,i_ func111,i_ func112,i_ func113,i_ func114,i_ func115,i_ func116,i_ func117,i_ func118,i_ func119,i_ func120,i_ func121,i_ func122,i_ func123,i_ func124,i_ func125,i_ func126,i_ func127,i_ func128,i_ func129,i_ func130,i_ func131,i_ func132,i_ func133,i_ func134,i_ func135,i_ func136,i_ func137,i_ func138,i_ func139,i_ func140,i_ func141,i_ func142,i_ func143,i_ func144,i_ func145,i_ func146,i_ func147,i_ func148,i_ func149,i_ func150,i_ func151,i_ func152,i_ func153,i_ func154,i_ func155,i_ func156,i_ func157,i_ func158,i_ func159,i_ func160,i_ func161,i_ func162,i_ func163,i_ func164,i_ func165,i_ func166,i_ func167,i_ func168,i_ func169,i_ func170,i_ func171,i_ func172,i_ func173,i_ func174,i_ func175,i_ func176,i_ func177,i_ func178,i_ func179,i_ func180,i_ func181,i_ func182,i_ func183,i_ func184,i_ func185,i_ func186,i_ func187,i_ func188,i_ func189,i_ func190,i_ func191,i_ func192,i_ func193,i_ func194,i_ func195,i_ func196,i_ func197,i_ func198,i_ func199,i_ func200,i_ func201,i_ func202,i_ func203,i_ func204,i_ func205,i_ func206,i_ func207,i_ func208,i_ func209,i_ func210,i_ func211,i_ func212,i_ func213,i_ func214,i_ func215,i_ func216,i_ func217,i_ func218,i_ func219,i_ func221,i_ func222,i_ func223,i_ func224,i_ func225,i_ func226,i_ func227,i_ func228,i_ func229,i_ func230,i_ func231,i_ func232,i_ func233,i_ func234,i_ func235,i_ func236,i_ func237,i_ func238,i_ func239,i_ func240,i_ func241,i_ func242,i_ func243,i_ func244,i_ func245,i_ func246,i_ func247,i_ func248,i_ func249,i_ func250,i_ func251,i_ func252,i_ func253,i_ func254,i_ func255,i_ func256,i_ func257,i_ func258,i_ func259,i_ func260,i_ func261,i_ func262,i_ func263,i_ func264,i_ func265,i_ func266,i_ func267,i_ func268,i_ func269,i_ func270,i_ func271,i_ func272,i_ func273,i_ func274,i_ func275,i_ func276,i_ func277,i_ func278,i_ func279,i_ func280,i_ func281,i_ func282,i_ func283,i_ func284,i_ func285,i_ func286,i_ func287,i_ func288,i_ func290,i_ func292,i_ func293,i_ func294,i_ func295,i_ func296,i_ func297,i_ func298,i_ func299,i_ func300,i_ func301,i_ func302,i_ func303,i_ func304,i_ func305,i_ func306,i_ func307,i_ func308,i_ func309,i_ func310,i_ func311,i_ func312,i_ func313,i_ func314,i_ func315,i_ func316,i_ func317,i_ func318,i_ func319,i_ func320,i_ func321,i_ func322,i_ func323,i_ func324,i_ func325,i_ func327,i_ func329,i_ func330,i_ func331,i_ func332,i_ func333,i_ func334,i_ func336,i_ func337,i_ func338,i_ func339,i_ func340,i_ func341,i_ func342,i_ func343,i_ func344,i_ func345,i_ func346,i_ func347,i_ func348,i_ func349,i_ func350,i_ func351,i_ func352,i_ func353,i_ func355,i_ func356,i_ func357,i_ func358,i_ func359,i_ func360,i_ func361,i_ func362,i_ func363,i_ func364,i_ func365,i_ func366,i_ func367,i_ func368,i_ func369,i_ func370,i_ func371,i_ func372,i_ func373,i_ func374,i_ func375,i_ func376,i_ func377,i_ func379,i_ func380,i_ func381,i_ func382,i_ func383,i_ func384,i_ func385,i_ func386,i_ func387,i_ func388,i_ func389,i_ func390,i_ func420,trivial⟩
noncomputable def vM(facts:dz->List PV->Option PV)(jR:dz->dz->Nat):mb:=⟨tf DR,facts,fun _ _ _=>none,jR,fun _ _ _=>none⟩
theorem aBV{facts:dz->List PV->Option PV}{jR:dz->dz->Nat}(h:∀f vs v,facts f vs=some v->az prog f vs v):mv prog (vM facts jR):=by
 refine⟨mix,fun f fn hf=>Cu FR hf,fun f vs v hk=>h f vs v hk,fun f args H v H' hk=>?_,fun f args H aj v hk=>?_⟩
 ·simp only[vM]at hk;cases hk
 ·simp only[vM]at hk;cases hk
noncomputable def Pn(facts:dz->List PV->Option PV)(jR:dz->dz->Nat)(f:dz)(vs:List PV):Option PV:=nW prog nf (vM facts jR) (jN prog nf (vM facts jR) 20) f vs
theorem K4{facts:dz->List PV->Option PV}{jR:dz->dz->Nat}(h:∀f vs v,facts f vs=some v->az prog f vs v){f:dz}{vs:List PV}{v:PV}(a:Pn facts jR f vs=some v):az prog f vs v:=reckon 20 (aBV h) a
def noF:dz->List PV->Option PV:=fun _ _=>none
def pB:PV:=.st 381 ((gt 256).map fun i=>.bool (bF i))
theorem J4(c:Nat)(hc:c<256):az prog 375 [.cq pB,.int .u8 c] (.bool (bF c)):=by
 refine aP nf (i_ func375) mix (by simp[f375]) ?_;have a:(gt 256)[c]?=some c:=hv hc;simp[f375,pB,a,hc]
theorem SG(s:List Nat)(h:s.length<=1048576)(g:∀c∈s,c<256):az prog 349 [.str s,.cq pB] (.str (kX s)):=by
 refine aP nf (i_ func349) mix (by simp[f349]) ?_;simp[f349];refine lp (α:=List Nat) (fun r=>⟨[(1,.p (.cq pB)),(0,.p (.str r))],[]⟩) (fun r=>kX r=kX s/\r.length<=s.length/\∀c∈r,c<256) (fun r=>r.length) s (by exact⟨rfl,i4 _,g⟩) ?_;rintro r ⟨a,f,b⟩;cases r with
 |nil=>
  have e:kX s=[]:=by rw[<-a];rfl
  simp[e]
 |cons x r=>
  have hx:=b x s_;have i:kX (x::r)=if bF x=true then kX r else x::r:=by
   rw[kX,hQ];split<;>rfl
  rw[i]at a;have j:(0:Int)<(r.length:Int)+1:=o_
  simp[j];refine c2 (J4 x hx) ?_;cases d:bF x
  ·rw[d]at a;simp[<-a]
  ·rw[d]at a;simp;exact rd r ⟨by simpa using a,by simp at f;omega,fun c hc=>b c (by simp[hc])⟩ (h1:=s_)
theorem Si(s:List Nat)(h:s.length<=1048576)(i:∀c∈s,c<256):az prog 350 [.str s,.cq pB] (.str (iV s)):=by
 refine aP nf (i_ func350) mix (by simp[f350]) ?_;simp[f350];refine lp (α:=List Nat) (fun r=>⟨[(1,.p (.cq pB)),(0,.p (.str r))],[]⟩) (fun r=>iV r=iV s/\r.length<=s.length/\∀c∈r,c<256) (fun r=>r.length) s (by exact⟨rfl,i4 _,i⟩) ?_;rintro r ⟨a,b,d⟩;rcases List.eq_nil_or_concat r with rfl|⟨t,x,rfl⟩
 ·have e:iV s=[]:=by rw[<-a];rfl
  simp[e]
 ·simp only[List.concat_eq_append]at a b d⊢;have hx:=d x s_;have j:iV (t++[x])=if bF x=true then iV t else t++[x]:=by
   rw[iV,List.reverse_append,List.reverse_cons,hA,hZ,List.singleton_append,hQ]
   split
   ·rfl
   ·simp
  rw[j]at a;have k:(0:Int)<(t.length:Int)+1:=o_
  have g:eb.wrap (t.length:Int)=t.length:=aN _ o_ (by simp at b;omega);simp[k,g];refine c2 (J4 x hx) ?_;cases f:bF x
  ·rw[f]at a;simp[<-a]
  ·rw[f]at a;simp[g];exact rd t ⟨by simpa using a,by simp at b;omega,fun c hc=>d c (by simp[hc])⟩ (h1:=s_)
def vy:List Nat:=[48,49,50,51,52,53,54,55,56,57]
theorem Vp:az prog 348 [.str vy] (.aE [pB,.bool true]):=K4 (facts:=noF) (jR:=fun _ _=>0) (fun _ _ _ h=>by cases h) k_
theorem aEE:cG prog 382=some (.st 381 (gx 256 (.bool false))):=k_
theorem WH(s:List Nat)(h:s.length<=1048576)(d:∀c∈s,c<256):az prog 302 [.str s,.str vy] (.str (kX (iV s))):=by
 refine aP nf (i_ func302) mix (by simp[f302]) ?_
 by_cases b:s=[]
 ·subst b;simp[f302,vy,kX,iV]
 simp[f302,vy,b];refine c1 Vp ?_;have g:(iV s).length<=s.length:=by
  rw[iV,List.length_reverse];have:=(hL bF (l:=s.reverse)).length_le;simpa using this
 have f:∀c∈iV s,c<256:=by
  intro c hc;rw[iV,List.mem_reverse]at hc;exact d c (by simpa using(hL bF (l:=s.reverse)).subset hc)
 simp[aEE];have a:aL pB=.agg 381:=rfl;refine⟨⟨⟨a.symm,by rw[a];intro e;cases e⟩,a.symm⟩,?_⟩;refine cp (Si s h d) (by simp;exact⟨rfl,rfl⟩) ?_;simp;refine cp (SG (iV s) o_ f) (by simp;exact⟨rfl,rfl⟩) ?_;simp
def bZ:List Int->Int
 |[]=>0
 |e::r=>if e=0 then bZ r else e
def br(b:Bool)(e:Int):Int:=if b=true then e else 0
theorem WI(a:List Int)(h:a.length<=1048576):az prog 258 [.seq (a.map (.int .i64))] (.int .i64 (bZ a)):=by
 refine aP nf (i_ func258) mix (by simp[f258]) ?_;simp[f258];refine lp (α:=Nat) (fun i=>⟨[(7,.p (.int .i64 i)),(6,.p (.int .i64 a.length)),(5,.p (.seq (a.map (.int .i64))))],[]⟩) (fun i=>i<=a.length/\bZ (a.drop i)=bZ a) (fun i=>a.length-i) 0 s_ ?_;rintro i ⟨d,b⟩;simp
 by_cases hi:i<a.length
 ·rw[g9 hi]at b;have c:=b8 (i:=i) o_;simp[hi]
  by_cases he:a[i]=0
  ·simp[bZ,he]at b;simp[he,c];exact rd (i+1) ⟨hi,b⟩
  ·simp[bZ,he]at b;simp[he,<-b]
 ·have:i=a.length:=by omega
  subst this;simp[bZ]at b;simp[<-b]
theorem rK(a:List Int)(h:a.length<=1048576):az prog 56 [.seq (a.map (.int .i64))] (.int .i64 (bZ a)):=by
 refine aP nf (i_ func56) mix (by simp[f56]) ?_;simp[f56];refine lp (α:=Nat) (fun i=>⟨[(7,.p (.int .i64 i)),(6,.p (.int .i64 a.length)),(5,.p (.seq (a.map (.int .i64))))],[]⟩) (fun i=>i<=a.length/\bZ (a.drop i)=bZ a) (fun i=>a.length-i) 0 s_ ?_;rintro i ⟨h1,b⟩;simp
 by_cases hi:i<a.length
 ·rw[g9 hi]at b;have c:=b8 (i:=i) o_;simp[hi]
  by_cases he:a[i]=0
  ·simp[bZ,he]at b;simp[he,c];exact rd (i+1) ⟨hi,b⟩
  ·simp[bZ,he]at b;simp[he,<-b]
 ·have:i=a.length:=by omega
  subst this;simp[bZ]at b;simp[<-b]
theorem uR(b:Bool)(e:Int):az prog 259 [.bool b,.int .i64 e] (.int .i64 (br b e)):=by
 refine aP nf (i_ func259) mix (by simp[f259]) ?_;cases b<;>simp[f259,br]
theorem jd(b:Bool)(e:Int):az prog 57 [.bool b,.int .i64 e] (.int .i64 (br b e)):=by
 refine aP nf (i_ func57) mix (by simp[f57]) ?_;cases b<;>simp[f57,br]
theorem LN(s:List Nat)(h:s.length<=1048576)(i:∀c∈s,c<256):az prog 257 [.str s] (.bool (cS s)):=by
 have f:=WH s h i;have g:=TE s;rw[show vy=[48,49,50,51,52,53,54,55,56,57]from rfl]at f;refine aP nf (i_ func257) mix (by simp[f257]) ?_;generalize kX (iV s)=t at*;cases s with
 |nil=>simp[f257,cS]
 |cons c r=>
  have hc:=i c s_
  by_cases b:t=[]
  ·have d:=g.1 b;have e:cS (c::r)=(decide (¬c=48)||decide (r=[])):=by
    rw[cS,d]
    by_cases a:c=48
    ·subst a;simp
    ·simp[a]
   rw[e];clear e d g
   by_cases a:c=48
   ·cases r with
    |nil=>
     simp[f257];refine c2 f ?_;simp[b,a]
    |cons x r=>
     simp[f257];refine c2 f ?_;simp[b,a]
   ·have j:¬(c:Int)=48:=by omega
    simp[f257];refine c2 f ?_;simp[b,a,j]
  ·have d:¬(c::r).all bF=true:=mt g.2 b;have a:(c::r).all bF=false:=by simpa using d
   have e:cS (c::r)=false:=by rw[cS,a];simp
   rw[e];clear e d a g;simp[f257];refine c2 f ?_;simp[b]
theorem YH{a b:Nat}:(decide (jQ (eC a b) 1≠0))=decide (j1 a b≠1):=by
 rw[decide_eq_decide,jQ,eC,ed,ed]
 split
 ·simp;omega
 ·split
  ·simp;omega
  ·simp;omega
theorem DC{s:List Nat}(h:s.all bF=true)(hl:s.length<=700):okW (aM s:Nat):=by
 have a:=jg _ s rfl h;have b:aM s<2^kR:=h8 a (Jx (by have:kR=2800:=rfl;omega));exact hJ (k:=kR) (by rw[ed];exact b) (by have:kB=100000:=rfl;have:kR=2800:=rfl;omega)
theorem yO(s:List Nat)(h:s.length<=1048576)(I:∀c∈s,c<256):az prog 190 [.str s] (.int .i64 (bS s)):=by
 have V:=Wl s;have y:=NK (bQ s) 47 (ih (oD s).1 h);rw[show(bN 47 (bQ s)).1=bA s from rfl,show(bN 47 (bQ s)).2.1=bM s from rfl,show(bN 47 (bQ s)).2.2=dX s from rfl]at y;refine aP nf (i_ func190) mix (by simp[f190]) ?_;simp[f190,-bn];rw[bn];simp[-bn];rw[bn];simp[-bn];refine c2 V ?_;simp[-bn];rw[bn];simp[-bn];refine c2 y ?_;simp[-bn];have Z:=(oD s).1;have q:=sq 47 (bQ s);have ab:(bA s).length<=1048576:=by have:=q.1;rw[bA];omega
 have aa:(bM s).length<=1048576:=by have:=q.2.1;rw[bM];omega
 have U:∀c∈bA s,c<256:=fun c hc=>I c ((oD s).2 c (q.2.2.1 c hc));have T:∀c∈bM s,c<256:=fun c hc=>I c ((oD s).2 c (q.2.2.2 c hc));clear q Z;have X:=LN (bA s) ab U;have W:=LN (bM s) aa T;obtain⟨m,z⟩:∃m,m=(cS (bA s)&&!(bI s&&decide (bA s=[48]))):=⟨_,rfl⟩
 obtain⟨f2,k⟩:∃f2,f2=(m&&(!dX s||(cS (bM s)&&decide (bM s≠[48])&&decide (bM s≠[49])))):=⟨_,rfl⟩
 have J:bS s=if f2=false then 1 else if 600<(bA s).length\/600<(bM s).length then 4 else if dX s=true/\j1 (aM (bA s)) (aM (bM s))≠1 then 1 else 0:=by rw[k,z];rfl
 rw[J];clear J y;generalize dX s=fr at*;refine join (fun s'=>aO s'.env 8=.p (.bool m)/\aO s'.env 7=.p (.bool fr)/\aO s'.env 6=.p (.str (bM s))/\aO s'.env 5=.p (.str (bA s))/\s'.heap=[]) ?_ ?_
 ·simp;refine c1 X ?_;rw[z];cases cS (bA s)
  ·simp
  ·cases bI s
   ·simp
   ·by_cases r:bA s=[48]
    ·simp[r]
    ·simp[r]
 rintro⟨G,Y⟩ ⟨d,f,g,i,t⟩;dsimp only at d f g i t;subst t;refine join (fun s'=>aO s'.env 8=.p (.bool f2)/\aO s'.env 7=.p (.bool fr)/\aO s'.env 6=.p (.str (bM s))/\aO s'.env 5=.p (.str (bA s))/\s'.heap=[]) ?_ ?_
 ·rw[k];cases fr
  ·simp[d,f,g,i]
  ·cases m
   ·simp[d,f,g,i]
   ·simp[d,f,g,i];refine c1 W ?_;cases cS (bM s)
    ·simp[d,f,g,i]
    ·by_cases r:bM s=[48]
     ·simp[d,f,g,i,r]
     ·by_cases L:bM s=[49]
      ·simp[d,f,g,i,L]
      ·simp[d,f,g,i,r,L]
 clear d f g i G;rintro⟨G,Y⟩ ⟨d,f,g,i,t⟩;dsimp only at d f g i t;subst t;have head:∀(n v:Bool),az prog 258 [.seq [.int .i64 (br n 1),.int .i64 (br v 4)]] (.int .i64 (if n=true then 1 else if v=true then 4 else 0)):=fun n v=>by
  have:=WI [br n 1,br v 4] s_;cases n<;>cases v<;>exact this
 have F:=uR (!f2) 1;have P:=uR true 4;have wf:=uR false 4;have H:=head (!f2) true;have S:=head (!f2) false;have M:(600<(bA s).length)↔(600:Int)<((bA s).length:Nat):=o_
 have N:(600<(bM s).length)↔(600:Int)<((bM s).length:Nat):=o_
 by_cases u:(600:Int)<((bA s).length:Nat)
 ·simp[d,f,g,i];refine c2 F ?_;simp[d,f,g,i,u];refine c2 P ?_;simp;refine cp H (by simp;exact⟨rfl,rfl⟩) ?_;cases f2
  ·simp
  ·simp[M.2 u]
 by_cases x:(600:Int)<((bM s).length:Nat)
 ·simp[d,f,g,i];refine c2 F ?_;simp[d,f,g,i,u,x];refine c2 P ?_;simp;refine cp H (by simp;exact⟨rfl,rfl⟩) ?_;cases f2
  ·simp
  ·simp[N.2 x]
 have C:¬600<(bA s).length:=mt M.1 u;have D:¬600<(bM s).length:=mt N.1 x;have O:=uR false 1;have ae:=uR true 1;simp[d,f,g,i];refine c2 F ?_;simp[d,f,g,i,u,x];refine c2 wf ?_;simp;refine cp S (by simp;exact⟨rfl,rfl⟩) ?_;cases f2
 ·simp
 cases fr
 ·simp[d,f,g,i,C,D];refine c2 O ?_;simp[br];exact⟨o_,o_⟩
 have j:cS (bA s)=true/\cS (bM s)=true:=by
  cases Q:cS (bA s)
  ·rw[z,Q]at k;simp at k
  cases R:cS (bM s)
  ·rw[R]at k;simp at k
  exact⟨rfl,rfl⟩
 obtain⟨ac,E⟩:=xZ j.1;obtain⟨ad,n4⟩:=xZ j.2;have r1:=yz (bA s) (by rw[E];exact iY j.1) (by rw[E];omega);have r2:=yz (bM s) (by rw[n4];exact iY j.2) (by rw[n4];omega);rw[ac,E]at r1;rw[ad,n4]at r2;simp only[dp,if_false]at r1 r2;have A:=NG (.mk' (aM (bA s):Nat)) (.mk' (aM (bM s):Nat)) (DC (iY j.1) o_) (DC (iY j.2) o_);rw[NI.iD,NI.iD]at A;have B:=rh 1;rw[KI]at B;have hc:=ND (.mk' (eC (aM (bA s):Nat) (aM (bM s):Nat))) (.mk' 1) (qe (DC (iY j.2) o_) (by rw[NI.iD,eC,ed,ed,ed];exact le _ (uG j.2 (fun e=>by rw[e]at k;simp at k)))) (by rw[okW];decide);rw[NI.iD,NI.iD]at hc;have K:=YH (a:=aM (bA s)) (b:=aM (bM s));generalize jQ (eC (aM (bA s):Nat) (aM (bM s):Nat)) 1=o at*
 by_cases l:j1 (aM (bA s)) (aM (bM s))=1
 ·have w:o=0:=by simpa[l]using K
  simp[d,f,g,i,C,D,l];refine c1 r1 ?_;simp[d,f,g,i];refine c1 r2 ?_;simp;refine c2 A ?_;simp;refine c1 B ?_;simp;refine c2 hc ?_;simp[w];refine c2 O ?_;simp[br];rw[if_neg o_,if_pos l]
 ·have w:¬o=0:=by simpa[l]using K
  simp[d,f,g,i,C,D,l];refine c1 r1 ?_;simp[d,f,g,i];refine c1 r2 ?_;simp;refine c2 A ?_;simp;refine c1 B ?_;simp;refine c2 hc ?_;simp[w];refine c2 ae ?_ (h1:=by simp[w]);simp[br];rw[if_neg o_,if_neg l]
def jt(s:List Nat):Prop:=s.length<=1048576/\∀c∈s,c<256
theorem Wj(l:List (List Nat)):az prog 327 [.seq (l.map .str)] (.func 370 [] [.cq (.seq (l.map .str))]):=by
 refine aP nf (i_ func327) mix (by simp[f327]) ?_;simp[f327];exact bu.refl _
def Dt(s:List Nat):List PV:=[.int .i64 (bS s)]
theorem VV(l:List (List Nat))(hl:l.length<=1000000)(hs:∀s∈l,jt s):Stream prog 370 [] [.cq (.seq (l.map .str))] (l.map Dt):=by
 intro b k c H' hk d o f;refine fU nf (i_ func370) mix (by simp[f370]) ?_;rw[hD]at hk;have g:∀i(h:i<l.length),(l.map Dt)[i]?=some (Dt l[i]):=fun i h=>by rw[hn,gj h];rfl
 simp[f370];refine lp (α:=Nat) (fun i=>⟨[(7,.p (.int .i64 i)),(6,.p (.int .i64 l.length)),(5,.p (.seq (l.map .str))),(0,.map b)],c i⟩) (fun i=>i<=k) (fun i=>l.length-i) 0 s_ ?_ (hr:=by simp;exact(d 0 o_).2) (hr2:=(d 0 o_).1);intro i hi;have n:=b8 (i:=i) o_
 by_cases a:i<l.length
 ·have hc:=yO l[i] (hs _ (g4 a)).1 (hs _ (g4 a)).2;have gR:(i<k/\iw prog b (c i) [.p (.int .i64 (bS l[i]))] (c (i+1)) (.p (.bool true)))\/iw prog b (c i) [.p (.int .i64 (bS l[i]))] H' (.p (.bool false)):=by
   by_cases e:i<k
   ·exact .inl ⟨e,o i _ e (g i a)⟩
   ·have:i=k:=by omega
    subst this;rcases f with⟨e1,_⟩|⟨y,e1,e2⟩
    ·rw[hD]at e1;omega
    ·rw[g i a]at e1;injection e1 with e1;subst e1;exact .inr e2
  simp[a];refine c1 hc ?_;simp;rcases gR with⟨e,hY⟩|hY
  ·refine⟨c (i+1),_,hY,?_⟩;simp[n];exact rd (i+1) e (h1:=o_) (hr:=by simp;exact(d (i+1) o_).2) (hr2:=(d (i+1) o_).1)
  ·refine⟨H',_,hY,?_⟩;simp
 ·have m:i=l.length:=by omega
  have j:k=l.length:=o_
  rcases f with⟨e1,e2⟩|⟨y,e1,e2⟩
  ·simp[a,e2,m,j]
  ·rw[j,List.getElem?_eq_none s_]at e1;cases e1
theorem Bn(p:Nat->Bool):∀n,∃k,k<=n/\(∀j,j<k->p j=true)/\(k=n\/(k<n/\p k=false))
 |0=>⟨0,i4 _,fun j h=>by omega,.inl rfl⟩
 |n+1=>by
  obtain⟨k,f,b,a⟩:=Bn p n;rcases a with a|⟨a,d⟩
  ·subst a;cases c:p k
   ·exact⟨k,o_,b,.inr ⟨o_,c⟩⟩
   ·refine⟨k+1,i4 _,fun j g=>?_,.inl rfl⟩
    by_cases e:j=k
    ·subst e;exact c
    ·exact b j o_
  ·exact⟨k,o_,b,.inr ⟨o_,d⟩⟩
def lR(l:List (List Nat))(i:Nat):Int:=match l[i]? with
 |some s=>bS s
 |none=>0
theorem H8:∀(l:List (List Nat))(k:Nat),(∀j,j<k->lR l j=0)->bZ (l.map bS)=bZ ((l.drop k).map bS)
 |[],k,_=>by simp
 |s::l,0,_=>rfl
 |s::l,k+1,h=>by
  have a:=h 0 o_;have b:bS s=0:=a;rw[g0,bZ,if_pos b,List.drop_succ_cons];exact H8 l k fun j c=>h (j+1) o_
theorem Tb(l:List (List Nat))(hl:l.length<=1000000)(hs:∀s∈l,jt s):az prog 271 [.seq (l.map .str)] (.int .i64 (bZ (l.map bS))):=by
 refine aP nf (i_ func271) mix (by simp[f271]) ?_;simp[f271];refine c1 (Wj l) ?_;simp;have aJ:=VV l hl hs;obtain⟨k,hk,f,c⟩:=Bn (fun i=>decide (lR l i=0)) l.length;have q:∀j,j<k->lR l j=0:=fun j o=>by simpa using f j o
 have d:=H8 l k q;refine rf2 aJ rfl s_ (fun L _=>[.box false (.p (.int .i64 0)),.loop L]) (fun L i=>[.box false (.p (.int .i64 (lR l (i-1)))),.loop (L.dn .ret)]) (fun i=>decide (lR l i=0)) .ret k (by simpa using hk) f (by simpa using c) (fun L=>rfl) ?_ ?_ (fun L=>rfl) ?_ ?_
 ·intro L b i hi;clear b;refine⟨rfl,s_,fun _ hl=>?_⟩;simp at hl⊢;exact hl
 ·intro L b i x hi hx;have r:x=[.int .i64 (lR l i)]:=by
   rw[hn]at hx;unfold lR;cases h:l[i]? with
   |none=>rw[h]at hx;cases hx
   |some s=>rw[h]at hx;injection hx with hx;rw[<-hx];rfl
  subst r;rw[j3];refine Ed nf mix b rfl rfl k_ ?_;have g:=congrArg fo.env b;dsimp only at g;clear b;generalize lR l i=e
  by_cases he:e=0
  ·subst he;simp;exact .inl rfl
  ·simp[he];exact .inl rfl
 ·intro a L;have a:k=l.length:=by simpa using a
  rw[d,a];simp[bZ]
 ·intro a L;have a:k<l.length:=by simpa using a
  have n:¬lR l k=0:=by
   rcases c with t|⟨_,m⟩
   ·omega
   ·simpa using m
  have e1:lR l k=bS l[k]:=by unfold lR;rw[gj a]
  rw[d,g9 a,g0,bZ,<-e1,if_neg n];simp[ki]
structure im where
 x:List Nat
 y:List Nat
def ff(p:im):PV:=.st 81 [.str p.x,.str p.y]
def ru(p:im):Prop:=jt p.x/\jt p.y
def fV(p:im):Int:=bZ [bS p.x,bS p.y]
@[simp] theorem aH9(p:im):aL (ff p)=.agg 81:=rfl
@[simp] theorem aGz(p:im):cA (ff p)=[.str p.x,.str p.y]:=rfl
@[simp] theorem aFD:prog.cellsOf 81=2:=k_
theorem Rv(p:im)(a:ru p):az prog 204 [.seq [ff p]] (.int .i64 (fV p)):=by
 have hc:=Tb [p.x,p.y] s_ (by intro s hs;simp at hs;rcases hs with rfl|rfl;exact a.1;exact a.2);refine aP nf (i_ func204) mix (by simp[f204]) ?_;simp[f204];refine lp (α:=Nat) (fun i=>⟨[(8,.p (.int .i64 i)),(7,.p (.int .i64 1)),(6,.p (.seq [ff p])),(0,.p (.seq [ff p]))],[]⟩) (fun i=>i=0\/(i=1/\fV p=0)) (fun i=>1-i) 0 (.inl rfl) ?_;rintro i h;rcases h with rfl|⟨rfl,h⟩
 ·simp[ad];refine cp hc (by simp;exact⟨rfl,rfl⟩) ?_;have b:eb.wrap 1=1:=rfl;rw[show bZ (hM bS [p.x,p.y])=fV p from rfl]
  by_cases h:fV p=0
  ·simp[h,b];exact rd 1 (.inr ⟨rfl,h⟩)
  ·simp[h]
 ·simp[h]
theorem GF(p:im)(a:ru p):az prog 120 [ff p] (.int .i64 (fV p)):=by
 refine aP nf (i_ func120) mix (by simp[f120]) ?_;simp[f120,ad];refine cp (Rv p a) (by simp;exact⟨rfl,rfl⟩) ?_;simp
open Go.Proofs Go.Proofs.YtfdgnogcckoalaaGreatDoor
section
variable{H:Type}{W:ea}{aa:Nat->Prop}
theorem yV{n:Nat}{d:DataW H}(h:∃cs,aV prog W aa (bD prog (n+1) 73 d) cs)(a:Rows.uptoBulk d<=1048576):∃s:List Nat,bD prog (n+1) 73 d=.str s/\jt s:=by
 obtain⟨cs,h⟩:=h;cases d with
 |lit l=>
  cases l with
  |string bytes=>
   refine⟨bytes.map (·.toNat),by simp only[bD,DV],?_,?_⟩
   ·rw[Rows.uptoBulk]at a;rw[hD];omega
   ·intro c hc;obtain⟨u,_,rfl⟩:=ht.1 hc;exact u.toNat_lt
  |_=>simp only[bD,DV,aV]at h
 |_=>simp only[bD,DV,aV]at h
theorem aEN:∃a b:Field,prog.underlying 82=some (.struct #[a,b])/\a.type=73/\b.type=73:=⟨_,_,underlying82,rfl,rfl⟩
theorem Py:prog.underlyingId 82=81:=k_
theorem UC{m n:Nat}(q:m=n+1){d:DataW H}(h:∃cs,aV prog W aa (bD prog (m+1) 82 d) cs)(e:Rows.uptoBulk d<=1048576):∃p:im,bD prog (m+1) 82 d=ff p/\ru p:=by
 obtain⟨cs,h⟩:=h;obtain⟨f0,f1,i,t0,t1⟩:=aEN;cases d with
 |agg l=>
  have g:∀x∈l,Rows.uptoBulk x<=1048576:=fun x hx=>by
   have:=th.yL hx;rw[Rows.uptoBulk]at e;omega
  simp only[bD,i,aV]at h⊢;obtain⟨t,s,f,c,_⟩:=h;rw[Py,aDY]at f;cases f
  match l,c with
  |[],c=>simp[bc]at c
  |[x],c=>simp[bc]at c
  |x::y::r,c=>
   simp only[List.zip_cons_cons,g0,bc,List.zip_nil_left,hz,t0,t1]at c⊢;obtain⟨c0,_,_,g1,_,c1,_,_,g2,_⟩:=c;subst q;obtain⟨a,j,o⟩:=yV ⟨c0,g1⟩ (g x s_);obtain⟨b,k,e⟩:=yV ⟨c1,g2⟩ (g y s_);exact⟨⟨a,b⟩,by rw[j,k,Py];rfl,o,e⟩
 |_=>simp only[bD,i,aV]at h
theorem RH{n:Nat}{d:DataW H}(h:∃cs,aV prog W aa (bD prog (n+2) 82 d) cs)(a:Rows.uptoBulk d<=1048576):∃p:im,bD prog (n+2) 82 d=ff p/\ru p:=UC rfl h a
end
def bT:Nat:=1000000000
theorem aW:2<=bT:=by decide
def iP(l:List Nat):List PV:=l.map fun x:Nat=>.int .i64 x
theorem Pr(w:List Nat):fc prog 1 (w.map (AV.p∘fun x:Nat=>PV.int .i64 x)):=by
 rw[uk];intro v a;obtain⟨x,_,rfl⟩:=ht.1 a;simp[ad,aL,bB]
def eT(n:Nat):PV:=.seq ((aq bT n).map fun x:Nat=>.int .i64 x)
theorem y7:aq bT 0=[]:=by simp[aq,mI]
theorem nm{n:Nat}(b:0<n)(h:n<bT):aq bT n=[n]:=by
 have a:=jA aW (m:=1) (n:=n) (by rw[la];exact h);rw[<-a,row,h4,g0,hz,ae,js,j5,i0 h];have:=uh [] n o_
 rwa [hZ]at this
theorem uv{n:Nat}:aq bT n=[]↔n=0:=by
 constructor
 ·intro h;have:=ch aW n;rw[h,List.length_nil,js]at this;omega
 ·rintro rfl;exact y7
theorem sL(w:List Nat)(h:w.length<=1048576):az prog 337 [.seq (iP w)] (.seq (iP (dV w))):=by
 refine aP nf (i_ func337) mix (by simp[f337]) ?_;simp only[iP];simp[f337];refine lp (α:=Nat) (fun i=>⟨[(0,.p (.seq ((w.take i).map fun x:Nat=>.int .i64 x)))],[]⟩) (fun i=>i<=w.length/\dV w=dV (w.take i)) (fun i=>i) w.length s_ ?_;rintro i ⟨k1,k2⟩;have hl:(w.take i).length=i:=by rw[g3];omega
 by_cases hi:0<i
 ·obtain⟨j,rfl⟩:∃j,i=j+1:=⟨i-1,o_⟩
  have f:eb.wrap (j:Int)=j:=aN _ o_ o_;have a:j<w.length:=o_
  have e:(0:Int)<(j:Int)+1:=o_
  have k3:=k2;rw[g7 a]at k2;have c:min (j+1) w.length=j+1:=o_
  have d:min ((j:Int)+1) (w.length:Int)=j+1:=o_
  have g:¬w=[]:=by rintro rfl;simp at a
  by_cases b:w[j]=0
  ·rw[b,AG]at k2;simp[e,f,a,b,c,d,g];refine⟨by rw[<-ha];exact Pr _,?_⟩;refine rd j ⟨o_,k2⟩ (he:=?_);rw[<-ha,<-ha,hF,lw o_];simp
  ·rw[uh _ _ b,<-g7 a]at k2;simp[e,f,a,b,c,d,g];rw[k2,ha];exact bu.refl _
 ·obtain rfl:i=0:=by omega
  simp[dV]at k2;simp[k2]
def eG(z:Int):PV:=.st 290 [.bool (decide (z<0)),eT z.natAbs]
@[simp] theorem aHZ(z:Int):aL (eG z)=.agg 290:=rfl
@[simp] theorem aGv(z:Int):cA (eG z)=[.bool (decide (z<0)),eT z.natAbs]:=rfl
@[simp] theorem aIe(n:Nat):aL (eT n)=.leaf:=rfl
theorem BA(neg:Bool)(w:List Nat)(n:Nat)(c:dV w=aq bT n)(h:w.length<=1048576):az prog 284 [.bool neg,.seq (iP w)] (eG (if neg=true then -(n:Int)else n)):=by
 have a:=sL w h;rw[c]at a;refine aP nf (i_ func284) mix (by simp[f284]) ?_;have b:(if neg=true then -(n:Int)else n).natAbs=n:=by cases neg<;>simp
 rw[eG,b,eT];have d:=uv (n:=n);have e:decide ((if neg=true then -(n:Int)else n)<0)=(neg&&decide (0<(aq bT n).length)):=by
  cases neg
  ·simp
  ·simp;rw[gm,Ne,d];omega
 rw[e];simp only[iP]at a⊢;generalize aq bT n=x at*;cases neg
 ·simp[f284];refine c1 a ?_;simp[ad]
 ·simp[f284];refine c1 a ?_;simp[ad]
  done
theorem Hv{a b:Nat}(h:(aq bT a).length<(aq bT b).length):a<b:=by
 have d:=ch aW a;rcases i1 a b with c|c
 ·exact c
 ·have:=dJ aW (aq bT a).length b (ii c d);omega
theorem HF{a b i:Nat}(h:a/bT^(i+1)=b/bT^(i+1))(e:ae bT a i<ae bT b i):a<b:=by
 rw[ix,<-i2,<-i2]at h;have e1:=i5 (a/bT^i) bT;have e2:=i5 (b/bT^i) bT;rw[ae,ae]at e;rw[h]at e1;rcases i1 a b with d|d
 ·exact d
 ·have:=Nat.div_le_div_right (c:=bT^i) d;omega
theorem Vl{a b i:Nat}(h:a/bT^(i+1)=b/bT^(i+1))(c:ae bT a i=ae bT b i):a/bT^i=b/bT^i:=by
 rw[ix,<-i2,<-i2]at h;have e1:=i5 (a/bT^i) bT;have e2:=i5 (b/bT^i) bT;rw[ae,ae]at c;rw[h]at e1;omega
theorem HL(a b:Nat)(D:(aq bT a).length<=1048576)(E:(aq bT b).length<=1048576):az prog 298 [eT a,eT b] (.int .i64 (fH a b)):=by
 refine aP nf (i_ func298) mix (by simp[f298]) ?_
 by_cases hl:(aq bT a).length=(aq bT b).length
 case neg=>
  have o:¬((aq bT a).length:Int)=(aq bT b).length:=o_
  by_cases z:(aq bT a).length<(aq bT b).length
  ·have l:((aq bT a).length:Int)<(aq bT b).length:=by omega
   have:=Hv z;have hc:fH a b= -1:=if_pos this;simp[f298,eT,o,l,hc]
  ·have l:¬((aq bT a).length:Int)<(aq bT b).length:=by omega
   have:=Hv (a:=b) (b:=a) o_;have hc:fH a b=1:=by rw[fH,if_neg o_,if_pos this]
   simp[f298,eT,o,l,hc]
 have s:∀i(h:i<(aq bT a).length),(aq bT a)[i]?=some (ae bT a i):=fun i h=>by rw[gj h,eh aW h]
 have u:∀i(h:i<(aq bT b).length),(aq bT b)[i]?=some (ae bT b i):=fun i h=>by rw[gj h,eh aW h]
 have t:∀i(h:i<(aq bT a).length),(aq bT a)[i]=ae bT a i:=fun i h=>eh aW h;have v:∀i(h:i<(aq bT b).length),(aq bT b)[i]=ae bT b i:=fun i h=>eh aW h;have r:=ch aW a;have n:=ch aW b;rw[<-hl]at n;have w:a/bT^(aq bT a).length=b/bT^(aq bT a).length:=by rw[jp r,jp n]
 simp only[eT];generalize aq bT a=x at*;generalize aq bT b=y at*;have C:eb.wrap ((y.length:Int)-1)=y.length-1:=aN _ o_ o_;simp[f298,hl,C];refine lp (α:=Nat) (fun i=>⟨[(5,.p (.int .i64 ((i:Int)-1))),(1,.p (.seq (y.map fun x:Nat=>.int .i64 x))),(0,.p (.seq (x.map fun x:Nat=>.int .i64 x)))],[]⟩) (fun i=>i<=y.length/\a/bT^i=b/bT^i) (fun i=>i) y.length ⟨i4 _,by rw[<-hl];exact w⟩ ?_;rintro i ⟨k1,k2⟩
 by_cases hi:0<i
 ·obtain⟨j,rfl⟩:∃j,i=j+1:=⟨i-1,o_⟩
  have c:j<x.length:=o_
  have d:j<y.length:=o_
  have B:eb.wrap ((j:Int)-1)=j-1:=aN _ o_ o_;have e:=s j c;have g:=u j d;have f:=t j c;have k:=v j d
  by_cases hq:ae bT a j=ae bT b j
  ·simp[c,d,e,g,f,k,hq,B];exact rd j ⟨o_,Vl k2 hq⟩
  ·have q:¬(ae bT a j:Int)=ae bT b j:=by omega
   by_cases m:ae bT a j<ae bT b j
   ·have:=HF k2 m;have hc:fH a b= -1:=if_pos this;simp[c,d,e,g,f,k,q,m,hc]
   ·have:=HF k2.symm (show ae bT b j<ae bT a j by omega);have A:ae bT b j<ae bT a j:=by omega
    have hc:fH a b=1:=by rw[fH,if_neg o_,if_pos this]
    simp[c,d,e,g,f,k,q,m,A,hc]
 ·obtain rfl:i=0:=by omega
  rw[js,j5,j5]at k2;have hc:fH a b=0:=by rw[fH,if_neg o_,if_neg o_]
  simp[hc]
theorem V8{n i:Nat}(h:(aq bT n).length<=i):ae bT n i=0:=jz (h8 (ch aW n) (h7 (by decide) h))
theorem Co(a i:Nat):az prog 345 [eT a,.int .i64 i] (.int .i64 (ae bT a i:Nat)):=by
 refine aP nf (i_ func345) mix (by simp[f345]) ?_
 by_cases h:i<(aq bT a).length
 ·have b:(aq bT a)[i]=ae bT a i:=eh aW h;rw[eT,<-b];generalize aq bT a=x at*;simp[f345,h]
 ·rw[V8 o_,eT];generalize aq bT a=x at*;simp[f345,h]
def dS(i n:Nat):List AV:=(gt i).map fun j=>.p (.int .i64 (ae bT n j:Nat))
theorem pU(i n:Nat):dS (i+1) n=dS i n++[.p (.int .i64 (ae bT n i:Nat))]:=by
 rw[dS,hC,h3];rfl
theorem iv(i n:Nat):(dS i n).length=i:=by simp[dS]
@[simp] theorem aHN{N:Nat×Nat->Prop}{n i:Nat}:aR N (dS i n)=True:=by
 rw[cH,eq_iff_iff,iff_true];intro v a;simp only[dS,ht]at a;obtain⟨x,_,rfl⟩:=a;trivial
theorem KD(i n:Nat):eH (dS i n)=some ((row bT i n).map fun x:Nat=>.int .i64 x):=by
 have:dS i n=(row bT i n).map (AV.p∘fun x:Nat=>PV.int .i64 x):=by
  rw[dS,row,hK];rfl
 rw[this];exact I4
theorem LW(i n:Nat):dS i n=(row bT i n).map (AV.p∘fun x:Nat=>PV.int .i64 x):=by
 rw[dS,row,hK];rfl
theorem Wt{n i:Nat}(h:n<bT^i)(a:i=0\/bT^(i-1)<=n):row bT i n=aq bT n:=by
 have hl:(aq bT n).length=i:=by
  have b:=dJ aW i n h;rcases a with rfl|a
  ·omega
  ·have:=H9 aW a;omega
 have:=Yb aW n;rw[hl]at this;exact this.symm
theorem W5(a b:Nat)(I:(aq bT a).length<=1000000)(J:(aq bT b).length<=1000000):az prog 297 [eT a,eT b] (eT (a+b)):=by
 refine aP nf (i_ func297) mix (by simp[f297]) ?_;have v:=ch aW a;have w:=ch aW b;have C:∀i,i<(aq bT a).length->bT^i<=a:=fun i h=>by
  rcases i1 a (bT^i)with c|c
  ·have:=dJ aW i a c;omega
  ·exact c
 have D:∀i,i<(aq bT b).length->bT^i<=b:=fun i h=>by
  rcases i1 b (bT^i)with c|c
  ·have:=dJ aW i b c;omega
  ·exact c
 have A:∀i,0<df bT a b i->bT^i<=a+b:=fun i h=>by
  rw[df]at h;have c:bT^i<=a% bT^i+b% bT^i:=by
   rcases i1 (a% bT^i+b% bT^i) (bT^i)with d|d
   ·rw[jp d]at h;omega
   ·exact d
  have:=m3 a (bT^i);have:=m3 b (bT^i);omega
 have f:=fun i=>Co a i;have g:=fun i=>Co b i;have B:∀i,(aq bT a).length<=i->(aq bT b).length<=i->df bT a b i=0->a+b<bT^i:=fun i c d s=>by
  have l:=h8 v (h7 (show 0<bT by decide) c);have m:=h8 w (h7 (show 0<bT by decide) d);rw[df,i0 l,i0 m]at s;rcases i1 (a+b) (bT^i)with e|e
  ·exact e
  ·have:=km e (i6 (show 0<bT by decide));omega
 have E:∃M,M=max (aq bT a).length (aq bT b).length:=⟨_,rfl⟩
 obtain⟨M,H⟩:=E;simp only[eT]at f g⊢;have F:=fun i h d=>Wt (n:=a+b) (i:=i) h d;generalize aq bT (a+b)=z at*;generalize aq bT a=x at*;generalize aq bT b=y at*;simp[f297];refine lp (α:=Nat) (fun i=>⟨[(7,.p (.int .i64 i)),(6,.p (.int .i64 (df bT a b i:Nat))),(5,.sl 0 i 1 0 i),(1,.p (.seq (y.map fun x:Nat=>.int .i64 x))),(0,.p (.seq (x.map fun x:Nat=>.int .i64 x)))],[.arr .grow i 1 (dS i (a+b))]⟩)
  (fun i=>i<=M+1/\(i=0\/bT^(i-1)<=a+b)) (fun i=>M+1-i) 0 ⟨o_,.inl rfl⟩ ?_ (he:=by simp[xc,dS]) (hh:=by simp[dS])
 rintro i ⟨k1,k2⟩;have o:=b8 (i:=i) o_;have K:=lC aW a b i;obtain⟨l,m⟩:=pP aW a b i;have N:=cj aW a i;have O:=cj aW b i;have t:bT=1000000000:=rfl;have q:eb.wrap ((ae bT a i:Int)+ae bT b i)=ae bT a i+ae bT b i:=aN _ o_ o_;have r:eb.wrap ((ae bT a i:Int)+ae bT b i+df bT a b i)=ae bT a i+ae bT b i+df bT a b i:=aN _ o_ o_;have d1:((ae bT a i:Int)+ae bT b i+df bT a b i).tmod 1000000000=(ae bT (a+b) i:Nat):=by
  rw[ee o_,<-l,t];omega
 have d2:((ae bT a i:Int)+ae bT b i+df bT a b i).tdiv 1000000000=(df bT a b (i+1):Nat):=by
  rw[ej o_,<-m,t];omega
 have d3:eb.wrap (df bT a b (i+1):Nat)=(df bT a b (i+1):Nat):=by have:=lC aW a b (i+1);exact aN _ o_ o_
 have j:g6 i (dS i (a+b))=dS i (a+b):=gl (by rw[iv];exact i4 _)
 by_cases hx:i<x.length
 ·simp[hx];refine c2 (f i) ?_;simp;refine c2 (g i) ?_;simp[q,r,d1,d2,d3,iv,j,<-pU];refine⟨by simp only[cF];omega,?_⟩;refine rd (i+1) ⟨o_,.inr (by rw[j3];exact ih (C i hx) o_)⟩ o_ (he:=by simp[o])
 by_cases k:i<y.length
 ·simp[hx,k];refine c2 (f i) ?_;simp;refine c2 (g i) ?_;simp[q,r,d1,d2,d3,iv,j,<-pU];refine⟨by simp only[cF];omega,?_⟩;refine rd (i+1) ⟨o_,.inr (by rw[j3];exact ih (D i k) o_)⟩ o_ (he:=by simp[o])
 by_cases hc:0<df bT a b i
 ·have L:i=M:=by
   rcases i1 M i with h|h
   ·have e0:=pP aW a b M;have c:ae bT a M=0:=jz (h8 v (h7 (by decide) o_));have d:ae bT b M=0:=jz (h8 w (h7 (by decide) o_));have s:=lC aW a b M;have e:i=M+1:=by omega
    subst e;rw[c,d]at e0;rw[<-e0.2,jp o_]at hc;omega
   ·omega
  simp[hx,k,hc];refine c2 (f i) ?_;simp;refine c2 (g i) ?_;simp[q,r,d1,d2,d3,iv,j,<-pU];refine⟨by simp only[cF];omega,?_⟩;refine rd (i+1) ⟨o_,.inr (by rw[j3];exact A i hc)⟩ o_ (he:=by simp[o])
 ·have u:df bT a b i=0:=by omega
  have G:=F i (B i o_ o_ u) k2;rw[<-G];simp[hx,k,u];refine⟨by rw[iv];exact i4 _,?_⟩;rw[j,LW];simp
theorem LL(a b:Nat)(A:b<=a)(F:(aq bT a).length<=1000000):az prog 299 [eT a,eT b] (eT (a-b)):=by
 refine aP nf (i_ func299) mix (by simp[f299]) ?_;have D:=ch aW a;have j:=fun i=>Co b i;have B:∀i(h:i<(aq bT a).length),(aq bT a)[i]?=some (ae bT a i):=fun i h=>by rw[gj h,eh aW h]
 have C:∀i(h:i<(aq bT a).length),(aq bT a)[i]=ae bT a i:=fun i h=>eh aW h;have E:dV (row bT (aq bT a).length (a-b))=aq bT (a-b):=jA aW (ii (l0 a b) D);have e:=sL (row bT (aq bT a).length (a-b)) (by rw[K6];omega);rw[E]at e;simp only[eT]at j⊢;simp only[iP]at e;generalize aq bT (a-b)=z at*;generalize aq bT a=x at*;generalize aq bT b=y at*;simp[f299];refine lp (α:=Nat) (fun i=>⟨[(7,.p (.int .i64 i)),(6,.p (.int .i64 (fa bT a b i:Nat))),(5,.sl 0 i 1 0 i),(1,.p (.seq (y.map fun x:Nat=>.int .i64 x))),(0,.p (.seq (x.map fun x:Nat=>.int .i64 x)))],[.arr .grow i 1 (dS i (a-b))]⟩)
  (fun i=>i<=x.length) (fun i=>x.length-i) 0 s_ ?_ (he:=by simp[AF,dS]) (hh:=by simp[dS])
 intro i k1;have s:=b8 (i:=i) o_;have r:g6 i (dS i (a-b))=dS i (a-b):=gl (by rw[iv];exact i4 _);have G:bT=1000000000:=rfl;have J:=cj aW a i;have K:=cj aW b i;have L:=cj aW (a-b) i;have M:fa bT a b i<=1:=by rw[fa];split<;>omega
 have u:eb.wrap ((ae bT a i:Int)-ae bT b i)=ae bT a i-ae bT b i:=aN _ o_ o_;have n:eb.wrap ((ae bT a i:Int)-ae bT b i-fa bT a b i)=ae bT a i-ae bT b i-fa bT a b i:=aN _ o_ o_
 by_cases hx:i<x.length
 ·have o:=B i hx;have q:=C i hx;rcases Jy aW A i with⟨v,g,w⟩|⟨v,g,w⟩
  ·have m:(ae bT a i:Int)-ae bT b i-fa bT a b i<0:=by omega
   have f:eb.wrap ((ae bT a i:Int)-ae bT b i-fa bT a b i+1000000000)=(ae bT (a-b) i:Nat):=by rw[aN _ o_ o_];omega
   simp[hx,o,q];refine e2 (j i) ?_;simp[u,n,m,f,iv,r,<-pU];refine⟨by simp only[cF];omega,?_⟩;refine rd (i+1) hx (he:=by simp[s,g])
  ·have m:¬(ae bT a i:Int)-ae bT b i-fa bT a b i<0:=by omega
   have f:(ae bT a i:Int)-ae bT b i-fa bT a b i=(ae bT (a-b) i:Nat):=o_
   rw[f]at m n;simp[hx,o,q];refine e2 (j i) ?_;simp[u,n,f,iv,r,<-pU];refine⟨by simp only[cF];omega,?_⟩;refine rd (i+1) hx (he:=by simp[s,g])
 ·have:i=x.length:=by omega
  subst this;have k:=LW x.length (a-b);have d:(row bT x.length (a-b)).length=x.length:=K6;generalize row bT x.length (a-b)=l at e k d;have H:g6 x.length l=l:=gl o_;rcases l with _|⟨c,t⟩
  ·simp at d;simp[k];refine cp e (by simp[<-d];exact⟨rfl,rfl⟩) ?_;simp
  ·have I:g6 x.length (PV.int .i64 c::hM (fun x:Nat=>PV.int .i64 x) t)=PV.int .i64 c::hM (fun x:Nat=>PV.int .i64 x) t:=gl (by simp at d⊢;omega);simp at d;simp[k];refine cp e (by simp[<-d];exact⟨rfl,rfl⟩) ?_;simp
def di(n:Nat)(f:Nat->Nat):List AV:=(gt n).map fun j=>.p (.int .i64 (f j:Nat))
theorem uI(n:Nat)(f:Nat->Nat):(di n f).length=n:=by simp[di]
theorem JC(n:Nat):gx n (AV.p (.int .i64 0))=di n fun _=>0:=by
 apply hp (by simp[di]);intro i a b;simp[di]
theorem sB{n j:Nat}(f:Nat->Nat)(h:j<n):(di n f)[j]?=some (.p (.int .i64 (f j:Nat))):=by
 rw[di,hn,hv h];rfl
theorem BW{n i:Nat}(f g:Nat->Nat)(h:∀j,j<n->j≠i->g j=f j):(di n f).set i (.p (.int .i64 (g i:Nat)))=di n g:=by
 apply hp (by simp[di]);intro j c b;rw[uI]at b;rw[hW];simp only[di,hg,hb]
 by_cases a:i=j
 ·subst a;rw[if_pos rfl]
 ·rw[if_neg a,h j b (fun e=>a e.symm)]
@[simp] theorem aHM{N:Nat×Nat->Prop}{n:Nat}{f:Nat->Nat}:aR N (di n f)=True:=by
 rw[cH,eq_iff_iff,iff_true];intro v a;simp only[di,ht]at a;obtain⟨x,_,rfl⟩:=a;trivial
theorem xT{n:Nat}{f g:Nat->Nat}(h:∀j,j<n->f j=g j):di n f=di n g:=by
 rw[di,di];apply hN;intro j a;rw[h j (h5.1 a)]
theorem Br(n:Nat)(f:Nat->Nat):di n f=((gt n).map f).map (AV.p∘fun x:Nat=>PV.int .i64 x):=by
 rw[di,hK];rfl
theorem TV{n:Nat}{f:Nat->Nat}(h:∀j,f j=0):gx n (AV.p (.int .i64 0))=di n f:=by
 rw[JC];exact xT fun j _=>(h j).symm
theorem CW(a b:Nat)(w:(aq bT a).length+(aq bT b).length<=1000000):az prog 300 [eT a,eT b] (eT (a*b)):=by
 refine aP nf (i_ func300) mix (by simp[f300]) ?_;have L:∀i(h:i<(aq bT a).length),(aq bT a)[i]=ae bT a i:=fun i h=>eh aW h;have M:∀i(h:i<(aq bT b).length),(aq bT b)[i]=ae bT b i:=fun i h=>eh aW h;have t:=ch aW a;have e:=ch aW b;have S:dV ((gt ((aq bT a).length+(aq bT b).length)).map (ae bT (a*b)))=aq bT (a*b):=jA aW (by
  rw[j4];exact j9 t e)
 have c:=sL ((gt ((aq bT a).length+(aq bT b).length)).map (ae bT (a*b))) (by simp;omega);rw[S]at c;have A:bT=1000000000:=rfl;simp only[eT];simp only[iP]at c;generalize aq bT (a*b)=z at*;generalize aq bT a=x at*;generalize aq bT b=y at*;obtain⟨n,d⟩:∃n,x.length=n:=⟨_,rfl⟩
 obtain⟨m,g⟩:∃m,y.length=m:=⟨_,rfl⟩
 rw[d]at t c w;rw[g]at e c w;have B:=Br (n+m) (ae bT (a*b));have u:((gt (n+m)).map (ae bT (a*b))).length=n+m:=s_
 generalize (gt (n+m)).map (ae bT (a*b))=l at c B u;have R:((n:Int)+m).toNat=n+m:=o_
 have Q:0<=(n:Int)+m:=o_
 have W:eb.wrap ((n:Int)+m)=(n:Int)+m:=aN _ o_ o_;simp[f300,d,g,W,R,Q];refine⟨by simp only[cF];omega,?_⟩;rw[TV (f:=dh bT a b 0 0) (by intro j;simp[oJ,m1,ae])];refine lp (α:=Nat) (fun i=>⟨[(6,.p (.int .i64 i)),(5,.sl 0 0 1 0 (n+m)),(1,.p (.seq (y.map fun x:Nat=>.int .i64 x))),(0,.p (.seq (x.map fun x:Nat=>.int .i64 x)))],[.arr .exact 0 1 (di (n+m) (dh bT a b i 0))]⟩)
  (fun i=>i<=n) (fun i=>n-i) 0 s_ ?_ (he:=s_)
 intro i k1;have T:=b8 (i:=i) o_
 by_cases hi:i<n
 ·have r:i<x.length:=by rw[d];exact hi
  have hx:=L i r;have Y:x[i]?=some (ae bT a i):=by rw[gj r,hx]
  simp[d,hi];refine lp (α:=Nat) (fun j=>⟨[(8,.p (.int .i64 j)),(7,.p (.int .i64 (mulC bT a b i j:Nat))),(6,.p (.int .i64 i)),(5,.sl 0 0 1 0 (n+m)),(1,.p (.seq (y.map fun x:Nat=>.int .i64 x))),(0,.p (.seq (x.map fun x:Nat=>.int .i64 x)))],[.arr .exact 0 1 (di (n+m) (dh bT a b i j))]⟩)
   (fun j=>j<=m) (fun j=>m-j) 0 s_ ?_ (he:=by simp[A3])
  intro j k2;have V:=b8 (i:=j) o_;have H:((i:Int)+j).toNat=i+j:=o_
  have G:0<=(i:Int)+j:=o_
  have U:eb.wrap ((i:Int)+j)=(i:Int)+j:=aN _ o_ o_
  by_cases F:j<m
  ·have s:j<y.length:=by rw[g];exact F
   have I:=M j s;have Z:y[j]?=some (ae bT b j):=by rw[gj s,I]
   have E:i+j<n+m:=o_
   have q:=sB (dh bT a b i j) E;have o:=BI aW a b i j;have ah:=sF aW a b i j;have v:=sF aW a b i (j+1);have ai:dh bT a b i j (i+j)<bT:=by rw[dh];split<;>exact cj aW _ _
   have am:=cj aW a i;have an:=cj aW b j;have hs:=BW (n:=n+m) (i:=i+j) (dh bT a b i j) (dh bT a b i (j+1)) (fun k _ hk=>IB aW hk);rw[Kb]at hs;rw[<-o.1]at hs;have al:ae bT a i*ae bT b j<=999999999*999999999:=kv o_ o_;rw[<-o.2]at v;have J:=o.2;clear o;have K:((ae bT a i:Int)*(ae bT b j:Int))=((ae bT a i*ae bT b j:Nat):Int):=by push_cast;rfl
   generalize ae bT a i*ae bT b j=P at*;generalize dh bT a b i j (i+j)=O at*;generalize ak:mulC bT a b i j=C at*;have ab:eb.wrap ((ae bT a i:Int)*(ae bT b j:Int))=P:=by rw[K];exact aN _ o_ o_
   have ac:eb.wrap ((O:Int)+P)=O+P:=aN _ o_ o_;have af:eb.wrap ((O:Int)+P+C)=O+P+C:=aN _ o_ o_;have d1:((O:Int)+P+C).tmod 1000000000=((P+O+C)% bT:Nat):=by
    rw[ee o_,A];omega
   generalize (P+O+C)% bT=D at*;have d2:((O:Int)+P+C).tdiv 1000000000=(mulC bT a b i (j+1):Nat):=by
    rw[ej o_,<-J,A];omega
   have d3:eb.wrap ((mulC bT a b i (j+1):Nat):Int)=(mulC bT a b i (j+1):Nat):=aN _ o_ o_;simp[d,g,F,U,H,G,E,q,hx,Y,I,Z,r,s,ab,ac,af,d1,d2,d3,hs,ad];exact rd (j+1) (show j+1<=m by omega) (he:=by simp[V])
  have:j=m:=o_
  subst this;have X:eb.wrap ((i:Int)+j)=(i:Int)+j:=aN _ o_ o_;have aj:i+j<n+j:=o_
  have aa:dh bT a b i j (i+j)=0:=by
   rw[dh,if_neg o_];exact jz (uK aW a i e)
  have q:=sB (dh bT a b i j) aj;rw[aa]at q;have hs:=BW (n:=n+j) (i:=i+j) (dh bT a b i j) (dh bT a b (i+1) 0) (fun k _ hk=>by rw[oJ,Kc aW e hk]);rw[oJ,<-G9 aW e]at hs;have v:=sF aW a b i j;have ag:eb.wrap ((mulC bT a b i j:Nat):Int)=(mulC bT a b i j:Nat):=aN _ o_ o_;simp[g,X,H,G,hi,aj,q,hs,ag,ad];exact rd (i+1) (show i+1<=n by omega) (he:=by simp[T])
 have:i=n:=o_
 subst this;have N:di (i+m) (dh bT a b i 0)=di (i+m) (ae bT (a*b)):=xT fun k _=>by rw[oJ,i0 t]
 simp[d,N,B];refine cp c (by simp[u];exact⟨rfl,rfl⟩) ?_ (h1:=by simp[gl,u]);simp
theorem Uv{a b i:Nat}(c:0<b):(a/bT^(i+1)% b*bT+ae bT a i)/b=ae bT (a/b) i/\(a/bT^(i+1)% b*bT+ae bT a i)% b=a/bT^i% b:=by
 have e:=rQ (B:=bT) a i;have g:=i5 (a/bT^(i+1)) b;have f:a/bT^i=(a/bT^(i+1)% b*bT+ae bT a i)+a/bT^(i+1)/b*bT*b:=by
  rw[e];generalize ae bT a i=d;generalize a/bT^(i+1)/b=Q at*;generalize a/bT^(i+1)% b=R at*;rw[<-g,j2,h9 b,ln Q b bT];omega
 have j:(a/bT^(i+1)% b*bT+ae bT a i)/b<bT:=by
  rw[iz c];have k:=cj aW a i;have h:=ip bT (show a/bT^(i+1)% b+1<=b from i7 _ c);rw[j2,j7]at h;rw[h9 bT];omega
 constructor
 ·conv=>rhs;rw[ae,i2,h9 b,<-i2,f,Nat.add_mul_div_right _ _ c,l1,i0 j]
 ·rw[f,l1]
theorem y8(r x:Nat):(r:Int)*1000000000+x=((r*bT+x:Nat):Int):=by
 rw[fv,eq];rfl
def qT(Q i k:Nat):Nat:=if i<=k then ae bT Q k else 0
theorem CL{m Q i:Nat}:(di m (qT Q (i+1))).set i (.p (.int .i64 (ae bT Q i:Nat)))=di m (qT Q i):=by
 have:=BW (n:=m) (i:=i) (qT Q (i+1)) (qT Q i) (fun k _ hk=>by
  rw[qT,qT]
  by_cases h:i<=k
  ·rw[if_pos h,if_pos o_]
  ·rw[if_neg h,if_neg o_])
 rw[<-this,qT,if_pos (i4 _)]
theorem K9{m Q:Nat}:di m (qT Q 0)=di m (ae bT Q):=xT fun k _=>by rw[qT,if_pos (j6 _)]
theorem La{m Q:Nat}:gx m (AV.p (.int .i64 0))=di m (qT Q m):=by
 rw[JC];exact xT fun k hk=>by rw[qT,if_neg o_]
theorem LK{m N:Nat}(h:N<bT^m)(b:m<=1048576):∃l:List Nat,l.length=m/\di m (ae bT N)=l.map (AV.p∘fun x:Nat=>PV.int .i64 x)/\az prog 337 [.seq (iP l)] (eT N):=by
 refine⟨(gt m).map (ae bT N),s_,Br m _,?_⟩;have a:=sL ((gt m).map (ae bT N)) (by simp;omega);rw[show dV ((gt m).map (ae bT N))=aq bT N from jA aW h]at a;exact a
theorem HK(a d:Nat)(u:0<d)(R:d<bT)(hl:(aq bT a).length<=1000000):az prog 336 [eT a,.int .i64 d] (.aE [eT (a/d),.int .i64 (a% d:Nat)]):=by
 refine aP nf (i_ func336) mix (by simp[f336]) ?_;have H:∀i(h:i<(aq bT a).length),(aq bT a)[i]=ae bT a i:=fun i h=>eh aW h;have w:=ch aW a;obtain⟨l,o,y,g⟩:=LK (m:=(aq bT a).length) (N:=a/d) (ii (kk _ _) w) o_;have j:a/bT^(aq bT a).length% d=0:=by rw[jp w,Nat.zero_mod]
 have A:a/bT^0% d=a% d:=by rw[js,j5]
 have P:bT=1000000000:=rfl;simp only[eT]at g⊢;simp only[iP]at g;generalize aq bT (a/d)=U at*;generalize aq bT a=x at*;obtain⟨n,q⟩:∃n,x.length=n:=⟨_,rfl⟩
 rw[q]at o y j hl;generalize T:a% d=rem at*;obtain⟨f,hf⟩:∃f:Nat->Nat,∀i,a/bT^i% d=f i:=⟨_,fun _=>rfl⟩
 have z:=fun i=>Uv (a:=a) (b:=d) (i:=i) u;have v:∀i,f i<d:=fun i=>by rw[<-hf];exact i7 _ u
 simp only[hf]at j A z;have C:eb.wrap ((n:Int)-1)=n-1:=aN _ o_ o_;simp[f336,q,C];refine⟨by simp only[cF];omega,?_⟩;rw[La (Q:=a/d)];refine lp (α:=Nat) (fun i=>⟨[(8,.p (.int .i64 ((i:Int)-1))),(7,.p (.int .i64 (f i:Nat))),(6,.sl 0 0 1 0 n),(1,.p (.int .i64 d)),(0,.p (.seq (x.map fun x:Nat=>.int .i64 x)))],[.arr .exact 0 1 (di n (qT (a/d) i))]⟩)
  (fun i=>i<=n) (fun i=>i) n (i4 _) ?_ (he:=by simp[j])
 intro i k1
 by_cases hi:0<i
 ·obtain⟨k,rfl⟩:∃k,i=k+1:=⟨i-1,o_⟩
  have D:eb.wrap ((k:Int)-1)=k-1:=aN _ o_ o_;have r:k<x.length:=o_
  have hx:=H k r;have J:x[k]?=some (ae bT a k):=by rw[gj r,hx]
  obtain⟨r1,r2⟩:=z k;have aJ:=CL (m:=n) (Q:=a/d) (i:=k);have gk:=sB (qT (a/d) (k+1)) (show k<n by omega);have I:k<n:=o_
  have M:=v (k+1);have S:=cj aW a k;have hq:=cj aW (a/d) k;have O:=v k;generalize f (k+1)=c at*;generalize E:f k=B at*;generalize ae bT a k=e at*;generalize ae bT (a/d) k=s at*;have K:eb.wrap ((c:Int)*1000000000)=c*1000000000:=aN _ o_ o_;have L:eb.wrap ((c:Int)*1000000000+e)=c*1000000000+e:=aN _ o_ o_;have t:(c:Int)*1000000000+e=((c*bT+e:Nat):Int):=y8 c e;have d1:((c:Int)*1000000000+e).tdiv d=s:=by
   rw[t,ej (ei _),<-et,r1]
  have d2:((c:Int)*1000000000+e).tmod d=B:=by
   rw[t,ee (ei _),<-eo,r2]
  have d3:eb.wrap (s:Int)=s:=aN _ o_ o_;have F:¬(d:Int)=0:=o_
  have G:¬d=0:=o_
  simp[q,D,hx,J,I,r,K,L,d1,d2,d3,F,G,gk,aJ,ad];exact rd k (show k<=n by omega) (he:=by simp[E])
 ·obtain rfl:i=0:=by omega
  simp[K9,y,A];refine cp g (by simp[o];exact⟨rfl,rfl⟩) ?_ (h1:=by simp[gl,o]);simp
def ky(a b c:Nat):Nat->Nat->Nat
 |0,_=>0
 |t+1,r=>if bT<=t+1\/r*bT+c<(t+1)*b then(if bT<=r+a then t else ky a b c t (r+a))else t+1
theorem YL{a b c t r:Nat}(h:0<t):ky a b c t r=if bT<=t\/r*bT+c<t*b then(if bT<=r+a then t-1 else ky a b c (t-1) (r+a))else t:=by
 cases t with
 |zero=>exact absurd h (Nat.lt_irrefl 0)
 |succ t=>rw[ky,j3]
theorem Iz{a b:Nat}(c:a<bT)(d:b<bT):eb.wrap ((a:Int)*b)=(a:Int)*b:=by
 have e:a*b<=999999999*999999999:=kv (by simp only[bT]at c;omega) (by simp only[bT]at d;omega);rw[<-eq];generalize a*b=P at*;exact aN _ o_ o_
theorem Pw{a b r w:Nat}:(r:Int)*1000000000+w<(a:Int)*b↔r*bT+w<a*b:=by
 rw[y8,<-eq];exact Int.ofNat_lt
theorem zj{r v:Nat}:(1000000000:Int)<=(r:Int)+v↔bT<=r+v:=by simp only[bT];omega
theorem Od{t:Nat}:(1000000000:Int)<=(t:Int)↔bT<=t:=by simp only[bT];omega
theorem aDR{t:Nat}(h:0<t)(a:t<=bT+1):eb.wrap ((t:Int)-1)=((t-1:Nat):Int):=by
 simp only[bT]at a;rw[aN _ o_ o_];omega
theorem M7{a v2 b c w2 Q:Nat}(w:bT<=2*a)(x:a<bT)(o:b<=a)(y:c<bT)(v:Q<bT)
 (g:∀q r,q*a+r=b*bT+c->q<bT->q*v2<=r*bT+w2->q<=Q+1)(m:∀q r,q*a+r=b*bT+c->r*bT+w2<q*v2->Q<q)
 (n:∀q r,bT<=r->q<bT->q*v2<=r*bT+w2):∀t r,t*a+r=b*bT+c->Q<=t->r<bT->t<=bT+1->Q<=ky a v2 w2 t r/\ky a v2 w2 t r<=Q+1/\ky a v2 w2 t r<bT
 |0,r,d,f,p,s=>by
  rw[ky];exact⟨f,o_,o_⟩
 |t+1,r,d,f,p,s=>by
  rw[ky]
  by_cases hc:bT<=t+1\/r*bT+w2<(t+1)*v2
  ·rw[if_pos hc];have hq:Q<=t:=by
    rcases hc with h|h
    ·omega
    ·have:=m _ _ d h;omega
   have k:t*a+(r+a)=b*bT+c:=by rw[j2,j7]at d;omega
   by_cases i:bT<=r+a
   ·rw[if_pos i];have j:t<bT:=by
     rcases i1 t bT with h|h
     ·exact h
     ·have e:t=bT:=by omega
      subst e;have:=ip bT o;rw[h9 a]at this;omega
    exact⟨hq,g _ _ k j (n _ _ i j),j⟩
   ·rw[if_neg i];exact M7 w x o y v g m n t (r+a) k hq o_ o_
  ·rw[if_neg hc];have l:t+1<bT:=by
    rcases i1 (t+1) bT with h|h
    ·exact h
    ·exact(hc (.inl h)).elim
   have u:(t+1)*v2<=r*bT+w2:=by
    rcases i1 (r*bT+w2) ((t+1)*v2)with h|h
    ·exact(hc (.inr h)).elim
    ·exact h
   exact⟨f,g _ _ d l u,l⟩
theorem Yy(W V N j n:Nat)(k:AK)(an:Nat)(f:Nat->Nat)(aw:2<=n)(aF:(aq bT V).length=n)(aV:bT<=2*ae bT V (n-1))(aG:W<V*bT)(bf:N<=1000000)(aZ:j+n<N)
 (hf:∀i,i<=n->f (j+i)=ae bT W i):∃t,W/V<=t/\t<=W/V+1/\t<bT/\
 cm prog 338 [.arr k an 1 (di N f)] [.sl 0 an 1 0 N,.p (eT V),.p (.int .i64 j)] [.arr k an 1 (di N f)] (.p (.int .i64 t)):=by
 have aX:bT=1000000000:=rfl;have D:V<bT^n:=by rw[<-aF];exact ch aW V
 have Y:bT^(n-1)<=V:=by
  rcases i1 V (bT^(n-1))with h|h
  ·have:=dJ aW (n-1) V h;omega
  ·exact h
 obtain⟨av,aY⟩:=B8 aW (show 1<=n by omega) D aG;have az:W/bT^n=ae bT W n:=by
  rw[ae,i0];have:=cj aW V (n-1);omega
 have w:W/bT^(n-1)=ae bT W n*bT+ae bT W (n-1):=by
  rw[rQ,show n-1+1=n by omega,az]
 have F:=LB aW aw Y D (W:=W);have ac:=fun q r=>Di aW aw Y D (W:=W) (q:=q) (r:=r);have ab:=fun q r=>M6 aW aw Y D (W:=W) (q:=q) (r:=r);have aK:=fun q r=>LA aW (V:=V) (W:=W) (n:=n) (q:=q) (r:=r);rw[w]at F ac ab;have q1:=cj aW W n;have a9:=cj aW W (n-1);have bp:=cj aW W (n-2);have q4:=cj aW V (n-1);have ba:=cj aW V (n-2);have aE:=hf n (i4 _);have f2:=hf (n-1) o_;have f3:=hf (n-2) o_;rw[az]at av;have E:(aq bT V)[n-1]?=some (ae bT V (n-1)):=by rw[gj o_,eh aW o_]
 have aa:(aq bT V)[n-2]?=some (ae bT V (n-2)):=by rw[gj o_,eh aW o_]
 have aI:∀h:n-1<(aq bT V).length,(aq bT V)[n-1]=ae bT V (n-1):=fun h=>eh aW h;have aJ:∀h:n-2<(aq bT V).length,(aq bT V)[n-2]=ae bT V (n-2):=fun h=>eh aW h;simp only[eT];generalize aq bT V=y at*;generalize bg:W/V=Q at*;generalize bk:ae bT W n=s at*;generalize bl:ae bT W (n-1)=M at*;generalize bm:ae bT W (n-2)=e at*;generalize bi:ae bT V (n-1)=a at*;generalize bj:ae bT V (n-2)=v2 at*;clear w az D Y aG hf;have S:=sB f (show j+n<N by omega);have U:=sB f (show j+(n-1)<N by omega);have l:=sB f (show j+(n-2)<N by omega);rw[aE]at S;rw[f2]at U;rw[f3]at l;have G:=uI N f;have aA:∀aC:Nat×Nat->Prop,aR aC (di N f):=fun aC=>by simp
 generalize di N f=u at*;obtain⟨c,m⟩:∃c,c=s*bT+M:=⟨_,rfl⟩
 obtain⟨b,ah⟩:∃b,b=c/a:=⟨_,rfl⟩
 obtain⟨d,af⟩:∃d,d=c% a:=⟨_,rfl⟩
 have a0:0<a:=o_
 have aL:b*a+d=c:=by rw[ah,af,h9];exact i5 _ _
 have ax:d<bT:=i9 (by rw[af];exact i7 _ a0) q4;have ay:b<=bT+1:=by
  have aT:=ip bT av;rw[h9 a]at aT;rcases i1 (bT+1) b with h|h
  ·have aU:=ip a (show bT+2<=b from h);rw[j2]at aU;omega
  ·exact h
 rw[<-m]at F ac ab;rw[<-ah]at F;have Z:=M7 (v2:=v2) (w2:=e) aV q4 av a9 aY (by rw[<-m];exact ac) (by rw[<-m];exact ab) aK b d (by rw[<-m];exact aL) F ax ay;refine⟨ky a v2 e b d,Z.1,Z.2.1,Z.2.2,?_⟩;obtain⟨T,w⟩:∃T,T=ky a v2 e b d:=⟨_,rfl⟩
 rw[<-w];clear Z F ac ab aK;have o:y.length=n:=aF;have bq:eb.wrap ((j:Int)+n)=(j+n:Nat):=by rw[aN _ o_ o_];omega
 have O:eb.wrap ((j:Int)+n)=(j:Int)+n:=aN _ o_ o_;have bd:eb.wrap ((j:Int)+n-1)=(j:Int)+n-1:=aN _ o_ o_;have B:eb.wrap ((n:Int)-1)=(n:Int)-1:=aN _ o_ o_;have ao:eb.wrap ((n:Int)-2)=(n:Int)-2:=aN _ o_ o_;have ap:eb.wrap ((j:Int)+n-2)=(j:Int)+n-2:=aN _ o_ o_;have bb:((j:Int)+n).toNat=j+n:=o_
 have bc:((j:Int)+n-1).toNat=j+(n-1):=o_
 have A:((n:Int)-1).toNat=n-1:=o_
 have am:((n:Int)-2).toNat=n-2:=o_
 have te:((j:Int)+n-2).toNat=j+(n-2):=o_
 have wf:eb.wrap ((s:Int)*1000000000)=(s:Int)*1000000000:=aN _ o_ o_;have aH:(s:Int)*1000000000+M=(c:Nat):=by rw[m];exact y8 s M
 have bh:c<1000000000000000000:=by rw[m,aX];omega
 have aO:eb.wrap ((s:Int)*1000000000+M)=(c:Nat):=by rw[aH];exact aN _ o_ o_
 have aD:((c:Nat):Int).tdiv a=b:=by rw[ej (ei _),<-et,<-ah]
 have dr:((c:Nat):Int).tmod a=d:=by rw[ee (ei _),<-eo,<-af]
 have a1:¬(a:Int)=0:=o_
 have a2:¬a=0:=o_
 have aP:eb.wrap (b:Int)=b:=aN _ o_ o_;have z:n-1<y.length:=o_
 have J:n-2<y.length:=o_
 have H:=aI z;have ai:=aJ J;have aM:j+n<u.length:=o_
 have a3:j+(n-1)<u.length:=o_
 have I:j+(n-2)<u.length:=o_
 have a4:j+(n-1)<N:=o_
 have aj:j+(n-2)<N:=o_
 have aQ:u[j+n]=.p (.int .i64 s):=by rw[gj aM]at S;exact m5 S
 have aS:u[j+(n-1)]=.p (.int .i64 M):=by rw[gj a3]at U;exact m5 U
 have X:u[j+(n-2)]=.p (.int .i64 e):=by rw[gj I]at l;exact m5 l
 have L:¬u=[]:=by rintro rfl;simp at aM
 have a5:0<=(j:Int)+n:=o_
 have a6:0<=(j:Int)+n-1:=o_
 have bn:0<=(j:Int)+n-2:=o_
 have a8:0<=(n:Int)-1:=o_
 have bo:0<=(n:Int)-2:=o_
 have a7:1<=(j:Int)+n:=o_
 have ak:2<=(j:Int)+n:=o_
 have K:1<=(n:Int):=o_
 have al:2<=(n:Int):=o_
 refine fU nf (i_ func338) mix (by simp[f338]) ?_;simp[f338,o,O,bd,B,bb,bc,A,S,U,E,H,wf,aO,aD,dr,a1,a2,aP,G,aZ,z,aQ,aS,L,a5,a6,a8,a7,K,a4,ad];refine lp (α:=Nat×Nat) (fun x=>⟨[(10,.p (.int .i64 x.2)),(9,.p (.int .i64 x.1)),(7,.p (.int .i64 n)),(2,.p (.int .i64 j)),(1,.p (.seq (y.map fun x:Nat=>.int .i64 x))),(0,.sl 0 an 1 0 N)],[.arr k an 1 u]⟩)
  (fun x=>T=ky a v2 e x.1 x.2/\x.2<bT/\x.1<=bT+1) (fun x=>x.1) (b,d) ⟨w,ax,ay⟩ ?_ (hr2:=by simp[aA])
 clear m aL ah af aH aO aD dr w wf ax ay aP aI aJ aE f2 f3;rintro⟨t,r⟩ ⟨k1,k2,k3⟩;dsimp only at k1 k2 k3;have ar:eb.wrap ((r:Int)*1000000000)=(r:Int)*1000000000:=aN _ o_ o_;have au:eb.wrap ((r:Int)*1000000000+e)=(r:Int)*1000000000+e:=aN _ o_ o_;have P:eb.wrap ((r:Int)+a)=(r:Int)+a:=aN _ o_ o_;rcases mp t with C|C
 ·subst C;rw[ky]at k1;have c1:¬(r:Int)*1000000000+e<0:=by rw[y8];exact Int.not_lt.2 (ei _)
  have be:eb.wrap 0=0:=rfl;simp[o,be,ao,am,ar,au,P,ap,te,aa,ai,J,l,X,I,aj,G,L,ak,al,O,c1,k1,ad]
 rw[YL C]at k1;have ag:=aDR C k3;have k4:∀x,x<=bT+1->x-1<=bT+1:=fun x h=>ih (l0 _ _) h;have k5:t-1<t:=Nat.sub_lt C (by decide)
 by_cases c0:bT<=t
 ·have v:=Od.2 c0;rw[if_pos (.inl c0)]at k1
  by_cases c2:bT<=r+a
  ·have g:=zj.2 c2;rw[if_pos c2]at k1;simp[v,ag,o,B,A,E,H,z,K,P,g,k1]
  ·have g:=mt zj.1 c2;rw[if_neg c2]at k1;simp[v,ag,o,B,A,E,H,z,K,P,g];exact rd (t-1,r+a) ⟨k1,lt c2,k4 _ k3⟩ k5 (he:=s_) (hr2:=by simp[aA])
 have v:=mt Od.1 c0;have aB:=Iz (lt c0) ba
 by_cases c1:r*bT+e<t*v2
 ·have R:=Pw.2 c1;rw[if_pos (.inr c1)]at k1
  by_cases c2:bT<=r+a
  ·have g:=zj.2 c2;rw[if_pos c2]at k1;simp[v,ag,o,B,A,E,H,z,K,P,g,k1,ao,am,ar,au,aB,ap,te,aa,ai,J,l,X,I,aj,G,L,ak,al,O,R,ad]
   done
  ·have g:=mt zj.1 c2;rw[if_neg c2]at k1;simp[v,ag,o,B,A,E,H,z,K,P,g,ao,am,ar,au,aB,ap,te,aa,ai,J,l,X,I,aj,G,L,ak,al,O,R,ad];exact rd (t-1,r+a) ⟨k1,lt c2,k4 _ k3⟩ k5 (he:=s_) (hr2:=by simp[aA])
 ·have R:=mt Pw.1 c1;rw[if_neg (fun h=>h.elim c0 c1)]at k1;simp[v,o,B,A,ao,am,ar,au,aB,ap,te,aa,ai,J,l,X,I,aj,G,L,ak,al,O,R,k1,ad]
theorem Vy{b k f d:Nat}(n:b<bT^(k+1))(h:d=b/bT^k)(p:0<d)(hf:f=bT/(d+1)):0<f/\f<bT/\b*f<bT^(k+1)/\bT^k<=b*f/\bT<=2*ae bT (b*f) k:=by
 have e:0<bT^k:=i6 (by decide);have s:d<bT:=by
  rw[h,iz e,h9,<-ix];exact n
 have r:bT=1000000000:=rfl;have g:=kp bT (d+1);have j:=Nat.lt_div_mul_add (a:=bT) (show 0<d+1 by omega);rw[<-hf]at g j;have i:0<f:=by rw[hf];exact km o_ o_
 have q:f<bT:=by
  rw[hf];exact lz (by decide) o_
 have o:b<(d+1)*bT^k:=by
  rw[<-iz e,<-h];omega
 have l:d*bT^k<=b:=by rw[h];exact kp _ _
 have m:b*f<bT^(k+1):=by
  rw[ix];have e1:b*f<(d+1)*bT^k*f:=kt o i;have e2:(d+1)*bT^k*f=f*(d+1)*bT^k:=by rw[h9,<-i8]
  have e3:=ip (bT^k) g;rw[h9 (bT^k) bT];omega
 refine⟨i,q,m,?_,?_⟩
 ·have e1:1*bT^k<=d*bT^k:=ip _ p;rw[j7]at e1;exact ih (ih e1 l) (lc _ i)
 ·have e1:b*f/bT^k=ae bT (b*f) k:=by
   rw[ae,i0];rw[iz e,h9 bT,<-ix];exact m
  have e2:d*f<=b*f/bT^k:=by
   rw[l5 e,ln];exact ip _ l
  rw[e1]at e2;have e3:d+f<=d*f+1:=by
   obtain⟨d',rfl⟩:∃d',d=d'+1:=⟨d-1,o_⟩
   obtain⟨c,rfl⟩:∃c,f=c+1:=⟨f-1,o_⟩
   have:(d'+1)*(c+1)=d'*c+d'+c+1:=by rw[j2,j8,j7,lu];omega
   omega
  have e4:f*(d+1)=d*f+f:=by rw[j8,lu,h9]
  rw[e4]at g j;generalize d*f=P at*;generalize ae bT (b*f) k=Z at*;omega
def gp(V R t i:Nat):Nat:=(t*(V% bT^i)+R% bT^i)/bT^i
theorem Wo{V R t:Nat}:gp V R t 0=0:=by simp[gp,m1]
theorem JO{W V R t n i:Nat}(h:R+t*V=W+bT^(n+1))(hi:i<=n):ae bT R i+t*ae bT V i+gp V R t i=ae bT W i+gp V R t (i+1)*bT:=by
 have k:0<bT^i:=i6 (by decide);have l:0<bT^(i+1):=i6 (by decide);have d:(t*(V% bT^(i+1))+R% bT^(i+1))% bT^(i+1)=W% bT^(i+1):=by
  have e1:(t*V+R)% bT^(i+1)=(t*(V% bT^(i+1))+R% bT^(i+1))% bT^(i+1):=by
   have a:=i5 V (bT^(i+1));have e:=i5 R (bT^(i+1));have f:t*V+R=t*(V% bT^(i+1))+R% bT^(i+1)+bT^(i+1)*(t*(V/bT^(i+1))+R/bT^(i+1)):=by
    have g:t*V=t*(V% bT^(i+1))+bT^(i+1)*(t*(V/bT^(i+1))):=by
     conv=>lhs;rw[<-a]
     rw[j8,<-i8,h9 t (bT^(i+1)),i8];omega
    rw[g,j8]
    conv=>lhs;rw[<-e]
    omega
   rw[f,kz]
  rw[<-e1,kc (t*V),h];have:bT^(i+1)∣bT^(n+1):=lv _ o_;obtain⟨c,hc⟩:=this;rw[hc,kz]
 have e2:=i5 (t*(V% bT^(i+1))+R% bT^(i+1)) (bT^(i+1));have e3:=i5 (t*(V% bT^i)+R% bT^i) (bT^i);rw[d]at e2;rw[show(t*(V% bT^(i+1))+R% bT^(i+1))/bT^(i+1)=gp V R t (i+1)from rfl]at e2;rw[show(t*(V% bT^i)+R% bT^i)/bT^i=gp V R t i from rfl]at e3;have j:(t*(V% bT^i)+R% bT^i)% bT^i=W% bT^i:=by
  have:=congrArg (·% bT^i) d
  have b:bT^i∣bT^(i+1):=lv _ o_;rw[lq _ b,lq _ b]at this;rw[<-this,mod_pow_succ,mod_pow_succ];rw[j8];have:t*(V% bT^i)+t*(bT^i*ae bT V i)+(R% bT^i+bT^i*ae bT R i)=t*(V% bT^i)+R% bT^i+bT^i*(t*ae bT V i+ae bT R i):=by
   rw[j8,<-i8 t,h9 t (bT^i),i8];omega
  rw[this,kz]
 rw[j]at e3;rw[mod_pow_succ,mod_pow_succ,mod_pow_succ,ix]at e2;have e4:bT^i*(ae bT R i+t*ae bT V i+gp V R t i)=bT^i*(ae bT W i+gp V R t (i+1)*bT):=by
  have a:t*(V% bT^i+bT^i*ae bT V i)=t*(V% bT^i)+bT^i*(t*ae bT V i):=by
   rw[j8,<-i8 t,h9 t (bT^i),i8]
  rw[a]at e2;rw[j8,j8,j8];rw[i8 (bT^i),h9 bT]at e2;generalize bT^i*ae bT R i=m at*;generalize bT^i*(t*ae bT V i)=o at*;generalize bT^i*gp V R t i=p at*;generalize bT^i*ae bT W i=q at*;generalize bT^i*(gp V R t (i+1)*bT)=r at*;generalize t*(V% bT^i)=s at*;omega
 exact Nat.eq_of_mul_eq_mul_left k e4
theorem Wn{r p w b':Nat}(h:r+p=w+b'*bT)(j:r<bT)(k:w<bT):(w<p% bT/\r+p% bT=w+bT/\b'=p/bT+1)\/(p% bT<=w/\r+p% bT=w/\b'=p/bT):=by
 have e:=i5 p bT;have i:=i7 p (show 0<bT by decide);generalize p/bT=q at*;generalize p% bT=m at*;have b:r+m+bT*q=w+b'*bT:=o_
 rw[h9 bT]at b;rcases Nat.lt_trichotomy b' q with a|a|a
 ·have:=ip bT (show b'+1<=q from a);rw[j2,j7]at this;omega
 ·subst a;right;omega
 ·have d:=ip bT (show q+1<=b' from a);rw[j2,j7]at d;have f:b'=q+1:=by
   rcases i1 (q+1) b' with c|c
   ·have g:=ip bT (show q+2<=b' from c);rw[j2]at g;omega
   ·omega
  subst f;rw[j2,j7]at b;left;omega
theorem WS{W V t n:Nat}(y:0<V)(j:V<bT^n)(l:W<bT^(n+1))(C:W/V<=t)(D:t<=W/V+1):
 ∃R,R+t*V=W+bT^(n+1)/\
 ((t=W/V/\gp V R t n=ae bT W n/\∀i,i<=n->ae bT R i=ae bT (W% V) i)\/
  (t=W/V+1/\gp V R t n=ae bT W n+1/\df bT R V n=1/\∀i,i<=n->ae bT (R+V) i=ae bT (W% V) i)):=by
 have H:0<bT^n:=i6 (by decide);have B:0<bT^(n+1):=i6 (by decide);have k:V<bT^(n+1):=h8 j (h7 (by decide) o_);have z:=i5 W V;have o:=i7 W y;have d:bT^(n+1)=bT^n*bT:=ix _ _;have F:bT=1000000000:=rfl;have A:W% V<bT^n:=i9 o j;have s:ae bT (W% V) n=0:=jz A;have q:ae bT V n=0:=jz j;have m:∀R,R+t*V=W+bT^(n+1)->ae bT R n+gp V R t n=ae bT W n+gp V R t (n+1)*bT:=fun R v=>by
  have:=JO v (i4 n);rw[q,ms,Nat.add_zero]at this;exact this
 rcases i1 t (W/V+1)with u|u
 ·have b:t=W/V:=by omega
  have r:t*V+W% V=W:=by rw[b,h9];exact z
  refine⟨W% V+bT^(n+1),o_,.inl ⟨b,?_,fun i hi=>?_⟩⟩
  ·have e:=m (W% V+bT^(n+1)) o_;have f:gp V (W% V+bT^(n+1)) t (n+1)=0:=by
    rw[gp,i0 k,Nat.add_mod_right,i0 (i9 o k),r,jp l]
   have a:ae bT (W% V+bT^(n+1)) n=0:=by
    rw[<-s];exact uF o_
   rw[f,a]at e;omega
  ·exact uF o_
 ·have b:t=W/V+1:=by omega
  have r:t*V+W% V=W+V:=by rw[b,j2,j7,h9];omega
  have G:V<=bT^(n+1)+W% V:=o_
  refine⟨bT^(n+1)+W% V-V,o_,.inr ⟨b,?_,?_⟩⟩
  ·have e:=m (bT^(n+1)+W% V-V) o_;have w:bT^(n+1)+W% V-V<bT^(n+1):=by omega
   have f:gp V (bT^(n+1)+W% V-V) t (n+1)=1:=by
    rw[gp,i0 k,i0 w];have:t*V+(bT^(n+1)+W% V-V)=W+bT^(n+1):=o_
    rw[this,Nat.add_div_right _ B,jp l]
   have a:ae bT (bT^(n+1)+W% V-V) n=bT-1:=by
    have g:(bT^(n+1)+W% V-V)/bT^n=bT-1:=by
     refine mm ?_ ?_
     ·rw[mx,j7,h9 bT,<-d];omega
     ·rw[show bT-1+1=bT by decide,h9 bT,<-d];omega
    rw[ae,g];decide
   rw[f,a]at e;omega
  ·have x:bT^(n+1)+W% V-V+V=W% V+bT^(n+1):=by omega
   have p:∀i,i<=n->ae bT (bT^(n+1)+W% V-V+V) i=ae bT (W% V) i:=fun i hi=>by
    rw[x];exact uF o_
   refine⟨?_,p⟩;have h:=(pP aW (bT^(n+1)+W% V-V) V n).1;have E:=lC aW (bT^(n+1)+W% V-V) V n;rw[p n (i4 _),s,q]at h;have a:ae bT (bT^(n+1)+W% V-V) n=bT-1:=by
    have g:(bT^(n+1)+W% V-V)/bT^n=bT-1:=by
     refine mm ?_ ?_
     ·rw[mx,j7,h9 bT,<-d];omega
     ·rw[show bT-1+1=bT by decide,h9 bT,<-d];omega
    rw[ae,g];decide
   rw[a]at h;generalize df bT (bT^(n+1)+W% V-V) V n=c at*;rcases i1 0 c with hc|hc
   ·omega
   ·have:c=0:=by omega
    subst this;simp only[bT]at h;omega
theorem WR{V R t i:Nat}:gp V R t i<=t:=by
 have a:0<bT^i:=i6 (by decide);have b:=i7 V a;have c:=i7 R a;rw[gp];refine Nat.le_of_lt_succ ?_;rw[iz a];have d:=lm t (l3 b);rw[Nat.succ_mul];omega
theorem aDU{t v a w r b':Nat}(h:r+(t*v+a)=w+b'*bT)(f:r<bT)(g:w<bT)(b:t<bT)(c:v<bT)(i:a<=t):
 ∃(p q m:Nat),eb.wrap ((t:Int)*v)=(t:Int)*v/\eb.wrap ((t:Int)*v+a)=p/\(p:Int).tmod 1000000000=m/\(p:Int).tdiv 1000000000=q/\q<bT/\m<bT/\
 (((w:Int)-m<0/\(w:Int)-m+1000000000=r/\b'=q+1)\/(¬(w:Int)-m<0/\(w:Int)-m=r/\b'=q)):=by
 have d:t*v<=999999999*999999999:=kv (by simp only[bT]at b;omega) (by simp only[bT]at c;omega);have j:=Wn h f g;have e:=i7 (t*v+a) (show 0<bT by decide);have hq:(t*v+a)/bT<bT:=by
  rw[iz (by decide)];simp only[bT]at b⊢;omega
 refine⟨t*v+a,(t*v+a)/bT,(t*v+a)% bT,Iz b c,?_,?_,?_,hq,e,?_⟩
 ·rw[<-eq,<-fv];generalize t*v=P at*;simp only[bT]at b;exact aN _ o_ o_
 ·rw[ee (ei _),eo];rfl
 ·rw[ej (ei _),et];rfl
 ·generalize (t*v+a)/bT=q at*;generalize (t*v+a)% bT=m at*;clear h d;simp only[bT]at*;omega
def cO(n:Nat)(f:Nat->Int):List AV:=(gt n).map fun j=>.p (.int .i64 (f j))
theorem lD(n:Nat)(f:Nat->Int):(cO n f).length=n:=by simp[cO]
theorem Po(n:Nat)(f:Nat->Nat):di n f=cO n (fun k=>(f k:Nat)):=rfl
theorem aC2{n j:Nat}(f:Nat->Int)(h:j<n):(cO n f)[j]?=some (.p (.int .i64 (f j))):=by
 rw[cO,hn,hv h];rfl
theorem uP{n i:Nat}{v:Int}(f g:Nat->Int)(c:g i=v)(h:∀j,j<n->j≠i->g j=f j):(cO n f).set i (.p (.int .i64 v))=cO n g:=by
 apply hp (by simp[cO]);intro j d b;rw[lD]at b;rw[hW];simp only[cO,hg,hb]
 by_cases a:i=j
 ·subst a;rw[if_pos rfl,c]
 ·rw[if_neg a,h j b (fun e=>a e.symm)]
@[simp] theorem aHR{N:Nat×Nat->Prop}{n:Nat}{f:Nat->Int}:aR N (cO n f)=True:=by
 rw[cH,eq_iff_iff,iff_true];intro v a;simp only[cO,ht]at a;obtain⟨x,_,rfl⟩:=a;trivial
theorem KC{n:Nat}{f g:Nat->Int}(h:∀j,j<n->f j=g j):cO n f=cO n g:=by
 rw[cO,cO];apply hN;intro j a;rw[h j (h5.1 a)]
def fY(X R j i k:Nat):Int:=if j<=k/\k<j+i then(ae bT R (k-j):Nat)else(ae bT X k:Nat)
theorem win_zero{X R j k:Nat}:fY X R j 0 k=(ae bT X k:Nat):=by rw[fY,if_neg o_]
theorem CC{X R j i:Nat}:fY X R j i (j+i)=(ae bT X (j+i):Nat):=by rw[fY,if_neg o_]
theorem aFc{X R j i:Nat}:fY X R j (i+1) (j+i)=(ae bT R i:Nat):=by
 rw[fY,if_pos o_,lk]
theorem aFd{X R j i k:Nat}(h:k≠j+i):fY X R j (i+1) k=fY X R j i k:=by
 rw[fY,fY]
 by_cases a:j<=k/\k<j+i
 ·rw[if_pos a,if_pos o_]
 ·rw[if_neg a,if_neg o_]
def gG(X R S j n i k:Nat):Int:=if k=j+n then -1 else if j<=k/\k<j+i then(ae bT S (k-j):Nat)else fY X R j n k
theorem aE7{X R S j n i:Nat}(h:i<n):gG X R S j n i (j+i)=(ae bT R i:Nat):=by
 rw[gG,if_neg o_,if_neg o_,fY,if_pos o_,lk]
theorem aE9{X R S j n i:Nat}(h:i<n):gG X R S j n (i+1) (j+i)=(ae bT S i:Nat):=by
 rw[gG,if_neg o_,if_pos o_,lk]
theorem aFb{X R S j n i k:Nat}(h:k≠j+i):gG X R S j n (i+1) k=gG X R S j n i k:=by
 rw[gG,gG]
 by_cases a:k=j+n
 ·rw[if_pos a,if_pos a]
 ·rw[if_neg a,if_neg a]
  by_cases b:j<=k/\k<j+i
  ·rw[if_pos b,if_pos o_]
  ·rw[if_neg b,if_neg o_]
theorem VY{X V j n N:Nat}(c:0<V)(b:V<bT^n)(d:X<V*bT^(j+1)){g:Nat->Int}(f:∀k,k<N->g k=if k=j+n then 0 else if j<=k/\k<j+n then(ae bT (X/bT^j% V) (k-j):Nat)else(ae bT X k:Nat)):
 cO N g=cO N fun k=>(ae bT (X% (V*bT^j)) k:Nat):=by
 refine KC fun k hk=>?_;rw[f k hk,(xm (B:=bT) (R:=X) (V:=V) (j:=j)).1,ID aW];have h:=i7 (X/bT^j) c;have e:X<bT^(n+(j+1)):=by
  rw[j4];exact i9 d (kt b (i6 (by decide)))
 by_cases h1:k<j
 ·rw[if_pos h1,if_neg o_,if_neg o_]
 ·rw[if_neg h1]
  by_cases l:k<j+n
  ·rw[if_neg o_,if_pos o_]
  ·have i:ae bT (X/bT^j% V) (k-j)=0:=jz (h8 (i9 h b) (h7 (by decide) o_));rw[i]
   by_cases a:k=j+n
   ·rw[if_pos a]
   ·rw[if_neg a,if_neg o_];have:ae bT X k=0:=jz (h8 e (h7 (by decide) o_));rw[this]
theorem CO{f:Nat}(a:0<f)(h:f<bT):eT f=.seq [.int .i64 f]:=by rw[eT,nm a h];rfl
theorem Vi{r:Nat}(h:r<bT):dV [r]=aq bT r:=by
 have:=jA aW (m:=1) (n:=r) (by rw[la];exact h);rw[<-this,row,h4,g0,hz,ae,js,j5,i0 h]
@[simp] theorem aHJ{σ:Nat->Nat}{n:Nat}{f:Nat->Int}:cM σ (cO n f)=cO n f:=by
 have:∀l:List Nat,cM σ (l.map fun j=>AV.p (.int .i64 (f j)))=l.map fun j=>AV.p (.int .i64 (f j)):=by
  intro l
  induction l with
  |nil=>rfl
  |cons a r b=>simp only[g0,cM,b];rfl
 exact this _
@[simp] theorem aHO{n j:Nat}{f:Nat->Int}(h:j<(cO n f).length):(cO n f)[j]=.p (.int .i64 (f j)):=by
 simp only[cO,hg,hb]
@[simp] theorem aHL{n j:Nat}{f:Nat->Nat}(h:j<(di n f).length):(di n f)[j]=.p (.int .i64 (f j:Nat)):=by
 simp only[di,hg,hb]
@[simp] theorem aHP{n:Nat}{f:Nat->Int}:(cO (n+1) f=[])=False:=by
 rw[eq_iff_iff,iff_false];intro h;have:=congrArg hB h;rw[lD]at this;simp at this
theorem CX(a b:Nat)(K:0<b)(cZ:(aq bT a).length<=400000)(b3:(aq bT b).length<=400000):az prog 282 [eT a,eT b] (.aE [eT (a/b),eT (a% b)]):=by
 have bL:=HL a b o_ o_;refine aP nf (i_ func282) mix (by simp[f282]) ?_;simp[f282];refine c2 bL ?_
 by_cases S:a<b
 ·have G:=oR.2 S;simp[G,jp S,i0 S,eT,y7]
 have G:¬fH a b<0:=fun h=>S (oR.1 h);have a3:∀i(h:i<(aq bT b).length),(aq bT b)[i]=ae bT b i:=fun i h=>eh aW h;have C:=ch aW b
 by_cases b1:(aq bT b).length=1
 ·rw[b1,la]at C;have L:=HK a b K C o_;have b8:=i7 a K;have cc:=Vi (i9 b8 C);have ap:=sL [a% b] s_;rw[cc]at ap;have cV:=nm K C;rw[CO K C];simp only[eT,iP]at L ap⊢;generalize aq bT (a/b)=cN at*;generalize aq bT (a% b)=cP at*;generalize aq bT a=x at*;generalize a% b=de at*;simp[G];refine c2 L ?_;simp;refine cp ap (by simp;exact⟨rfl,rfl⟩) ?_;simp
 have cY:2<=(aq bT b).length:=by
  rcases i1 (aq bT b).length 1 with h|h
  ·have e:(aq bT b).length=0:=by omega
   rw[e,js]at C;omega
  ·omega
 obtain⟨k,hk⟩:∃k,(aq bT b).length=k+1:=⟨(aq bT b).length-1,o_⟩
 obtain⟨n,aC⟩:∃n,n=k+1:=⟨_,rfl⟩
 rw[hk]at C;obtain⟨d,Y⟩:∃d,d=b/bT^k:=⟨_,rfl⟩
 have aw:bT^k<=b:=by
  rcases i1 b (bT^k)with h|h
  ·have:=dJ aW k b h;omega
  ·exact h
 have bc:0<bT^k:=i6 (by decide);have bM:0<d:=by rw[Y];exact km aw bc
 have bQ:d<bT:=by rw[Y,iz bc,h9,<-ix];exact C
 have a4:ae bT b k=d:=by rw[ae,<-Y,i0 bQ]
 obtain⟨f,hf⟩:∃f,f=bT/(d+1):=⟨_,rfl⟩
 obtain⟨f0,f1,f2,f3,f4⟩:=Vy C Y bM hf;obtain⟨V,I⟩:∃V,V=b*f:=⟨_,rfl⟩
 rw[<-I]at f2 f3 f4;have aV:(aq bT V).length=n:=by
  have H:=dJ aW (k+1) V f2;have bC:=H9 aW f3;omega
 have af:=CW b f (by rw[nm f0 f1];simp;omega);have ag:=CW a f (by rw[nm f0 f1];simp;omega);rw[CO f0 f1,<-I]at af;rw[CO f0 f1]at ag;have bO:(aq bT b)[k]?=some d:=by rw[gj o_,a3 k o_,a4]
 have bP:∀h:k<(aq bT b).length,(aq bT b)[k]=d:=fun h=>by rw[a3 k h,a4]
 have c4:(aq bT b).length<=400000:=b3;have cU:bT=1000000000:=rfl;have cE:eb.wrap ((d:Int)+1)=(d:Int)+1:=aN _ o_ o_;have bS:(1000000000:Int).tdiv ((d:Int)+1)=(f:Nat):=by
  rw[ej (by decide),hf,et];rfl
 have bN:¬(d:Int)+1=0:=o_
 have cG:eb.wrap (k:Int)=k:=aN _ o_ o_;have wf:eb.wrap (f:Int)=f:=aN _ o_ o_;have b2:¬(k:Int)+1=1:=o_
 have bX:¬k=0:=o_
 have bl:k<(aq bT b).length:=o_
 have bY:=bP bl;simp only[eT]at af ag⊢;generalize cq:aq bT (a/b)=cN at*;generalize cr:aq bT (a% b)=cP at*;generalize aF:aq bT a=x at*;generalize c9:aq bT b=y at*;generalize ai:aq bT V=s at*;simp[G,hk,b2,bX,cG,bO,bY,bl,cE,bS,bN,wf];refine cp af (by simp;exact⟨rfl,rfl⟩) ?_;simp[aV];refine cp ag (by simp;exact⟨rfl,rfl⟩) ?_;obtain⟨u,D⟩:∃u,aq bT (a*f)=u:=⟨_,rfl⟩
 obtain⟨c,M⟩:∃c,x.length=c:=⟨_,rfl⟩
 have be:u.length<=c+1:=by
  rw[<-D,<-M,<-aF];refine dJ aW _ _ ?_;rw[ix];exact j9 (ch aW a) f1
 have ci:∀i(h:i<u.length),u[i]=ae bT (a*f) i:=fun i h=>by
  have:=eh aW (n:=a*f) (i:=i) (by rw[D];exact h);simp only[D]at this;exact this
 rw[D];have cT:b<=a*f:=ih (Nat.le_of_not_lt S) (lc _ f0);have bg:¬u=[]:=by
  intro h;rw[h]at D;have:=uv.1 D;omega
 have a0:a*f<bT^u.length:=by rw[<-D];exact ch aW _
 have ah:hM (AV.p∘fun x:Nat=>PV.int eb x) u=cO u.length fun k=>(ae bT (a*f) k:Nat):=by
  apply hp (by simp[cO]);intro i G cS;simp only[hg,Function.comp,cO,hb];rw[ci i (by simpa using G)]
 have ce:u.length<=400001:=o_
 obtain⟨A,bf⟩:∃A,u.length=A:=⟨_,rfl⟩
 rw[bf]at a0 ah be ce;clear af ag;have cg:¬(cO A fun k=>(ae bT (a*f) k:Nat))=[]:=by rw[<-ah];simpa using bg
 have cd:¬A=0:=by rw[<-bf];exact fun h=>bg (List.length_eq_zero_iff.1 h)
 simp[M,ah,cg,cd,lD];refine⟨⟨by rw[<-ah];exact Pr u,by simp only[cF];omega⟩,?_⟩;have c0:c<=400000:=o_
 have bv:eb.wrap ((c:Int)+1)=c+1:=aN _ o_ o_;refine ri (fun s'=>∃l o,aO s'.env 8=.sl 0 0 1 0 1/\aO s'.env 9=.p (.seq (s.map fun x:Nat=>.int .i64 x))/\aO s'.env 10=.p (.int .i64 n)/\aO s'.env 11=.sl 2 l 1 0 (c+1)/\s'.heap=[.arr .frozen 0 1 [.p (.int .i64 f)],o,.arr .grow l 1 (cO (c+1) fun k=>(ae bT (a*f) k:Nat))]) ?_ ?_
 ·refine lp (α:=Nat) (fun i=>⟨[(11,.sl 2 (i-A) 1 0 i),(10,.p (.int .i64 n)),(9,.p (.seq (s.map fun x:Nat=>.int .i64 x))),(8,.sl 0 0 1 0 1),(0,.p (.seq (x.map fun x:Nat=>.int .i64 x)))],[.arr .frozen 0 1 [.p (.int .i64 f)],.hole,.arr .grow (i-A) 1 (cO i fun k=>(ae bT (a*f) k:Nat))]⟩)
   (fun i=>A<=i/\i<=c+1) (fun i=>c+1-i) A ⟨i4 _,be⟩ ?_ (he:=s_) (hh:=s_)
  rintro i ⟨k1,k2⟩
  by_cases hi:i<c+1
  ·have bU:(i:Int)<c+1:=by omega
   have co:ae bT (a*f) i=0:=jz (h8 a0 (h7 (by decide) k1));have ca:cO (i+1) (fun k=>(ae bT (a*f) k:Nat))=cO i (fun k=>(ae bT (a*f) k:Nat))++[.p (.int .i64 0)]:=by
    rw[cO,hC,h3];simp[co,cO]
   have bd:i+1-A=i-A+1:=o_
   have cb:g6 i (cO i fun k=>(ae bT (a*f) k:Nat))=cO i fun k=>(ae bT (a*f) k:Nat):=gl (by rw[lD];exact i4 _);simp[M,bv,bU,lD,cb];refine⟨by simp only[cF];omega,?_⟩;exact rd (i+1) ⟨o_,hi⟩ (he:=by simp[bd]) (hh:=by simp[bd,ca]) (hr2:=s_)
  ·have Z:i=c+1:=by omega
   subst Z;simp[M,bv]
 rintro⟨bz,bR⟩ ⟨l,o,E,P,Q,F,T⟩;dsimp only at E P Q F T;subst T;have c8:n<=c:=by
  rw[aC];rcases i1 c (k+1)with h|h
  ·have H:=ch aW a;rw[aF,M]at H;have bC:=h8 H (h7 (show 0<bT by decide) (show c<=k by omega));omega
  ·exact h
 obtain⟨m,c6⟩:∃m,m=c-n:=⟨_,rfl⟩
 have cJ:eb.wrap ((c:Int)+1-n)=(m:Int)+1:=by rw[aN _ o_ o_];omega
 have cK:((m:Int)+1).toNat=m+1:=o_
 have cL:eb.wrap (m:Int)=m:=aN _ o_ o_;have b6:(m:Int)+1<=cF:=by simp only[cF];omega
 simp[E,P,Q,F,cJ,cK,cL];refine⟨⟨o_,b6⟩,?_⟩;have au:0<V:=by rw[I];exact m0 K f0
 have U:V<bT^n:=by rw[aC];exact f2
 have a1:a<bT^c:=by rw[<-M,<-aF];exact ch aW a
 have bI:a*f% (V*bT^(m+1))=a*f:=by
  refine i0 ?_;rw[I,ln];refine kt ?_ f0;refine h8 a1 ?_;rw[show c=k+(m+1)by omega,j4];exact ip _ aw
 obtain⟨X,J⟩:∃X:Nat->Nat,∀j,X j=a*f% (V*bT^j):=⟨_,fun _=>rfl⟩
 have W:∀j,X j<V*bT^j:=fun j=>by rw[J];exact i7 _ (m0 au (i6 (by decide)))
 have bK:∀j,X (j+1)% (V*bT^j)=X j:=fun j=>by
  rw[J,J,lq];exact Nat.mul_dvd_mul_left _ (lv _ o_)
 have bJ:∀j,X (j+1)/bT^j/V=ae bT (a/b) j:=fun j=>by
  rw[J,<-(xm (B:=bT) (R:=a*f% (V*bT^(j+1))) (V:=V) (j:=j)).2,ix,<-i8,Nat.mod_mul_right_div_self,<-i2,I,Nat.mul_div_mul_right _ _ f0,ae]
 have a6:=fun j(h:j<=m)=>Yy (X (j+1)/bT^j) V (c+1) j n .grow l (ae bT (X (j+1))) o_ (by rw[ai];exact aV) (by rw[aC,j3];exact f4) (by rw[iz (i6 (by decide)),i8,h9 bT,<-ix];exact W (j+1)) o_ o_ (fun i hi=>(qd (B:=bT) _ _ _).symm);simp only[eT,Po,ai]at a6;rw[show(gx (m+1) (AV.p (PV.int eb 0)))=di (m+1) (qT (a/b) (m+1))from La];rw[show(cO (c+1) fun k=>(ae bT (a*f) k:Nat))=cO (c+1) fun k=>(ae bT (X (m+1)) k:Nat)by rw[J,bI]];refine ri (fun s'=>∃bo,aO s'.env 8=.sl 0 0 1 0 1/\aO s'.env 10=.p (.int .i64 n)/\aO s'.env 11=.sl 2 l 1 0 (c+1)/\aO s'.env 12=.sl 3 0 1 0 (m+1)/\s'.heap=[.arr .frozen 0 1 [.p (.int .i64 f)],bo,.arr .grow l 1 (cO (c+1) fun k=>(ae bT (X 0) k:Nat)),.arr .exact 0 1 (di (m+1) (ae bT (a/b)))]) ?_ ?_
 ·refine lp (α:=Nat) (fun j=>⟨[(13,.p (.int .i64 ((j:Int)-1))),(12,.sl 3 0 1 0 (m+1)),(11,.sl 2 l 1 0 (c+1)),(10,.p (.int .i64 n)),(9,.p (.seq (s.map fun x:Nat=>.int .i64 x))),(8,.sl 0 0 1 0 1)],[.arr .frozen 0 1 [.p (.int .i64 f)],.hole,.arr .grow l 1 (cO (c+1) fun k=>(ae bT (X j) k:Nat)),.arr .exact 0 1 (di (m+1) (qT (a/b) j))]⟩)
   (fun j=>j<=m+1) (fun j=>j) (m+1) (i4 _) ?_ (he:=by simp[E,P,Q,F])
  intro j cW;rcases j with _|j
  ·simp[K9]
  ·obtain⟨t,aI,am,an,bD⟩:=a6 j o_;have bW:¬(j:Int)<0:=by omega
   have bH:X (j+1)/bT^j<bT^(n+1):=by
    rw[iz (i6 (by decide)),<-j4];refine h8 (W (j+1)) ?_;rw[show n+1+j=n+(j+1)by omega,j4 bT n (j+1)];exact ip _ (l3 U)
   obtain⟨R,bF,bG⟩:=WS au U bH aI am;have gR:=fun i(hi:i<=n)=>JO (i:=i) bF hi;have av:∀i,ae bT (X (j+1)/bT^j) i=ae bT (X (j+1)) (j+i):=fun i=>qd _ _ _;have dj:((n:Nat):Int).toNat=n:=o_
   simp[-bn];rw[bn,bn];simp[-bn,bW];rw[bn,JH,bn];simp[-bn];refine cf bD [2] ?_;simp[-bn,sig,aX];rw[bn];simp[-bn];rw[bn,bn];simp[-bn];have aU:∀i(h:i<s.length),s[i]=ae bT V i:=fun i h=>by
    have:=eh aW (n:=V) (i:=i) (by rw[ai];exact h);simp only[ai]at this;exact this
   have aS:X (j+1)/bT^j/V=ae bT (a/b) j:=bJ j;have cX:(j:Int)<=400000:=o_
   have c7:(n:Int)<=400001:=o_
   have a5:∀g:Nat->Int,(∀k,k<c+1->g k=if k=j+n then 0 else if j<=k/\k<j+n then(ae bT (X (j+1)/bT^j% V) (k-j):Nat)else(ae bT (X (j+1)) k:Nat))->cO (c+1) g=cO (c+1) fun k=>(ae bT (X j) k:Nat):=fun g ax=>by
    rw[VY au U (W (j+1)) ax,bK]
   have cl:cO (c+1) (fY (X (j+1)) R j 0)=cO (c+1) fun k=>(ae bT (X (j+1)) k:Nat):=KC fun k _=>win_zero;refine lp (α:=Nat) (fun i=>⟨[(16,.p (.int .i64 i)),(15,.p (.int .i64 (gp V R t i:Nat))),(14,.p (.int .i64 t)),(13,.p (.int .i64 j)),(12,.sl 3 0 1 0 (m+1)),(11,.sl 2 l 1 0 (c+1)),(10,.p (.int .i64 n)),(9,.p (.seq (s.map fun x:Nat=>.int .i64 x))),(8,.sl 0 0 1 0 1)],[.arr .frozen 0 1 [.p (.int .i64 f)],.hole,.arr .grow l 1 (cO (c+1) (fY (X (j+1)) R j i)),.arr .exact 0 1 (di (m+1) (qT (a/b) (j+1)))]⟩)
    (fun i=>i<=n) (fun i=>n-i) 0 (j6 _) ?_ (he:=by simp[Wo]) (hh:=by simp[cl])
   intro i hi;have bu:eb.wrap ((i:Int)+j)=(i:Int)+j:=aN _ o_ o_;have bs:((i:Int)+j).toNat=i+j:=o_
   have bm:¬((i:Int)+j<0):=o_
   have bt:eb.wrap ((i:Int)+1)=(i:Int)+1:=aN _ o_ o_
   by_cases aj:i<n
   ·have a8:(i:Int)<n:=by omega
    have aa:i<s.length:=o_
    have aE:=aU i aa;have aJ:=gR i hi;rw[av]at aJ;have bp:=cj aW (X (j+1)) (j+i);have ct:=cj aW R i;have pv:=cj aW V i;obtain⟨p,q,ak,s1,s2,bq,br,dg,dh,cw⟩:=aDU (by rw[<-l2];exact aJ) ct bp an pv WR;have bk:fY (X (j+1)) R j i (i+j)=(ae bT (X (j+1)) (j+i):Nat):=by rw[kc i j,CC]
    have a7:0<=(i:Int)+j:=o_
    have get:(cO (c+1) (fY (X (j+1)) R j i))[i+j]?=some (.p (.int .i64 (ae bT (X (j+1)) (j+i):Nat))):=by
     rw[aC2 _ o_,kc i j,CC]
    have set:(cO (c+1) (fY (X (j+1)) R j i)).set (i+j) (.p (.int .i64 (ae bT R i:Nat)))=cO (c+1) (fY (X (j+1)) R j (i+1)):=by
     rw[kc i j];exact uP _ _ aFc fun k _ hk=>aFd hk
    have Z:i+j<c+1:=o_
    have bh:s[i]?=some (ae bT V i):=by rw[gj aa,aE]
    generalize ae bT (X (j+1)) (j+i)=w at*;generalize ae bT V i=v at*;generalize ae bT R i=r at*;generalize gp V R t i=cQ at*;generalize a2:gp V R t (i+1)=cR at*;have b9:¬(r:Int)<0:=o_
    have bx:eb.wrap ((w:Int)-ak)=(w:Int)-ak:=aN _ o_ o_;have bw:eb.wrap (q:Int)=q:=aN _ o_ o_;have aR:eb.wrap ((q:Int)+1)=(q:Int)+1:=aN _ o_ o_;rcases cw with⟨c1,c2,c3⟩|⟨c1,c2,c3⟩
    ·have wr:eb.wrap ((w:Int)-ak+1000000000)=r:=by rw[c2];exact aN _ o_ o_
     simp[a8,bu,bs,bm,aa,aE,bh,s1,s2,bq,br,Z,get,bk,a7,lD,bx,c1,wr,aR,set,bt,ad,aL,bB];exact rd (i+1) (show i+1<=n by omega) (he:=by simp[a2,c3,bw,aR])
    ·have wr:eb.wrap ((w:Int)-ak)=r:=by rw[bx,c2]
     simp[a8,bu,bs,bm,aa,aE,bh,s1,s2,bq,br,Z,get,bk,a7,lD,c1,wr,b9,set,bt,ad,aL,bB];exact rd (i+1) (show i+1<=n by omega) (he:=by simp[a2,c3,bw,aR])
   ·have bV:i=n:=by omega
    subst bV;have aQ:eb.wrap ((j:Int)+i)=(j:Int)+i:=aN _ o_ o_;have aK:((j:Int)+i).toNat=j+i:=o_
    have aG:0<=(j:Int)+i:=o_
    have ay:j+i<c+1:=o_
    have bj:fY (X (j+1)) R j i (j+i)=(ae bT (X (j+1)) (j+i):Nat):=CC;have bp:=cj aW (X (j+1)) (j+i);have aM:eb.wrap ((j:Int)-1)=(j:Int)-1:=aN _ o_ o_;rcases bG with⟨r1,r2,aH⟩|⟨r1,r2,aH,cv⟩
    ·rw[av]at r2;rw[r2];generalize ae bT (X (j+1)) (j+i)=w at*;have ao:eb.wrap 0=0:=rfl;have al:eb.wrap ((w:Int)-w)=0:=by rw[fZ];rfl
     have aD:t=ae bT (a/b) j:=by rw[r1,aS]
     have qs:(di (m+1) (qT (a/b) (j+1))).set j (.p (.int .i64 t))=di (m+1) (qT (a/b) j):=by rw[aD];exact CL
     have fs:(cO (c+1) (fY (X (j+1)) R j i)).set (j+i) (.p (.int .i64 0))=cO (c+1) fun k=>(ae bT (X j) k:Nat):=by
      rw[uP _ (fun k=>if k=j+i then 0 else fY (X (j+1)) R j i k) (if_pos rfl) (fun k _ hk=>if_neg hk)];refine a5 _ fun k _=>?_
      by_cases hk:k=j+i
      ·rw[if_pos hk,if_pos hk];rfl
      ·rw[if_neg hk,if_neg hk,fY]
       by_cases z:j<=k/\k<j+i
       ·rw[if_pos z,if_pos z,aH (k-j) o_]
       ·rw[if_neg z,if_neg z]
     have ab:j<m+1:=o_
     have b7:¬((ae bT (X j) (j+i):Nat):Int)<0:=o_
     simp[aQ,aK,aG,ay,bj,lD,uI,al,ao,aM,ab,b7,fs,qs,ad,aL,bB];exact rd j (show j<=m+1 by omega)
    ·rw[av]at r2;rw[r2];generalize ae bT (X (j+1)) (j+i)=w at*;have ao:eb.wrap 0=0:=rfl;have al:eb.wrap ((w:Int)-((w+1:Nat):Int))= -1:=by rw[show(w:Int)-((w+1:Nat):Int)= -1 by omega];rfl
     have cz:eb.wrap (-1)= -1:=rfl;have fs:(cO (c+1) (fY (X (j+1)) R j i)).set (j+i) (.p (.int .i64 (-1)))=cO (c+1) (gG (X (j+1)) R (R+V) j i 0):=by
      refine uP _ _ (by rw[gG,if_pos rfl]) fun k _ hk=>?_;rw[gG,if_neg hk,if_neg o_]
     have aD:(t:Int)-1=ae bT (a/b) j:=by rw[r1,aS];omega
     have cM:eb.wrap ((t:Int)-1)=ae bT (a/b) j:=by rw[aD];have:=cj aW (a/b) j;exact aN _ o_ o_
     have ab:j<m+1:=o_
     have cm:gG (X (j+1)) R (R+V) j i 0 (j+i)= -1:=by rw[gG,if_pos rfl]
     push_cast at al;simp[aQ,aK,aG,ay,bj,lD,uI,al,ao,cz,cM,aM,ab,fs,cm,ad,aL,bB];refine lp (α:=Nat) (fun k=>⟨[(20,.p (.int .i64 k)),(19,.p (.int .i64 (df bT R V k:Nat))),(14,.p (.int .i64 (ae bT (a/b) j:Nat))),(13,.p (.int .i64 j)),(12,.sl 3 0 1 0 (m+1)),(11,.sl 2 l 1 0 (c+1)),(10,.p (.int .i64 i)),(9,.p (.seq (s.map fun x:Nat=>.int .i64 x))),(8,.sl 0 0 1 0 1)],[.arr .frozen 0 1 [.p (.int .i64 f)],.hole,.arr .grow l 1 (cO (c+1) (gG (X (j+1)) R (R+V) j i k)),.arr .exact 0 1 (di (m+1) (qT (a/b) (j+1)))]⟩)
      (fun k=>k<=i) (fun k=>i-k) 0 (j6 _) ?_ (he:=by simp[xc])
     intro k hk;have cI:eb.wrap ((k:Int)+j)=(k:Int)+j:=aN _ o_ o_;have cy:((k:Int)+j).toNat=k+j:=o_
     have cs:0<=(k:Int)+j:=o_
     have cH:eb.wrap ((k:Int)+1)=(k:Int)+1:=aN _ o_ o_;obtain⟨q1,cu⟩:=pP aW R V k;have db:=lC aW R V k;have q4:=lC aW R V (k+1);have dc:=cj aW R k;have dd:=cj aW V k
     by_cases a9:k<i
     ·have vD:(k:Int)<i:=by omega
      have aA:k<s.length:=o_
      have bi:=aU k aA;have ck:s[k]?=some (ae bT V k):=by rw[gj aA,bi]
      have b0:k+j<c+1:=o_
      have ax:gG (X (j+1)) R (R+V) j i k (k+j)=(ae bT R k:Nat):=by rw[kc k j,aE7 a9]
      have aJ:(cO (c+1) (gG (X (j+1)) R (R+V) j i k)).set (k+j) (.p (.int .i64 (ae bT (R+V) k:Nat)))=cO (c+1) (gG (X (j+1)) R (R+V) j i (k+1)):=by
       rw[kc k j];exact uP _ _ (aE9 a9) fun x _ hx=>aFb hx
      have aI:((ae bT R k:Nat):Int)+(ae bT V k:Nat)+(df bT R V k:Nat)=((ae bT R k+ae bT V k+df bT R V k:Nat):Int):=o_
      have am:((ae bT R k+ae bT V k+df bT R V k:Nat):Int).tmod 1000000000=(ae bT (R+V) k:Nat):=by
       rw[<-q1,ee (ei _),eo];rfl
      have an:((ae bT R k+ae bT V k+df bT R V k:Nat):Int).tdiv 1000000000=(df bT R V (k+1):Nat):=by
       rw[<-cu,ej (ei _),et];rfl
      rw[<-aI]at am an;have cA:eb.wrap ((ae bT R k:Nat)+(ae bT V k:Nat))=(ae bT R k:Nat)+(ae bT V k:Nat):=aN _ o_ o_;have cB:eb.wrap ((ae bT R k:Nat)+(ae bT V k:Nat)+(df bT R V k:Nat))=(ae bT R k:Nat)+(ae bT V k:Nat)+(df bT R V k:Nat):=aN _ o_ o_;have cC:eb.wrap (ae bT (R+V) k:Nat)=(ae bT (R+V) k:Nat):=by have:=cj aW (R+V) k;exact aN _ o_ o_
      have cD:eb.wrap (df bT R V (k+1):Nat)=(df bT R V (k+1):Nat):=aN _ o_ o_;simp[vD,aA,bi,ck,cI,cy,cs,b0,ax,aJ,lD,cA,cB,cC,cD,am,an,cH,ad,aL,bB];exact rd (k+1) (show k+1<=i by omega)
     ·have bZ:k=i:=by omega
      subst bZ;have cn:gG (X (j+1)) R (R+V) j k k (j+k)= -1:=by rw[gG,if_pos rfl]
      have cx:eb.wrap (-1+1)=0:=rfl;have qs:(di (m+1) (qT (a/b) (j+1))).set j (.p (.int .i64 (ae bT (a/b) j:Nat)))=di (m+1) (qT (a/b) j):=CL;have bA:(cO (c+1) (gG (X (j+1)) R (R+V) j k k)).set (j+k) (.p (.int .i64 0))=cO (c+1) fun k=>(ae bT (X j) k:Nat):=by
       rw[uP _ (fun x=>if x=j+k then 0 else gG (X (j+1)) R (R+V) j k k x) (if_pos rfl) (fun x _ hx=>if_neg hx)];refine a5 _ fun x _=>?_
       by_cases hk:x=j+k
       ·rw[if_pos hk,if_pos hk];rfl
       ·rw[if_neg hk,if_neg hk,gG,if_neg hk]
        by_cases z:j<=x/\x<j+k
        ·rw[if_pos z,if_pos z,cv (x-j) o_]
        ·rw[if_neg z,if_neg z,fY,if_neg z]
      rw[aH];simp[aQ,aK,aG,ay,cn,lD,uI,cx,ao,aM,ab,bA,qs,ad,aL,bB];exact rd j (show j<=m+1 by omega)
 rintro⟨bz,bR⟩ ⟨bo,E,P,Q,F,T⟩;dsimp only at E P Q F T;subst T;have aY:X 0=a% b*f:=by rw[J,js,lu,I,Nat.mul_mod_mul_right]
 have bE:a/b<bT^(m+1):=by
  rw[iz K];refine h8 a1 ?_;rw[show c=m+1+k by omega,j4];exact lm _ aw
 obtain⟨da,ba,b4,aT⟩:=LK (m:=m+1) (N:=a/b) bE o_;have aZ:X 0<bT^n:=h8 (by have:=W 0;rwa [js,lu]at this) (l3 U);obtain⟨O,c5,ac,b5,ar⟩:∃O:List Nat,O=(gt (c+1)).map (ae bT (X 0))/\O.length=c+1/\di (c+1) (ae bT (X 0))=O.map (AV.p∘fun x:Nat=>PV.int .i64 x)/\az prog 337 [.seq (iP (O.take n))] (eT (X 0)):=by
  refine⟨_,rfl,s_,Br _ _,?_⟩;have e:((gt (c+1)).map (ae bT (X 0))).take n=(gt n).map (ae bT (X 0)):=KW o_ fun k hk=>rfl;rw[e];have H:=sL ((gt n).map (ae bT (X 0))) (by simp;omega);rw[show dV ((gt n).map (ae bT (X 0)))=aq bT (X 0)from jA aW aZ]at H;exact H
 have L:=HK (X 0) f f0 f1 (by
  have:=dJ aW n (X 0) aZ;omega)
 rw[aY,Nat.mul_div_cancel _ f0]at L;rw[aY]at ar;rw[<-Po,b5,b4]at*;simp only[eT,cq,cr,iP]at aT ar L⊢;have aB:¬O=[]:=by intro h;rw[h]at ac;simp at ac
 have bb:n<=c+1:=o_
 simp[E,P,Q,F,ac,aB,bb];refine ep ar (by simp[ac,bb,aB];first|exact⟨rfl,rfl⟩|rfl) (by simp[aB];first|exact⟨rfl,rfl⟩|rfl) ?_ (h1:=by simp[ha]);simp[E,ad,aL,bB];refine e2 L ?_;simp[F];refine⟨by repeat' first|rfl|apply And.intro,?_⟩;refine cp aT (by simp[ba];first|exact⟨rfl,rfl⟩|rfl) ?_ (h1:=by simp[gl,ba]);simp
theorem T3(n:Nat):dV (aq bT n)=aq bT n:=by
 have h:=Cb aW (l:=aq bT n) (fun d a=>by
  obtain⟨i,hi,rfl⟩:=hO a;rw[eh aW hi];exact cj aW _ _)
 rw[<-h,Jr aW]
theorem pL(neg:Bool)(n:Nat)(h:(aq bT n).length<=1048576):az prog 284 [.bool neg,eT n] (eG (if neg=true then -(n:Int)else n)):=BA neg (aq bT n) n (T3 n) h
theorem JJ(a b:Nat)(g:(aq bT a).length<=400000)(h:(aq bT b).length<=400000):az prog 230 [eT a,eT b] (eT (j1 a b)):=by
 refine aP nf (i_ func230) mix (by simp[f230]) ?_;simp[f230];refine lp (α:=Nat×Nat) (fun x=>⟨[(1,.p (eT x.2)),(0,.p (eT x.1))],[]⟩)
  (fun x=>(aq bT x.1).length<=400000/\(aq bT x.2).length<=400000/\j1 x.1 x.2=j1 a b) (fun x=>x.2) (a,b) ⟨g,h,rfl⟩ ?_
 rintro⟨x,y⟩ ⟨e,d,c⟩;dsimp only at e d c
 by_cases hy:y=0
 ·subst hy;rw[mo]at c;rw[<-c];simp[eT,y7]
 ·have hl:0<(aq bT y).length:=by
   rw[gm,Ne,uv];exact hy
  have f:=CX x y o_ e d;have i:=i7 x (show 0<y by omega);simp[eT,hl];refine c2 f ?_;simp;exact rd (y,x% y) ⟨d,by have:=dJ aW _ _ (i9 i (ch aW y));dsimp only;omega,by rw[<-c,ls y,<-m2,ls]⟩ (by dsimp only;omega) (he:=by simp[eT])
theorem Xb(a b:Nat)(h:a<9223372036854775808)(i:b<9223372036854775808):az prog 295 [.int .i64 a,.int .i64 b] (.int .i64 (j1 a b:Nat)):=by
 refine aP nf (i_ func295) mix (by simp[f295]) ?_;simp[f295];refine lp (α:=Nat×Nat) (fun x=>⟨[(1,.p (.int .i64 x.2)),(0,.p (.int .i64 x.1))],[]⟩)
  (fun x=>x.1<9223372036854775808/\x.2<9223372036854775808/\j1 x.1 x.2=j1 a b) (fun x=>x.2) (a,b) ⟨h,i,rfl⟩ ?_
 rintro⟨x,y⟩ ⟨g,d,c⟩;dsimp only at g d c
 by_cases f:y=0
 ·subst f;rw[mo]at c;rw[<-c];simp
 ·have hl:(0:Int)<y:=by omega
  have e:0<y:=o_
  have n:¬(y:Int)=0:=o_
  have m:=i7 x e;have k:(x:Int).tmod y=(x% y:Nat):=by rw[ee (ei _),eo]
  have l:eb.wrap ((x% y:Nat):Int)=(x% y:Nat):=aN _ o_ o_;generalize j:x% y=r at*;simp[e,f,k,l];exact rd (y,r) ⟨d,by dsimp only;omega,by rw[<-c,<-j,ls y,<-m2,ls]⟩ (by dsimp only;omega)
theorem WL{B a b x y K:Nat}(c:2<=B)(d:a<B^x)(e:b<B^y)(f:B^x<=B^K)(g:B^y<=B^K):a+b<B^(K+1):=by
 rw[ix];have:=lm (B^K) c;omega
theorem WK{a b K:Nat}(g:(aq bT a).length<=K)(h:(aq bT b).length<=K):(aq bT (a+b)).length<=K+1:=by
 have c:=ch aW a;have d:=ch aW b;have e:=h7 (show 0<bT by decide) g;have f:=h7 (show 0<bT by decide) h;exact dJ aW (K+1) (a+b) (WL aW c d e f)
theorem Xj(a b:Int)(l:(aq bT a.natAbs).length<=400000)(o:(aq bT b.natAbs).length<=400000):az prog 254 [eG a,eG b] (eG (a+b)):=by
 have m:=W5 a.natAbs b.natAbs o_ o_;have k:=HL a.natAbs b.natAbs o_ o_;have q:(aq bT (a.natAbs+b.natAbs)).length<=1048576:=by
  have r:=WK l o;omega
 refine aP nf (i_ func254) mix (by simp[f254]) ?_
 by_cases hs:(a<0↔b<0)
 ·have t:(decide (a<0)==decide (b<0))=true:=by simp[hs]
  have d:=pL (decide (a<0)) (a.natAbs+b.natAbs) q;have f:(if decide (a<0)=true then -((a.natAbs+b.natAbs:Nat):Int)else((a.natAbs+b.natAbs:Nat):Int))=a+b:=by
   by_cases h:a<0
   ·have:=hs.1 h;simp[h];omega
   ·have:¬b<0:=fun c=>h (hs.2 c);simp[h];omega
  rw[f]at d;generalize a+b=s at*;generalize a.natAbs+b.natAbs=n at*;have g:(a<0↔b<0)=True:=eq_true hs;simp only[eG]at d⊢;simp[f254,g,ad];refine e2 m ?_;simp[ad];refine e2 d ?_;simp[ad]
 ·have g:(a<0↔b<0)=False:=eq_false hs
  by_cases p:b.natAbs<=a.natAbs
  ·have i:0<=fH a.natAbs b.natAbs:=by
    have:=oR (a:=a.natAbs) (b:=b.natAbs);omega
   have j:=LL a.natAbs b.natAbs p o_;have d:=pL (decide (a<0)) (a.natAbs-b.natAbs) (by
    have:=dJ aW _ _ (ii (l0 a.natAbs b.natAbs) (ch aW a.natAbs));omega)
   have f:(if decide (a<0)=true then -((a.natAbs-b.natAbs:Nat):Int)else((a.natAbs-b.natAbs:Nat):Int))=a+b:=by
    by_cases h:a<0
    ·have:¬b<0:=fun c=>hs ⟨fun _=>c,fun _=>h⟩;simp[h];omega
    ·have:b<0:=by
      rcases gb b 0 with c|c
      ·exact c
      ·exact(hs ⟨fun e=>(h e).elim,fun e=>by omega⟩).elim
     simp[h];omega
   rw[f]at d;generalize a+b=s at*;generalize a.natAbs-b.natAbs=n at*;simp only[eG]at d⊢;simp[f254,g,ad];refine c2 k ?_;simp[i,ad];refine e2 j ?_;simp[ad];refine e2 d ?_;simp[ad]
  ·have i:¬0<=fH a.natAbs b.natAbs:=by
    have:=oR (a:=a.natAbs) (b:=b.natAbs);omega
   have j:=LL b.natAbs a.natAbs o_ o_;have d:=pL (decide (b<0)) (b.natAbs-a.natAbs) (by
    have:=dJ aW _ _ (ii (l0 b.natAbs a.natAbs) (ch aW b.natAbs));omega)
   have f:(if decide (b<0)=true then -((b.natAbs-a.natAbs:Nat):Int)else((b.natAbs-a.natAbs:Nat):Int))=a+b:=by
    by_cases h:b<0
    ·have:¬a<0:=fun c=>hs ⟨fun _=>h,fun _=>c⟩;simp[h];omega
    ·have:a<0:=by
      rcases gb a 0 with c|c
      ·exact c
      ·exact(hs ⟨fun e=>by omega,fun e=>(h e).elim⟩).elim
     simp[h];omega
   rw[f]at d;generalize a+b=s at*;generalize b.natAbs-a.natAbs=n at*;simp only[eG]at d⊢;simp[f254,g,ad];refine c2 k ?_;simp[i,ad];refine e2 j ?_;simp[ad];refine e2 d ?_;simp[ad]
theorem LM(a:Int)(d:(aq bT a.natAbs).length<=400000):az prog 296 [eG a] (eG (-a)):=by
 have b:=pL (!decide (a<0)) a.natAbs o_;have c:(if(!decide (a<0))=true then -((a.natAbs:Nat):Int)else(a.natAbs:Nat))= -a:=by
  by_cases h:a<0
  ·simp[h];omega
  ·simp[h];omega
 rw[c]at b;refine aP nf (i_ func296) mix (by simp[f296]) ?_;generalize -a=s at*;simp only[eG]at b⊢;simp[f296,ad];refine c2 b ?_;simp[ad]
theorem uQ(a b:Int)(g:(aq bT a.natAbs).length+(aq bT b.natAbs).length<=1000000):az prog 255 [eG a,eG b] (eG (a*b)):=by
 have f:=CW a.natAbs b.natAbs g;have j:(aq bT (a.natAbs*b.natAbs)).length<=1000000:=by
  have c:=ch aW a.natAbs;have d:=ch aW b.natAbs;have i:=dJ aW ((aq bT a.natAbs).length+(aq bT b.natAbs).length) (a.natAbs*b.natAbs) (by rw[j4];exact j9 c d);omega
 have e:=pL ((!(decide (a<0)==decide (b<0)))) (a.natAbs*b.natAbs) o_;have h:(if(!(decide (a<0)==decide (b<0)))=true then -((a.natAbs*b.natAbs:Nat):Int)else((a.natAbs*b.natAbs:Nat):Int))=a*b:=by
  by_cases c:a<0<;>by_cases d:b<0
  ·simp[c,d];rw[en (e8 c),en (e8 d),Int.neg_mul_neg]
  ·simp[c,d];rw[en (e8 c),ew o_,gg,ge]
  ·simp[c,d];rw[en (e8 d),ew o_,gi,ge]
  ·simp[c,d];rw[ew o_,ew o_]
 rw[h]at e;refine aP nf (i_ func255) mix (by simp[f255]) ?_;generalize a*b=s at*;generalize a.natAbs*b.natAbs=n at*;generalize hx:(!(decide (a<0)==decide (b<0)))=x at*;simp only[eG]at e⊢;simp[f255,ad];refine e2 f ?_;simp[hx,ad];refine e2 e ?_;simp[ad]
theorem UJ:∀d:Nat,d<10->h6 d (g6 (d+1) [48,49,50,51,52,53,54,55,56,57])=[48+d]:=by decide
theorem xo(n a:Nat)(E:n<9223372036854775808)(hl:a<=1000):az prog 283 [.int .i64 n,.int .i64 a] (.str (low (max a (nd n)) n)):=by
 have K:nd n<=19:=qV (i9 E (by decide));refine aP nf (i_ func283) mix (by simp[f283]) ?_;obtain⟨L,e⟩:∃L,L=max a (nd n):=⟨_,rfl⟩
 rw[<-e];obtain⟨g,b⟩:∃g:Nat->Nat,∀i,n/10^i=g i:=⟨_,fun _=>rfl⟩
 have B:g 0=n:=by rw[<-b,js,j5]
 simp[f283];refine lp (α:=Nat) (fun i=>⟨[(0,.p (.int .i64 (g i:Nat))),(5,.p (.str (low i n))),(1,.p (.int .i64 a))],[]⟩)
  (fun i=>i<=L) (fun i=>L-i) 0 (j6 _) ?_ (he:=by simp[low,B])
 intro i hi;have q:low (i+1) n=(48+g i% 10)::low i n:=by
  rw[kc,ql,b,so];rfl
 have hq:g (i+1)=g i/10:=by rw[<-b,<-b,ix,i2]
 have M:g i<=n:=by rw[<-b];exact kk _ _
 have F:0<g i↔i<nd n:=by
  rw[<-b,mF,Nat.div_pos_iff];have:=i6 (n:=i) (show 0<10 by decide);omega
 have l:=qj n i;have j:=UJ (g i% 10) (i7 _ (by decide));have f:i<L↔0<g i\/i<a:=by rw[F,e];omega
 have G:=i7 (g i) (show 0<10 by decide);have r:(g i:Int).tmod 10=(g i% 10:Nat):=by rw[ee (ei _),eo];rfl
 have t:(g i:Int).tdiv 10=(g (i+1):Nat):=by rw[hq,ej (ei _),et (g i)];rfl
 have H:L<=1000:=by rw[e];omega
 generalize g i% 10=d at*;have m:h6 d (48::g6 d [49,50,51,52,53,54,55,56,57])=[48+d]:=j;generalize N:g i=z at*;generalize y:g (i+1)=A at*;generalize hs:low i n=s at*;have x:eb.wrap (A:Int)=A:=aN _ o_ o_;have v:eb.wrap (d:Int)=d:=aN _ o_ o_;have w:eb.wrap ((d:Int)+1)=d+1:=aN _ o_ o_;have u:((d:Int)+1).toNat=d+1:=o_
 have J:min (d+1) 10-d+i<9223372036854775808:=o_
 have I:(0:Int)<=d+1/\(d:Int)+1<=10/\(d:Int)<=max (d+1) 0:=o_
 by_cases k:i<L
 ·by_cases c:0<z
  ·simp[c,r,t,x,v,w,u,j,l];refine⟨o_,o_,?_⟩;exact rd (i+1) (show i+1<=L by omega) (he:=by simp[y,q,m])
  ·have o:i<a:=by rcases f.1 k with h|h;exact(c h).elim;exact h
   simp[c,o,r,t,x,v,w,u,j,l];refine⟨o_,o_,?_⟩;exact rd (i+1) (show i+1<=L by omega) (he:=by simp[y,q,m])
 ·have c:¬0<z:=fun h=>k (f.2 (.inl h));have o:¬i<a:=fun h=>k (f.2 (.inr h));have C:s=low L n:=by rw[<-hs];congr 1;omega
  have D:¬L<a:=o_
  simp[c,D,l,C,qj]
theorem Vf{n i:Nat}(h:bT^(i+1)<=n):bd (n/bT^i)=bd (n/bT^(i+1))++low 9 (ae bT n i):=by
 have c:0<bT^i:=i6 (by decide);have b:10^9<=n/bT^i:=by
  rw[l5 c,h9];rw[ix]at h;exact h
 have a:=VM b;have e1:n/bT^i/10^9=n/bT^(i+1):=by rw[i2,ix];rfl
 have e2:n/bT^i% 10^9=ae bT n i:=rfl;rw[e1,e2]at a;have d:0<n/bT^i:=h8 (by decide) b;have e:0<n/bT^(i+1):=km h (i6 (by decide));rw[bd,bd,show max 1 (nd (n/bT^i))=nd (n/bT^i)by have:=vj d;omega,show max 1 (nd (n/bT^(i+1)))=nd (n/bT^(i+1))by have:=vj e;omega,a]
theorem Cm(z:Int)(hl:(aq bT z.natAbs).length<=1000000):az prog 232 [eG z] (.str (bL z)):=by
 refine aP nf (i_ func232) mix (by simp[f232]) ?_
 by_cases F:z=0
 ·subst F;have v:bL 0=[48]:=by rw[show(0:Int)=((0:Nat):Int)from rfl,rW,ny]
  simp[f232,eG,eT,y7,ad,v]
 obtain⟨n,f⟩:∃n,z.natAbs=n:=⟨_,rfl⟩
 have M:0<n:=o_
 have L:0<(aq bT n).length:=by
  rw[gm,Ne,uv];omega
 obtain⟨k,hk⟩:∃k,(aq bT n).length=k+1:=⟨(aq bT n).length-1,o_⟩
 have g:=ch aW n;rw[hk]at g;have q:bT^k<=n:=by
  rcases i1 n (bT^k)with h|h
  ·have:=dJ aW k n h;omega
  ·exact h
 have m:∀i(h:i<(aq bT n).length),(aq bT n)[i]=ae bT n i:=fun i h=>eh aW h;have r:n/bT^k=ae bT n k:=by
  rw[ae,i0];rw[iz (i6 (by decide)),h9,<-ix];exact g
 have O:0<ae bT n k:=by rw[<-r];exact km q (i6 (by decide))
 have c:=xo (ae bT n k) 1 (i9 (cj aW n k) (by decide)) (by decide);rw[show low (max 1 (nd (ae bT n k))) (ae bT n k)=bd (n/bT^k)by rw[r];rfl]at c;have w:∀i,az prog 283 [.int .i64 (ae bT n i:Nat),.int .i64 (9:Nat)] (.str (low 9 (ae bT n i))):=fun i=>by
  have h:=xo (ae bT n i) 9 (i9 (cj aW n i) (by decide)) (by decide);have J:nd (ae bT n i)<=9:=qV (cj aW n i)
  rwa [show max 9 (nd (ae bT n i))=9 by omega]at h
 have a:bd (n/bT^0)=bd n:=by rw[js,j5]
 have gR:∀i,i+1<=k->bd (n/bT^i)=bd (n/bT^(i+1))++low 9 (ae bT n i):=fun i hi=>Vf (ih (h7 (by decide) hi) q);have K:k<=1000000:=by rw[f]at hl;omega
 have C:bL z=if z<0 then 45::bd n else bd n:=by rw[bL,f]
 have N:ae bT n k<bT:=cj aW n k;have B:∀i,ae bT n i<bT:=fun i=>cj aW n i;obtain⟨T,j⟩:∃T:Nat->List Nat,∀i,bd (n/bT^i)=T i:=⟨_,fun _=>rfl⟩
 have l:∀i,(T i).length<=9000000+9:=fun i=>by
  rw[<-j];refine ih (ug (k:=9*(k+1)) ?_ o_) o_;rw[lb];exact ii (kk _ _) g
 simp only[j]at c a gR;rw[C];simp only[eG,f,eT,<-a];generalize hx:aq bT n=x at*;have G:eb.wrap ((k:Int)+1-1)=k:=by rw[Int.add_sub_cancel];exact aN _ o_ o_
 have H:eb.wrap (k:Int)=k:=aN _ o_ o_;have u:eb.wrap ((k:Int)+1-2)=(k:Int)-1:=by rw[aN _ o_ o_];omega
 have A:¬(k:Int)+1=0:=o_
 have e:k<x.length:=o_
 have t:=m k e;have E:x[k]?=some (ae bT n k):=by rw[gj e,t]
 simp[f232,ad,hk,A,G,H,u,e,t,E];refine c2 c ?_;simp[ad,hk,u];refine lp (α:=Nat) (fun i=>⟨[(4,.p (.int .i64 ((i:Int)-1))),(3,.p (.str (T i))),(1,.ptr 0 [])],[.box false (.p (.st 290 [.bool (decide (z<0)),.seq (x.map fun x:Nat=>.int .i64 x)]))]⟩)
  (fun i=>i<=k) (fun i=>i) k (i4 _) ?_
 rintro i hi;have P:=B i;rcases i with _|i
 ·by_cases o:z<0
  ·have b:=ii (md (l 0) 1) (show 9000000+9+1<9223372036854775808 by decide);rw[a,kc]at b;simp[o,ad,a,b]
  ·simp[o,ad,a]
 ·have d:i<x.length:=by omega
  have s:=m i d;have D:x[i]?=some (ae bT n i):=by rw[gj d,s]
  have y:¬(i:Int)<0:=o_
  have I:eb.wrap ((i:Int)-1)=(i:Int)-1:=aN _ o_ o_;have b:=ii (md (l (i+1)) 9) (show 9000000+9+9<9223372036854775808 by decide);have aJ:=gR i hi;simp[y,ad,d,s,D];refine c2 (w i) ?_;simp[I,qj];refine⟨b,?_⟩;exact rd i (show i<=k by omega) (he:=by simp[aJ])
theorem vm{s:List Nat}{i:Nat}(h:i<s.length):aM (s.take (i+1))=aM (s.take i)*10+(s[i]-48):=by
 rw[g7 h,xu]
theorem ux{s:List Nat}{p:Nat->Bool}(h:s.all p=true)(i:Nat):(s.take i).all p=true:=by
 rw[gy]at h⊢;intro x hx;exact h x (List.mem_of_mem_take hx)
theorem Ku{s:List Nat}{p:Nat->Bool}(h:s.all p=true)(i:Nat):(s.drop i).all p=true:=by
 rw[gy]at h⊢;intro x hx;exact h x (List.mem_of_mem_drop hx)
theorem yh{c:Nat}(h:bF c=true):48<=c/\c<=57:=by
 simpa[bF]using h
theorem x9(s:List Nat)(e:s.all bF=true)(hl:s.length<=18):az prog 294 [.str s] (.int .i64 (aM s:Nat)):=by
 refine aP nf (i_ func294) mix (by simp[f294]) ?_;obtain⟨L,g⟩:∃L,L=s.length:=⟨_,rfl⟩
 have k:aM (s.take L)=aM s:=by rw[g,hU]
 rw[<-k];obtain⟨v,b⟩:∃v:Nat->Nat,∀i,aM (s.take i)=v i:=⟨_,fun _=>rfl⟩
 have o:v 0=0:=by rw[<-b];rfl
 have q:∀i(h:i<s.length),v (i+1)=v i*10+(s[i]-48):=fun i h=>by rw[<-b,<-b,vm h]
 have f:∀i,i<=L->v i<10^i:=fun i hi=>by
  rw[<-b];exact jg i _ (by rw[g3];omega) (ux e i)
 rw[b];simp[f294];refine lp (α:=Nat) (fun i=>⟨[(4,.p (.int .i64 i)),(3,.p (.int .i64 (v i:Nat))),(0,.p (.str s))],[]⟩)
  (fun i=>i<=L) (fun i=>L-i) 0 (j6 _) ?_ (he:=by simp[o])
 intro i hi
 by_cases m:i<L
 ·have a:i<s.length:=by omega
  have j:=f i hi;have A:=f (i+1) m;have hc:=yh (gy.1 e s[i] (g4 a));have hs:=q i a;have n:10^i<=10^17:=h7 (by decide) o_;have z:v i<100000000000000000:=h8 j (by exact n);generalize d:s[i]=c at*;generalize B:v i=x at*;have r:eb.wrap (10*(x:Int))=10*(x:Int):=aN _ o_ o_;have t:eb.wrap (10*(x:Int)+c)=10*(x:Int)+c:=aN _ o_ o_;have u:eb.wrap (10*(x:Int)+c-48)=(v (i+1):Nat):=by rw[hs,aN _ o_ o_];omega
  have w:eb.wrap ((i:Int)+1)=(i:Int)+1:=aN _ o_ o_;have y:eb.wrap (c:Int)=c:=aN _ o_ o_;have l:s[i]?=some c:=by rw[gj a,d]
  simp[a,d,l,r,t,u,w,y];exact rd (i+1) (show i+1<=L by omega)
 ·have a:¬i<s.length:=by omega
  have:i=L:=o_
  subst this;simp[a]
theorem Lg(c:Nat):∀s:List Nat,c∉(bN c s).1
 |[]=>by simp[bN]
 |x::r=>by
  rw[bN]
  split
  ·simp
  ·rename_i h;simp only[hw,not_or];exact⟨fun e=>h e.symm,Lg c r⟩
theorem Bi(s:List Nat)(hl:s.length<=1048576):az prog 227 [.str s] (.int .i64 ((bN 47 s).1.length:Nat)):=by
 refine aP nf (i_ func227) mix (by simp[f227]) ?_;obtain⟨k,hk⟩:∃k,(bN 47 s).1.length=k:=⟨_,rfl⟩
 have t:=Lg 47 s;have w:k<=s.length:=by rw[<-hk];exact(sq 47 s).1
 have n:∀j(h:j<s.length),j<k->¬s[j]=47:=by
  intro j h v e;apply t;rcases nH 47 s with⟨_,b⟩|⟨_,b,_⟩
  ·have:s[j]=(bN 47 s).1[j]' o_:=by
    conv=>lhs;rw[hS b]
    rw[List.getElem_append_left]
   have d:(bN 47 s).1[j]' o_∈(bN 47 s).1:=g4 _;rw[<-this,e]at d;exact d
  ·rw[b];have d:s[j]∈s:=g4 _
   rwa [e]at d
 have b:∀(h:k<s.length),s[k]=47:=by
  intro h;rcases nH 47 s with⟨_,g⟩|⟨_,g,_⟩
  ·rw[hS g,List.getElem_append_right o_];simp[hk]
  ·rw[g]at hk;omega
 rw[hk];simp[f227];refine lp (α:=Nat) (fun i=>⟨[(3,.p (.int .i64 i)),(0,.p (.str s))],[]⟩)
  (fun i=>i<=k) (fun i=>k-i) 0 (j6 _) ?_
 intro i hi;have u:eb.wrap ((i:Int)+1)=(i:Int)+1:=aN _ o_ o_
 by_cases q:i<k
 ·have a:i<s.length:=by omega
  have f:=n i a q;generalize m:s[i]=c at*;have l:s[i]?=some c:=by rw[gj a,m]
  have o:¬(c:Int)=47:=o_
  simp[a,m,l,o,f,u];exact rd (i+1) (show i+1<=k by omega)
 ·have r:i=k:=by omega
  subst r
  by_cases a:i<s.length
  ·have f:=b a;have l:s[i]?=some 47:=by rw[gj a,f]
   simp[a,f,l]
  ·have:i=s.length:=by omega
   simp[a,this]
theorem LJ(n:Int)(M:-9223372036854775808<=n)(O:n<=9223372036854775807):az prog 233 [.int .i64 n] (eG n):=by
 refine aP nf (i_ func233) mix (by simp[f233]) ?_;obtain⟨N,P⟩:∃N,n.natAbs=N:=⟨_,rfl⟩
 have D:N<bT^3:=by
  have:bT^3=1000000000000000000000000000:=by decide
  omega
 obtain⟨g,a⟩:∃g:Nat->Nat,∀i,N/bT^i=g i:=⟨_,fun _=>rfl⟩
 have F:g 0=N:=by rw[<-a,js,j5]
 have H:∀i,g (i+1)=g i/bT:=fun i=>by rw[<-a,<-a,i2,ix]
 have A:∀i,ae bT N i=g i% bT:=fun i=>by rw[<-a];rfl
 have G:g 3=0:=by rw[<-a,jp D]
 have k:∀i,g i<=N:=fun i=>by rw[<-a];exact kk _ _
 have y:∀i,i<=3->g i=0->az prog 284 [.bool (decide (n<0)),.seq (iP (row bT i N))] (eG n):=fun i I hi=>by
  have h:=BA (decide (n<0)) (row bT i N) N (jA aW (by
   rw[<-a]at hi;rcases i1 N (bT^i)with h|h
   ·exact h
   ·have:=km h (i6 (show 0<bT by decide));omega)) (by simp[row];omega)
  have e:(if decide (n<0)=true then -(N:Int)else N)=n:=by
   by_cases c:n<0
   ·simp[c];omega
   ·simp[c];omega
  rwa [e]at h
 obtain⟨m,f⟩:∃m:Nat->Int,∀i,(if n<0 then -(g i:Int)else g i)=m i:=⟨_,fun _=>rfl⟩
 have J:m 0=n:=by rw[<-f,F];split<;>omega
 simp only[eG]at y⊢;simp[f233];refine lp (α:=Nat) (fun i=>⟨[(0,.p (.int .i64 (m i))),(2,.ptr 0 []),(3,.sl 1 i 1 0 i),(4,.p (.bool (decide (n<0))))],[.box false (.p (.st 290 [.bool false,.aK])),.arr .grow i 1 (dS i N)]⟩)
  (fun i=>i<=3) (fun i=>3-i) 0 (j6 _) ?_ (he:=by simp[J,dS]) (hh:=by simp[dS])
 intro i hi;have Q:bT=1000000000:=rfl;have L:=i7 (g i) (show 0<bT by decide);have R:=k i;have E:=i5 (g i) bT;have u:g i% bT=ae bT N i:=(A i).symm
 by_cases d:g i=0
 ·have b:m i=0:=by rw[<-f,d];split<;>rfl
  have hs:=y i hi d;rcases i with _|i
  ·simp[b];refine cp hs (by simp[dS];first|exact⟨rfl,rfl⟩|rfl) ?_ (h1:=by simp[iP,row]);simp[ad]
  ·have j:¬dS (i+1) N=[]:=by intro h;have:=congrArg hB h;rw[iv]at this;simp at this
   simp[b];refine cp hs (by simp[iv,KD,j];first|exact⟨rfl,rfl⟩|rfl) ?_ (h1:=by simp[iP,row,ha,gl]);simp[ad]
 ·have I:i<3:=by
   rcases i1 i 3 with h|h
   ·exact h
   ·rw[show i=3 by omega]at d;exact(d G).elim
  have z:=H i;have K:=A i;have l:=pU i N;have x:g6 i (dS i N)=dS i N:=gl (by rw[iv];exact i4 _);rw[K]at l;obtain⟨r,B⟩:∃r,g i% bT=r:=⟨_,rfl⟩
  rw[B]at l L E;have u:=B.symm
  by_cases c:n<0
  ·have b:m i= -(g i:Int):=by rw[<-f,if_pos c]
   have o:m (i+1)= -(g (i+1):Int):=by rw[<-f,if_pos c]
   have j:¬(g i:Int)=0:=o_
   have s:((g i:Nat):Int).tmod 1000000000=r:=by rw[u,ee (ei _),eo];rfl
   have q:((g i:Nat):Int).tdiv 1000000000=(g (i+1):Nat):=by rw[z,ej (ei _),et (g i)];rfl
   have wr:eb.wrap (r:Int)=r:=aN _ o_ o_;have C:eb.wrap (-(r:Int))= -r:=aN _ o_ o_;have t:eb.wrap (-(g (i+1):Int))= -(g (i+1):Nat):=aN _ (by have:=k (i+1);omega) (by have:=k (i+1);omega)
   by_cases v:r=0
   ·simp[b,d,j,s,q,wr,C,t,v,x,iv];refine⟨by simp only[cF];omega,?_⟩;exact rd (i+1) (show i+1<=3 by omega) (he:=by simp[o]) (hh:=by simp[l,v])
   ·have w:0<r:=by omega
    simp[b,d,j,s,q,wr,C,t,v,w,x,iv];refine⟨by simp only[cF];omega,?_⟩;exact rd (i+1) (show i+1<=3 by omega) (he:=by simp[o]) (hh:=by simp[l])
  ·have b:m i=(g i:Int):=by rw[<-f,if_neg c]
   have o:m (i+1)=(g (i+1):Int):=by rw[<-f,if_neg c]
   have j:¬(g i:Int)=0:=o_
   have s:((g i:Nat):Int).tmod 1000000000=r:=by rw[u,ee (ei _),eo];rfl
   have q:((g i:Nat):Int).tdiv 1000000000=(g (i+1):Nat):=by rw[z,ej (ei _),et (g i)];rfl
   have wr:eb.wrap (r:Int)=r:=aN _ o_ o_;have t:eb.wrap (g (i+1):Int)=(g (i+1):Nat):=aN _ (by have:=k (i+1);omega) (by have:=k (i+1);omega);have w:¬(r:Int)<0:=o_
   simp[b,d,j,s,q,wr,t,w,x,iv];refine⟨by simp only[cF];omega,?_⟩;exact rd (i+1) (show i+1<=3 by omega) (he:=by simp[o]) (hh:=by simp[l])
theorem HO{d:List Nat}(b:d.all bF=true){L i:Nat}(c:L=d.length)(h:9*(i+1)<=L):
 aM (d.take (L-9*(i+1)))=aM (d.take (L-9*i))/10^9/\aM ((d.take (L-9*i)).drop (L-9*(i+1)))=aM (d.take (L-9*i))% 10^9:=by
 have e:=hd (L-9*(i+1)) (d.take (L-9*i));rw[hF,lw o_]at e;have a:=Jp (d.take (L-9*(i+1))) ((d.take (L-9*i)).drop (L-9*(i+1)));rw[e]at a;have hl:((d.take (L-9*i)).drop (L-9*(i+1))).length=9:=by rw[ho,g3];omega
 rw[hl]at a;have f:=jg 9 _ hl (Ku (ux b _) _);generalize aM ((d.take (L-9*i)).drop (L-9*(i+1)))=y at*;generalize aM (d.take (L-9*(i+1)))=x at*;rw[a];omega
theorem BB(s:List Nat)(k:(bQ s).all bF=true)(hl:s.length<=1000000):az prog 281 [.str s] (eG (if bI s=true then -(aM (bQ s):Int)else aM (bQ s))):=by
 refine aP nf (i_ func281) mix (by simp[f281]) ?_;obtain⟨d,v⟩:∃d,bQ s=d:=⟨_,rfl⟩
 obtain⟨neg,f⟩:∃neg,bI s=neg:=⟨_,rfl⟩
 obtain⟨N,F⟩:∃N,aM d=N:=⟨_,rfl⟩
 have ag:d.length<=1000000:=by rw[<-v];exact ih (oD s).1 hl
 rw[v]at k⊢;rw[f,F];have ah:=hl;simp[f281,-bn];rw[bn];simp[-bn];refine join (fun st=>aO st.env 0=.p (.str s)/\aO st.env 2=.ptr 0 []/\aO st.env 3=.p (.bool neg)/\st.heap=[.box false (.p (.st 290 [.bool false,.aK]))]) ?_ ?_
 ·cases s with
  |nil=>simp[<-f,bI]
  |cons c r=>
   by_cases hc:c=45
   ·simp[<-f,bI,hc]
   ·have S:¬(c:Int)=45:=by omega
    simp[<-f,bI,hc,S]
 rintro⟨R,T⟩ ⟨a,b,e,n⟩;dsimp only at a b e n;subst n;refine join (fun st=>aO st.env 0=.p (.str d)/\aO st.env 2=.ptr 0 []/\aO st.env 3=.p (.bool neg)/\st.heap=[.box false (.p (.st 290 [.bool false,.aK]))]) ?_ ?_
 ·cases neg with
  |false=>
   have D:s=d:=by rw[<-v,bQ,f];rfl
   simp[a,b,e,D]
  |true=>
   cases s with
   |nil=>simp[bI]at f
   |cons c r=>
    have D:r=d:=by rw[<-v,bQ,f];rfl
    simp[a,b,e,D]
 clear a b e;rintro⟨R,T⟩ ⟨a,b,e,n⟩;dsimp only at a b e n;subst n;obtain⟨L,u⟩:∃L,L=d.length:=⟨_,rfl⟩
 obtain⟨g,l⟩:∃g:Nat->Nat,∀i,N/bT^i=g i:=⟨_,fun _=>rfl⟩
 have B:∀i,9*i<=L->aM (d.take (L-9*i))=g i:=by
  intro i
  induction i with
  |zero=>intro _;rw[ms,Nat.sub_zero,u,hU,F,<-l,js,j5]
  |succ i ab=>
   intro h;rw[(HO k u h).1,ab o_,<-l,<-l,i2,ix];rfl
 have U:∀i,9*(i+1)<=L->aM ((d.take (L-9*i)).drop (L-9*(i+1)))=ae bT N i:=fun i h=>by
  rw[(HO k u h).2,B i o_,<-l];rfl
 have aa:∀i,9*(i+1)<=L->az prog 294 [.str ((d.take (L-9*i)).drop (L-9*(i+1)))] (.int .i64 (ae bT N i:Nat)):=fun i h=>by
  rw[<-U i h];exact x9 _ (Ku (ux k _) _) (by rw[ho,g3];omega)
 have I:∀i,9*i<=L->L<=9*i+9->g i=ae bT N i/\N<bT^(i+1):=fun i j q=>by
  have H:=jg _ (d.take (L-9*i)) rfl (ux k _);rw[B i j]at H;have y:g i<bT:=h8 H (by
   rw[show bT=10^9 from rfl];exact h7 (by decide) (by rw[g3];omega))
  refine⟨by rw[ae,l,i0 y],?_⟩;rw[<-l,iz (i6 (by decide))]at y;rw[ix,h9];exact y
 have V:∀i,9*i<=L->L<=9*i+9->az prog 294 [.str (d.take (L-9*i))] (.int .i64 (ae bT N i:Nat)):=fun i j q=>by
  rw[<-(I i j q).1,<-B i j];exact x9 _ (ux k _) (by rw[g3];omega)
 have G:∀i,9*i<=L->L<=9*i+9->az prog 284 [.bool neg,.seq (iP (row bT (i+1) N))] (eG (if neg=true then -(N:Int)else N)):=fun i j q=>
  BA neg (row bT (i+1) N) N (jA aW (I i j q).2) (by simp[row];omega)
 generalize (if neg=true then -(N:Int)else N)=z at*;simp only[eG]at G⊢;rw[bn];simp[a,b,e,-bn];rw[bn];simp[a,b,e];refine lp (α:=Nat) (fun i=>⟨[(0,.p (.str (d.take (L-9*i)))),(2,.ptr 0 []),(3,.p (.bool neg)),(4,.sl 1 i 1 0 i)],[.box false (.p (.st 290 [.bool false,.aK])),.arr .grow i 1 (dS i N)]⟩)
  (fun i=>9*i<=L) (fun i=>L-i) 0 (j6 _) ?_ (he:=by simp[a,b,e,dS,u]) (hh:=by simp[dS])
 intro i hi;have x:(d.take (L-9*i)).length=L-9*i:=by rw[g3];omega
 have o:=aa i;have w:=V i hi;have E:(d.take (L-9*i)).take (L-9*(i+1))=d.take (L-9*(i+1)):=by rw[hF,lw o_]
 rw[show L-9*(i+1)=L-9*i-9 by omega]at o E;obtain⟨m,C⟩:∃m,m=L-9*i:=⟨_,rfl⟩
 rw[<-C]at x o w E;have M:=pU i N;have O:g6 i (dS i N)=dS i N:=gl (by rw[iv];exact i4 _);have J:i+1<=cF:=by simp only[cF];omega
 by_cases ac:9<m
 ·have o:=o o_;have P:eb.wrap ((m:Int)-9)=(m:Int)-9:=aN _ o_ o_;have Q:((m:Int)-9).toNat=m-9:=by omega
  have K:(9:Int)<=m:=o_
  have Y:9*(i+1)<=L:=o_
  rw[<-C];generalize af:g6 m d=t at*;have Z:g6 m t=t:=gl o_;have A:(9:Int)<m:=o_
  have W:m-9=L-9*(i+1):=o_
  simp[x,A,P,Q,K,Z];refine c1 o ?_;simp[O,iv,J,<-M,x,P,Q,K,E];exact rd (i+1) Y (he:=by simp[W])
 ·have w:=w o_;have hs:=G i hi o_;rw[<-C];generalize g6 m d=t at*;have A:¬(9:Int)<m:=by omega
  simp[x,A];refine c1 w ?_;simp[O,iv,J,<-M];have X:¬dS (i+1) N=[]:=by intro h;have:=congrArg hB h;rw[iv]at this;simp at this
  refine cp hs (by simp[iv,KD,X];first|exact⟨rfl,rfl⟩|rfl) ?_ (h1:=by simp[iP,row,ha,gl]);simp[ad]
def jP(s:List Nat):Int:=if bI s=true then -(aM (bA s):Int)else aM (bA s)
def iB(s:List Nat):Nat:=if dX s=true then aM (bM s)else 1
theorem J5(s:List Nat)(q:(bA s).all bF=true)(l:(bM s).all bF=true)(hl:s.length<=1000000):az prog 229 [.str s] (.aE [eG (jP s),eG (iB s:Nat)]):=by
 refine aP nf (i_ func229) mix (by simp[f229]) ?_;have e:=Bi s o_;obtain⟨K,f,h,D⟩:=Je s;have I:=sq 47 s;have C:=LJ 1 (by decide) (by decide);rcases nH 47 s with⟨q1,b⟩|⟨q1,b,M⟩
 ·have a:=BB (bN 47 s).1 (by rw[f];exact q) o_;rw[K,f]at a;have d:=BB (bN 47 s).2.1 (by
   rw[h];rw[gy]at l⊢;intro x hx;exact l x ((oD _).2 x hx)) o_
  have J:bI (bM s)=false:=by
   rw[bI];cases g:bM s with
   |nil=>simp
   |cons c r=>
    have:=yh (gy.1 l c (by rw[g];simp));simp;omega
  rw[h,bQ,J]at d;have m:dX s=true:=by rw[<-D];exact q1
  have nQ:jP s=if bI s=true then -(aM (bA s):Int)else aM (bA s):=rfl
  have j:iB s=aM (bM s):=by rw[iB,if_pos m]
  rw[<-nQ]at a;simp only[dp,if_false]at d;rw[<-j]at d;generalize L:jP s=z at*;generalize iB s=dn at*;obtain⟨i,o⟩:∃i,(bN 47 s).1=i:=⟨_,rfl⟩
  obtain⟨E,p⟩:∃E,(bN 47 s).2.1=E:=⟨_,rfl⟩
  rw[o,p]at b;rw[o]at e a;rw[p]at h;obtain⟨k,n⟩:∃k,i.length=k:=⟨_,rfl⟩
  rw[n]at e;have hk:k<s.length:=by rw[b];simp;omega
  have B:s.take k=i:=by rw[b,<-n];simp
  have g:s.drop (k+1)=bM s:=by
   rw[<-h]
   conv=>lhs;rw[b,<-n]
   simp
  clear I b o p;have G:eb.wrap ((k:Int)+1)=(k:Int)+1:=aN _ o_ o_;have F:((k:Int)+1).toNat=k+1:=o_
  have y:¬(k:Int)=s.length:=o_
  have u:k+1<=s.length:=hk;have w:k<=s.length:=o_
  have t:(0:Int)<=k+1:=o_
  have v:(k:Int)+1<=s.length:=o_
  simp only[eG]at a d⊢;simp[f229];refine c1 e ?_;simp[y,G,F,B,g,u,w,t,v];refine e1 a ?_;simp[y,G,F,B,g,u,w,t,v];refine e1 d ?_;simp[ad]
 ·have a:=BB s (by
   have A:=f;rw[b]at A;rw[A];exact q) hl
  have m:dX s=false:=by rw[<-D];exact q1
  have H:bQ s=bA s:=by rw[b]at f;exact f
  have nQ:jP s=if bI s=true then -(aM (bA s):Int)else aM (bA s):=rfl
  have j:iB s=1:=by rw[iB,m];rfl
  rw[H,<-nQ]at a;rw[j];rw[b]at e;generalize jP s=z at*;simp only[eG]at a C⊢;simp[f229];refine c1 e ?_;simp;refine c1 a ?_;simp;refine c1 C ?_;simp[ad]
theorem HP(n:Nat):(bd n).length<=9*(aq bT n).length+1:=by
 rcases mp n with h|h
 ·subst h;rw[ny];simp
 ·have hl:0<(aq bT n).length:=by rw[gm,Ne,uv];omega
  have a:=ch aW n;rw[show bT^(aq bT n).length=10^(9*(aq bT n).length)by rw[lb];rfl]at a;exact ih (ug a o_) o_
def mJ(n d:Int):Rat:=m6 n d
theorem Hz(n g:Nat):(aq bT (n/g)).length<=(aq bT n).length:=
 dJ aW _ _ (ii (kk n g) (ch aW n))
theorem TC(n d:Nat)(a:0<d):(aq bT (j1 n d)).length<=(aq bT d).length:=
 dJ aW _ _ (ii (le n a) (ch aW d))
theorem GS(n d:Int)(L:d≠0)(s:(aq bT n.natAbs).length<=400000)(j:(aq bT d.natAbs).length<=400000):az prog 253 [eG n,eG d] (.str (bK (mJ n d))):=by
 refine aP nf (i_ func253) mix (by simp[f253]) ?_;simp[f253,-bn,ad];rw[bn];simp[-bn,ad];refine join (fun st=>∃(e:Int)(d':Nat),0<d'/\(aq bT e.natAbs).length<=400000/\(aq bT d').length<=400000/\mJ e d'=mJ n d/\aO st.env 2=.ptr 0 []/\aO st.env 3=.ptr 1 []/\st.heap=[.box false (.p (eG e)),.box false (.p (eG (d':Nat)))]) ?_ ?_
 ·have P:=LM n s;have O:=LM d j
  by_cases h:d<0
  ·simp[h,ad];refine e1 P ?_;simp[ad];refine e1 O ?_;simp[ad];refine⟨by repeat' first|rfl|apply And.intro,?_⟩;refine⟨-n,d.natAbs,o_,by rw[e9];exact s,j,?_,rfl,?_⟩
   ·rw[en o_];exact nk _ _
   ·rw[en o_]
  ·have A:((d.natAbs:Nat):Int)=d:=ew o_;simp[h,ad];exact⟨n,d.natAbs,o_,s,j,by rw[A],rfl,by rw[A]⟩
 rintro⟨T,U⟩ ⟨e,d',k1,k2,k3,k4,l,m,D⟩;dsimp only at l m D;subst D;rw[<-k4,show mJ e d'=m6 e d' from rfl];clear k4 s j L;obtain⟨u,v⟩:=lA (n:=e) (show d'≠0 by omega);obtain⟨g,k⟩:∃g,j1 e.natAbs d'=g:=⟨_,rfl⟩
 have r:0<g:=by rw[<-k];exact kd _ k1
 have B:(aq bT g).length<=400000:=by rw[<-k];exact ih (TC _ _ k1) k3
 rw[k]at u v;have y:=JJ e.natAbs d' k2 k3;rw[k]at y;have I:=CX e.natAbs g r k2 B;have J:=CX d' g r k3 B;have Y:(aq bT (e.natAbs/g)).length<=400000:=ih (Hz _ _) k2;have Z:(aq bT (d'/g)).length<=400000:=ih (Hz _ _) k3;have w:=pL (decide (e<0)) (e.natAbs/g) o_;have f:=pL false (d'/g) o_;have t:(if decide (e<0)=true then -((e.natAbs/g:Nat):Int)else((e.natAbs/g:Nat):Int))=(m6 e d').num:=by
  rw[u];have M:(g:Int)∣e:=by rw[<-k];exact e7.2 (li _ _)
  obtain⟨c,hc⟩:=M;have N:(g:Int)≠0:=o_
  rw[hc,e6 _ N,ez,ed,Nat.mul_div_cancel_left _ r]
  by_cases K:c<0
  ·have:(g:Int)*c<0:=fd o_ K;simp[this];omega
  ·have:¬(g:Int)*c<0:=by
    have:=fb (a:=(g:Int)) (b:=c) o_ o_;omega
   simp[this];omega
 rw[t]at w;simp only[dp,if_false]at f;have z:=Cm (m6 e d').num (by
  rw[<-t];split
  ·rw[e9,ed];omega
  ·rw[ed];omega)
 have i:=Cm ((d'/g:Nat):Int) (by rw[ed];omega);rw[rW]at i;have Q:0<d'/g:=by
  refine km ?_ r;rw[<-k];exact le _ k1
 have V:(bL (m6 e d').num).length<=3600002:=by
  refine ih (B0 _) ?_;have h:=HP (m6 e d').num.natAbs;have:(m6 e d').num.natAbs=e.natAbs/g:=by
   rw[<-t];split
   ·rw[e9,ed]
   ·rw[ed]
  rw[this]at h⊢;omega
 have W:(bd (d'/g)).length<=3600001:=by
  have h:=HP (d'/g);omega
 have F:bK (m6 e d')=if d'/g=1 then bL (m6 e d').num else bL (m6 e d').num++47::bd (d'/g):=by rw[bK,v]
 rw[F];clear F t u v;generalize (m6 e d').num=G at*;generalize aa:d'/g=q at*;simp only[eG,ed]at w f z i⊢;simp[l,m,ad];refine c2 y ?_;simp[l,m,ad];refine c2 I ?_;simp[l,m,ad];refine c2 J ?_;simp[l,m,ad];refine c2 w ?_;simp[l,m,ad];refine c1 z ?_;have R:∀h:q=1,aq bT q=[1]:=fun h=>by rw[h];exact nm (by decide) (by decide)
 by_cases o:q=1
 ·have x:=R o;simp[o,eT,nm (show 0<1 by decide) (show 1<bT by decide)]
 ·have C:(bL G).length+1<9223372036854775808:=by omega
  have X:(bL G).length+((bd q).length+1)<9223372036854775808:=o_
  by_cases E:q<bT
  ·have x:=nm Q E;have S:¬(q:Int)=1:=by omega
   simp[o,eT,x,S];refine⟨C,?_⟩;simp only[eT,x,g0,hz]at f i;refine c2 f ?_;simp;refine c1 i ?_;simp;omega
  ·have j:¬((aq bT q).length:Int)=1:=by
    intro h;have H:(aq bT q).length=1:=o_
    have:=ch aW q;rw[H,la]at this;exact E this
   simp[o,eT,j];refine⟨C,?_⟩;simp only[eT]at f i;refine c2 f ?_;simp;refine c1 i ?_;simp;omega
theorem TH{n:Int}{g:Nat}(a:0<g)(h:g∣n.natAbs):n.tdiv g=n/g:=by
 obtain⟨c,hc⟩:=e7.2 h;subst hc;rw[Int.mul_tdiv_cancel_left _ o_,e6 _ o_]
theorem NH(n d:Int)(O:d≠0)(U:n.natAbs<=4000000000000000000)(P:d.natAbs<=4000000000000000000):az prog 252 [.int .i64 n,.int .i64 d] (.str (bK (mJ n d))):=by
 refine aP nf (i_ func252) mix (by simp[f252]) ?_;have f:¬n< -4000000000000000000:=o_
 have i:¬4000000000000000000<n:=o_
 have j:¬d< -4000000000000000000:=o_
 have k:¬4000000000000000000<d:=o_
 simp[f252,f,i,j,k,-bn];rw[bn];simp[f,i,j,k,-bn];rw[bn,bn];simp[f,i,j,k,-bn];refine join (fun st=>∃(b:Int)(d':Nat),0<d'/\b.natAbs<=4000000000000000000/\d'<=4000000000000000000/\mJ b d'=mJ n d/\aO st.env 0=.p (.int .i64 b)/\aO st.env 1=.p (.int .i64 (d':Nat))/\st.heap=[]) ?_ ?_
 ·have H:eb.wrap (-n)= -n:=aN _ o_ o_;have o:eb.wrap (-d)= -d:=aN _ o_ o_
  by_cases h:d<0
  ·simp[h,H,o,f,i,j,k];refine⟨-n,d.natAbs,o_,o_,o_,?_,rfl,?_⟩
   ·rw[en o_];exact nk _ _
   ·rw[en o_]
  ·have J:((d.natAbs:Nat):Int)=d:=ew o_;simp[h,f,i,j,k];exact⟨n,d.natAbs,o_,o_,o_,by rw[J],rfl,by rw[J]⟩
 rintro⟨W,X⟩ ⟨b,d',k1,k2,k3,k4,r,s,K⟩;dsimp only at r s K;subst K;rw[<-k4,show mJ b d'=m6 b d' from rfl];clear k4 U P O f i j k;obtain⟨x,D⟩:=lA (n:=b) (show d'≠0 by omega);obtain⟨g,l⟩:∃g,j1 b.natAbs d'=g:=⟨_,rfl⟩
 have F:0<g:=by rw[<-l];exact kd _ k1
 rw[l]at x D;have I:=Xb b.natAbs d' o_ o_;rw[l]at I;have T:(if b< -b then -b else b)=(b.natAbs:Nat):=by split<;>omega
 have H:eb.wrap (-b)= -b:=aN _ o_ o_;have z:b.tdiv g=(m6 b d').num:=by rw[x,TH F (by rw[<-l];exact li _ _)]
 have A:(d':Int).tdiv g=(d'/g:Nat):=by rw[ej (ei _),et]
 have V:(m6 b d').num.natAbs<=4000000000000000000:=by
  have R:(g:Int)∣b:=by rw[<-l];exact e7.2 (li _ _)
  obtain⟨c,hc⟩:=R;have S:(g:Int)≠0:=o_
  rw[x,hc,e6 _ S];rw[hc,ez,ed]at k2;exact ih (l4 _ F) k2
 have Q:d'/g<=4000000000000000000:=ih (kk _ _) k3;have ac:0<d'/g:=by
  refine km ?_ F;rw[<-l];exact le _ k1
 have M:bK (m6 b d')=if d'/g=1 then bL (m6 b d').num else bL (m6 b d').num++47::bd (d'/g):=by rw[bK,D]
 rw[M];clear M x D;generalize (m6 b d').num=a at*;generalize ad:d'/g=q at*;have y:¬g=0:=o_
 have u:=xo a.natAbs 1 o_ (by decide);have E:=xo q 1 o_ (by decide);have Y:(bd a.natAbs).length<=19:=ug (ii V (by decide)) (by decide);have Z:(bd q).length<=19:=ug (ii Q (by decide)) (by decide);rw[show low (max 1 (nd a.natAbs)) a.natAbs=bd a.natAbs from rfl]at u;rw[show low (max 1 (nd q)) q=bd q from rfl]at E;have ab:(if a< -a then -a else a)=(a.natAbs:Nat):=by split<;>omega
 have o:eb.wrap (-a)= -a:=aN _ o_ o_;have B:eb.wrap a=a:=aN _ o_ o_;have C:eb.wrap (q:Int)=q:=aN _ o_ o_;simp[r,s,H,T];refine c2 I ?_;have L:(1:Int)<q↔¬q=1:=o_
 have N:eb.wrap 1=1:=rfl;have aa:(bd a.natAbs).length<9223372036854775808:=o_
 by_cases m:a<0
 ·have G:bL a=45::bd a.natAbs:=by rw[bL,if_pos m]
  rw[G];have w:a< -a:=o_
  have v:-a=(a.natAbs:Nat):=o_
  by_cases e:q=1
  ·simp[r,s,y,z,A,B,C,m,o,w,e];rw[v];refine c2 u ?_;simp[e,N];omega
  ·have t:=L.2 e;simp[r,s,y,z,A,B,C,m,o,w,e,t];rw[v];refine c2 u ?_;simp[e,t];refine⟨o_,o_,?_⟩;refine c2 E ?_;simp;omega
 ·have G:bL a=bd a.natAbs:=by rw[bL,if_neg m]
  rw[G];have v:a=(a.natAbs:Nat):=o_
  have w:¬a< -a:=o_
  by_cases e:q=1
  ·simp[r,s,y,z,A,B,C,m,o,w,e];rw[show PV.int .i64 a=.int .i64 (a.natAbs:Nat)by rw[<-v]];refine c2 u ?_;simp[e,N];omega
  ·have t:=L.2 e;simp[r,s,y,z,A,B,C,m,o,w,e,t];rw[show PV.int .i64 a=.int .i64 (a.natAbs:Nat)by rw[<-v]];refine c2 u ?_;simp[e,t];refine⟨o_,o_,?_⟩;refine c2 E ?_;simp;omega
theorem Cv(n:Int)(a:-9223372036854775808<=n)(b:n<=9223372036854775807):az prog 158 [.int .i64 n] (.str (bK (n:Rat))):=by
 have e:=LJ n a b;have d:=Cm n (by
  have c:n.natAbs<bT^3:=by
   have:bT^3=1000000000000000000000000000:=by decide
   omega
  have:=dJ aW 3 _ c;omega)
 have hq:bK (n:Rat)=bL n:=by rw[bK,if_pos (Rat.den_intCast n),Rat.num_intCast]
 rw[hq];refine aP nf (i_ func158) mix (by simp[f158]) ?_;simp[f158];refine c1 e ?_;simp;refine c1 d ?_;simp
theorem Xk(s:List Nat)(C:(bA s).all bF=true)(J:(bM s).all bF=true)(hl:s.length<=1000000):
 ∃(n d:Int)(b:Bool),az prog 251 [.str s] (.aE [.int .i64 n,.int .i64 d,.bool b])/\(b=true->n=jP s/\d=(iB s:Nat)/\n.natAbs<1000000000/\iB s<1000000000):=by
 by_cases K:20<s.length
 ·refine⟨0,0,false,?_,fun h=>by cases h⟩;refine aP nf (i_ func251) mix (by simp[f251]) ?_;have m:(20:Int)<s.length:=by omega
  simp[f251,m]
 obtain⟨d,l⟩:∃d,bQ s=d:=⟨_,rfl⟩
 obtain⟨neg,g⟩:∃neg,bI s=neg:=⟨_,rfl⟩
 have ai:d.length<=s.length:=by rw[<-l];exact(oD s).1
 have i:=Bi d o_;have A:(bN 47 d).1=bA s:=by rw[<-l];rfl
 have N:(bN 47 d).2.1=bM s:=by rw[<-l];rfl
 have P:(bN 47 d).2.2=dX s:=by rw[<-l];rfl
 have q:=nH 47 d;rw[A,N,P]at q;rw[A]at i;obtain⟨k,hk⟩:∃k,(bA s).length=k:=⟨_,rfl⟩
 rw[hk]at i;have Q:k<=d.length:=by rw[<-hk,<-A];exact(sq 47 d).1
 have m:¬(20:Int)<s.length:=o_
 obtain⟨b,o⟩:∃b:Bool,b=(decide (k<=9)&&decide (d.length-k<=10)):=⟨_,rfl⟩
 have M:b=true->(jP s).natAbs<1000000000/\iB s<1000000000:=fun h=>by
  rw[o]at h;simp only[dk,decide_eq_true_eq]at h;have v:=jg _ (bA s) rfl C;rw[hk]at v;have ad:aM (bA s)<1000000000:=h8 v (h7 (n:=10) (by decide) h.1);refine⟨by rw[jP];split<;>omega,?_⟩;rcases q with⟨q1,f⟩|⟨q1,f,af⟩
  ·have W:(bM s).length<=9:=by
    have:=congrArg hB f;simp at this;omega
   have X:=jg _ (bM s) rfl J;rw[iB,if_pos q1];exact h8 X (h7 (n:=10) (by decide) W)
  ·rw[iB,q1,if_neg (by decide)];decide
 refine⟨if b=true then jP s else 0,if b=true then(iB s:Nat)else 0,b,?_,fun h=>⟨if_pos h,if_pos h,by rw[if_pos h];exact(M h).1,(M h).2⟩⟩;refine aP nf (i_ func251) mix (by simp[f251]) ?_;simp[f251,-bn];rw[bn];simp[-bn];rw[bn];simp[-bn];rw[bn,bn];simp[m,-bn];refine join (fun st=>aO st.env 5=.p (.str s)/\aO st.env 6=.p (.bool neg)/\st.heap=[]) ?_ ?_
 ·clear K m;cases s with
  |nil=>simp[<-g,bI]
  |cons c r=>
   by_cases hc:c=45
   ·simp[<-g,bI,hc]
   ·have aa:¬(c:Int)=45:=by omega
    simp[<-g,bI,hc,aa]
 rintro⟨U,ab⟩ ⟨e,a,u⟩;dsimp only at e a u;subst u;refine join (fun st=>aO st.env 5=.p (.str d)/\aO st.env 6=.p (.bool neg)/\st.heap=[]) ?_ ?_
 ·cases t:neg with
  |false=>
   have F:s=d:=by rw[<-l,bQ,g,t];rfl
   simp[e,a,t,F]
  |true=>
   clear i q hk N A P K m o;cases s with
   |nil=>simp[bI]at g;rw[t]at g;cases g
   |cons c r=>
    have F:r=d:=by rw[<-l,bQ,g,t];rfl
    simp[e,a,t,F]
 clear e a;rintro⟨U,ab⟩ ⟨e,a,u⟩;dsimp only at e a u;subst u;have ah:eb.wrap ((k:Int)+1)=(k:Int)+1:=aN _ o_ o_;have G:eb.wrap ((d.length:Int)-k)=(d.length:Int)-k:=aN _ o_ o_;have ag:((k:Int)+1).toNat=k+1:=o_
 have ae:jP s=if neg=true then -(aM (bA s):Int)else aM (bA s):=by rw[jP,g]
 rw[ae];rcases i1 9 k with D|D
 ·have Y:¬k<=9:=by omega
  have j:(9:Int)<k:=o_
  have E:b=false:=by rw[o];simp[Y]
  simp[e,a];refine c1 i ?_;simp[e,a,j,E]
 rcases i1 10 (d.length-k)with I|I
 ·have V:¬d.length-k<=10:=by omega
  have j:¬(9:Int)<k:=o_
  have x:(10:Int)<(d.length:Int)-k:=o_
  have E:b=false:=by rw[o];simp[V]
  simp[e,a];refine c1 i ?_;simp[e,a,j,x,G,E]
 have j:¬(9:Int)<k:=o_
 have x:¬(10:Int)<(d.length:Int)-k:=o_
 have y:b=true:=by rw[o];simp[D,I]
 have R:d.take k=bA s:=by
  rcases q with⟨_,f⟩|⟨_,f,_⟩
  ·rw[f,<-hk];simp
  ·rw[<-f,<-hk];simp
 have L:=x9 (bA s) C o_;have v:=jg _ (bA s) rfl C;rw[hk]at v;have ad:aM (bA s)<1000000000:=h8 v (h7 (n:=10) (by decide) D);rcases q with⟨q1,f⟩|⟨q1,f,af⟩
 ·have z:k<d.length:=by rw[f];simp;omega
  have O:d.drop (k+1)=bM s:=by
   conv=>lhs;rw[f,<-hk]
   simp
  have aj:(bM s).length<=9:=by rw[<-O,ho];omega
  have Z:=x9 (bM s) J o_;have B:iB s=aM (bM s):=by rw[iB,if_pos q1]
  rw[B];generalize aM (bM s)=ak at*;generalize aM (bA s)=w at*;have H:eb.wrap (-(w:Int))= -(w:Int):=aN _ o_ o_;clear f;simp[e,a];refine c1 i ?_;have S:(0:Int)<=k+1:=o_
  have ac:k+1<=d.length:=z;have T:(k:Int)+1<=d.length:=o_
  simp[e,a,j,x,G,y,Q,R];refine c1 L ?_;cases neg<;>
  ·simp[e,a,z,ac,ah,ag,O,S,T];refine c1 Z ?_;simp[a,H,y]
 ·have z:¬k<d.length:=by rw[<-f,hk];omega
  have B:iB s=1:=by rw[iB,q1];rfl
  rw[B];generalize aM (bA s)=w at*;have H:eb.wrap (-(w:Int))= -(w:Int):=aN _ o_ o_;simp[e,a];refine c1 i ?_;simp[e,a,j,x,G,y,Q,R];refine c1 L ?_;cases neg<;>simp[e,a,z,H,y]
theorem A5{n k:Nat}(h:n<2^k):(aq bT n).length<=k/29+1:=by
 refine dJ aW _ _ (h8 h ?_);have a:2^29<=bT:=by decide
 refine ih ?_ (ll a _);rw[<-lb];exact h7 (by decide) o_
theorem K3(q:Rat):jP (bK q)=q.num:=by
 obtain⟨a,b,_,_⟩:=uy q;rw[jP,a,b,oZ]
 by_cases h:q.num<0
 ·rw[if_pos (by simpa using h)];omega
 ·rw[if_neg (by simpa using h)];omega
theorem Lj(q:Rat):iB (bK q)=q.den:=by
 obtain⟨_,_,a,b⟩:=uy q;rw[iB,a,b]
 by_cases h:q.den=1
 ·rw[if_neg (by simpa using h),h]
 ·rw[if_pos (by simpa using h),if_neg h,oZ]
theorem zG(q:Rat):(bA (bK q)).all bF=true/\(bM (bK q)).all bF=true:=by
 obtain⟨_,a,_,b⟩:=uy q;refine⟨by rw[a];exact sU _,?_⟩;rw[b];split
 ·rfl
 ·exact sU _
theorem xd{q:Rat}(h:cr kB q):(bK q).length<=1000000:=by
 have a:(bd q.num.natAbs).length<=33334:=C3 (K:=kB) (k:=33334) h.1 (by decide) (by decide);have b:(bd q.den).length<=33334:=C3 (K:=kB) (k:=33334) h.2 (by decide) (by decide);have:=aEv q;omega
theorem xQ(q:Rat)(h:cr kB q):∃(n d:Int)(b:Bool),az prog 251 [.str (bK q)] (.aE [.int .i64 n,.int .i64 d,.bool b])/\(b=true->n=q.num/\d=(q.den:Nat)/\n.natAbs<1000000000/\q.den<1000000000):=by
 have:=Xk (bK q) (zG q).1 (zG q).2 (xd h)
 rwa [K3,Lj]at this
theorem xn(q:Rat)(h:cr kB q):az prog 229 [.str (bK q)] (.aE [eG q.num,eG (q.den:Nat)]):=by
 have:=J5 (bK q) (zG q).1 (zG q).2 (xd h)
 rwa [K3,Lj]at this
theorem Ye(a b:Rat):mJ (a.num*b.den+b.num*a.den) (a.den*b.den)=a+b:=by
 rw[Rat.add_def'];rfl
theorem Yf(a b:Rat):mJ (a.num*b.num) (a.den*b.den)=a*b:=by
 rw[Rat.mul_def,Rat.normalize_eq_mkRat];rfl
theorem Na(a b:Rat):((a.den:Nat):Int)*(b.den:Nat)≠0:=by
 have c:=a.den_pos;have d:=b.den_pos;exact Int.ne_of_gt (Int.mul_pos o_ o_)
theorem vo{x y:Int}(hx:x.natAbs<1000000000)(a:y.natAbs<1000000000):(x*y).natAbs<=999999998000000001:=by
 rw[ez];exact kv (show x.natAbs<=999999999 by omega) (show y.natAbs<=999999999 by omega)
theorem ur{x y:Int}(hx:x.natAbs<2^kB)(a:y.natAbs<2^kB):(aq bT (x*y).natAbs).length<=10000:=by
 have h:=A5 (n:=(x*y).natAbs) (k:=kB+kB) (by rw[ez,j4];exact j9 hx a);exact ih h (by decide)
theorem mn{x:Nat}(hx:x<2^kB):(aq bT x).length<=10000:=ih (A5 hx) (by decide)
theorem WU(a b:Rat)(h:cr kB a)(i:cr kB b):az prog 188 [.str (bK a),.str (bK b)] (.str (bK (a+b))):=by
 obtain⟨n,d,p,A,E⟩:=xQ a h;obtain⟨m,e,r,B,F⟩:=xQ b i;have t:=xn a h;have u:=xn b i;refine aP nf (i_ func188) mix (by simp[f188]) ?_;rw[<-Ye];have z:=Na a b
 by_cases j:p=true/\r=true
 ·obtain⟨rfl,rfl,k1,k2⟩:=E j.1;obtain⟨rfl,rfl,k3,k4⟩:=F j.2;have O:=vo k1 (show((b.den:Nat):Int).natAbs<1000000000 by rw[ed];exact k4);have P:=vo k3 (show((a.den:Nat):Int).natAbs<1000000000 by rw[ed];exact k2);have Q:=vo (show((a.den:Nat):Int).natAbs<1000000000 by rw[ed];exact k2) (show((b.den:Nat):Int).natAbs<1000000000 by rw[ed];exact k4);have C:=NH (a.num*b.den+b.num*a.den) (a.den*b.den) z o_ o_;have H:eb.wrap (a.num*(b.den:Nat))=a.num*(b.den:Nat):=aN _ o_ o_;have I:eb.wrap (b.num*(a.den:Nat))=b.num*(a.den:Nat):=aN _ o_ o_;have J:eb.wrap (a.num*(b.den:Nat)+b.num*(a.den:Nat))=a.num*(b.den:Nat)+b.num*(a.den:Nat):=aN _ o_ o_;have K:eb.wrap (((a.den:Nat):Int)*(b.den:Nat))=((a.den:Nat):Int)*(b.den:Nat):=aN _ o_ o_;have g:p=true:=j.1;have q:r=true:=j.2;simp[f188];refine c1 A ?_;simp;refine c1 B ?_;simp[g,q,H,I,J,K];refine c2 C ?_;simp
 ·have l:a.num.natAbs<2^kB:=h.1;have o:b.num.natAbs<2^kB:=i.1;have c:((a.den:Nat):Int).natAbs<2^kB:=by rw[ed];exact h.2
  have f:((b.den:Nat):Int).natAbs<2^kB:=by rw[ed];exact i.2
  have w:=uQ a.num (b.den:Nat) (by have:=mn l;have:=mn f;omega);have x:=uQ b.num (a.den:Nat) (by have:=mn o;have:=mn c;omega);have y:=uQ (a.den:Nat) (b.den:Nat) (by have:=mn c;have:=mn f;omega);have L:=ur l f;have M:=ur o c;have N:=ur c f;have v:=Xj (a.num*(b.den:Nat)) (b.num*(a.den:Nat)) o_ o_;have G:(aq bT (a.num*(b.den:Nat)+b.num*(a.den:Nat)).natAbs).length<=400000:=by
   refine ih (A5 (k:=kB+kB+1) ?_) (by decide);have q1:(a.num*(b.den:Nat)).natAbs<2^(kB+kB):=by rw[ez,j4];exact j9 l f
   have R:(b.num*(a.den:Nat)).natAbs<2^(kB+kB):=by rw[ez,j4];exact j9 o c
   rw[ix];omega
  have s:=GS (a.num*(b.den:Nat)+b.num*(a.den:Nat)) ((a.den:Nat)*(b.den:Nat)) z G o_;simp[f188];refine c1 A ?_;simp;refine c1 B ?_;have D:(p=false)\/(p=true/\r=false):=by cases p<;>cases r<;>simp_all
  rcases D with g|⟨g,q⟩
  ·simp[g];refine c1 t ?_;simp[ad];refine c1 u ?_;simp[ad];refine e2 w ?_;simp[ad];refine e2 x ?_;simp[ad];refine e2 v ?_;simp[ad];refine e2 y ?_;simp[ad];refine e2 s ?_;simp
  ·simp[g,q];refine c1 t ?_;simp[ad];refine c1 u ?_;simp[ad];refine e2 w ?_;simp[ad];refine e2 x ?_;simp[ad];refine e2 v ?_;simp[ad];refine e2 y ?_;simp[ad];refine e2 s ?_;simp
theorem I0(a b:Rat)(f:cr kB a)(g:cr kB b):az prog 189 [.str (bK a),.str (bK b)] (.str (bK (a*b))):=by
 obtain⟨n,d,p,x,B⟩:=xQ a f;obtain⟨m,e,r,y,C⟩:=xQ b g;have s:=xn a f;have t:=xn b g;refine aP nf (i_ func189) mix (by simp[f189]) ?_;rw[<-Yf];have w:=Na a b
 by_cases h:p=true/\r=true
 ·obtain⟨rfl,rfl,k1,k2⟩:=B h.1;obtain⟨rfl,rfl,k3,k4⟩:=C h.2;have H:=vo k1 k3;have I:=vo (show((a.den:Nat):Int).natAbs<1000000000 by rw[ed];exact k2) (show((b.den:Nat):Int).natAbs<1000000000 by rw[ed];exact k4);have z:=NH (a.num*b.num) (a.den*b.den) w o_ o_;have D:eb.wrap (a.num*b.num)=a.num*b.num:=aN _ o_ o_;have E:eb.wrap (((a.den:Nat):Int)*(b.den:Nat))=((a.den:Nat):Int)*(b.den:Nat):=aN _ o_ o_;have c:p=true:=h.1;have i:r=true:=h.2;simp[f189];refine c1 x ?_;simp;refine c1 y ?_;simp[c,i,D,E];refine c2 z ?_;simp
 ·have j:a.num.natAbs<2^kB:=f.1;have l:b.num.natAbs<2^kB:=g.1;have k:((a.den:Nat):Int).natAbs<2^kB:=by rw[ed];exact f.2
  have o:((b.den:Nat):Int).natAbs<2^kB:=by rw[ed];exact g.2
  have u:=uQ a.num b.num (by have:=mn j;have:=mn l;omega);have v:=uQ (a.den:Nat) (b.den:Nat) (by have:=mn k;have:=mn o;omega);have F:=ur j l;have G:=ur k o;have q:=GS (a.num*b.num) ((a.den:Nat)*(b.den:Nat)) w o_ o_;simp[f189];refine c1 x ?_;simp;refine c1 y ?_;have A:(p=false)\/(p=true/\r=false):=by cases p<;>cases r<;>simp_all
  rcases A with c|⟨c,i⟩
  ·simp[c];refine c1 s ?_;simp[ad];refine c1 t ?_;simp[ad];refine e2 u ?_;simp[ad];refine e2 v ?_;simp[ad];refine e2 q ?_;simp
  ·simp[c,i];refine c1 s ?_;simp[ad];refine c1 t ?_;simp[ad];refine e2 u ?_;simp[ad];refine e2 v ?_;simp[ad];refine e2 q ?_;simp
theorem aAe{a:Rat}(h:a≠0):a.num≠0:=fun e=>h (Rat.num_eq_zero.1 e)
theorem W2(s:List Nat)(hl:s.length<=1048576):az prog 194 [.str s] (.int .i64 (if s=[48]then 0 else if bI s=true then -1 else 1)):=by
 refine aP nf (i_ func194) mix (by simp[f194]) ?_
 by_cases b:s=[48]
 ·simp[f194,b]
 ·cases s with
  |nil=>simp[f194,bI]
  |cons c r=>
   by_cases hc:c=45
   ·simp[f194,bI,hc]
   ·have e:¬(c:Int)=45:=by omega
    have d:¬(c=48/\r=[]):=fun h=>b (by rw[h.1,h.2])
    by_cases a:c=48
    ·have f:¬r=[]:=fun h=>d ⟨a,h⟩;simp[f194,bI,a,f]
    ·simp[f194,bI,hc,e,a]
theorem xC(q:Rat):q.num<0↔q<0:=by
 have h:=CH q
 by_cases b:q<0
 ·rw[if_pos b]at h;refine⟨fun _=>b,fun _=>?_⟩
  by_cases a:q.num<0
  ·exact a
  ·rw[if_neg a]at h;split at h<;>omega
 ·refine⟨fun a=>?_,fun a=>(b a).elim⟩;rw[if_neg b,if_pos a]at h
  split at h<;>omega
def gX(q:Rat):Int:=if q<0 then -1 else if q=0 then 0 else 1
theorem aED:bK 0=[48]:=by
 have h:bL 0=[48]:=by rw[show(0:Int)=((0:Nat):Int)from rfl,rW,ny]
 rw[bK,if_pos (show(0:Rat).den=1 from rfl)];exact h
theorem Rm(q:Rat):bK q=[48]↔q=0:=by
 rw[<-aED];exact⟨fun h=>aEi h,fun h=>by rw[h]⟩
theorem aDf(q:Rat):(if bK q=[48]then(0:Int)else if bI (bK q)=true then -1 else 1)=gX q:=by
 have e:=(uy q).1;have c:=Rm q;have d:q<0↔q.num<0:=(xC q).symm;rw[e,gX]
 by_cases b:q=0
 ·subst b;rw[if_pos (c.2 rfl),if_neg (by decide),if_pos rfl]
 ·rw[if_neg (fun h=>b (c.1 h))]
  by_cases a:q<0
  ·rw[if_pos (by simpa using d.1 a),if_pos a]
  ·rw[if_neg (by simpa using fun h=>a (d.2 h)),if_neg a,if_neg b]
theorem yb(q:Rat)(h:cr kB q):az prog 194 [.str (bK q)] (.int .i64 (gX q)):=by
 have:=W2 (bK q) (by have:=xd h;omega)
 rwa [aDf]at this
theorem LR{q:Rat}(h:q<0):bK q=45::bK (-q):=by
 have a:q.num<0:=(xC q).2 h;have e1:bL q.num=45::bd q.num.natAbs:=by rw[bL,if_pos a]
 have e2:bL (-q).num=bd q.num.natAbs:=by rw[ns,bL,if_neg o_,e9]
 rw[bK,bK,Rat.neg_den,e1,e2]
 split<;>rfl
theorem WX(q:Rat)(h:cr kB q):az prog 111 [.str (bK q)] (.str (bK (-q))):=by
 have a:=yb q h;have f:=xd h;refine aP nf (i_ func111) mix (by simp[f111]) ?_
 by_cases b:q<0
 ·have hs:gX q= -1:=by rw[gX,if_pos b]
  rw[hs]at a;have c:=LR b;rw[c]at a f⊢;simp[f111];refine c1 a ?_;simp
 ·by_cases d:q=0
  ·have hs:gX q=0:=by rw[gX,if_neg b,if_pos d]
   rw[hs]at a;have hq:-q=q:=by rw[d];rfl
   rw[hq];simp[f111];refine c1 a ?_;simp;refine c1 a ?_;simp
  ·have hs:gX q=1:=by rw[gX,if_neg b,if_neg d]
   rw[hs]at a;have e:-q<0:=by
    rw[<-xC,ns];have g:¬q.num<0:=fun h=>b ((xC q).1 h);have i:=aAe d;omega
   have c:=LR e;rw[Rat.neg_neg]at c;rw[c];have j:(bK q).length+1<9223372036854775808:=o_
   simp[f111];refine c1 a ?_;simp;refine c1 a ?_;simp;omega
theorem yl(a b:Rat)(f:cr kB a)(d:cr kB b):az prog 104 [.str (bK a),.str (bK b)] (.str (bK (a-b))):=by
 have e:=WX b d;have c:=WU a (-b) f (Ba d);rw[<-Rat.sub_eq_add_neg]at c;refine aP nf (i_ func104) mix (by simp[f104]) ?_;simp[f104];refine c1 e ?_;simp;refine c2 c ?_;simp
theorem aDc(a b:Rat):gX (a-b)=eU a b:=by
 have d:a-b<0↔a<b:=by
  rw[<-nz,<-nz,<-Rat.le_iff_sub_nonneg]
 have e:a-b=0↔a=b:=by
  constructor
  ·intro h;have f:a-b+b=0+b:=by rw[h]
   rwa [m7,m9]at f
  ·rintro rfl;exact np
 rw[gX,eU]
 by_cases h:a<b
 ·rw[if_pos (d.2 h),if_pos h]
 ·rw[if_neg (fun x=>h (d.1 x)),if_neg h]
  by_cases c:a=b
  ·rw[if_pos (e.2 c),if_pos c]
  ·rw[if_neg (fun x=>c (e.1 x)),if_neg c]
theorem wo(a b:Rat)(d:cr (kB/3) a)(e:cr (kB/3) b):az prog 155 [.str (bK a),.str (bK b)] (.int .i64 (eU a b)):=by
 have f:=yl a b (d.mono (by decide)) (e.mono (by decide));have c:=yb (a-b) ((wZ d e).mono (by decide));rw[aDc]at c;refine aP nf (i_ func155) mix (by simp[f155]) ?_;simp[f155];refine c2 f ?_;simp;refine c1 c ?_;simp
theorem Ny{a b:Nat}(h:a<=b):10^a<=10^b:=h7 (by decide) h
theorem Nx{s:List Nat}{k:Nat}(h:s.length<=k)(a:s.all bF=true):aM s<10^k:=h8 (jg _ s rfl a) (Ny h)
theorem aAy{x a b:Nat}(hx:x<10^a)(h:a<=9*b):(aq bT x).length<=b:=dJ aW b x (h8 hx (by
 rw[show bT^b=10^(9*b)by rw[lb];rfl];exact Ny h))
theorem Wm(s:List Nat)(hl:s.length<=1048576):az prog 280 [.str s] (.bool (s.all bF)):=by
 refine aP nf (i_ func280) mix (by simp[f280]) ?_;obtain⟨k,hk,n,o⟩:=Bn (fun j=>bF (s[j]?.getD 0)) s.length;have e:∀j(h:j<s.length),s[j]?.getD 0=s[j]:=fun j h=>by rw[gj h];rfl
 have B:s.all bF=decide (k=s.length):=by
  rcases o with h|⟨a,b⟩
  ·rw[h,decide_eq_true rfl,gy];intro x hx;obtain⟨j,A,rfl⟩:=hO hx;have:=n j o_
   rwa [e j A]at this
  ·rw[decide_eq_false o_];rw[e k a]at b
   by_cases m:s.all bF=true
   ·have:=gy.1 m _ (g4 a);rw[this]at b;cases b
   ·simpa using m
 rw[B];simp[f280];refine lp (α:=Nat) (fun i=>⟨[(3,.p (.int .i64 i)),(0,.p (.str s))],[]⟩)
  (fun i=>i<=k) (fun i=>k-i) 0 (j6 _) ?_
 intro i hi;have C:eb.wrap ((i:Int)+1)=(i:Int)+1:=aN _ o_ o_
 by_cases y:i<k
 ·have l:i<s.length:=by omega
  have q:=n i y;rw[e i l]at q;have D:=yh q;generalize d:s[i]=c at*;have f:s[i]?=some c:=by rw[gj l,d]
  have a:¬(c:Int)<48:=o_
  have b:¬(57:Int)<c:=o_
  have t:¬c<48:=o_
  have u:¬57<c:=o_
  simp[l,d,f,a,b,t,u,C];exact rd (i+1) (show i+1<=k by omega)
 ·have z:i=k:=by omega
  subst z;rcases o with h|⟨a,b⟩
  ·simp[h]
  ·rw[e i a]at b;have r:¬i=s.length:=by omega
   generalize d:s[i]=c at*;have f:s[i]?=some c:=by rw[gj a,d]
   by_cases hc:c<48
   ·have g:(c:Int)<48:=by omega
    simp[a,d,f,hc,g,r]
   ·have v:57<c:=by
     simp only[bF,Bool.and_eq_false_iff,decide_eq_false_iff_not]at b;omega
    have g:¬(c:Int)<48:=o_
    have w:(57:Int)<c:=o_
    simp[a,d,f,hc,g,v,w,r]
theorem IZ(s:List Nat)(hl:s.length<=1048576):az prog 228 [.str s] (.bool (cS s)):=by
 have b:=Wm s hl;refine aP nf (i_ func228) mix (by simp[f228]) ?_;cases s with
 |nil=>simp[f228,cS]
 |cons c r=>
  have j:(c:Int)=48↔c=48:=o_
  by_cases a:r=[]
  ·subst a;have e:cS [c]=[c].all bF:=by
    rw[cS]
    by_cases h:c=48
    ·subst h;rfl
    ·simp[h]
   rw[e];simp[f228];refine c1 b ?_;simp
  ·have d:0<r.length:=gm.2 a;have f:¬(r.length:Int)+1=0:=by omega
   have g:(1:Int)<r.length+1:=o_
   by_cases hc:c=48
   ·have e:cS (c::r)=false:=by rw[cS,hc];simp[a]
    rw[e];simp[f228,a,hc,d,f,g]
   ·have i:¬(c:Int)=48:=by omega
    have e:cS (c::r)=(c::r).all bF:=by rw[cS];simp[hc]
    rw[e];simp[f228,a,hc,i,d,f,g];refine c1 b ?_;simp
theorem yA(s:List Nat)(hs:jt s):az prog 153 [.str s] (.int .i64 (bS s)):=by
 refine aP nf (i_ func153) mix (by simp[f153]) ?_;obtain⟨hl,aL⟩:=hs;obtain⟨d,S⟩:∃d,bQ s=d:=⟨_,rfl⟩
 obtain⟨neg,A⟩:∃neg,bI s=neg:=⟨_,rfl⟩
 have aT:d.length<=s.length:=by rw[<-S];exact(oD s).1
 have T:=Bi d o_;have Y:(bN 47 d).1=bA s:=by rw[<-S];rfl
 have W:(bN 47 d).2.1=bM s:=by rw[<-S];rfl
 have ah:(bN 47 d).2.2=dX s:=by rw[<-S];rfl
 have z:=nH 47 d;have F:=sq 47 d;rw[Y,W,ah]at z;rw[Y]at T F;rw[W]at F;obtain⟨k,hk⟩:∃k,(bA s).length=k:=⟨_,rfl⟩
 rw[hk]at T;have J:k<=d.length:=by rw[<-hk];exact F.1
 have aw:d.take k=bA s:=by
  rcases z with⟨_,G⟩|⟨_,G,_⟩
  ·rw[G,<-hk];simp
  ·rw[<-G,<-hk];simp
 have M:=IZ (bA s) o_;have l:=IZ (bM s) o_;simp[f153,-bn];rw[bn];simp[-bn];rw[bn];simp[-bn];refine join (fun st=>aO st.env 0=.p (.str s)/\aO st.env 3=.p (.str d)/\st.heap=[]) ?_ ?_
 ·cases aj:neg with
  |false=>
   have av:s=d:=by rw[<-S,bQ,A,aj];rfl
   clear T z hk W Y ah aw M l F J;subst av;cases s with
   |nil=>simp
   |cons c r=>
    rw[aj]at A;have hc:¬c=45:=fun h=>by rw[h]at A;simp[bI]at A
    have an:¬(c:Int)=45:=o_
    simp[hc,an]
  |true=>
   clear T z hk W Y ah aw M l F J;cases s with
   |nil=>simp[bI]at A;rw[aj]at A;cases A
   |cons c r=>
    have av:r=d:=by rw[<-S,bQ,A,aj];rfl
    rw[aj]at A;have hc:c=45:=by simpa[bI]using A
    simp[hc,av]
 rintro⟨aH,aX⟩ ⟨w,e,ak⟩;dsimp only at w e ak;subst ak;have ag:mB s=(cS (bA s)&&!(neg&&decide (bA s=[48]))&&(!dX s||(cS (bM s)&&decide (bM s≠[48])&&decide (bM s≠[49])))):=by rw[mB,A]
 have a7:d.length<=1048576:=o_
 have V:(bA s).all bF=true->(bM s).all bF=true->dX s=true->0<k->d.length<=1000000->az prog 229 [.str d] (.aE [eG (aM (bA s):Nat),eG (aM (bM s):Nat)]):=fun y O ax aD a0=>by
  have al:bI d=false/\bQ d=d:=by
   have aG:bI d=false:=by
    rcases z with⟨_,G⟩|⟨q1,_⟩
    ·cases X:bA s with
     |nil=>rw[X]at hk;simp at hk;omega
     |cons c r=>
      rw[X]at G y;have:=yh (gy.1 y c s_);rw[G,bI];simp;omega
    ·rw[ax]at q1;cases q1
   exact⟨aG,by rw[bQ,aG];rfl⟩
  have e1:bA d=bA s:=by rw[bA,al.2,Y]
  have e2:bM d=bM s:=by rw[bM,al.2,W]
  have e3:dX d=true:=by rw[dX,al.2,ah];exact ax
  have:=J5 d (by rw[e1];exact y) (by rw[e2];exact O) a0;rw[jP,iB,e1,e2,al.1,if_pos e3]at this;exact this
 rw[bS];generalize mB s=N at*;generalize bA s=v at*;generalize bM s=f at*;generalize dX s=fr at*;have U:g6 k d=v:=aw
 by_cases K:cS v=true
 ·have aD:0<k:=by
   rw[<-hk,gm];intro h;rw[h]at K;cases K
  obtain⟨c,r,hs⟩:∃c r,s=c::r:=by
   cases s with
   |nil=>
    have:d.length<=0:=by simpa using aT
    omega
   |cons c r=>exact⟨c,r,rfl⟩
  have ao:c=45↔neg=true:=by rw[<-A,hs];simp[bI]
  have an:(c:Int)=45↔c=45:=o_
  rw[K]at M;clear aL hl S A Y W ah
  by_cases P:neg=true/\v=[48]
  ·have hf:N=false:=by rw[ag,P.1,P.2];simp
   have aS:=ao.2 P.1;rw[if_pos hf];clear z F l V ao an;subst hs aS;have X:=P.2;simp[w,e];refine c1 T ?_;simp[w,e,J,U];refine c1 M ?_;simp[w,e,J,U,X]
  ·subst hs;rw[bn];simp[w,e,-bn];refine c1 T ?_;simp[w,e,-bn];refine join (fun st=>aO st.env 3=.p (.str d)/\aO st.env 4=.p (.int .i64 k)/\st.heap=[]) ?_ ?_
   ·by_cases y:c=45
    ·have X:¬v=[48]:=fun h=>P ⟨ao.1 y,h⟩;subst y;clear z F l V;simp[w,e,J,U];refine c1 M ?_;simp[w,e,J,U,X]
    ·have aI:¬(c:Int)=45:=by omega
     clear z F l V;simp[w,e,J,U];refine c1 M ?_;simp[w,e,J,U,y,aI]
   clear w e;rintro⟨aH,aX⟩ ⟨e,j,ak⟩;dsimp only at e j ak;subst ak;cases ai:fr with
   |false=>
    have i:k=d.length:=by
     rcases z with⟨q1,_⟩|⟨_,G,_⟩
     ·rw[ai]at q1;cases q1
     ·rw[<-hk,G]
    have aE:¬k<d.length:=o_
    have aU:f=[]:=by
     rcases z with⟨q1,_⟩|⟨_,_,a4⟩
     ·rw[ai]at q1;cases q1
     ·exact a4
    have hf:N=true:=by
     rw[ag,K,ai];simp
     by_cases y:neg=true
     ·exact .inr fun O=>P ⟨y,O⟩
     ·exact .inl (by simpa using y)
    have Z:eb.wrap ((d.length:Int)-k)=0:=by rw[i,fZ];rfl
    have aa:eb.wrap (-1)= -1:=rfl;rw[hf,hk,aU];clear z F l V
    by_cases I:600<k
    ·have B:¬(k:Int)<=600:=by omega
     have C:¬k<=600:=o_
     have D:(600:Int)<k:=o_
     simp[e,j,aE,I,B,C,D]
    ·have B:(k:Int)<=600:=by omega
     have C:k<=600:=o_
     have D:¬(600:Int)<k:=o_
     simp[e,j,aE,I,B,C,D,Z,aa]
   |true=>
    rw[ai]at ag V;have au:d=v++47::f:=by
     rcases z with⟨_,G⟩|⟨q1,_⟩
     ·exact G
     ·rw[ai]at q1;cases q1
    have i:k<d.length:=by rw[au];simp;omega
    have q:d.drop (k+1)=f:=by
     conv=>lhs;rw[au,<-hk]
     simp
    have a8:d.length=k+1+f.length:=by rw[au];simp;omega
    have u:eb.wrap ((k:Int)+1)=(k:Int)+1:=aN _ o_ o_;have t:((k:Int)+1).toNat=k+1:=o_
    have m:(0:Int)<=k+1:=o_
    have n:(k:Int)+1<=d.length:=o_
    have o:k+1<=d.length:=i;clear z F;have af:N=(cS f&&decide (f≠[48])&&decide (f≠[49])):=by
     rw[ag,K];have:(neg&&decide (v=[48]))=false:=by
      by_cases y:neg=true
      ·have:¬v=[48]:=fun O=>P ⟨y,O⟩;simp[this]
      ·have:neg=false:=by simpa using y
       rw[this];rfl
     rw[this];simp
    by_cases ap:N=true
    ·rw[ap]at af;have aY:¬N=false:=by rw[ap];decide
     rw[if_neg aY];have aK:cS f=true/\¬f=[48]/\¬f=[49]:=by
      have:=af.symm;simp only[dk,decide_eq_true_eq]at this;exact⟨this.1.1,this.1.2,this.2⟩
     obtain⟨L,H,E⟩:=aK;rw[L]at l;rw[hk];have Z:eb.wrap ((d.length:Int)-k)=(d.length:Int)-k:=aN _ o_ o_;have aa:eb.wrap ((d.length:Int)-k-1)=f.length:=by rw[aN _ o_ o_];omega
     by_cases I:600<k
     ·have B:¬(k:Int)<=600:=by omega
      have C:¬k<=600:=o_
      have D:(600:Int)<k:=o_
      simp[e,j,i,u,t,m,n,o,q];refine c1 l ?_;simp[e,j,i,u,t,m,n,o,q,H,E,I,B,C,D]
     by_cases ab:600<f.length
     ·have B:(k:Int)<=600:=by omega
      have C:k<=600:=o_
      have D:¬(600:Int)<k:=o_
      have ac:(600:Int)<f.length:=o_
      simp[e,j,i,u,t,m,n,o,q];refine c1 l ?_;simp[e,j,i,u,t,m,n,o,q,H,E,I,B,C,D,Z,aa,ab,ac]
     have B:(k:Int)<=600:=o_
     have C:k<=600:=o_
     have D:¬(600:Int)<k:=o_
     have ac:¬(600:Int)<f.length:=o_
     have R:=V (iY K) (iY L) rfl aD o_;have aV:=uG L H;have a2:v.length<=700:=o_
     have a3:f.length<=700:=o_
     have aQ:aM v<10^700:=Nx (s:=v) (k:=700) a2 (iY K);have aR:aM f<10^700:=Nx (s:=f) (k:=700) a3 (iY L);have aF:∀x:Nat,x<10^700->(aq bT x).length<=400000:=fun x hx=>ih (aAy (a:=700) (b:=78) hx (by decide)) (by decide);have Q:=JJ (aM v) (aM f) (aF _ aQ) (aF _ aR);have aB:0<j1 (aM v) (aM f):=kd _ aV;generalize aM v=a6 at*;generalize aM f=a5 at*;obtain⟨g,am⟩:∃g,j1 a6 a5=g:=⟨_,rfl⟩
     simp only[am]at Q aB⊢;have a1:¬(600<k\/600<f.length):=fun h=>by rcases h with h|h;exact I h;exact ab h
     rw[if_neg a1];simp only[eG,ed]at R
     by_cases ar:g=1
     ·subst ar;have ae:aq bT 1=[1]:=nm (by decide) (by decide);simp only[eT,ae]at Q R;simp[e,j,i,u,t,m,n,o,q];refine c1 l ?_;simp[e,j,i,u,t,m,n,o,q,H,E,I,B,C,D,Z,aa,ab,ac];refine c1 R ?_;simp[ad];refine c2 Q ?_;simp[am]
     ·by_cases aC:g<bT
      ·have ae:aq bT g=[g]:=nm aB aC;have aZ:¬(g:Int)=1:=by omega
       simp only[eT,ae]at Q R;simp[e,j,i,u,t,m,n,o,q];refine c1 l ?_;simp[e,j,i,u,t,m,n,o,q,H,E,I,B,C,D,Z,aa,ab,ac];refine c1 R ?_;simp[ad];refine c2 Q ?_;simp[ar,aZ,am]
      ·have ae:¬((aq bT g).length:Int)=1:=by
        intro h;have O:(aq bT g).length=1:=o_
        have:=ch aW g;rw[O,la]at this;exact aC this
       simp only[eT]at Q R;simp[e,j,i,u,t,m,n,o,q];refine c1 l ?_;simp[e,j,i,u,t,m,n,o,q,H,E,I,B,C,D,Z,aa,ab,ac];refine c1 R ?_;simp[ad];refine c2 Q ?_;simp[ar,ae,am]
    ·have aA:N=false:=by simpa using ap
     rw[if_pos aA]
     by_cases L:cS f=true
     ·rw[L]at l
      by_cases H:f=[48]
      ·simp[e,j,i,u,t,m,n,o,q];refine c1 l ?_;simp[e,j,i,u,t,m,n,o,q,H]
      ·have E:f=[49]:=by
        rw[L]at af
        by_cases E:f=[49]
        ·exact E
        ·rw[aA]at af;simp[H,E]at af
       simp[e,j,i,u,t,m,n,o,q];refine c1 l ?_;simp[e,j,i,u,t,m,n,o,q,E]
     ·have aJ:cS f=false:=by simpa using L
      rw[aJ]at l;simp[e,j,i,u,t,m,n,o,q];refine c1 l ?_;simp[e,j,i,u,t,m,n,o,q]
 ·have ay:cS v=false:=by simpa using K
  have hf:N=false:=by rw[ag,ay];rfl
  rw[if_pos hf];rw[ay]at M;simp[w,e];refine c1 T ?_;simp[w,e,J,U];refine c1 M ?_;simp[w,e]
theorem S1(l:List (List Nat))(hl:l.length<=1000000)(hs:∀s∈l,jt s):az prog 156 [.seq (l.map .str)] (.int .i64 (bZ (l.map bS))):=by
 refine aP nf (i_ func156) mix (by simp[f156]) ?_;simp[f156];refine lp (α:=Nat) (fun i=>⟨[(3,.p (.int .i64 i)),(0,.p (.seq (l.map .str)))],[]⟩) (fun i=>i<=l.length/\bZ ((l.drop i).map bS)=bZ (l.map bS)) (fun i=>l.length-i) 0 s_ ?_;rintro i ⟨e,a⟩
 by_cases hi:i<l.length
 ·rw[g9 hi]at a;have d:=b8 (i:=i) o_;have hc:=yA l[i] (hs _ (g4 hi));obtain⟨s,b⟩:∃s,l[i]=s:=⟨_,rfl⟩
  have c:l[i]?=some s:=by rw[gj hi,b]
  rw[b]at hc a;simp[hi,c,b];refine c1 hc ?_
  by_cases he:bS s=0
  ·simp[bZ,he]at a;simp[he,d];exact rd (i+1) ⟨hi,by simpa using a⟩
  ·simp[bZ,he]at a;simp[he,<-a]
 ·have:i=l.length:=by omega
  subst this;simp[bZ]at a;simp[<-a]
theorem Re(p:im)(a:ru p):az prog 66 [ff p] (.int .i64 (fV p)):=by
 have hc:=S1 [p.x,p.y] s_ (by intro s hs;simp at hs;rcases hs with rfl|rfl;exact a.1;exact a.2);refine aP nf (i_ func66) mix (by simp[f66]) ?_;simp[f66,ad];refine cp hc (by simp;exact⟨rfl,rfl⟩) ?_;simp[fV]
structure V2 where
 x:Rat
 y:Rat
def eV(v:V2):PV:=ff ⟨bK v.x,bK v.y⟩
@[simp] theorem aIk(v:V2):aL (eV v)=.agg 81:=rfl
@[simp] theorem aGJ(v:V2):cA (eV v)=[.str (bK v.x),.str (bK v.y)]:=rfl
theorem N7(x y:Rat):eV ⟨x,y⟩=.st 81 [.str (bK x),.str (bK y)]:=rfl
def fj(k:Nat)(v:V2):Prop:=cr k v.x/\cr k v.y
theorem fj.mono{k l:Nat}{v:V2}(h:fj k v)(hl:k<=l):fj l v:=⟨h.1.mono hl,h.2.mono hl⟩
def V2.sub(v w:V2):V2:=⟨v.x-w.x,v.y-w.y⟩
def V2.add(v w:V2):V2:=⟨v.x+w.x,v.y+w.y⟩
def V2.mul(v:V2)(k:Rat):V2:=⟨v.x*k,v.y*k⟩
def V2.dot(v w:V2):Rat:=v.x*w.x+v.y*w.y
def V2.gY(v w:V2):Rat:=v.x*w.y-v.y*w.x
theorem vi{k l:Nat}{v w:V2}(h:fj k v)(a:fj l w):fj (k+l+1) (v.sub w):=⟨wZ h.1 a.1,wZ h.2 a.2⟩
theorem PU{k l:Nat}{v w:V2}(h:fj k v)(a:fj l w):cr (k+l+(k+l)+1) (v.gY w):=wZ (rR h.1 a.2) (rR h.2 a.1)
def kQ:Nat:=20000
theorem jr{q:Rat}(h:cr kQ q):cr kB q:=h.mono (by decide)
theorem Nt(v w:V2)(a:fj kQ v)(b:fj kQ w):az prog 35 [eV v,eV w] (eV (v.sub w)):=by
 have c:=yl v.x w.x (jr a.1) (jr b.1);have d:=yl v.y w.y (jr a.2) (jr b.2);refine aP nf (i_ func35) mix (by simp[f35]) ?_;rw[V2.sub,N7];simp[f35,ad];refine e2 c ?_;simp[ad];refine e2 d ?_;simp[ad]
theorem PX(v w:V2)(a:fj kQ v)(b:fj kQ w):az prog 231 [eV v,eV w] (.str (bK (v.gY w))):=by
 have c:=I0 v.x w.y (jr a.1) (jr b.2);have d:=I0 v.y w.x (jr a.2) (jr b.1);have e:=yl (v.x*w.y) (v.y*w.x) ((rR a.1 b.2).mono (by decide)) ((rR a.2 b.1).mono (by decide));refine aP nf (i_ func231) mix (by simp[f231]) ?_;rw[V2.gY];simp[f231,ad];refine e2 c ?_;simp[ad];refine e2 d ?_;simp[ad];refine e2 e ?_;simp
structure S3 where
 a:Rat
 b:Rat
 d:Rat
theorem U1:prog.stoodInHeld 82=false:=k_
def vJ(k:Nat)(s:S3):Prop:=cr k s.a/\cr k s.b/\cr k s.d
theorem vJ.mono{k l:Nat}{s:S3}(h:vJ k s)(hl:k<=l):vJ l s:=⟨h.1.mono hl,h.2.1.mono hl,h.2.2.mono hl⟩
def S3.add(s t:S3):S3:=⟨s.a+t.a,s.b+t.b,s.d⟩
def S3.mul(s t:S3):S3:=⟨s.a*t.a+s.b*t.b*s.d,s.a*t.b+t.a*s.b,s.d⟩
def S3.times(x:Rat)(s:S3):S3:=⟨x*s.a,x*s.b,s.d⟩
structure P4 where
 x:S3
 y:S3
def Dz(k:Nat)(p:P4):Prop:=vJ k p.x/\vJ k p.y
theorem Dz.mono{k l:Nat}{p:P4}(h:Dz k p)(hl:k<=l):Dz l p:=⟨h.1.mono hl,h.2.mono hl⟩
def P4.dot(v:V2)(p:P4):S3:=(S3.times v.x p.x).add (S3.times v.y p.y)
def sg3(a b o:Int):Int:=if 0<=a*b then(if a=0 then b else a)else a*o
def sgS(s:S3):Int:=sg3 (gX s.a) (gX s.b*gX s.d) (eU (s.a*s.a) (s.b*s.b*s.d))
namespace Hk
def ku:Nat:=9223372036854775808
def yt:Nat:=1606938044258990275541962092341162602522202993782792835301376
def pq{α:Type}(n:Nat)(f:Nat->α):α:=match n with
 |0=>f 0
 |k+1=>f (k+1)
theorem uX{α:Type}(n:Nat)(f:Nat->α):pq n f=f n:=by cases n<;>rfl
def zi{α:Type}(z:Int)(f:Int->α):α:=match z with
 | .ofNat n=>pq n fun n=>f (.ofNat n)
 | .negSucc n=>pq n fun n=>f (.negSucc n)
theorem Lh{α:Type}(z:Int)(f:Int->α):zi z f=f z:=by cases z<;>simp[zi,uX]
def nX:Int->Bool
 | .ofNat n=>ko n ku
 | .negSucc n=>ko (n+1) ku
theorem ym{z:Int}:nX z=true↔z.natAbs<9223372036854775808:=by
 cases z with
 |ofNat n=>simp only[nX,kw,ku];exact Iff.rfl
 |negSucc n=>simp only[nX,kw,ku];exact Iff.rfl
def nS:Int->Int->Bool
 | .ofNat a,.ofNat b=>i3 a b
 | .negSucc a,.negSucc b=>i3 a b
 |_,_=>false
theorem yF:∀{a b:Int},nS a b=true->a=b
 | .ofNat a,.ofNat b,h=>by simp only[nS]at h;rw[ik h]
 | .negSucc a,.negSucc b,h=>by simp only[nS]at h;rw[ik h]
 | .ofNat a,.negSucc b,h=>by simp[nS]at h
 | .negSucc a,.ofNat b,h=>by simp[nS]at h
def tt(z:Int):Option PV:=bif nX z then some (eX z)else bif i3 z.natAbs ku then none else some (kr z)
theorem xY{z:Int}{p:PV}(h:tt z=some p)(m:Bool):eI ⟨z,m⟩=p:=by
 unfold tt at h;rw[ji];rcases hs:nX z with _|_
 ·simp only[hs,cond_false]at h;rcases a:i3 z.natAbs ku with _|_
  case true=>rw[a]at h;cases h
  ·have c:¬i3 z.natAbs ku=true:=by rw[a];decide
   rw[a,cond_false]at h;simp only[m4]at h;have b:¬z.natAbs<9223372036854775808:=fun h=>by rw[ym.2 h]at hs;cases hs
   have d:z.natAbs≠9223372036854775808:=fun e=>c (by rw[e];rfl);rw[if_neg,h];simp only[NI.sm,dq,decide_eq_true_eq,dk,not_or,not_and];exact⟨o_,fun h=>by omega⟩
 ·simp only[hs,cond_true,m4]at h;have b:=ym.1 hs;rw[if_pos,h];simp only[NI.sm,dq,decide_eq_true_eq,dk];exact .inl o_
def vR:List PV->Option (List Nat)
 |[]=>some []
 | .int .u64 (.ofNat x)::r=>match vR r with
  |some l=>some (x::l)
  |none=>none
 |_=>none
theorem L4:∀{l:List PV}{a:List Nat},vR l=some a->l=a.map fun x:Nat=>PV.int .u64 x
 |[],a,h=>by simp only[vR,m4]at h;subst h;rfl
 |v::r,a,h=>by
  unfold vR at h
  split at h
  ·rename_i e;cases e
  ·rename_i x b e;cases e
   split at h
   ·rename_i l hl;simp only[m4]at h;subst h;rw[L4 hl];rfl
   ·cases h
  ·cases h
def rD:List Nat->List Nat->Bool
 |[],[]=>true
 |x::a,y::b=>bif i3 x y then rD a b else false
 |_,_=>false
theorem BV:∀{a b:List Nat},rD a b=true->a=b
 |[],[],_=>rfl
 |[],_::_,h=>by simp[rD]at h
 |_::_,[],h=>by simp[rD]at h
 |x::a,y::b,h=>by
  simp only[rD,dl]at h
  split at h
  ·rename_i hx;rw[ik hx,BV h]
  ·cases h
def zg:PV->Option Int
 | .st u [.int .i64 z,.aK]=>bif i3 u 162 then(bif nX z then some z else none)else none
 | .st u [.int .i64 s,.seq l]=>match vR l with
  |some a=>pq (iO wB a) fun n=>bif i3 u 162&&(ko ku n&&rD (aq wB n) a)then
   (bif nS s 1 then some (.ofNat n)else bif nS s (-1)then some (.negSucc (n-1))else none)else none
  |none=>none
 |_=>none
theorem Ll{p:PV}{z:Int}(h:zg p=some z):p=eI ⟨z,false⟩:=by
 unfold zg at h
 split at h
 ·rename_i u y;simp only[dl]at h
  split at h
  ·rename_i f
   split at h
   ·rename_i hs;simp only[m4]at h;subst h;rw[ik f];exact(xY (by rw[tt,hs];rfl) false).symm
   ·cases h
  ·cases h
 ·rename_i u s l
  split at h
  ·rename_i g e;rw[uX]at h;have hl:=L4 e;generalize iO wB g=n at h;simp only[dl]at h
   split at h
   ·rename_i hc;simp only[dk,kw]at hc;obtain⟨b,i,c⟩:=hc;have d:=BV c;have j:ku=9223372036854775808:=rfl;rw[ik b,hl,<-d];have key:∀z:Int,z.natAbs=n->eI ⟨z,false⟩=kr z:=fun z k=>by
     refine xY ?_ false;have e1:nX z=false:=by
      rcases a:nX z with _|_
      ·rfl
      ·have:=ym.1 a;omega
     have e2:i3 z.natAbs ku=false:=by
      rcases a:i3 z.natAbs ku with _|_
      ·rfl
      ·have:=ik a;omega
     rw[tt,e1,e2];rfl
    split at h
    ·rename_i hs;simp only[m4]at h;subst h;rw[yF hs,key _ rfl,kr,if_neg (by show¬((n:Int)<0);omega)];rfl
    ·split at h
     ·rename_i hs;simp only[m4]at h;subst h;rw[yF hs,key _ (by show n-1+1=n;omega),kr,if_pos o_];have:(fl (n-1)).natAbs=n:=by show n-1+1=n;omega
      rw[this];rfl
     ·cases h
   ·cases h
  ·cases h
 ·cases h
def DB(n:Int)(d:Nat):Bool:=ko 0 d&&(ko n.natAbs yt&&(ko d yt&&i3 (j1 n.natAbs d) 1))
def pn:PV->Option (Int×Nat)
 | .st u [a,b]=>match zg a,zg b with
  |some n,some (.ofNat d)=>bif i3 u 164&&DB n d then some (n,d)else none
  |_,_=>none
 |_=>none
def fr(n:Int)(d:Nat):NF:=⟨m6 n d,false⟩
theorem T0:yt=2^200:=by decide
theorem B3{p:PV}{n:Int}{d:Nat}(h:pn p=some (n,d)):p=eF (fr n d)/\d≠0/\cr kB (fr n d).q:=by
 unfold pn at h
 split at h
 case h_2=>cases h
 rename_i u a b
 split at h
 case h_2=>cases h
 rename_i c d' j k;simp only[dl]at h
 split at h
 case isFalse=>cases h
 rename_i hc;simp only[m4,Prod.mk.injEq]at h;obtain⟨rfl,rfl⟩:=h;simp only[DB,dk,kw]at hc;obtain⟨c1,c2,c3,c4,c5⟩:=hc;have f:=ik c5;have e:d'≠0:=o_
 obtain⟨e1,e2⟩:=lA (n:=c) e;rw[f]at e1 e2;simp only[fm,gc,j5]at e1 e2;rw[T0]at c3 c4;refine⟨?_,e,(BG e c3 c4).mono (by decide)⟩;rw[ik c1,Ll j,Ll k,eF];have g:(fr c d').num=⟨c,false⟩:=by rw[NF.num,fr,e1]
 have i:(fr c d').den=⟨(d':Int),false⟩:=by rw[NF.den,fr,e2];rfl
 rw[g,i];rfl
def mK(n:Int)(d:Nat):Option PV:=
 pq (j1 n.natAbs d) fun g=>zi (n/g) fun n=>pq (d/g) fun d=>match tt n,tt (.ofNat d)with
  |some a,some b=>some (.st 164 [a,b])
  |_,_=>none
theorem oQ{n:Int}{d:Nat}{p:PV}(i:d≠0)(h:mK n d=some p)(m:Bool):p=eF ⟨m6 n d,m⟩:=by
 obtain⟨e1,e2⟩:=lA (n:=n) i;simp only[mK,uX,Lh]at h
 split at h
 case h_2=>cases h
 rename_i a b f g;simp only[m4]at h;subst h;rw[eF];have c:(NF.num ⟨m6 n d,m⟩)=⟨n/(j1 n.natAbs d:Nat),m⟩:=by rw[NF.num,e1]
 have e:(NF.den ⟨m6 n d,m⟩)=⟨((d/j1 n.natAbs d:Nat):Int),false⟩:=by rw[NF.den,e2];rfl
 rw[c,e,xY f,<-xY g false];rfl
def two(op:Int->Nat->Int->Nat->Option PV)(a b:PV):Option PV:=match pn a,pn b with
 |some (n,d),some (m,e)=>op n d m e
 |_,_=>none
theorem u3{op:Int->Nat->Int->Nat->Option PV}{a b p:PV}(h:two op a b=some p):
 ∃n d m e,a=eF (fr n d)/\b=eF (fr m e)/\d≠0/\e≠0/\cr kB (fr n d).q/\cr kB (fr m e).q/\op n d m e=some p:=by
 unfold two at h
 split at h
 case h_2=>cases h
 rename_i n d m e j k;obtain⟨c,a2,a3⟩:=B3 j;obtain⟨f,g,i⟩:=B3 k;exact⟨n,d,m,e,c,f,a2,g,a3,i,h⟩
def O3(n:Int)(d:Nat)(m:Int)(e:Nat):Option PV:=mK (n*e+m*d) (d*e)
def O5(n:Int)(d:Nat)(m:Int)(e:Nat):Option PV:=mK (n*e-m*d) (d*e)
def O4(n:Int)(d:Nat)(m:Int)(e:Nat):Option PV:=mK (n*m) (d*e)
def zF:Int->Int
 | .ofNat n=>bif i3 n 0 then 0 else 1
 | .negSucc _=>-1
theorem KA(z:Int):zF z=if z<0 then -1 else if z=0 then 0 else 1:=by
 cases z with
 |ofNat n=>
  rw[if_neg s_];cases n with
  |zero=>rfl
  |succ n=>rw[if_neg (by simp;omega)];rfl
 |negSucc n=>rw[if_pos o_];rfl
def Dy(n:Int)(d:Nat)(m:Int)(e:Nat):Option PV:=some (.int .i64 (zF (n*e-m*d)))
def zw(n:Int)(d:Nat)(m:Int)(e:Nat):Option PV:=match m with
 | .ofNat k=>bif i3 k 0 then none else mK (n*e) (d*k)
 | .negSucc k=>mK (-(n*e)) (d*(k+1))
theorem tj{d:Nat}(h:d≠0):(d:Int)≠0:=o_
theorem Xe{n m:Int}{d e:Nat}{p:PV}(a:d≠0)(b:e≠0)(h:O3 n d m e=some p):p=eF ((fr n d).add (fr m e)):=by
 rw[NF.add,fr,fr];dsimp only;rw[nb _ _ (tj a) (tj b)];have:=oQ (kh a b) h;rw[eq]at this;exact this _
theorem Xh{n m:Int}{d e:Nat}{p:PV}(a:d≠0)(b:e≠0)(h:O5 n d m e=some p):p=eF ((fr n d).sub (fr m e)):=by
 rw[NF.sub,NF.add,NF.neg,fr,fr];dsimp only;rw[nl,nb _ _ (tj a) (tj b)];have:=oQ (kh a b) h;rw[eq]at this;rw[gg,<-Int.sub_eq_add_neg];exact this _
theorem Xg{n m:Int}{d e:Nat}{p:PV}(a:d≠0)(b:e≠0)(h:O4 n d m e=some p):p=eF ((fr n d).mul (fr m e)):=by
 rw[NF.mul,fr,fr];dsimp only;rw[m8];have:=oQ (kh a b) h;rw[eq]at this;exact this _
theorem Wh(x y:Rat):eU x y=if x-y<0 then -1 else if x-y=0 then 0 else 1:=by
 have b:x-y<0↔x<y:=by
  constructor
  ·intro h;have a:=(nc (c:=y)).2 h
   rwa [m7,m9]at a
  ·intro h;refine(nc (c:=y)).1 ?_
   rwa [m7,m9]
 have a:x-y=0↔x=y:=by
  constructor
  ·intro h;have d:=congrArg (·+y) h
   simpa[m7,m9]using d
  ·intro h;rw[h,np]
 simp only[eU,b,a]
theorem Bg(n:Int){d:Nat}(i:d≠0):(if m6 n d<0 then(-1:Int)else if m6 n d=0 then 0 else 1)=zF n:=by
 rw[CH,KA];obtain⟨e1,-⟩:=lA (n:=n) i;have k:0<j1 n.natAbs d:=kd _ o_;have j:((j1 n.natAbs d:Nat):Int)∣n:=by
  rw[e7];exact li _ _
 obtain⟨c,hc⟩:=j;rw[e1];generalize j1 n.natAbs d=g at*;have a:(0:Int)<g:=o_
 subst hc;rw[e6 _ o_];have b:(g:Int)*c<0↔c<0:=by
  constructor
  ·intro h;refine Int.not_le.1 fun f=>?_;have:=fb (e8 a) f;omega
  ·intro h;exact fd a h
 have e:(g:Int)*c=0↔c=0:=by
  rw[Int.mul_eq_zero];constructor
  ·rintro(h|h)
   ·omega
   ·exact h
  ·exact fun h=>.inr h
 simp only[b,e]
theorem Xf{n m:Int}{d e:Nat}{p:PV}(a:d≠0)(b:e≠0)(h:Dy n d m e=some p):p=.int .i64 (eU (fr n d).q (fr m e).q):=by
 simp only[Dy,m4]at h;rw[<-h,Wh,fr,fr];dsimp only;rw[Rat.divInt_sub_divInt _ _ (tj a) (tj b),<-eq,Bg _ (kh a b)]
theorem MP{n m:Int}{d e:Nat}{p:PV}(a:d≠0)(c:e≠0)(h:zw n d m e=some p):p=eF ((fr n d).div (fr m e))/\(fr m e).q≠0:=by
 have b:m≠0->(fr m e).q≠0:=fun g hq=>by
  rw[fr]at hq;dsimp only at hq;have:=Bg m c;rw[hq,if_neg (by decide),if_pos rfl,KA]at this
  split at this
  ·omega
  ·first
     |omega
     |(rw[if_neg g]at this;omega)
 rw[NF.div,fr,fr];dsimp only;unfold zw at h;cases m with
 |ofNat k=>
  simp only[dl]at h
  split at h
  ·cases h
  ·rename_i hk;have f:k≠0:=fun e=>hk (by rw[e];rfl);have:=oQ (kh a f) h;refine⟨?_,b (by show(k:Int)≠0;omega)⟩;have e:(m6 n d:Rat)/m6 (Int.ofNat k) e=m6 (n*e) (d*k):=by
    rw[na,nn,m8];rfl
   rw[e];rw[eq]at this;exact this _
 |negSucc k=>
  dsimp only at h;have:=oQ (kh a (Nat.succ_ne_zero k)) h;refine⟨?_,b o_⟩;have e:(m6 n d:Rat)/m6 (fl k) e=m6 (-(n*e)) ((d:Int)*((k+1:Nat):Int)):=by
   rw[na,nn,m8];rw[show fl k= -((k+1:Nat):Int)from rfl,gi];rw[Rat.divInt_neg']
  rw[e];rw[eq]at this;exact this _
def zu:Nat->Nat->Nat
 |0,_=>0
 |f+1,n=>bif i3 n 0 then 0 else zu f (n/10)+1
theorem WQ{a b:Nat}(h:a<b):ko a b=true:=by rw[kw];exact h
theorem zd{a b:Nat}(h:ko a b=true):a<b:=by rw[kw]at h;exact h
theorem ME:∀(f n:Nat),n<10^f->zu f n=nd n
 |0,n,h=>by
  have:n=0:=by simpa using h
  subst this;rw[nd];rfl
 |f+1,n,h=>by
  rw[zu,nd]
  by_cases a:n=0
  ·subst a;rfl
  ·have b:i3 n 0=false:=by
    rcases c:i3 n 0 with _|_
    ·rfl
    ·exact(a (ik c)).elim
   rw[b,cond_false,dif_neg a,ME f (n/10) (by rw[iz o_];rw[ix]at h;exact h)]
def tK(n:Nat):List Nat:=pq (zu 80 n) fun k=>bif ko 1 k then low k n else low 1 n
theorem yK{n:Nat}(h:n<10^80):tK n=bd n:=by
 rw[tK,uX,ME _ _ h,bd];rcases a:ko 1 (nd n)with _|_
 ·have:¬1<nd n:=fun b=>by rw[WQ b]at a;cases a
  rw[cond_false,Nat.max_eq_left o_]
 ·have:1<nd n:=zd a;rw[cond_true,Nat.max_eq_right o_]
def DT:Int->List Nat
 | .ofNat n=>tK n
 | .negSucc n=>45::tK (n+1)
theorem aEz{z:Int}(h:z.natAbs<10^80):DT z=bL z:=by
 cases z with
 |ofNat n=>rw[bL,if_neg (by show¬((n:Int)<0);omega)];exact yK h
 |negSucc n=>rw[bL,if_pos o_];exact congrArg (45::·) (yK h)
def DS(n:Int)(d:Nat):List Nat:=bif i3 d 1 then DT n else DT n++47::tK d
theorem JS{n:Int}{d:Nat}(a:d≠0)(b:j1 n.natAbs d=1):(fr n d).q.num=n/\(fr n d).q.den=d:=by
 obtain⟨e1,e2⟩:=lA (n:=n) a;rw[b]at e1 e2;simp only[fm,gc,j5]at e1 e2;exact⟨e1,e2⟩
theorem JX{p:PV}{n:Int}{d:Nat}(h:pn p=some (n,d)):j1 n.natAbs d=1/\n.natAbs<10^80/\d<10^80:=by
 unfold pn at h
 split at h
 case h_2=>cases h
 split at h
 case h_2=>cases h
 simp only[dl]at h
 split at h
 case isFalse=>cases h
 rename_i hc;simp only[m4,Prod.mk.injEq]at h;obtain⟨rfl,rfl⟩:=h;simp only[DB,dk,kw]at hc;obtain⟨c1,c2,c3,c4,c5⟩:=hc;have a:yt<10^80:=by decide
 exact⟨ik c5,o_,o_⟩
theorem aEw{p:PV}{n:Int}{d:Nat}(h:pn p=some (n,d))(f:d≠0):DS n d=bK (fr n d).q:=by
 obtain⟨g,b,c⟩:=JX h;obtain⟨e1,e2⟩:=JS f g;rw[DS,bK,e1,e2,aEz b,yK c];rcases a:i3 d 1 with _|_
 ·rw[cond_false,if_neg (fun e=>by rw[e]at a;cases a)]
 ·rw[cond_true,if_pos (ik a)]
def pj:List Nat->Nat->Bool
 |[],_=>true
 |c::r,f=>match f with
  |0=>false
  |f+1=>bif ko c 256 then pj r f else false
theorem u7:∀{s:List Nat}{f:Nat},pj s f=true->s.length<=f/\∀c∈s,c<256
 |[],_,_=>⟨j6 _,fun c hc=>by cases hc⟩
 |c::r,0,h=>by simp[pj]at h
 |c::r,f+1,h=>by
  simp only[pj,dl]at h
  split at h
  ·rename_i hc;obtain⟨b,a⟩:=u7 h;refine⟨by simp;omega,fun x hx=>?_⟩;rcases hw.1 hx with rfl|hx
   ·exact zd hc
   ·exact a x hx
  ·cases h
def OX(z:Int):Bool:=match z with
 | .ofNat n=>i3 n 0
 |_=>false
theorem azj{z:Int}(h:OX z=true):z=0:=by
 cases z with
 |ofNat n=>rw[ik (show i3 n 0=true from h)];rfl
 |negSucc n=>cases h
def Db(n:Int)(d:Nat):Option PV:=bif i3 d 0 then none else mK n d
theorem Yj{n:Int}{d:Nat}{p:PV}(h:Db n d=some p)(m:Bool):p=eF ⟨m6 n d,m⟩:=by
 unfold Db at h;rcases a:i3 d 0 with _|_
 ·rw[a]at h;exact oQ (fun e=>by rw[e]at a;cases a) h m
 ·rw[a]at h;cases h
def Dc(s:List Nat):Option PV:=bif OX (bS s)&&pj s 1000 then
 zi (if bI s=true then -(aM (bA s):Int)else aM (bA s)) fun n=>pq (if dX s=true then aM (bM s)else 1) fun d=>Db n d else none
theorem Yk{s:List Nat}{p:PV}(h:Dc s=some p):p=eF ⟨aY s,false⟩/\bS s=0/\s.length<=1048576:=by
 unfold Dc at h;simp only[dl,Lh,uX]at h
 split at h
 case isFalse=>cases h
 rename_i hc;rw[dk]at hc;obtain⟨c1,c2⟩:=hc;obtain⟨a,b⟩:=u7 c2;refine⟨?_,azj c1,o_⟩;rw[aY];exact Yj h false
def Oj:Int->Bool
 | .ofNat n=>ko n ku
 | .negSucc n=>ko n ku
theorem YS{z:Int}(h:Oj z=true):-9223372036854775808<=z/\z<=9223372036854775807:=by
 cases z with
 |ofNat n=>have:n<9223372036854775808:=zd h;refine⟨?_,?_⟩<;>show _<=_<;>simp only[Int.ofNat_eq_natCast]<;>omega
 |negSucc n=>have:n<9223372036854775808:=zd h;omega
def DD(f:Nat)(a:PV):Option PV:=match a with
 | .int .i64 z=>bif i3 f 94&&Oj z then mK z 1 else none
 | .str s=>bif i3 f 110 then Dc s else bif i3 f 190&&pj s 1000 then some (.int .i64 (bS s))else none
 | .st u [.str x,.str y]=>bif i3 f 120&&(i3 u 81&&(pj x 1000&&pj y 1000))then some (.int .i64 (fV ⟨x,y⟩))else none
 | .st u [c,e]=>match pn (.st u [c,e])with
  |some (n,d)=>bif i3 f 173 then mK (-n) d else
   bif i3 f 122 then some (.int .i64 (zF n))else
   bif i3 f 185 then zw 1 1 n d else
   bif i3 f 176 then some (.str (DS n d))else
   bif i3 f 175 then some (.bool false)else none
  |none=>none
 |_=>none
def tJ(f:Nat)(a b:PV):Option PV:=
 bif i3 f 96 then two O3 a b else
 bif i3 f 172 then two O5 a b else
 bif i3 f 184 then two O4 a b else
 bif i3 f 99 then two zw a b else
 bif i3 f 101 then two Dy a b else none
def hk(f:Nat):List PV->Option PV
 |[a]=>DD f a
 |[a,b]=>tJ f a b
 |_=>none
theorem N3(z:Int):m6 z ((1:Nat):Int)=(z:Rat):=by
 rw[show((1:Nat):Int)=1 from rfl,Rat.divInt_eq_div];rw[show((1:Int):Rat)=1 from rfl,na,show(1:Rat)⁻¹=1 from by decide+kernel,Rat.mul_one]
theorem bq{a b:Nat}(h:i3 a b=true):a=b:=ik h
theorem aAk{f:Nat}{a v:PV}(h:DD f a=some v):az prog f [a] v:=by
 unfold DD at h
 split at h
 ·rename_i z;simp only[dl]at h
  split at h
  ·rename_i hc;rw[dk]at hc;obtain⟨r1,r2⟩:=YS hc.2;rw[bq hc.1,oQ (by decide) h true];have:=zf z r1 r2;rw[NF.int]at this;rw[N3];exact this
  ·cases h
 ·rename_i s;simp only[dl]at h
  split at h
  ·rename_i hf;obtain⟨e1,e2,e3⟩:=Yk h;rw[bq hf,e1];exact mH s e2 e3
  ·split at h
   ·rename_i hc;rw[dk]at hc;obtain⟨j,b⟩:=u7 hc.2;simp only[m4]at h;subst h;rw[bq hc.1];exact yO s o_ b
   ·cases h
 ·rename_i u x y;simp only[dl]at h
  split at h
  ·rename_i hc;simp only[dk]at hc;obtain⟨c1,c2,c3,c4⟩:=hc;obtain⟨j,b⟩:=u7 c3;obtain⟨t,o⟩:=u7 c4;simp only[m4]at h;subst h;rw[bq c1,bq c2];exact GF ⟨x,y⟩ ⟨⟨by show x.length<=_;omega,b⟩,⟨by show y.length<=_;omega,o⟩⟩
  ·cases h
 ·rename_i u c e _
  split at h
  case h_2=>cases h
  rename_i n d l;obtain⟨r,g,i⟩:=B3 l;rw[r];simp only[dl]at h
  split at h
  ·rename_i hf;rw[bq hf,oQ g h false,<-nl];exact J6 _ i
  split at h
  ·rename_i hf;simp only[m4]at h;subst h;rw[bq hf,<-Bg n g];exact Cn _
  split at h
  ·rename_i hf;obtain⟨e1,e2⟩:=MP (by decide) g h;have e3:(fr 1 1).div (fr n d)=(fr n d).inv:=by
    rw[NF.div,NF.inv,fr,fr];dsimp only;rw[N3,na];rw[show((1:Int):Rat)=1 from rfl,Rat.one_mul]
   rw[bq hf,e1,e3];exact J7 _ i e2
  split at h
  ·rename_i hf;simp only[m4]at h;subst h;rw[bq hf,aEw l g];exact W4 _ i
  split at h
  ·rename_i hf;simp only[m4]at h;subst h;rw[bq hf];have hl:=WW _ i;obtain⟨p,j,b⟩:=JX l;obtain⟨e1,e2⟩:=JS g p;have m:∀k,k<10^80->lY k=false:=fun k hk=>by
    rw[lY,decide_eq_false_iff_not];have w:nd k<=80:=Nat.not_lt.1 fun q=>by have:=(mF _ _).1 q;omega
    rw[qf];omega
   rw[Dv,e1,e2,m _ j,m _ b]at hl;exact hl
  ·cases h
 ·cases h
theorem aD8{f:Nat}{a b v:PV}(h:tJ f a b=some v):az prog f [a,b] v:=by
 unfold tJ at h;simp only[dl]at h
 split at h
 ·rename_i hf;obtain⟨n,d,m,e,rfl,rfl,c,g,j,k,i⟩:=u3 h;rw[bq hf,Xe c g i];exact LO _ _ j k
 split at h
 ·rename_i hf;obtain⟨n,d,m,e,rfl,rfl,c,g,j,k,i⟩:=u3 h;rw[bq hf,Xh c g i];exact yk _ _ j k
 split at h
 ·rename_i hf;obtain⟨n,d,m,e,rfl,rfl,c,g,j,k,i⟩:=u3 h;rw[bq hf,Xg c g i];exact xL _ _ j k
 split at h
 ·rename_i hf;obtain⟨n,d,m,e,rfl,rfl,c,g,j,k,i⟩:=u3 h;obtain⟨e1,e2⟩:=MP c g i;rw[bq hf,e1];exact W8 _ _ j k e2
 split at h
 ·rename_i hf;obtain⟨n,d,m,e,rfl,rfl,c,g,j,k,i⟩:=u3 h;rw[bq hf,Xf c g i];exact vw _ _ j k
 ·cases h
theorem YO{f:Nat}{vs:List PV}{v:PV}(h:hk f vs=some v):az prog f vs v:=by
 unfold hk at h
 split at h
 ·exact aAk h
 ·exact aD8 h
 ·cases h
end Hk
theorem aEC{n:Nat}(h:n<10^80):bK ((n:Nat):Rat)=Hk.tK n:=by
 rw[Hk.yK h,bK,if_pos (by rfl),bL,if_neg (by show¬((n:Int)<0);omega)];rfl
structure dm where
 x:Int
 y:Int
 deriving DecidableEq
structure dy where
 name:List Nat
 dw:Int
 a:List Nat
 b:List Nat
structure dP where
 name:List Nat
 pt:im
structure aC where
 cs:List dm
 bJ:Int
 aF:List dy
 au:List dP
def bw(p:dm):PV:=.st 63 [.int .i64 p.x,.int .i64 p.y]
def bY(p:dy):PV:=.st 87 [.str p.name,.int .i64 p.dw,.str p.a,.str p.b]
def bO(p:dP):PV:=.st 84 [.str p.name,ff p.pt]
def ct(t:aC):PV:=.st 25 [.seq (t.cs.map bw),.int .i64 t.bJ,.seq (t.aF.map bY),.seq (t.au.map bO)]
@[simp] theorem aIa(p:dm):aL (bw p)=.agg 63:=rfl
@[simp] theorem aGA(p:dm):cA (bw p)=[.int .i64 p.x,.int .i64 p.y]:=rfl
@[simp] theorem aH5(p:dy):aL (bY p)=.agg 87:=rfl
@[simp] theorem aGx(p:dy):cA (bY p)=[.str p.name,.int .i64 p.dw,.str p.a,.str p.b]:=rfl
@[simp] theorem aIb(p:dP):aL (bO p)=.agg 84:=rfl
@[simp] theorem aGD(p:dP):cA (bO p)=[.str p.name,ff p.pt]:=rfl
@[simp] theorem aIj(t:aC):aL (ct t)=.agg 25:=rfl
@[simp] theorem aGI(t:aC):cA (ct t)=[.seq (t.cs.map bw),.int .i64 t.bJ,.seq (t.aF.map bY),.seq (t.au.map bO)]:=rfl
@[simp] theorem aFM:prog.cellsOf 63=2:=k_
@[simp] theorem aFL:prog.cellsOf 87=4:=k_
@[simp] theorem aFN:prog.cellsOf 84=3:=k_
def fg(p:dm):Bool:=decide (10000<max p.x p.y)||decide (min p.x p.y< -10000)
theorem W9(p:dm):az prog 61 [bw p] (.bool (fg p)):=by
 obtain⟨x,y⟩:=p;refine aP nf (i_ func61) mix (by simp[f61]) ?_;have e1:max x y=if x<y then y else x:=by split<;>omega
 have e2:min x y=if y<x then y else x:=by split<;>omega
 rw[fg,e1,e2]
 by_cases h:(if x<y then y else x)<=10000
 ·have a:¬10000<(if x<y then y else x):=by omega
  by_cases b:(if y<x then y else x)< -10000
  ·simp[f61,ad,h,a,b]
  ·simp[f61,ad,h,a,b]
 ·have a:10000<(if x<y then y else x):=by omega
  simp[f61,ad,h,a]
def eZ(p:dm):Prop:=-10000<=p.x/\p.x<=10000/\-10000<=p.y/\p.y<=10000
theorem zS{p:dm}(h:fg p=false):eZ p:=by
 simp only[fg,Bool.or_eq_false_iff,decide_eq_false_iff_not]at h;unfold eZ;omega
def lj(a b c:dm):Int:=(b.x-a.x)*(c.y-a.y)-(b.y-a.y)*(c.x-a.x)
theorem vW{a b:Int}{A B:Int}(c:-A<=a)(d:a<=A)(e:-B<=b)(f:b<=B):-(A*B)<=a*b/\a*b<=A*B:=by
 have k1:a.natAbs<=A.natAbs:=o_
 have k2:b.natAbs<=B.natAbs:=o_
 have k3:=kv k1 k2;rw[<-ez,<-ez]at k3;have k4:0<=A*B:=fb o_ o_;omega
theorem Qk(a b c:dm)(i:eZ a)(j:eZ b)(hc:eZ c):az prog 151 [bw a,bw b,bw c] (.int .i64 (lj a b c)):=by
 obtain⟨d,e⟩:=a;obtain⟨bx,f⟩:=b;obtain⟨g,h⟩:=c;simp only[eZ]at i j hc;have k:eb.wrap (bx-d)=bx-d:=aN _ o_ o_;have l:eb.wrap (h-e)=h-e:=aN _ o_ o_;have m:eb.wrap (f-e)=f-e:=aN _ o_ o_
 have n:eb.wrap (g-d)=g-d:=aN _ o_ o_;have r:=vW (a:=bx-d) (b:=h-e) (A:=20000) (B:=20000) o_ o_ o_ o_;have s:=vW (a:=f-e) (b:=g-d) (A:=20000) (B:=20000) o_ o_ o_ o_;have o:eb.wrap ((bx-d)*(h-e))=(bx-d)*(h-e):=aN _ o_ o_;have p:eb.wrap ((f-e)*(g-d))=(f-e)*(g-d):=aN _ o_ o_;have q:eb.wrap ((bx-d)*(h-e)-(f-e)*(g-d))=(bx-d)*(h-e)-(f-e)*(g-d):=aN _ o_ o_;refine aP nf (i_ func151) mix (by simp[f151]) ?_;rw[lj];simp[f151,ad,k,l,m,n,o,p,q]
def aC.nx(t:aC)(i:Nat):Nat:=(i+1)% t.cs.length
def aC.at(t:aC)(i:Nat):dm:=t.cs.getD i ⟨0,0⟩
theorem aC.get{t:aC}{i:Nat}(h:i<t.cs.length):t.cs[i]?=some (t.at i):=by
 rw[aC.at,hG,gj h];rfl
@[simp] theorem aC.aO{t:aC}{i:Nat}(h:i<t.cs.length):t.cs[i]'h=t.at i:=by
 rw[aC.at,hG,gj h];rfl
theorem aC.n7{t:aC}(h:0<t.cs.length)(i:Nat):t.nx i<t.cs.length:=i7 _ h
theorem Ev(t:aC)(i:Nat)(h:i<t.cs.length)(hl:t.cs.length<=1000000):az prog 152 [ct t,.int .i64 i] (bw (t.at (t.nx i))):=by
 have f:eb.wrap ((i:Int)+1)=(i:Int)+1:=aN _ o_ o_;have c:=t.n7 o_ i;have e1:((i:Int)+1).tmod (t.cs.length:Int)=((t.nx i:Nat):Int):=by
  rw[aC.nx,eo,ee o_];rfl
 have b:=aC.get c;have d:¬t.cs.length=0:=o_
 have a:¬t.cs=[]:=by intro e;rw[e]at h;simp at h
 refine aP nf (i_ func152) mix (by simp[f152]) ?_;simp[f152,ad,f,e1,b,d,a]
def aC.mP(t:aC)(i:Nat)(m:Nat):Prop:=∀k,k<m->k≠i->k≠t.nx i->0<lj (t.at i) (t.at (t.nx i)) (t.at k)
instance(t:aC)(i m:Nat):Decidable (t.mP i m):=inferInstanceAs (Decidable (∀k,k<m->_))
def aC.fJ(t:aC):Bool:=decide (∀i,i<t.cs.length->t.mP i t.cs.length)
theorem aC.ij{t:aC}(h:∀p∈t.cs,eZ p){i:Nat}(hi:i<t.cs.length):eZ (t.at i):=h _ (List.mem_of_getElem? (aC.get hi))
theorem Qs(t:aC)(hl:t.cs.length<=1000000)(m:∀p∈t.cs,eZ p):az prog 62 [ct t] (.bool t.fJ):=by
 refine aP nf (i_ func62) mix (by simp[f62]) ?_;generalize a:t.cs.length=n at*;simp[f62,ad,a];refine lp (α:=Nat) (fun i=>⟨[(4,.p (.int .i64 i)),(3,.p (.int .i64 n)),(1,.ptr 0 [])],[.box false (.p (ct t))]⟩) (fun i=>i<=n/\∀j,j<i->t.mP j n) (fun i=>n-i) 0 s_ ?_;rintro i ⟨v,q⟩
 by_cases hi:i<n
 ·simp[hi];refine lp (α:=Nat) (fun k=>⟨[(5,.p (.int .i64 k)),(4,.p (.int .i64 i)),(3,.p (.int .i64 n)),(1,.ptr 0 [])],[.box false (.p (ct t))]⟩) (fun k=>k<=n/\t.mP i k) (fun k=>n-k) 0 (by simp[aC.mP]) ?_;rintro k ⟨g1,g2⟩
  by_cases hk:k<n
  ·have r:=Ev t i o_ o_;have x:t.nx i<n:=by rw[<-a];exact t.n7 o_ i
   have d:=b8 (i:=i) o_;have e:=b8 (i:=k) o_;have e1:((i:Int)+1).tmod (n:Int)=((t.nx i:Nat):Int):=by
    rw[aC.nx,a,eo,ee o_];rfl
   have s:=Qk (t.at i) (t.at (t.nx i)) (t.at k) (aC.ij m o_) (aC.ij m o_) (aC.ij m o_);have f:=aC.get (t:=t) (i:=i) o_;have gk:=aC.get (t:=t) (i:=k) o_;have o:¬n=0:=o_
   by_cases c1:k=i
   ·subst c1;simp[hk,e];exact rd (k+1) ⟨hk,fun j g=>by
     by_cases l:j=k
     ·intro h;exact(h l).elim
     ·exact g2 j o_⟩
   ·have b:¬(k:Int)=(i:Int):=by omega
    by_cases c2:k=t.nx i
    ·rw[<-c2]at e1;simp[hk,b,d,e,e1,o];exact rd (k+1) ⟨hk,fun j g=>by
      by_cases l:j=k
      ·intro _ h;exact(h o_).elim
      ·exact g2 j o_⟩
    ·have c:¬(k:Int)=((t.nx i:Nat):Int):=by omega
     by_cases c3:lj (t.at i) (t.at (t.nx i)) (t.at k)<=0
     ·simp[hk,b,c,d,e,e1,o,f,gk,a,ad];refine Go.aw.e2 r ?_;simp[hk,a,f,gk,b,c,ad];refine Go.aw.e3 s ?_;simp[c3,b,c];have:t.fJ=false:=by
       rw[aC.fJ,decide_eq_false_iff_not];intro h;have:=h i o_ k o_ c1 c2;omega
      rw[this]
     ·simp[hk,b,c,d,e,e1,o,f,gk,a,ad];refine Go.aw.e2 r ?_;simp[hk,a,f,gk,b,c,ad];refine Go.aw.e3 s ?_;simp[c3,e,b,c];exact rd (k+1) ⟨hk,fun j g=>by
       by_cases l:j=k
       ·subst l;intro _ _;omega
       ·exact g2 j o_⟩
  ·have:k=n:=by omega
   subst this;have d:=b8 (i:=i) o_;simp[d];exact rd (i+1) ⟨hi,fun j g=>by
    by_cases u:j=i
    ·subst u;exact g2
    ·exact q j o_⟩
 ·have w:i=n:=by omega
  have:t.fJ=true:=by
   rw[aC.fJ,decide_eq_true_eq,a];intro j g;exact q j o_
  simp[hi,this]
def jG(p:dm):V2:=⟨(p.x:Rat),(p.y:Rat)⟩
theorem rJ{p:dm}(h:eZ p):fj 14 (jG p):=by
 simp only[eZ]at h;exact⟨Ii o_ (by decide),Ii o_ (by decide)⟩
theorem Ec(p:dm)(h:eZ p):az prog 114 [bw p] (eV (jG p)):=by
 have c:=h;simp only[eZ]at h;have a:=Cv p.x o_ o_;have b:=Cv p.y o_ o_;refine aP nf (i_ func114) mix (by simp[f114]) ?_;rw[jG,N7];simp[f114,ad];refine e1 a ?_;simp[ad];refine e1 b ?_;simp[ad]
def aC.kK(t:aC)(i:Nat):V2:=(jG (t.at (t.nx i))).sub (jG (t.at i))
def aC.side(t:aC)(i:Nat)(v:V2):Int:=gX ((t.kK i).gY (v.sub (jG (t.at i))))
theorem aC.okW{t:aC}(h:∀p∈t.cs,eZ p){i:Nat}(hi:i<t.cs.length):fj 29 (t.kK i):=vi (rJ (aC.ij h (t.n7 o_ i))) (rJ (aC.ij h hi))
theorem W1(t:aC)(i:Nat)(v:V2)(hl:t.cs.length<=1000000)(b:∀p∈t.cs,eZ p)(hi:i<t.cs.length)(d:fj 3000 v):az prog 157 [ct t,.int .i64 i,eV v] (.int .i64 (t.side i v)):=by
 have a:=aC.get hi;have c:=rJ (aC.ij b hi);have m:=rJ (aC.ij b (t.n7 o_ i));have e:=Ec (t.at i) (aC.ij b hi);have f:=Ev t i hi hl;have g:=Ec (t.at (t.nx i)) (aC.ij b (t.n7 o_ i));have h:=Nt (jG (t.at (t.nx i))) (jG (t.at i)) (m.mono (by decide)) (c.mono (by decide));have j:=Nt v (jG (t.at i)) (d.mono (by decide)) (c.mono (by decide));have k:=PX (t.kK i) (v.sub (jG (t.at i))) ((aC.okW b hi).mono (by decide)) ((vi d c).mono (by decide));have l:=yb ((t.kK i).gY (v.sub (jG (t.at i)))) ((PU (aC.okW b hi) (vi d c)).mono (by decide));refine aP nf (i_ func157) mix (by simp[f157]) ?_;rw[aC.side];simp[f157,ad,a,hi];refine e1 e ?_;simp[ad,a,hi];refine e2 f ?_;simp[ad,a,hi];refine e1 g ?_;simp[ad,a,hi];refine⟨by repeat' first|rfl|apply And.intro,?_⟩;refine e2 h ?_;simp[ad,a,hi];refine e2 j ?_;simp[ad,a,hi];refine e2 k ?_;simp[ad,a,hi];refine e1 l ?_;simp[ad,a,hi]
def aC.py(t:aC)(v:V2)(m:Nat):Int:=(gt m).foldl (fun o i=>min o (t.side i v)) 1
theorem aC.Ea(t:aC)(v:V2)(m:Nat):t.py v (m+1)=min (t.py v m) (t.side m v):=by
 rw[aC.py,hC,hT];rfl
def aC.on(t:aC)(v:V2):Int:=t.py v t.cs.length
theorem Ep(a b:Int):min a b=if b<a then b else a:=by split<;>omega
theorem WY(t:aC)(v:V2)(hl:t.cs.length<=1000000)(b:∀p∈t.cs,eZ p)(c:fj 3000 v):az prog 67 [ct t,eV v] (.int .i64 (t.on v)):=by
 refine aP nf (i_ func67) mix (by simp[f67]) ?_;simp[f67,ad];refine lp (α:=Nat) (fun i=>⟨[(6,.p (.int .i64 i)),(5,.p (.int .i64 (t.py v i))),(3,.ptr 1 []),(2,.ptr 0 [])],[.box false (.p (ct t)),.box false (.p (eV v))]⟩) (fun i=>i<=t.cs.length) (fun i=>t.cs.length-i) 0 s_ ?_ (hh:=by simp[aC.py]) (he:=by simp[aC.py]);rintro i e
 by_cases hi:i<t.cs.length
 ·have a:=W1 t i v hl b hi c;have d:=b8 (i:=i) o_;have hs:=aC.Ea t v i;rw[Ep]at hs;simp[hi,ad];refine c3 a ?_;simp[d,<-hs];exact rd (i+1) hi
 ·have:i=t.cs.length:=by omega
  subst this;simp[aC.on,ad]
end Go.aw
