import Derived.Test.YtfdgnogcckoalaaGreatDoorKPE
import Derived.Lib.Builder
import Derived.WalkKit
import Derived.Laws.Externs
import Derived.Shelf.RegionOpenPlain
import Derived.Test.YtfdgnogcckoalaaGreatDoorKThC
import Derived.Lib.AtoiAll
import Derived.Test.YtfdgnogcckoalaaGreatDoorKPC
/- Parts of a proof. -/
set_option maxRecDepth 100000
set_option maxHeartbeats 4000000
set_option linter.unusedSimpArgs false
set_option linter.unusedVariables false
set_option linter.unusedSectionVars false
open Go.Proofs.Tryz
open Bool renaming and_eq_true->dk, cond_eq_ite->dl, false_eq_true->dp, or_eq_true->dq
open Go renaming FuncId->dz, World->ea
open Go.IntKind renaming i64->eb
open Go.Oper renaming upon_value->ec
open Int renaming natAbs_natCast->ed, natCast_nonneg->ee, tmod_eq_emod_of_nonneg->ei, tdiv_eq_ediv_of_nonneg->ej, ofNat_natAbs_of_nonpos->en, natCast_mul->eo, natCast_emod->eq, natCast_ediv->ew, natAbs_of_nonneg->e6, natAbs_mul->e7, mul_ediv_cancel_left->e8, ofNat_dvd_left->e9, le_of_lt->fb, natAbs_neg->fd, mul_nonneg->fl, mul_neg_of_pos_of_neg->fm, negSucc->fv, natCast_one->gb, natCast_add->gc, sub_self->ge, lt_or_le->gg, ediv_one->gi, neg_neg->gj, neg_mul->gl, mul_neg->gm
open List renaming getElem?_eq_getElem->gp, take_of_length_le->gt, length_pos_iff->gx, replicate->gy, range->gA, all_eq_true->gN, map_cons->gP, take->g0, length_take->g3, getElem_mem->g4, length_append->g5, length_singleton->g6, take_succ_eq_append_getElem->g7, drop_eq_getElem_cons->g8, map_take->g9, getElem_range->ha, take_append_drop->hb, getElem_map->hd, append_nil->hg, getElem?_map->hn, mem_cons->ho, length_drop->hp, ext_getElem->ht, mem_map->hu, getElem?_range->hv, map_nil->hw, reverse_nil->hz, length_cons->hA, length->hB, length_map->hC, foldl_cons->hD, take_take->hE, getD_eq_getElem?_getD->hF, all_cons->hG, map_map->hH, dropWhile_sublist->hJ, map->hK, reverse_append->hL, map_congr_left->hM, getElem_of_mem->hN, flatten_append->hO, dropWhile_cons->hP, mem_singleton->hQ, getElem_of_eq->hR, take_length->hS, getElem_set->hT, flatten_nil->hU, drop->hV, range_succ->hW, nil_append->hX, mem_append->hZ, map_append->h2, range_one->h3, mem_range->h4
open Nat renaming pow_le_pow_right->h5, lt_of_lt_of_le->h6, mul_comm->h7, le_trans->h8, lt_of_le_of_lt->h9, eq_of_beq_eq_true->ih, lt_or_ge->ii, mul_le_mul_right->ik, pow_succ->ip, div_lt_iff_lt_mul->ix, mod_eq_of_lt->iz, le_refl->i0, div_div_eq_div_mul->i1, beq->i2, pow_pos->i3, div_add_mod->i4, mod_lt->i5, mul_assoc->i6, div_eq_of_lt->i7, lt_trans->i8, pow_zero->i9, gcd->jp, add_mul->js, add_sub_cancel->j1, pow_add->j2, div_one->j3, zero_le->j4, one_mul->j5, mul_add->j6, div_pos->j7, mul_lt_mul''->j8, add_comm->j9, gcd_pos_of_pos_right->kb, mul_ne_zero->kc, div_le_self->kd, blt->kg, div_mul_le_self->kh, mul_lt_mul_of_pos_right->kk, mul_le_mul->km, blt_eq->ko, add_mul_mod_self_left->kp, pow_one->kv, pow_mul->kw, le_mul_of_pos_right->kA, gcd_le_right->kC, gcd_dvd_left->kN, add_sub_cancel_left->kP, pow_le_pow_left->kW, mul_le_mul_left->la, mul_right_comm->lb, mod_mod_of_dvd->lc, gcd_comm->le, lt_of_not_le->li, mul_one->lk, pow_dvd_pow->ll, min_eq_left->lm, div_lt_self->lq, sub_le->ls, add_mul_mod_self_right->lt, add_assoc->lu, le_of_lt->lv, le_mul_of_pos_left->lw, le_div_iff_mul_le->lz, add_le_add_right->l0, div_eq_of_lt_le->l1, gcd_zero_right->l2, eq_zero_or_pos->l3, mul_zero->l4, sub_mul->l5, mul_pos->md, mod_one->mi, gcd_rec->mj, mod_le->mm
open Option.some renaming injEq->mo, inj->mp
open Rat renaming divInt->ms, sub_add_cancel->mx, divInt_mul_divInt->m0, zero_add->m1, div_def->m2, divInt_add_divInt->m3, add_lt_add_right->m4, neg_divInt_neg->m5, num_intCast->m6, den_intCast->m7, neg_divInt->m8, inv_divInt->m9, sub_self->na, neg_num->nb, not_le->nc
open UInt8 renaming ofNat->nk
namespace Go.an
def tB:Nat:=1000000000000000000
theorem FG:tB=10^18:=by decide
theorem Pa:∀i,low i 0=gy i 48
 |0=>rfl
 |i+1=>by rw[uN,Nat.zero_div,Pa i,List.replicate_succ']
theorem Ux{r:Nat}(h:r<tB):gy (18-(bc r).length) 48++bc r=low 18 r:=by
 rw[qA,bc];have c:nd r<=18:=tF (by rw[<-FG];exact h);obtain⟨k,hk⟩:∃k,k=max 1 (nd r):=⟨_,rfl⟩
 have d:k<=18:=o_
 have b:r<10^k:=h6 (Be r) (h5 (by decide) o_);rw[<-hk];have:=sQ (18-k) r (a:=k);have e:low 18 r=low (18-k) (r/10^k)++low k r:=by
  have:=sQ k r (18-k);rw[show 18-k+k=18 by omega]at this;exact this
 rw[e,i7 b,Pa]
theorem Fl{r:Nat}(h:r<tB):(bc r).length<=18:=by
 rw[qA];have a:nd r<=18:=tF (by rw[<-FG];exact h);omega
theorem auT{m:Nat}(h:tB<=m):bc m=bc (m/tB)++low 18 (m% tB):=by
 rw[FG]at h⊢;have e:=FR (n:=m) (k:=18) h;have a:0<nd (m/10^18):=yB (j7 h (i3 (by decide)));rw[bc,bc,show max 1 (nd m)=max 1 (nd (m/10^18))+18 by omega,sQ,Fb m 18 18 (i0 _)]
def kt(m:Nat)(a:List (List Nat)):List Nat:=(if m=0 then[]else bc m)++a.reverse.flatten
def eZ(m:Nat):List Nat:=if m/tB=0 then bc m else low 18 (m% tB)
theorem Ok{m:Nat}(h:m≠0)(c:List (List Nat)):kt (m/tB) (c++[eZ m])=kt m c:=by
 rw[kt,kt,if_neg h,eZ,hL]
 by_cases a:m/tB=0
 ·rw[if_pos a,if_pos a];simp
 ·rw[if_neg a,if_neg a];have:tB<=m:=by
   rcases ii m tB with b|b
   ·exact(a (i7 b)).elim
   ·exact b
  rw[auT this];simp
theorem auV(a:List (List Nat)):kt 0 a=a.reverse.flatten:=by rw[kt,if_pos rfl];rfl
theorem A1(n:Nat):0<(bc n).length:=by rw[qA];omega
theorem Nd(m:Nat):eZ m≠[]:=by
 intro h;have:(eZ m).length=0:=by rw[h];rfl
 rw[eZ]at this
 split at this
 ·have:=A1 m;omega
 ·rw[sP]at this;omega
theorem Nf(m:Nat):(eZ m).length<=18:=by
 rw[eZ]
 split
 ·rename_i h;have b:m<tB:=by
   rcases ii m tB with a|a
   ·exact a
   ·have:=j7 a (show 0<tB by decide);omega
  exact Fl b
 ·rw[sP];exact i0 _
theorem Pj{c:Nat}(h:cH c=true):c<256:=by
 simp only[cH,dk,decide_eq_true_eq]at h;omega
end Go.an
namespace Go.Proofs
open Go.an
theorem Tryz.DB:prog.underlying 115=some (.pointer 118):=k_
theorem Tryz.Ky:prog.underlying 282=some .unsafePointer:=k_
theorem Tryz.Js:(prog.info? 118).map (·.size)=some 2:=k_
theorem Tryz.aOR:liesAt prog prog.depth 118 (2/prog.cellsOf 118) 0 118 1=true:=k_
set_option maxHeartbeats 1000000 in
set_option maxRecDepth 100000 in
theorem Tryz.Xp(b:Nat)(w:ea)(h0:w.cell? ⟨b,0,none⟩=some (.pointer (some ⟨b,0,none⟩))):
 Calls prog 138 #[.pointer (some ⟨b,0,none⟩)] w fun e w'=>e=.returned (.tuple #[])/\w'=w:=by
 obtain⟨j,hj,_⟩:=Option.map_eq_some_iff.1 Js
 go_enter func138,ntmps138
 go_wp2
 rw[Lib.run_neq_ptr_same w _ DB hj]
 go_wp2
 go_end0
 exact⟨rfl,rfl⟩
set_option maxHeartbeats 1000000 in
set_option maxRecDepth 100000 in
theorem Tryz.Xq(b:Nat)(w:ea)(h0:w.cell? ⟨b,0,none⟩=some (.pointer none))(hsh:w.shape? b=some (118,2))(hfz:w.frozen? ⟨b,0,none⟩=false):
 Calls prog 138 #[.pointer (some ⟨b,0,none⟩)] w fun e w'=>e=.returned (.tuple #[])/\w'=w.setCell ⟨b,0,none⟩ (.pointer (some ⟨b,0,none⟩)):=by
 obtain⟨j,hj,hjs⟩:=Option.map_eq_some_iff.1 Js
 go_enter func138,ntmps138
 go_wp2
 rw[Lib.run_to_unsafe w ⟨b,0,none⟩ DB Ky hj (by rw[hjs];decide) hsh (Nat.zero_lt_succ 1)];simp only[Result.andThen];rw[ec]
 go_wp2
 rw[run_callFunc_extern func220 k_ k_ k_ (e:=Extern.AbiNoEscape.same) k_];rw[Lib.run_noEscape];simp only[Result.andThen];rw[ec]
 go_wp2
 rw[Lib.run_from_unsafe w ⟨b,0,none⟩ Ky DB hj hsh aOR];simp only[Result.andThen];rw[ec]
 go_wp2
 go_end0
 exact⟨rfl,rfl⟩
end Go.Proofs
namespace Go.an
open Go.Proofs
set_option linter.unusedSectionVars false
theorem Dy:dY prog 117=some [1,1]:=k_
section
variable{w:ea}{ad ai:Nat->Prop}{β:Bd}{H:Heap}
theorem X9{aq:Nat}{c0 c1 v:Value}{T:TypeId}(h:w.heap[aq]?=some (.cells #[c0,c1] T (0,0))):w.setCell ⟨aq,0,none⟩ v=w.setRow aq #[v,c1]:=by
 obtain⟨d,a⟩:=Array.getElem?_eq_some_iff.1 h;unfold World.setCell World.setRow;congr 1;apply Array.ext
 ·simp
 ·intro i b c;simp only[Array.getElem_modify]
  by_cases hi:aq=i
  ·subst hi;simp[a]
  ·simp[hi]
theorem XC{t x:AV}{cs:Array Value}(g:t=iR 117 [.p .dX,x]\/t=.st 117 [.p .dX,x])(h:bw prog w ad β H t cs.toList):∃y,cs=#[.pointer none,y]/\bw prog w ad β H x [y]:=by
 have a:bw prog w ad β H (.st 117 [.p .dX,x]) cs.toList:=by
  rcases g with rfl|rfl
  ·exact Px.1 h
  ·exact h
 simp only[bw,Dy,mo]at a;obtain⟨l,k,rfl,b,d⟩:=a;simp only[bX,bw,aY]at b;obtain⟨c,i,rfl,rfl,_,c2,j,rfl,e,f,rfl⟩:=b
 match c2,f with
 |[y],_=>exact⟨y,Array.ext' (by simpa using d),e⟩
theorem Xv{b:Nat}{x:AV}{cs:Array Value}(h:bw prog w ad β H (.st 117 [.ptr b [],x]) cs.toList):∃v y,cs=#[v,y]/\bY prog β H (.ptr b []) v:=by
 simp only[bw,Dy,mo]at h;obtain⟨l,j,rfl,a,d⟩:=h;simp only[bX,bw]at a;obtain⟨c,g,rfl,⟨v,rfl,f⟩,_,c2,i,rfl,k,e,rfl⟩:=a
 match c2,e with
 |[y],_=>exact⟨v,y,Array.ext' (by simpa using d),f⟩
end
theorem Gy{H:Heap}{b:Nat}{t x:AV}(d:H[b]?=some (.box false t))(g:t=iR 117 [.p .dX,x]\/t= .st 117 [.p .dX,x]):
 b8 prog 138 H [.ptr b []] (H.set b (.box false (.st 117 [.ptr b [],x]))) (.p (.aD [])):=by
 refine⟨jA func138 k_,fun w ad ai β I f i J=>?_⟩;simp only[bC,aA]at i;obtain⟨v,vs,rfl,⟨_,G,K,L,rfl,j,A⟩,rfl⟩:=i;simp only[gT,mo]at j;subst j;obtain⟨rfl,rfl⟩:=A (.inl ⟨false,t,d⟩);obtain⟨cs,T,k1,k2,k3,_,k5⟩:=f.cX b _ d;have E:aa t=.agg 117:=by
  rcases g with rfl|rfl
  ·exact El _ _
  ·rfl
 have o:T=118:=by
  rw[E]at k5;exact dL (by simpa[jT,Gl.bx,Tc]using k5)
 subst o;obtain⟨y,rfl,F⟩:=XC g k2;have n:¬ad (β.aq b)/\¬ai (β.aq b):=by simpa[cQ]using k3
 refine(Xq (β.aq b) w (by simp[World.cell?,k1]) (by simp[World.shape?,k1]) (by simp[World.frozen?,k1])).mono ?_;rintro e w' ⟨rfl,rfl⟩;rw[X9 k1];have aN:cM β H β (H.set b (.box false (.st 117 [.ptr b [],x]))):=qw d (.inl ⟨_,_,_,_,rfl,rfl⟩);have al:∀z,aL H z->aL (H.set b (.box false (.st 117 [.ptr b [],x]))) z:=mS d (fun _ h=>h);have q:b<H.length:=(List.getElem?_eq_some_iff.1 d).1;have s:(H.set b (.box false (.st 117 [.ptr b [],x])))[b]?=some (.box false (.st 117 [.ptr b [],x])):=List.getElem?_set_self q;have m:aE (aL H) x:=by
  have:=f.refs b _ d;rcases g with rfl|rfl
  ·simp only[Obj.refs]at this;unfold iR at this
   split at this
   ·rename_i l hl;have hl:=mQ hl
    match l,hl with
    |[a,c],hl=>simp at hl;rw[hl.2];simp[aE]
    |[],hl=>simp at hl
    |[_],hl=>simp at hl
    |_::_::_::_,hl=>simp at hl
   ·simp only[aE,aV]at this;exact this.2.1
  ·simp only[Obj.refs,aE,aV]at this;exact this.2.1
 have D:∀k,ad k->(w.setRow (β.aq b) #[.pointer (some ⟨β.aq b,0,none⟩),y]).heap[k]?=w.heap[k]?:=fun k u=>setRow_other w _ k _ (fun r=>n.1 (r▸u));have C:Obj.refs (aL (H.set b (.box false (.st 117 [.ptr b [],x])))) (.box false (.st 117 [.ptr b [],x])):=by
  simp only[Obj.refs,aE,aV,and_true];exact⟨⟨_,s,trivial⟩,aE.mono al _ m⟩
 have B:=sd f d trivial (o':=.box false (.st 117 [.ptr b [],x])) trivial (fun _ h=>h) k1 (new:=#[.pointer (some ⟨β.aq b,0,none⟩),y]) n aN
  ⟨_,118,setRow_heap w _ _ _ 118 _ k1,by
   simp only[bw,Dy,mo];refine⟨_,[[.pointer (some ⟨β.aq b,0,none⟩)],[y]],rfl,?_,rfl⟩;simp only[bX,bw];exact⟨_,_,rfl,⟨_,rfl,⟨rfl,_,_,0,rfl,rfl,fun _=>⟨rfl,rfl⟩⟩⟩,rfl,_,_,rfl,bw.mono (fun _ x=>x) D aN _ _ m F,rfl,rfl⟩,k3,s_,by simp[aa,jT,Gl.bx]⟩ C
 exact⟨_,β,ad,rfl,B,by simp[aA,aC,bu],by simp[aE]⟩
theorem S8{H:Heap}{b:Nat}{x:AV}(c:H[b]?=some (.box false (.st 117 [.ptr b [],x]))):b8 prog 138 H [.ptr b []] H (.p (.aD [])):=by
 refine⟨jA func138 k_,fun w ad ai β l g f m=>?_⟩;simp only[bC,aA]at f;obtain⟨v,vs,rfl,⟨_,j,n,i,rfl,a,d⟩,rfl⟩:=f;simp only[gT,mo]at a;subst a;obtain⟨rfl,rfl⟩:=d (.inl ⟨false,_,c⟩);obtain⟨cs,T,k1,k2,k3,_,k5⟩:=g.cX b _ c;obtain⟨v,y,rfl,h⟩:=Xv k2;simp only[bY,b7]at h;obtain⟨_,k,o,i,rfl,a,d⟩:=h;simp only[gT,mo]at a;subst a;obtain⟨rfl,rfl⟩:=d (.inl ⟨false,_,c⟩);refine(Xp (β.aq b) w (by simp[World.cell?,k1])).mono ?_;rintro e w' ⟨rfl,rfl⟩;exact⟨_,β,ad,rfl,cj.refl g,by simp[aA,aC,bu],by simp[aE]⟩
end Go.an
namespace Go.an
open Go.Proofs
@[simp] theorem gu8:(Gl.u8:TypeId)=5:=(rfl)
def dZ(t:List Nat):List AV:=t.map fun(c:Nat)=>AV.p (.int .u8 (c:Int))
theorem xQ(t:List Nat):(dZ t).length=t.length:=by simp[dZ]
theorem aQY(a t:List Nat):dZ (a++t)=dZ a++dZ t:=by simp[dZ]
theorem E7:∀t:List Nat,fh prog 1 (dZ t)
 |[]=>by simp[dZ,fh]
 |c::t=>by
  have:=E7 t;simp only[dZ,gP]at this⊢;simp[fh];exact this
theorem MV:∀(t:List Nat),(∀c∈t,c<256)->bytesOf (dZ t)=some t
 |[],_=>rfl
 |c::t,a=>by
  have b:=a c s_;have:=MV t fun c hc=>a c (by simp[hc]);show bytesOf (.p (.int .u8 (c:Int))::dZ t)=some (c::t);rw[bytesOf,if_pos ⟨o_,o_⟩,this];simp
theorem S9(t:List Nat)(a:t≠[])(h:t.length<=1048576):b8 prog 52 [.box false (.p (.st 117 [.dX,.aH]))] [.ptr 0 [],.p (.str t)]
 [.box false (.st 117 [.ptr 0 [],.sl 1 0 1 0 t.length]),.arr .bytes 0 1 (dZ t)] (.p (.aD [.int .i64 t.length,.gK])):=by
 refine dS nf (i_ func52) mix (by simp[f52]) ?_;simp[f52];refine ci (Gy (b:=0) (t:=.p (.st 117 [.dX,.aH])) (x:=.p .aH) rfl (.inl rfl)) ?_;simp;refine⟨⟨E7 t,by simp only[cJ];omega⟩,?_⟩;simp[a,dZ]
theorem Ta(a t:List Nat)(v n:Nat)(f:n=a.length)(c:t≠[])(h:t.length<=1048576)(e:a.length<=1048576):b8 prog 52 [.box false (.st 117 [.ptr 0 [],.sl 1 v 1 0 n]),.arr .bytes v 1 (dZ a)] [.ptr 0 [],.p (.str t)]
 [.box false (.st 117 [.ptr 0 [],.sl 1 (v+1) 1 0 (n+t.length)]),.arr .bytes (v+1) 1 (dZ (a++t))] (.p (.aD [.int .i64 t.length,.gK])):=by
 refine dS nf (i_ func52) mix (by simp[f52]) ?_;simp[f52];refine ci (S8 (b:=0) (x:=.sl 1 v 1 0 n) rfl) ?_;simp;refine⟨⟨E7 t,by rw[xQ];omega,by rw[xQ];simp only[cJ];omega⟩,?_⟩;have d:g0 n (dZ a)=dZ a:=gt (by rw[xQ];omega);simp[c,d,aQY];exact .inl rfl
theorem aLe(a:List Nat)(v n:Nat)(b:n=a.length)(d:a≠[])(g:a.length<=1048576)(e:∀c∈a,c<256):b8 prog 142 [.box false (.st 117 [.ptr 0 [],.sl 1 v 1 0 n]),.arr .bytes v 1 (dZ a)] [.ptr 0 []]
 [.box false (.st 117 [.ptr 0 [],.sl 1 v 1 0 n]),.dead] (.p (.str a)):=by
 refine dS nf (i_ func142) mix (by simp[f142]) ?_;have f:0<a.length:=gx.2 d;simp[f142];refine aDU (ar:=v) (es:=dZ a) rfl rfl (by rw[b];exact f) (by simp[dZ,b]) ?_;simp;refine aDW (ar:=v) (es:=dZ a) (l:=a) rfl rfl rfl o_ (by simp[xQ,b]) o_ rfl ?_ ?_ ?_ ?_
 ·kernel_rfl
 ·kernel_rfl
 ·rw[gt (by rw[xQ];simp[b])];exact MV a e
 simp
 repeat' with_reducible refine And.intro ?_ ?_
 all_goals rfl
theorem EA{σ:Nat->Nat}:∀{a b:List AV},cF σ (a++b)=cF σ a++cF σ b
 |[],b=>by simp[cF]
 |x::a,b=>by simp[cF,EA (a:=a)]
theorem BC:aw wB tB=[tB]:=u6 (by decide) (by decide)
theorem auv(a:NI)(hs:a.sm=true):az prog 239 [eI a] (.str (bW a.v)):=by
 refine aJ nf (i_ func239) mix (by simp[f239]) ?_;have b:=NI.qN hs;simp[f239,aa,mY hs,nY hs,dy,cU];refine c1 (KQ a.v b.1 b.2) ?_;simp
theorem Qq{m k A L:Nat}(e:0<m)(h:m*tB^k<=A)(a:A<wB^L):k<64*L:=by
 have b:2^k<=tB^k:=kW (by decide) k;have c:tB^k<=m*tB^k:=lw _ e;rw[show wB=2^64 from rfl,<-kw]at a;have d:2^k<2^(64*L):=h9 (h8 b (h8 c h)) a
 rwa [Nat.pow_lt_pow_iff_right (by decide)]at d
theorem auu(a:NI)(hs:a.sm=false)(hl:okW a.v)(au:(bc a.v.natAbs).length<=1000000):az prog 239 [eI a] (.str (bW a.v)):=by
 have N:=pf (eI a) a.v (nh a);have aG:=NI.Bs (a:=a) (by rw[hs];decide);have ah:=h6 (cK bt a.v.natAbs) (h5 (show 0<wB by decide) (o8 hl));obtain⟨c,cs,G⟩:=pE hs;refine aJ nf (i_ func239) mix (by simp[f239]) ?_;simp[f239,aa,G,dy,cU];refine c1 N ?_;simp;refine tP (fun s'=>∃b:List (List Nat),kt 0 b=kt a.v.natAbs []/\(∀p∈b,p≠[]/\p.length<=18)/\b≠[]/\b.length<=57600000/\aS s'.env 3=.p (.bool (decide (a.v<0)))/\aS s'.env 6=.sl 2 b.length 1 0 b.length/\∃o,s'.heap=[.hole,o,.arr .grow b.length 1 (b.map fun p=>.p (.str p))]) ?_ ?_
 ·refine lp (α:=Nat×List (List Nat)×Bool) (fun x=>⟨[(6,.sl 2 x.2.1.length 1 0 x.2.1.length),(5,.sl 1 0 1 0 1),(4,.p (eN x.1)),(3,.p (.bool (decide (a.v<0))))],[.hole,.arr (if x.2.2=true then .frozen else .exact) 0 1 [.p (.int .u64 1000000000000000000)],.arr .grow x.2.1.length 1 (x.2.1.map fun p=>.p (.str p))]⟩)
   (fun x=>x.1<=a.v.natAbs/\kt x.1 x.2.1=kt a.v.natAbs []/\(∀p∈x.2.1,p≠[]/\p.length<=18)/\x.2.1.length<=57600000/\x.1*tB^x.2.1.length<=a.v.natAbs) (fun x=>x.1) (a.v.natAbs,[],false) ⟨i0 _,rfl,s_,s_,s_⟩ ?_
  rintro⟨m,b,f⟩ ⟨k1,k2,k3,k5,k4⟩;dsimp only at k1 k2 k3 k5 k4;rcases f with _|_
  ·simp only[dp,if_false];have av:(aw wB m).length<=900000:=by
    have:=et bt _ _ (h9 k1 (cK bt a.v.natAbs));have:=o8 hl;omega
   by_cases hm:m=0
   ·subst hm;have Z:b≠[]:=by
     rintro rfl;rw[kt,kt,if_pos rfl,if_neg o_]at k2;have:=A1 a.v.natAbs;rw[hz,hU,hg,hg]at k2;rw[<-k2]at this;simp at this
    simp[eN,mq];refine⟨b,k2,k3,Z,k5,?_⟩;simp
   ·have d:=EM m tB (by decide) o_ (by rw[BC];decide);have Y:aw wB m≠[]:=mt uz.1 hm;have C:0<(aw wB m).length:=gx.2 Y;have aN:=Ok hm b;have B:∀p∈b++[eZ m],p≠[]/\p.length<=18:=by
     intro p N;rcases hZ.1 N with h|h
     ·exact k3 p h
     ·rw[hQ.1 h];exact⟨Nd m,Nf m⟩
    have A:m/tB<m:=lq o_ (by decide);have ay:=Qq (show 0<m by omega) k4 ah;have w:m/tB*tB^(b++[eZ m]).length<=a.v.natAbs:=by
     rw[g5,g6,ip,h7 (tB^b.length),<-i6];exact h8 (ik _ (kh _ _)) k4
    have y:(b++[eZ m]).length<=57600000:=by rw[g5,g6];omega
    have r:m% tB<tB:=i5 _ (by decide);have Q:m/tB=0->m% tB=m:=fun h=>by have:=i4 m tB;rw[h]at this;omega
    simp only[eN]at d⊢;rw[BC]at d;have P:=uz (n:=m/tB);have L:=SL (m% tB) (i8 r (by decide));have q:=SN [48] (18-(bc (m% tB)).length) o_ (by simp;omega);have aA:=Fl r;have ab:=Ux r;rw[Ez]at q;have l:eZ m=if m/tB=0 then bc (m% tB)else gy (18-(bc (m% tB)).length) 48++bc (m% tB):=by
     rw[eZ,ab];split
     ·rename_i h;rw[Q h]
     ·rfl
    have s:eb.wrap (18-((bc (m% tB)).length:Int))=(18-(bc (m% tB)).length:Nat):=by rw[aK _ o_ o_];omega
    have aD:((18-(bc (m% tB)).length:Nat):Int)=18-((bc (m% tB)).length:Int):=o_
    have u:∀t,t=eZ m->(b.map fun p=>AV.p (.str p))++[AV.p (.str t)]=(b++[eZ m]).map fun p=>AV.p (.str p):=fun t e=>by rw[e];simp
    by_cases F:m% tB=0
    ·have j:¬m/tB=0:=fun h=>hm (by rw[<-Q h];exact F);have E:0<(aw wB (m/tB)).length:=gx.2 (mt P.1 j);have e:gy (18-(bc (m% tB)).length) 48++bc (m% tB)=eZ m:=by rw[l,if_neg j]
     rw[F,nP]at e q s;rw[F,mq]at d;simp only[g6]at e q s;have hf:=u _ e;generalize D:aw wB (m/tB)=ag at*;simp[C];refine cp d (by simp;exact⟨rfl,rfl⟩) ?_ (h1:=by simp[tB]);simp[E,s];refine c2 q ?_;simp;refine⟨by simp only[cJ];omega,?_⟩;refine rd (m/tB,b++[eZ m],true) ⟨o_,by rw[aN];exact k2,by simpa using B,y,w⟩ A (he:=by simp[D]) (hh:=by simp only[<-hf];simp) (hr2:=by simp only[<-hf];simp)
    ·have ad:aw wB (m% tB)=[m% tB]:=u6 o_ (i8 r (by decide));rw[ad]at d
     by_cases j:m/tB=0
     ·have e:bc (m% tB)=eZ m:=by rw[l,if_pos j]
      have hf:=u _ e;rw[j,mq]at d;simp[C];refine cp d (by simp;exact⟨rfl,rfl⟩) ?_ (h1:=by simp[tB]);simp;refine c2 L ?_;simp;refine⟨by simp only[cJ];omega,?_⟩;refine rd (m/tB,b++[eZ m],true) ⟨o_,by rw[aN];exact k2,by simpa using B,y,w⟩ A (he:=by simp[j,mq]) (hh:=by simp only[<-hf];simp) (hr2:=by simp only[<-hf];simp)
     ·have E:0<(aw wB (m/tB)).length:=gx.2 (mt P.1 j);have e:gy (18-(bc (m% tB)).length) 48++bc (m% tB)=eZ m:=by rw[l,if_neg j]
      have hf:=u _ e;generalize D:aw wB (m/tB)=ag at*;simp[C];refine cp d (by simp;exact⟨rfl,rfl⟩) ?_ (h1:=by simp[tB]);simp;refine c2 L ?_;simp[E,s];refine c2 q ?_;simp;refine⟨o_,by simp only[cJ];omega,?_⟩;refine rd (m/tB,b++[eZ m],true) ⟨o_,by rw[aN];exact k2,by simpa using B,y,w⟩ A (he:=by simp[D]) (hh:=by simp only[<-hf];simp) (hr2:=by simp only[<-hf];simp)
  ·simp only[if_true];have av:(aw wB m).length<=900000:=by
    have:=et bt _ _ (h9 k1 (cK bt a.v.natAbs));have:=o8 hl;omega
   by_cases hm:m=0
   ·subst hm;have Z:b≠[]:=by
     rintro rfl;rw[kt,kt,if_pos rfl,if_neg o_]at k2;have:=A1 a.v.natAbs;rw[hz,hU,hg,hg]at k2;rw[<-k2]at this;simp at this
    simp[eN,mq];refine⟨b,k2,k3,Z,k5,?_⟩;simp
   ·have d:=EM m tB (by decide) o_ (by rw[BC];decide);have Y:aw wB m≠[]:=mt uz.1 hm;have C:0<(aw wB m).length:=gx.2 Y;have aN:=Ok hm b;have B:∀p∈b++[eZ m],p≠[]/\p.length<=18:=by
     intro p N;rcases hZ.1 N with h|h
     ·exact k3 p h
     ·rw[hQ.1 h];exact⟨Nd m,Nf m⟩
    have A:m/tB<m:=lq o_ (by decide);have ay:=Qq (show 0<m by omega) k4 ah;have w:m/tB*tB^(b++[eZ m]).length<=a.v.natAbs:=by
     rw[g5,g6,ip,h7 (tB^b.length),<-i6];exact h8 (ik _ (kh _ _)) k4
    have y:(b++[eZ m]).length<=57600000:=by rw[g5,g6];omega
    have r:m% tB<tB:=i5 _ (by decide);have Q:m/tB=0->m% tB=m:=fun h=>by have:=i4 m tB;rw[h]at this;omega
    simp only[eN]at d⊢;rw[BC]at d;have P:=uz (n:=m/tB);have L:=SL (m% tB) (i8 r (by decide));have q:=SN [48] (18-(bc (m% tB)).length) o_ (by simp;omega);have aA:=Fl r;have ab:=Ux r;rw[Ez]at q;have l:eZ m=if m/tB=0 then bc (m% tB)else gy (18-(bc (m% tB)).length) 48++bc (m% tB):=by
     rw[eZ,ab];split
     ·rename_i h;rw[Q h]
     ·rfl
    have s:eb.wrap (18-((bc (m% tB)).length:Int))=(18-(bc (m% tB)).length:Nat):=by rw[aK _ o_ o_];omega
    have aD:((18-(bc (m% tB)).length:Nat):Int)=18-((bc (m% tB)).length:Int):=o_
    have u:∀t,t=eZ m->(b.map fun p=>AV.p (.str p))++[AV.p (.str t)]=(b++[eZ m]).map fun p=>AV.p (.str p):=fun t e=>by rw[e];simp
    by_cases F:m% tB=0
    ·have j:¬m/tB=0:=fun h=>hm (by rw[<-Q h];exact F);have E:0<(aw wB (m/tB)).length:=gx.2 (mt P.1 j);have e:gy (18-(bc (m% tB)).length) 48++bc (m% tB)=eZ m:=by rw[l,if_neg j]
     rw[F,nP]at e q s;rw[F,mq]at d;simp only[g6]at e q s;have hf:=u _ e;generalize D:aw wB (m/tB)=ag at*;simp[C];refine cp d (by simp;exact⟨rfl,rfl⟩) ?_ (h1:=by simp[tB]);simp[E,s];refine c2 q ?_;simp;refine⟨by simp only[cJ];omega,?_⟩;refine rd (m/tB,b++[eZ m],true) ⟨o_,by rw[aN];exact k2,by simpa using B,y,w⟩ A (he:=by simp[D]) (hh:=by simp only[<-hf];simp) (hr2:=by simp only[<-hf];simp)
    ·have ad:aw wB (m% tB)=[m% tB]:=u6 o_ (i8 r (by decide));rw[ad]at d
     by_cases j:m/tB=0
     ·have e:bc (m% tB)=eZ m:=by rw[l,if_pos j]
      have hf:=u _ e;rw[j,mq]at d;simp[C];refine cp d (by simp;exact⟨rfl,rfl⟩) ?_ (h1:=by simp[tB]);simp;refine c2 L ?_;simp;refine⟨by simp only[cJ];omega,?_⟩;refine rd (m/tB,b++[eZ m],true) ⟨o_,by rw[aN];exact k2,by simpa using B,y,w⟩ A (he:=by simp[j,mq]) (hh:=by simp only[<-hf];simp) (hr2:=by simp only[<-hf];simp)
     ·have E:0<(aw wB (m/tB)).length:=gx.2 (mt P.1 j);have e:gy (18-(bc (m% tB)).length) 48++bc (m% tB)=eZ m:=by rw[l,if_neg j]
      have hf:=u _ e;generalize D:aw wB (m/tB)=ag at*;simp[C];refine cp d (by simp;exact⟨rfl,rfl⟩) ?_ (h1:=by simp[tB]);simp;refine c2 L ?_;simp[E,s];refine c2 q ?_;simp;refine⟨o_,by simp only[cJ];omega,?_⟩;refine rd (m/tB,b++[eZ m],true) ⟨o_,by rw[aN];exact k2,by simpa using B,y,w⟩ A (he:=by simp[D]) (hh:=by simp only[<-hf];simp) (hr2:=by simp only[<-hf];simp)
 ·rintro⟨aF,aH⟩ ⟨b,q1,aE,U,q4,ap,S,o,aj⟩;dsimp only at ap S aj;subst aj;have aB:0<b.length:=gx.2 U;have ac:bc a.v.natAbs=b.reverse.flatten:=by rw[<-auV,q1,kt,if_neg o_];simp
  obtain⟨neg,M⟩:∃neg:Bool,neg=decide (a.v<0):=⟨_,rfl⟩
  obtain⟨pre,O⟩:∃pre:List Nat,pre=if neg=true then[45]else[]:=⟨_,rfl⟩
  have ak:bW a.v=pre++b.reverse.flatten:=by
   rw[bW,<-ac,O,M]
   by_cases h:a.v<0
   ·simp[h]
   ·simp[h]
  obtain⟨g,J⟩:∃g:Nat->List Nat,g=fun k=>pre++(b.reverse.take k).flatten:=⟨_,rfl⟩
  have K:g b.length=bW a.v:=by rw[J,ak];dsimp only;rw[gt s_]
  have aC:∀k,(b.reverse.take k).flatten.length<=1000000:=fun k=>by
   have aq:b.reverse.flatten=(b.reverse.take k).flatten++(b.reverse.drop k).flatten:=by rw[<-hO,hb]
   rw[ac,aq,g5]at au;omega
  have aI:pre.length<=1:=by rw[O];split<;>simp
  have W:∀k,(g k).length<=1000001:=fun k=>by rw[J];dsimp only;rw[g5];have:=aC k;omega
  have l:∀k(h:k<b.length),g (k+1)=g k++b[b.length-1-k]' o_:=fun k h=>by
   rw[J];dsimp only;rw[g7 (by simpa using h),hO,List.getElem_reverse,<-List.append_assoc];simp
  have ar:∀c∈bW a.v,c<256:=by
   intro c hc;rw[bW]at hc;have d:=pJ a.v.natAbs;rw[gN]at d
   split at hc
   ·rcases ho.1 hc with h|h
    ·omega
    ·exact Pj (d c h)
   ·exact Pj (d c hc)
  have ae:eb.wrap ((b.length:Int)-1)=b.length-1:=aK _ o_ o_;have al:∀i(h:i<b.length),b[i]≠[]/\b[i].length<=18:=fun i h=>aE _ (g4 h);have H:=aLe (g b.length) (if neg=true then b.length else b.length-1) (g b.length).length rfl (by rw[K,ak];intro h;rw[List.append_eq_nil_iff,<-ac]at h;have:=A1 a.v.natAbs;rw[h.2]at this;simp at this) (by have:=W b.length;omega) (by rw[K];exact ar);simp[ap,S,ae]
  by_cases T:a.v<0
  ·rw[decide_eq_true T]at M;subst M;have ax:g 0=[45]:=by rw[J,O];simp
   simp only[if_true]at H;simp[T];refine cf (S9 [45] s_ s_) [3] ?_;simp[ba,sig,S,ae];refine lp (α:=Nat) (fun k=>⟨[(11,.p (.int .i64 ((b.length:Int)-1-k))),(10,.ptr 3 []),(6,.sl 2 b.length 1 0 b.length)],[.hole,.hole,.arr .grow b.length 1 (b.map fun p=>.p (.str p)),.box false (.st 117 [.ptr 3 [],.sl 4 k 1 0 (g k).length]),.arr .bytes k 1 (dZ (g k))]⟩)
    (fun k=>k<=b.length) (fun k=>b.length-k) 0 s_ ?_ (he:=by simp[S]) (hh:=by simp[ax,dZ]) (hr2:=by simp[dZ])
   intro k hk
   by_cases z:k<b.length
   ·have G:eb.wrap ((b.length:Int)-1-k-1)=b.length-1-(k+1:Nat):=by rw[aK _ o_ o_];omega
    have e1:((b.length:Int)-1-k).toNat=b.length-1-k:=o_
    have I:(k:Int)<=(b.length:Int)-1:=o_
    have R:b.length-1-k<b.length:=o_
    have hx:=al _ R;have af:=Ta (g k) (b[b.length-1-k]) k (g k).length rfl hx.1 o_ (by have:=W k;omega);simp[I,e1,R,U];refine cf af [3,4] ?_ (al:=by simp[sig,dZ]) (aM:=by simp[sig]) (hr:=by simp[dZ]);simp[sig,dZ,ba,G,EA];refine rd (k+1) z (he:=by simp[l k z]) (hh:=by simp[l k z,dZ]) (hr2:=by simp[dZ])
   ·have X:k=b.length:=by omega
    subst X;have V:¬(b.length:Int)<=(b.length:Int)-1:=o_
    simp[V];refine cf H [3,4] ?_ (al:=by simp[sig,dZ]) (aM:=by simp[sig]) (hr:=by simp[dZ]);simp[sig,ba,K]
  ·rw[decide_eq_false T]at M;subst M;simp only[dp,if_false]at H O;have ai:g 1=b[b.length-1]:=by rw[l 0 aB,J];simp[O]
   have ao:b.length-1<b.length:=o_
   have an:=al _ ao;have am:=S9 (b[b.length-1]) an.1 o_;rw[<-ai]at am an;simp[T,ae]
   refine lp (α:=Option Nat) (fun st=>match st with
     |none=>⟨[(11,.p (.int .i64 ((b.length:Int)-1))),(10,.ptr 3 []),(6,.sl 2 b.length 1 0 b.length)],[.hole,.hole,.arr .grow b.length 1 (b.map fun p=>.p (.str p)),.box false (.p (.st 117 [.dX,.aH]))]⟩
     |some k=>⟨[(11,.p (.int .i64 ((b.length:Int)-1-(k+1)))),(10,.ptr 3 []),(6,.sl 2 b.length 1 0 b.length)],[.hole,.hole,.arr .grow b.length 1 (b.map fun p=>.p (.str p)),.box false (.st 117 [.ptr 3 [],.sl 4 k 1 0 (g (k+1)).length]),.arr .bytes k 1 (dZ (g (k+1)))]⟩)
    (fun st=>match st with
     |none=>True
     |some k=>k+1<=b.length) (fun st=>match st with
     |none=>b.length+1
     |some k=>b.length-(k+1)) none trivial ?_ (he:=by simp[S])
   intro st hk;cases st with
   |none=>
    have G:eb.wrap ((b.length:Int)-1-1)=b.length-1-(0+1):=by rw[aK _ o_ o_];omega
    have e1:((b.length:Int)-1).toNat=b.length-1:=o_
    have I:(1:Int)<=(b.length:Int):=o_
    simp[I,e1,ao,U,<-ai];refine cf am [3] ?_;simp[ba,sig,G];refine rd (some 0) (by show 0+1<=b.length;omega) (by show b.length-(0+1)<b.length+1;omega) (he:=s_) (hh:=by simp[dZ]) (hr2:=by simp[dZ])
   |some k=>
    have hk:k+1<=b.length:=hk
    by_cases z:k+1<b.length
    ·have G:eb.wrap ((b.length:Int)-1-(k+1)-1)=b.length-1-(k+1+1):=by rw[aK _ o_ o_];omega
     have e1:((b.length:Int)-1-(k+1)).toNat=b.length-1-(k+1):=o_
     have I:(k:Int)+1<=(b.length:Int)-1:=o_
     have R:b.length-1-(k+1)<b.length:=o_
     have hx:=al _ R;have af:=Ta (g (k+1)) (b[b.length-1-(k+1)]) k (g (k+1)).length rfl hx.1 o_ (by have:=W (k+1);omega);simp[I,e1,R,U];refine cf af [3,4] ?_ (al:=by simp[sig,dZ]) (aM:=by simp[sig]) (hr:=by simp[dZ]);simp[sig,dZ,ba,G,EA];refine rd (some (k+1)) z (by show b.length-(k+1+1)<b.length-(k+1);omega) (he:=by simp[l (k+1) z]) (hh:=by simp[l (k+1) z,dZ]) (hr2:=by simp[dZ])
    ·have X:b.length=k+1:=by omega
     have V:¬(k:Int)+1<=(b.length:Int)-1:=o_
     rw[X]at H K;rw[j1]at H;simp[V];refine cf H [3,4] ?_ (al:=by simp[sig,dZ]) (aM:=by simp[sig]) (hr:=by simp[dZ]);simp[sig,ba,K]
theorem EN(a:NI)(hl:okW a.v)(b:(bc a.v.natAbs).length<=1000000):az prog 239 [eI a] (.str (bW a.v)):=by
 rcases h:a.sm with _|_
 ·exact auu a h hl b
 ·exact auv a h
open Go
theorem N3:∀(r:List Nat)(a:Nat),a<=r.foldl (fun n c=>n*10+(c-48)) a
 |[],a=>i0 _
 |x::r,a=>h8 (show a<=a*10+(x-48)by omega) (N3 r _)
theorem NK:∀(d:List Nat)(a:Nat),d.all cH=true->d.foldl (fun n c=>n*10+(c-48)) a<1000000000000000000->Lib.parseUint10 a (d.map nk)=.ok (d.foldl (fun n c=>n*10+(c-48)) a)
 |[],a,_,_=>rfl
 |c::r,a,h,hl=>by
  simp only[hG,dk]at h;have hc:=h.1;simp only[cH,dk,decide_eq_true_eq]at hc;have b:=N3 r (a*10+(c-48));rw[hD]at hl⊢;have e:(nk c).toNat=c:=by simp;omega
  rw[gP,Lib.parseUint10,e,if_pos hc,if_neg o_,if_neg o_];exact NK r _ h.2 hl
theorem awK{d:List Nat}(h:d.all cH=true)(b:d≠[])(f:d.length<=18):Lib.atoiAll (d.map nk)=.ok (bd d):=by
 have hl:=jZ _ d rfl h;have i:10^d.length<=10^18:=h5 o_ f;cases d with
 |nil=>exact(b rfl).elim
 |cons c r=>
  have hc:=(dk ..▸(hG▸h):cH c=true/\r.all cH=true).1;simp only[cH,dk,decide_eq_true_eq]at hc;have e:(nk c).toNat=c:=by simp;omega
  have g:bd (c::r)<1000000000000000000:=o_
  have a:=NK (c::r) 0 h g;rw[<-bd]at a;rw[gP]at a;rw[gP,Lib.atoiAll];simp only[e];rw[if_neg o_,Lib.parseMag,if_neg s_,a];dsimp only;rw[if_neg o_,if_neg o_,if_neg o_]
theorem Ej:∀(b:List Nat)(x:Nat),b.foldl (fun n c=>n*10+(c-48)) x=x*10^b.length+bd b
 |[],x=>by simp[bd]
 |c::b,x=>by
  rw[bd,hD,hD,Ej b,Ej b (0*10+(c-48)),hA,ip,js,i6,h7 10];simp[lu]
theorem Oh(a b:List Nat):bd (a++b)=bd a*10^b.length+bd b:=by
 rw[bd,List.foldl_append,Ej];rfl
theorem PF(k:Nat):10^k<=2^(4*k):=by
 rw[kw];exact kW (by decide) k
theorem Oo{a K:Nat}(h:4*a<=K):10^a<=2^K:=h8 (PF a) (h5 (by decide) h)
theorem yg{n k:Nat}(h:n<2^k)(hk:k<=3*1000000):(bc n).length<=1000000:=
 pK h hk (by decide)
theorem AZ(a:NF)(h:bE kB a.q):az prog 176 [eF a] (.str (bg a.q)):=by
 have f:kB=100000:=rfl;have w:=Ep a;have c:=EN a.num (iV h.1 rG) (yg h.1 o_);have d:=EN a.den (iV (by rw[lA];exact h.2) rG) (yg (by rw[lA];exact h.2) o_);rw[mn]at c;rw[kj,xo]at d;have g:=yg h.1 (show kB<=3*1000000 by omega);have i:=yg h.2 (show kB<=3*1000000 by omega);have j:=E8 a.q.num;refine aJ nf (i_ func176) mix (by simp[f176]) ?_;rw[bg]
 by_cases b:a.q.den=1
 ·have e:a.fL=true:=by simp[NF.fL,b]
  rw[e]at w;rw[if_pos b];simp[f176];refine c1 w ?_;simp[aa];refine c1 c ?_;simp
 ·have e:a.fL=false:=by simp[NF.fL,b]
  rw[e]at w;rw[if_neg b];simp[f176];refine c1 w ?_;simp[aa];refine e1 c ?_;simp[aa];refine⟨o_,?_⟩;refine e1 d ?_;simp;omega
def kR:Nat:=2800
theorem Bv(s:List Nat)(i:(dh s).all cH=true)(hl:(dh s).length<=700):az prog 193 [.str s] (eI (.mk' (if cq s=true then -(bd (dh s):Int)else bd (dh s)))):=by
 refine aJ nf (i_ func193) mix (by simp[f193]) ?_;simp[f193];refine c2 (awz s) ?_;simp;refine c2 (NO s) ?_;simp;generalize dh s=d at*;generalize cq s=neg at*;have w:fw 0=eI (.mk' 0):=(pH (by decide) (by decide)).symm;rw[show PV.st 162 [.int .i64 0,.aH]=eI (.mk' 0)from w];refine lp (α:=List Nat×NI) (fun x=>⟨[(4,.ptr 1 []),(3,.p (.bool neg)),(2,.ptr 0 []),(0,.p (.str x.1))],[.box false (.p (eI (.mk' 0))),.box false (.p (eI x.2))]⟩)
  (fun x=>∃m:Nat,x.2.v=m/\m*10^x.1.length+bd x.1=bd d/\x.1.all cH=true/\x.1.length<=700/\m<2^kR) (fun x=>x.1.length) (d,.mk' 0) ⟨0,rfl,s_,i,hl,i3 (by decide)⟩ ?_
 rintro⟨r,o⟩ ⟨m,k1,k2,k3,k4,k5⟩;dsimp only at k1 k2 k3 k4 k5;have R:kR=2800:=rfl;have c:o.v.natAbs<2^kR:=by rw[k1,ed];exact k5
 have H:okW o.v:=iV c (by have:kB=100000:=rfl;omega)
 by_cases f:r=[]
 ·subst f;have u:o.v=bd d:=by rw[k1];simp[bd]at k2⊢;omega
  cases neg
  ·have e:eI (.mk' (bd d:Nat))=eI o:=n6 (by rw[NI.jj,u]) (fun h=>by rw[NI.jj]at h;omega);simp;rw[e];simp[aa]
  ·have e:eI (.mk' (-(bd d:Nat)))=eI o.neg:=by rw[NI.neg,u]
   simp;rw[e];refine c1 (vw o H) ?_;simp[aa]
 ·have K:0<r.length:=gx.2 f;obtain⟨n,S⟩:∃n,n=min 18 r.length:=⟨_,rfl⟩
  have j:n<=r.length:=o_
  have U:0<n:=o_
  have F:n<=18:=o_
  have G:(if(r.length:Int)<18 then(r.length:Int)else 18)=n:=by split<;>omega
  have g:(r.take n).length=n:=by rw[g3];omega
  have a:=k3;rw[<-hb n r,List.all_append,dk]at a;have M:=jZ _ (r.take n) rfl a.1;have C:=KW (r.take n) (bd (r.take n)) (awK a.1 (by intro e;rw[e]at g;simp at g;omega) o_) o_;rw[g]at M;have q:10^n<=10^18:=h5 (by decide) F;have z:10^n<wB^1:=by rw[kv];exact h9 q (by decide)
  have A:((10^n:Nat):Int).natAbs<2^64:=by rw[ed];exact h9 q (by decide)
  have N:=et bt 1 _ z;have Cj:=AF c;have O:kB=100000:=rfl;have V:=jZ _ d rfl i;have P:10^d.length<=2^kR:=Oo (by have:kR=2800:=rfl;omega);have I:=aAM (.of 10) n (10^n) (by decide) rfl o_ (by decide) o_;have E:=BR o (.mk' (10^n:Nat)) (by rw[NI.jj,ed];omega);have B:=yL (o.mul (.mk' (10^n:Nat))) (.of (bd (r.take n):Nat)) (iV (qp (x:=o.v) (y:=((10^n:Nat):Int)) c A) o_) (iV (k:=64) (show((bd (r.take n):Nat):Int).natAbs<2^64 by rw[ed];omega) o_);have l:=tM (bd (r.take n):Nat);rw[<-vB o_ o_]at l;have t:=tM 10;rw[<-vB (by decide) (by decide)]at t;have L:bd r=bd (r.take n)*10^(r.drop n).length+bd (r.drop n):=by rw[<-Oh,hb]
  have J:r.length=n+(r.drop n).length:=by rw[hp];omega
  have D:(m*10^n+bd (r.take n))*10^(r.drop n).length+bd (r.drop n)=bd d:=by
   rw[<-k2,L,J,j2,js,i6,lu]
  generalize 10^n=T at*;generalize W:bd (r.take n)=b at*;have Q:m*T+b<=bd d:=by
   have:=kA (m*T+b) (show 0<10^(r.drop n).length from i3 (by decide));omega
  simp[f,K,G];refine⟨j,?_⟩;refine c1 C ?_;simp;refine e1 t ?_;simp;refine e2 I ?_;simp[aa];refine e2 E ?_;simp;refine e1 l ?_;simp;refine e2 B ?_;simp[aa];refine⟨rfl,j,?_⟩;refine rd (r.drop n,(o.mul (.mk' T)).add (.of b)) ⟨m*T+b,by rw[NI.tH,NI.mX,NI.jj,k1];rfl,D,a.2,by dsimp only;omega,o_⟩ (by dsimp only;omega)
theorem EH{s:List Nat}(h:dV s=true):cq s=false/\dh s=s:=by
 have b:=jR h;have:cq s=false:=by
  rw[cq,decide_eq_false_iff_not];intro a;cases s with
  |nil=>simp at a
  |cons c r=>
   simp at a;subst a;rw[hG,dk]at b;simp[cH]at b
 exact⟨this,by rw[dh,this];rfl⟩
theorem N6(s:List Nat):cq (cz 47 s).1=cq s/\dh (cz 47 s).1=bM s/\(cz 47 s).2.1=b6 s/\(cz 47 s).2.2=eK s:=by
 cases s with
 |nil=>exact⟨rfl,rfl,rfl,rfl⟩
 |cons c r=>
  by_cases h:c=45
  ·subst h;have e:cz 47 (45::r)=(45::(cz 47 r).1,(cz 47 r).2.1,(cz 47 r).2.2):=by rw[cz,if_neg (by decide)]
   rw[e];exact⟨rfl,rfl,rfl,rfl⟩
  ·have b:cq (c::r)=false:=by rw[cq,decide_eq_false_iff_not];simpa using h
   have a:dh (c::r)=c::r:=by rw[dh,b];rfl
   have d:cq (cz 47 (c::r)).1=false:=by
    rw[cq,decide_eq_false_iff_not,cz]
    split
    ·simp
    ·simpa using h
   refine⟨by rw[b,d],?_,?_,?_⟩
   ·rw[dh,d,bM,a];rfl
   ·rw[b6,a]
   ·rw[eK,a]
theorem awl{s:List Nat}(h:bK s=0):dV (bM s)=true/\(bM s).length<=600/\(b6 s).length<=600/\(eK s=true->dV (b6 s)=true):=by
 unfold bK at h
 split at h
 ·cases h
 rename_i a
 split at h
 ·cases h
 rename_i d;have a:kJ s=true:=by simpa using a
 simp only[kJ,dk,dq,Bool.not_eq_true']at a;refine⟨a.1.1,o_,o_,fun c=>?_⟩;rcases a.2 with b|b
 ·rw[c]at b;cases b
 ·exact b.1.1
theorem Xe(z:Int):dh (bW z)=bc z.natAbs:=by
 have:=(As z []).2;simpa using this
theorem qz(c:Nat):∀s:List Nat,(cz c s).1.length<=s.length/\(cz c s).2.1.length<=s.length/\(∀x∈(cz c s).1,x∈s)/\(∀x∈(cz c s).2.1,x∈s)
 |[]=>by simp[cz]
 |y::r=>by
  have a:=qz c r;rw[cz]
  split
  ·simp;intro x hx;exact .inr hx
  ·simp only[hA,ho];refine⟨o_,o_,?_,fun x hx=>.inr (a.2.2.2 x hx)⟩;rintro x (rfl|hx)
   ·exact .inl rfl
   ·exact .inr (a.2.2.1 x hx)
theorem qq(s:List Nat):(dh s).length<=s.length/\∀x∈dh s,x∈s:=by
 rw[dh]
 split
 ·exact⟨s_,fun x hx=>List.mem_of_mem_tail hx⟩
 ·exact⟨i0 _,fun _ h=>h⟩
theorem kL(s:List Nat)(h:bK s=0)(hl:s.length<=1048576):az prog 110 [.str s] (eF ⟨aI s,false⟩):=by
 obtain⟨l,r,t,m⟩:=awl h;obtain⟨n,f,o,p⟩:=N6 s;obtain⟨q1,q,a⟩:=jg h;have b:=SK s 47 hl;rw[o,p]at b;have c:=Bv (cz 47 s).1 (by rw[f];exact jR l) (by rw[f];omega);rw[n,f]at c;have j:eI (NF.mk (aI s) false).num=eI (.mk' (if cq s=true then -(bd (bM s):Int)else bd (bM s))):=by
  show eI ⟨(aI s).num,false⟩=_;rw[q];rfl
 rw[<-j]at c;refine aJ nf (i_ func110) mix (by simp[f110]) ?_;cases hf:eK s
 ·rw[hf]at b a;simp only[dp,if_false]at a;have e:(NF.mk (aI s) false).den=.mk' 1:=by
   show NI.mk' ((aI s).den:Int)=_;rw[a];rfl
  have i:=Fy (NF.mk (aI s) false).num;have k:eF (.whole (NF.mk (aI s) false).num)=eF ⟨aI s,false⟩:=by
   rw[eF,eF,e];rfl
  rw[k]at i;simp[f110];refine c2 b ?_;simp;refine c1 c ?_;simp;refine c1 i ?_;simp[aa]
 ·rw[hf]at b a;simp only[if_true]at a;have g:=m hf;obtain⟨d1,d2⟩:=EH g;have d:=Bv (b6 s) (by rw[d2];exact jR g) (by rw[d2];omega);rw[d1,d2]at d;simp only[dp,if_false]at d;have e:eI (NF.mk (aI s) false).den=eI (.mk' (bd (b6 s):Nat)):=by
   show eI (NI.mk' ((aI s).den:Int))=_;rw[a]
  rw[<-e]at d;rw[eF];simp[f110];refine c2 b ?_;simp;refine c1 c ?_;simp;refine c1 d ?_;simp[aa]
def lS(n:Nat):Bool:=decide (600<(bc n).length)
theorem RN(a:NI)(h:a.v.natAbs<2^kB):az prog 238 [eI a] (.bool (lS a.v.natAbs)):=by
 have l:kB=100000:=rfl;have d:=iV h rG;have g:=aAD a d;have i:=EN a d (yg h o_);have c:=NO (bW a.v);rw[Xe]at c;refine aJ nf (i_ func238) mix (by simp[f238]) ?_;simp[f238];refine c1 g ?_
 by_cases j:1800<pI a.v.natAbs
 ·have b:(1800:Int)<(pI a.v.natAbs:Nat):=by omega
  have e:decide ((600:Int)<((bc a.v.natAbs).length:Nat))=lS a.v.natAbs:=by rw[lS,decide_eq_decide];omega
  simp[b];refine c1 i ?_;simp;refine c2 c ?_;simp[lS];omega
 ·have f:=h6 (OL a.v.natAbs) (h5 (show 0<2 by decide) (show pI a.v.natAbs<=3*600 by omega));have k:=ME f (by decide);have e:lS a.v.natAbs=false:=by rw[lS,decide_eq_false_iff_not];omega
  have b:¬(1800:Int)<(pI a.v.natAbs:Nat):=o_
  simp[b,e]
def yZ(q:Rat):Bool:=lS q.num.natAbs||lS q.den
theorem A7(a:NF)(h:bE kB a.q):az prog 175 [eF a] (.bool (yZ a.q)):=by
 have b:=RN a.num h.1;have c:=RN a.den (by rw[lA];exact h.2);rw[mn]at b;rw[lA]at c;refine aJ nf (i_ func175) mix (by simp[f175]) ?_;rw[yZ];cases hc:lS a.q.num.natAbs
 ·rw[hc]at b;simp[f175,aa];refine c1 b ?_;simp[aa];refine c1 c ?_;simp
 ·rw[hc]at b;simp[f175,aa];refine c1 b ?_;simp
def vF:List (Nat×Func)->dz->Option Func
 |[],_=>none
 |(i,g)::r,f=>bif i2 i f then some g else vF r f
def CH(P:Program):List (Nat×Func)->Prop
 |[]=>True
 |p::r=>au P p.1 p.2/\CH P r
theorem FD{P:Program}:∀{l:List (Nat×Func)},CH P l->∀{f:Nat}{fn:Func},vF l f=some fn->au P f fn
 |[],_,f,fn,h=>by simp[vF]at h
 |(i,g)::r,a,f,fn,h=>by
  simp only[vF,dl]at h
  split at h
  ·rename_i hf;simp only[mo]at h;subst h;rw[<-ih hf];exact a.1
  ·exact FD a.2 h
noncomputable def Hd:List (Nat×Func):=[(2,f2),(3,f3),(4,f4),(5,f5),(6,f6),(7,f7),(8,f8),(9,f9),(10,f10),(11,f11),(12,f12),(13,f13),(14,f14),(15,f15),(16,f16),(17,f17),(18,f18),(19,f19),(20,f20),(21,f21),(22,f22),(23,f23),(24,f24),(25,f25),(26,f26),(27,f27),(28,f28),(29,f29),(30,f30),(31,f31),(32,f32),(33,f33),(34,f34),(35,f35),(36,f36),(37,f37),(38,f38),(39,f39),(40,f40),(41,f41),(42,f42),(43,f43),(44,f44),(45,f45),(46,f46),(47,f47),(48,f48),(49,f49),(50,f50),(51,f51),(52,f52),(53,f53),(54,f54),(55,f55),(56,f56),(57,f57),(58,f58),(59,f59),(60,f60),(61,f61),(62,f62),(63,f63),(64,f64),(65,f65),(66,f66),(67,f67),(68,f68),(69,f69),(70,f70),(71,f71),(72,f72),(73,f73),(74,f74),(75,f75),(76,f76),(77,f77),(78,f78),(79,f79),(80,f80),(81,f81),(82,f82),(83,f83),(84,f84),(85,f85),(86,f86),(87,f87),(88,f88),(89,f89),(90,f90),(91,f91),(92,f92),(93,f93),(94,f94),(95,f95),(96,f96),(97,f97),(98,f98),(99,f99),(100,f100),(101,f101),(102,f102),(103,f103),(104,f104),(105,f105),(106,f106),(107,f107),(108,f108),(109,f109),(110,f110),(111,f111),(112,f112),(113,f113),(114,f114),(115,f115),(116,f116),(117,f117),(118,f118),(119,f119),(120,f120),(121,f121),(122,f122),(123,f123),(124,f124),(125,f125),(126,f126),(127,f127),(128,f128),(129,f129),(130,f130),(131,f131),(132,f132),(133,f133),(134,f134),(135,f135),(136,f136),(137,f137),(138,f138),(139,f139),(140,f140),(141,f141),(142,f142),(143,f143),(144,f144),(145,f145),(146,f146),(147,f147),(148,f148),(149,f149),(150,f150),(151,f151),(152,f152),(153,f153),(154,f154),(155,f155),(156,f156),(157,f157),(158,f158),(159,f159),(160,f160),(161,f161),(162,f162),(163,f163),(164,f164),(165,f165),(166,f166),(167,f167),(168,f168),(169,f169),(170,f170),(171,f171),(172,f172),(173,f173),(174,f174),(175,f175),(176,f176),(177,f177),(178,f178),(179,f179),(180,f180),(181,f181),(182,f182),(183,f183),(184,f184),(185,f185),(186,f186),(187,f187),(188,f188),(189,f189),(190,f190),(191,f191),(192,f192),(193,f193),(194,f194),(195,f195),(196,f196),(197,f197),(198,f198),(199,f199),(200,f200),(201,f201),(202,f202),(203,f203),(204,f204),(205,f205),(206,f206),(207,f207),(208,f208),(209,f209),(210,f210),(211,f211),(212,f212),(213,f213),(214,f214),(215,f215),(216,f216),(217,f217),(218,f218),(219,f219),(221,f221),(222,f222),(223,f223),(224,f224),(225,f225),(226,f226),(227,f227),(228,f228),(229,f229),(230,f230),(231,f231),(232,f232),(233,f233),(234,f234),(235,f235),(236,f236),(237,f237),(238,f238),(239,f239),(240,f240),(241,f241),(242,f242),(243,f243),(244,f244),(245,f245),(246,f246),(247,f247),(248,f248),(249,f249),(250,f250),(251,f251),(252,f252),(253,f253),(254,f254),(255,f255),(256,f256),(257,f257),(258,f258),(259,f259),(260,f260),(261,f261),(262,f262),(263,f263),(264,f264),(265,f265),(266,f266),(267,f267),(268,f268),(269,f269),(270,f270),(271,f271),(272,f272),(273,f273),(274,f274),(275,f275),(276,f276),(277,f277),(278,f278),(279,f279),(280,f280),(281,f281),(282,f282),(283,f283),(284,f284),(285,f285),(286,f286),(287,f287),(288,f288),(290,f290),(292,f292),(293,f293),(294,f294),(295,f295),(296,f296),(297,f297),(298,f298),(299,f299),(300,f300),(301,f301),(302,f302),(303,f303),(304,f304),(305,f305),(306,f306),(307,f307),(308,f308),(309,f309),(310,f310),(311,f311),(312,f312),(313,f313),(314,f314),(315,f315),(316,f316),(317,f317),(318,f318),(319,f319),(320,f320),(321,f321),(322,f322),(323,f323),(324,f324),(325,f325),(327,f327),(329,f329),(330,f330),(331,f331),(332,f332),(333,f333),(334,f334),(336,f336),(337,f337),(338,f338),(339,f339),(340,f340),(341,f341),(342,f342),(343,f343),(344,f344),(345,f345),(346,f346),(347,f347),(348,f348),(349,f349),(350,f350),(351,f351),(352,f352),(353,f353),(355,f355),(356,f356),(357,f357),(358,f358),(359,f359),(360,f360),(361,f361),(362,f362),(363,f363),(364,f364),(365,f365),(366,f366),(367,f367),(368,f368),(369,f369),(370,f370),(371,f371),(372,f372),(373,f373),(374,f374),(375,f375),(376,f376),(377,f377),(379,f379),(380,f380),(381,f381),(382,f382),(383,f383),(384,f384),(385,f385),(386,f386),(387,f387),(388,f388),(389,f389),(390,f390),(420,f420)]
theorem Kz:CH prog Hd:=⟨i_ func2,i_ func3,i_ func4,i_ func5,i_ func6,i_ func7,i_ func8,i_ func9,i_ func10,i_ func11,i_ func12,i_ func13,i_ func14,i_ func15,i_ func16,i_ func17,i_ func18,i_ func19,i_ func20,i_ func21,i_ func22,i_ func23,i_ func24,i_ func25,i_ func26,i_ func27,i_ func28,i_ func29,i_ func30,i_ func31,i_ func32,i_ func33,i_ func34,i_ func35,i_ func36,i_ func37,i_ func38,i_ func39,i_ func40,i_ func41,i_ func42,i_ func43,i_ func44,i_ func45,i_ func46,i_ func47,i_ func48,i_ func49,i_ func50,i_ func51,i_ func52,i_ func53,i_ func54,i_ func55,i_ func56,i_ func57,i_ func58,i_ func59,i_ func60,i_ func61,i_ func62,i_ func63,i_ func64,i_ func65,i_ func66,i_ func67,i_ func68,i_ func69,i_ func70,i_ func71,i_ func72,i_ func73,i_ func74,i_ func75,i_ func76,i_ func77,i_ func78,i_ func79,i_ func80,i_ func81,i_ func82,i_ func83,i_ func84,i_ func85,i_ func86,i_ func87,i_ func88,i_ func89,i_ func90,i_ func91,i_ func92,i_ func93,i_ func94,i_ func95,i_ func96,i_ func97,i_ func98,i_ func99,i_ func100,i_ func101,i_ func102,i_ func103,i_ func104,i_ func105,i_ func106,i_ func107,i_ func108,i_ func109,i_ func110,i_ func111,i_ func112,i_ func113,i_ func114,i_ func115,i_ func116,i_ func117,i_ func118,i_ func119,i_ func120,i_ func121,i_ func122,i_ func123,i_ func124,i_ func125,i_ func126,i_ func127,i_ func128,i_ func129,i_ func130,i_ func131,i_ func132,i_ func133,i_ func134,i_ func135,i_ func136,i_ func137,i_ func138,i_ func139,i_ func140,i_ func141,i_ func142,i_ func143,i_ func144,i_ func145,i_ func146,i_ func147,i_ func148,i_ func149,i_ func150,i_ func151,i_ func152,i_ func153,i_ func154,i_ func155,i_ func156,i_ func157,i_ func158,i_ func159,i_ func160,i_ func161,i_ func162,i_ func163,i_ func164,i_ func165,i_ func166,i_ func167,i_ func168,i_ func169,i_ func170,i_ func171,i_ func172,i_ func173,i_ func174,i_ func175,i_ func176,i_ func177,i_ func178,i_ func179,i_ func180,i_ func181,i_ func182,i_ func183,i_ func184,i_ func185,i_ func186,i_ func187,i_ func188,i_ func189,i_ func190,i_ func191,i_ func192,i_ func193,i_ func194,i_ func195,i_ func196,i_ func197,i_ func198,i_ func199,i_ func200,i_ func201,i_ func202,i_ func203,i_ func204,i_ func205,i_ func206,i_ func207,i_ func208,i_ func209,i_ func210,i_ func211,i_ func212,i_ func213,i_ func214,i_ func215,i_ func216,i_ func217,i_ func218,i_ func219,i_ func221,i_ func222,i_ func223,i_ func224,i_ func225,i_ func226,i_ func227,i_ func228,i_ func229,i_ func230,i_ func231,i_ func232,i_ func233,i_ func234,i_ func235,i_ func236,i_ func237,i_ func238,i_ func239,i_ func240,i_ func241,i_ func242,i_ func243,i_ func244,i_ func245,i_ func246,i_ func247,i_ func248,i_ func249,i_ func250,i_ func251,i_ func252,i_ func253,i_ func254,i_ func255,i_ func256,i_ func257,i_ func258,i_ func259,i_ func260,i_ func261,i_ func262,i_ func263,i_ func264,i_ func265,i_ func266,i_ func267,i_ func268,i_ func269,i_ func270,i_ func271,i_ func272,i_ func273,i_ func274,i_ func275,i_ func276,i_ func277,i_ func278,i_ func279,i_ func280,i_ func281,i_ func282,i_ func283,i_ func284,i_ func285,i_ func286,i_ func287,i_ func288,i_ func290,i_ func292,i_ func293,i_ func294,i_ func295,i_ func296,i_ func297,i_ func298,i_ func299,i_ func300,i_ func301,i_ func302,i_ func303,i_ func304,i_ func305,i_ func306,i_ func307,i_ func308,i_ func309,i_ func310,i_ func311,i_ func312,i_ func313,i_ func314,i_ func315,i_ func316,i_ func317,i_ func318,i_ func319,i_ func320,i_ func321,i_ func322,i_ func323,i_ func324,i_ func325,i_ func327,i_ func329,i_ func330,i_ func331,i_ func332,i_ func333,i_ func334,i_ func336,i_ func337,i_ func338,i_ func339,i_ func340,i_ func341,i_ func342,i_ func343,i_ func344,i_ func345,i_ func346,i_ func347,i_ func348,i_ func349,i_ func350,i_ func351,i_ func352,i_ func353,i_ func355,i_ func356,i_ func357,i_ func358,i_ func359,i_ func360,i_ func361,i_ func362,i_ func363,i_ func364,i_ func365,i_ func366,i_ func367,i_ func368,i_ func369,i_ func370,i_ func371,i_ func372,i_ func373,i_ func374,i_ func375,i_ func376,i_ func377,i_ func379,i_ func380,i_ func381,i_ func382,i_ func383,i_ func384,i_ func385,i_ func386,i_ func387,i_ func388,i_ func389,i_ func390,i_ func420,trivial⟩
noncomputable def y8(facts:dz->List PV->Option PV)(kZ:dz->dz->Nat):ny:=⟨vF Hd,facts,fun _ _ _=>none,kZ,fun _ _ _=>none⟩
theorem aPI{facts:dz->List PV->Option PV}{kZ:dz->dz->Nat}(h:∀f vs v,facts f vs=some v->az prog f vs v):nU prog (y8 facts kZ):=by
 refine⟨mix,fun f fn hf=>FD Kz hf,fun f vs v hk=>h f vs v hk,fun f args H v H' hk=>?_,fun f args H al v hk=>?_⟩
 ·simp only[y8]at hk;cases hk
 ·simp only[y8]at hk;cases hk
noncomputable def UG(facts:dz->List PV->Option PV)(kZ:dz->dz->Nat)(f:dz)(vs:List PV):Option PV:=pR prog nf (y8 facts kZ) (kI prog nf (y8 facts kZ) 20) f vs
theorem P2{facts:dz->List PV->Option PV}{kZ:dz->dz->Nat}(h:∀f vs v,facts f vs=some v->az prog f vs v){f:dz}{vs:List PV}{v:PV}(a:UG facts kZ f vs=some v):az prog f vs v:=reckon 20 (aPI h) a
def noF:dz->List PV->Option PV:=fun _ _=>none
def rL:PV:=.st 381 ((gA 256).map fun i=>.bool (cH i))
theorem O0(c:Nat)(hc:c<256):az prog 375 [.cG rL,.int .u8 c] (.bool (cH c)):=by
 refine aJ nf (i_ func375) mix (by simp[f375]) ?_;have a:(gA 256)[c]?=some c:=hv hc;simp[f375,rL,a,hc]
theorem Yz(s:List Nat)(h:s.length<=1048576)(g:∀c∈s,c<256):az prog 349 [.str s,.cG rL] (.str (ml s)):=by
 refine aJ nf (i_ func349) mix (by simp[f349]) ?_;simp[f349];refine lp (α:=List Nat) (fun r=>⟨[(1,.p (.cG rL)),(0,.p (.str r))],[]⟩) (fun r=>ml r=ml s/\r.length<=s.length/\∀c∈r,c<256) (fun r=>r.length) s (by exact⟨rfl,i0 _,g⟩) ?_;rintro r ⟨a,f,b⟩;cases r with
 |nil=>
  have e:ml s=[]:=by rw[<-a];rfl
  simp[e]
 |cons x r=>
  have hx:=b x s_;have i:ml (x::r)=if cH x=true then ml r else x::r:=by
   rw[ml,hP];split<;>rfl
  rw[i]at a;have j:(0:Int)<(r.length:Int)+1:=o_
  simp[j];refine c2 (O0 x hx) ?_;cases d:cH x
  ·rw[d]at a;simp[<-a]
  ·rw[d]at a;simp;exact rd r ⟨by simpa using a,by simp at f;omega,fun c hc=>b c (by simp[hc])⟩ (h1:=s_)
theorem Yc(s:List Nat)(h:s.length<=1048576)(i:∀c∈s,c<256):az prog 350 [.str s,.cG rL] (.str (jC s)):=by
 refine aJ nf (i_ func350) mix (by simp[f350]) ?_;simp[f350];refine lp (α:=List Nat) (fun r=>⟨[(1,.p (.cG rL)),(0,.p (.str r))],[]⟩) (fun r=>jC r=jC s/\r.length<=s.length/\∀c∈r,c<256) (fun r=>r.length) s (by exact⟨rfl,i0 _,i⟩) ?_;rintro r ⟨a,b,d⟩;rcases List.eq_nil_or_concat r with rfl|⟨t,x,rfl⟩
 ·have e:jC s=[]:=by rw[<-a];rfl
  simp[e]
 ·simp only[List.concat_eq_append]at a b d⊢;have hx:=d x s_;have j:jC (t++[x])=if cH x=true then jC t else t++[x]:=by
   rw[jC,hL,List.reverse_cons,hz,hX,List.singleton_append,hP]
   split
   ·rfl
   ·simp
  rw[j]at a;have k:(0:Int)<(t.length:Int)+1:=o_
  have g:eb.wrap (t.length:Int)=t.length:=aK _ o_ (by simp at b;omega);simp[k,g];refine c2 (O0 x hx) ?_;cases f:cH x
  ·rw[f]at a;simp[<-a]
  ·rw[f]at a;simp[g];exact rd t ⟨by simpa using a,by simp at b;omega,fun c hc=>d c (by simp[hc])⟩ (h1:=s_)
def yQ:List Nat:=[48,49,50,51,52,53,54,55,56,57]
theorem aum:az prog 348 [.str yQ] (.aD [rL,.bool true]):=P2 (facts:=noF) (kZ:=fun _ _=>0) (fun _ _ _ h=>by cases h) k_
theorem aQX:cO prog 382=some (.st 381 (gy 256 (.bool false))):=k_
theorem awv(s:List Nat)(h:s.length<=1048576)(d:∀c∈s,c<256):az prog 302 [.str s,.str yQ] (.str (ml (jC s))):=by
 refine aJ nf (i_ func302) mix (by simp[f302]) ?_
 by_cases b:s=[]
 ·subst b;simp[f302,yQ,ml,jC]
 simp[f302,yQ,b];refine c1 aum ?_;have g:(jC s).length<=s.length:=by
  rw[jC,List.length_reverse];have:=(hJ cH (l:=s.reverse)).length_le;simpa using this
 have f:∀c∈jC s,c<256:=by
  intro c hc;rw[jC,List.mem_reverse]at hc;exact d c (by simpa using(hJ cH (l:=s.reverse)).subset hc)
 simp[aQX];have a:aP rL=.agg 381:=rfl;refine⟨⟨⟨a.symm,by rw[a];intro e;cases e⟩,a.symm⟩,?_⟩;refine cp (Yc s h d) (by simp;exact⟨rfl,rfl⟩) ?_;simp;refine cp (Yz (jC s) o_ f) (by simp;exact⟨rfl,rfl⟩) ?_;simp
def bQ:List Int->Int
 |[]=>0
 |e::r=>if e=0 then bQ r else e
def bh(b:Bool)(e:Int):Int:=if b=true then e else 0
theorem awx(a:List Int)(h:a.length<=1048576):az prog 258 [.seq (a.map (.int .i64))] (.int .i64 (bQ a)):=by
 refine aJ nf (i_ func258) mix (by simp[f258]) ?_;simp[f258];refine lp (α:=Nat) (fun i=>⟨[(7,.p (.int .i64 i)),(6,.p (.int .i64 a.length)),(5,.p (.seq (a.map (.int .i64))))],[]⟩) (fun i=>i<=a.length/\bQ (a.drop i)=bQ a) (fun i=>a.length-i) 0 s_ ?_;rintro i ⟨d,b⟩;simp
 by_cases hi:i<a.length
 ·rw[g8 hi]at b;have c:=bS (i:=i) o_;simp[hi]
  by_cases he:a[i]=0
  ·simp[bQ,he]at b;simp[he,c];exact rd (i+1) ⟨hi,b⟩
  ·simp[bQ,he]at b;simp[he,<-b]
 ·have:i=a.length:=by omega
  subst this;simp[bQ]at b;simp[<-b]
theorem nE(a:List Int)(h:a.length<=1048576):az prog 56 [.seq (a.map (.int .i64))] (.int .i64 (bQ a)):=by
 refine aJ nf (i_ func56) mix (by simp[f56]) ?_;simp[f56];refine lp (α:=Nat) (fun i=>⟨[(7,.p (.int .i64 i)),(6,.p (.int .i64 a.length)),(5,.p (.seq (a.map (.int .i64))))],[]⟩) (fun i=>i<=a.length/\bQ (a.drop i)=bQ a) (fun i=>a.length-i) 0 s_ ?_;rintro i ⟨d,b⟩;simp
 by_cases hi:i<a.length
 ·rw[g8 hi]at b;have c:=bS (i:=i) o_;simp[hi]
  by_cases he:a[i]=0
  ·simp[bQ,he]at b;simp[he,c];exact rd (i+1) ⟨hi,b⟩
  ·simp[bQ,he]at b;simp[he,<-b]
 ·have:i=a.length:=by omega
  subst this;simp[bQ]at b;simp[<-b]
theorem xX(b:Bool)(e:Int):az prog 259 [.bool b,.int .i64 e] (.int .i64 (bh b e)):=by
 refine aJ nf (i_ func259) mix (by simp[f259]) ?_;cases b<;>simp[f259,bh]
theorem iS(b:Bool)(e:Int):az prog 57 [.bool b,.int .i64 e] (.int .i64 (bh b e)):=by
 refine aJ nf (i_ func57) mix (by simp[f57]) ?_;cases b<;>simp[f57,bh]
theorem QL(s:List Nat)(h:s.length<=1048576)(i:∀c∈s,c<256):az prog 257 [.str s] (.bool (dV s)):=by
 have f:=awv s h i;have g:=Zt s;rw[show yQ=[48,49,50,51,52,53,54,55,56,57]from rfl]at f;refine aJ nf (i_ func257) mix (by simp[f257]) ?_;generalize ml (jC s)=t at*;cases s with
 |nil=>simp[f257,dV]
 |cons c r=>
  have hc:=i c s_
  by_cases b:t=[]
  ·have d:=g.1 b;have e:dV (c::r)=(decide (¬c=48)||decide (r=[])):=by
    rw[dV,d]
    by_cases a:c=48
    ·subst a;simp
    ·simp[a]
   rw[e];clear e d g
   by_cases a:c=48
   ·cases r with
    |nil=>
     simp[f257];refine c2 f ?_;simp[b,a]
    |cons x r=>
     simp[f257];refine c2 f ?_;simp[b,a]
   ·have j:¬(c:Int)=48:=by omega
    simp[f257];refine c2 f ?_;simp[b,a,j]
  ·have d:¬(c::r).all cH=true:=mt g.2 b;have a:(c::r).all cH=false:=by simpa using d
   have e:dV (c::r)=false:=by rw[dV,a];simp
   rw[e];clear e d a g;simp[f257];refine c2 f ?_;simp[b]
theorem aLf{a b:Nat}:(decide (kY (fc a b) 1≠0))=decide (jp a b≠1):=by
 rw[decide_eq_decide,kY,fc,ed,ed]
 split
 ·simp;omega
 ·split
  ·simp;omega
  ·simp;omega
theorem G0{s:List Nat}(h:s.all cH=true)(hl:s.length<=700):okW (bd s:Nat):=by
 have a:=jZ _ s rfl h;have b:bd s<2^kR:=h6 a (Oo (by have:kR=2800:=rfl;omega));exact iV (k:=kR) (by rw[ed];exact b) (by have:kB=100000:=rfl;have:kR=2800:=rfl;omega)
theorem yK(s:List Nat)(h:s.length<=1048576)(K:∀c∈s,c<256):az prog 190 [.str s] (.int .i64 (bK s)):=by
 have X:=awB s;have A:=SK (dh s) 47 (h8 (qq s).1 h);rw[show(cz 47 (dh s)).1=bM s from rfl,show(cz 47 (dh s)).2.1=b6 s from rfl,show(cz 47 (dh s)).2.2=eK s from rfl]at A;refine aJ nf (i_ func190) mix (by simp[f190]) ?_;simp[f190,-bB];rw[bB];simp[-bB];rw[bB];simp[-bB];refine c2 X ?_;simp[-bB];rw[bB];simp[-bB];refine c2 A ?_;simp[-bB];have ab:=(qq s).1;have q:=qz 47 (dh s);have ad:(bM s).length<=1048576:=by have:=q.1;rw[bM];omega
 have ac:(b6 s).length<=1048576:=by have:=q.2.1;rw[b6];omega
 have W:∀c∈bM s,c<256:=fun c hc=>K c ((qq s).2 c (q.2.2.1 c hc));have V:∀c∈b6 s,c<256:=fun c hc=>K c ((qq s).2 c (q.2.2.2 c hc));clear q ab;have Z:=QL (bM s) ad W;have Y:=QL (b6 s) ac V;obtain⟨m,B⟩:∃m,m=(dV (bM s)&&!(cq s&&decide (bM s=[48]))):=⟨_,rfl⟩
 obtain⟨f2,k⟩:∃f2,f2=(m&&(!eK s||(dV (b6 s)&&decide (b6 s≠[48])&&decide (b6 s≠[49])))):=⟨_,rfl⟩
 have L:bK s=if f2=false then 1 else if 600<(bM s).length\/600<(b6 s).length then 4 else if eK s=true/\jp (bd (bM s)) (bd (b6 s))≠1 then 1 else 0:=by rw[k,B];rfl
 rw[L];clear L A;generalize eK s=fr at*;refine join (fun s'=>aS s'.env 8=.p (.bool m)/\aS s'.env 7=.p (.bool fr)/\aS s'.env 6=.p (.str (b6 s))/\aS s'.env 5=.p (.str (bM s))/\s'.heap=[]) ?_ ?_
 ·simp;refine c1 Z ?_;rw[B];cases dV (bM s)
  ·simp
  ·cases cq s
   ·simp
   ·by_cases r:bM s=[48]
    ·simp[r]
    ·simp[r]
 rintro⟨I,aa⟩ ⟨d,f,g,i,t⟩;dsimp only at d f g i t;subst t;refine join (fun s'=>aS s'.env 8=.p (.bool f2)/\aS s'.env 7=.p (.bool fr)/\aS s'.env 6=.p (.str (b6 s))/\aS s'.env 5=.p (.str (bM s))/\s'.heap=[]) ?_ ?_
 ·rw[k];cases fr
  ·simp[d,f,g,i]
  ·cases m
   ·simp[d,f,g,i]
   ·simp[d,f,g,i];refine c1 Y ?_;cases dV (b6 s)
    ·simp[d,f,g,i]
    ·by_cases r:b6 s=[48]
     ·simp[d,f,g,i,r]
     ·by_cases N:b6 s=[49]
      ·simp[d,f,g,i,N]
      ·simp[d,f,g,i,r,N]
 clear d f g i I;rintro⟨I,aa⟩ ⟨d,f,g,i,t⟩;dsimp only at d f g i t;subst t;have head:∀(n v:Bool),az prog 258 [.seq [.int .i64 (bh n 1),.int .i64 (bh v 4)]] (.int .i64 (if n=true then 1 else if v=true then 4 else 0)):=fun n v=>by
  have:=awx [bh n 1,bh v 4] s_;cases n<;>cases v<;>exact this
 have H:=xX (!f2) 1;have R:=xX true 4;have wf:=xX false 4;have J:=head (!f2) true;have U:=head (!f2) false;have O:(600<(bM s).length)↔(600:Int)<((bM s).length:Nat):=o_
 have P:(600<(b6 s).length)↔(600:Int)<((b6 s).length:Nat):=o_
 by_cases u:(600:Int)<((bM s).length:Nat)
 ·simp[d,f,g,i];refine c2 H ?_;simp[d,f,g,i,u];refine c2 R ?_;simp;refine cp J (by simp;exact⟨rfl,rfl⟩) ?_;cases f2
  ·simp
  ·simp[O.2 u]
 by_cases x:(600:Int)<((b6 s).length:Nat)
 ·simp[d,f,g,i];refine c2 H ?_;simp[d,f,g,i,u,x];refine c2 R ?_;simp;refine cp J (by simp;exact⟨rfl,rfl⟩) ?_;cases f2
  ·simp
  ·simp[P.2 x]
 have E:¬600<(bM s).length:=mt O.1 u;have F:¬600<(b6 s).length:=mt P.1 x;have Q:=xX false 1;have ag:=xX true 1;simp[d,f,g,i];refine c2 H ?_;simp[d,f,g,i,u,x];refine c2 wf ?_;simp;refine cp U (by simp;exact⟨rfl,rfl⟩) ?_;cases f2
 ·simp
 cases fr
 ·simp[d,f,g,i,E,F];refine c2 Q ?_;simp[bh];exact⟨o_,o_⟩
 have j:dV (bM s)=true/\dV (b6 s)=true:=by
  cases S:dV (bM s)
  ·rw[B,S]at k;simp at k
  cases T:dV (b6 s)
  ·rw[T]at k;simp at k
  exact⟨rfl,rfl⟩
 obtain⟨ae,G⟩:=EH j.1;obtain⟨af,n4⟩:=EH j.2;have y:=Bv (bM s) (by rw[G];exact jR j.1) (by rw[G];omega);have z:=Bv (b6 s) (by rw[n4];exact jR j.2) (by rw[n4];omega);rw[ae,G]at y;rw[af,n4]at z;simp only[dp,if_false]at y z;have C:=SG (.mk' (bd (bM s):Nat)) (.mk' (bd (b6 s):Nat)) (G0 (jR j.1) o_) (G0 (jR j.2) o_);rw[NI.jj,NI.jj]at C;have D:=tM 1;rw[PH]at D;have hc:=SF (.mk' (fc (bd (bM s):Nat) (bd (b6 s):Nat))) (.mk' 1) (sL (G0 (jR j.2) o_) (by rw[NI.jj,fc,ed,ed,ed];exact kC _ (AJ j.2 (fun e=>by rw[e]at k;simp at k)))) (by rw[okW];decide);rw[NI.jj,NI.jj]at hc;have M:=aLf (a:=bd (bM s)) (b:=bd (b6 s));generalize kY (fc (bd (bM s):Nat) (bd (b6 s):Nat)) 1=o at*
 by_cases l:jp (bd (bM s)) (bd (b6 s))=1
 ·have w:o=0:=by simpa[l]using M
  simp[d,f,g,i,E,F,l];refine c1 y ?_;simp[d,f,g,i];refine c1 z ?_;simp;refine c2 C ?_;simp;refine c1 D ?_;simp;refine c2 hc ?_;simp[w];refine c2 Q ?_;simp[bh];rw[if_neg o_,if_pos l]
 ·have w:¬o=0:=by simpa[l]using M
  simp[d,f,g,i,E,F,l];refine c1 y ?_;simp[d,f,g,i];refine c1 z ?_;simp;refine c2 C ?_;simp;refine c1 D ?_;simp;refine c2 hc ?_;simp[w];refine c2 ag ?_ (h1:=by simp[w]);simp[bh];rw[if_neg o_,if_neg l]
def gn(s:List Nat):Prop:=s.length<=1048576/\∀c∈s,c<256
theorem awA(l:List (List Nat)):az prog 327 [.seq (l.map .str)] (.func 370 [] [.cG (.seq (l.map .str))]):=by
 refine aJ nf (i_ func327) mix (by simp[f327]) ?_;simp[f327];exact bI.refl _
def GN(s:List Nat):List PV:=[.int .i64 (bK s)]
theorem ava(l:List (List Nat))(hl:l.length<=1000000)(hs:∀s∈l,gn s):Stream prog 370 [] [.cG (.seq (l.map .str))] (l.map GN):=by
 intro b k c H' hk d o f;refine dS nf (i_ func370) mix (by simp[f370]) ?_;rw[hC]at hk;have g:∀i(h:i<l.length),(l.map GN)[i]?=some (GN l[i]):=fun i h=>by rw[hn,gp h];rfl
 simp[f370];refine lp (α:=Nat) (fun i=>⟨[(7,.p (.int .i64 i)),(6,.p (.int .i64 l.length)),(5,.p (.seq (l.map .str))),(0,.map b)],c i⟩) (fun i=>i<=k) (fun i=>l.length-i) 0 s_ ?_ (hr:=by simp;exact(d 0 o_).2) (hr2:=(d 0 o_).1);intro i hi;have n:=bS (i:=i) o_
 by_cases a:i<l.length
 ·have hc:=yK l[i] (hs _ (g4 a)).1 (hs _ (g4 a)).2;have iM:(i<k/\gX prog b (c i) [.p (.int .i64 (bK l[i]))] (c (i+1)) (.p (.bool true)))\/gX prog b (c i) [.p (.int .i64 (bK l[i]))] H' (.p (.bool false)):=by
   by_cases e:i<k
   ·exact .inl ⟨e,o i _ e (g i a)⟩
   ·have:i=k:=by omega
    subst this;rcases f with⟨e1,_⟩|⟨y,e1,e2⟩
    ·rw[hC]at e1;omega
    ·rw[g i a]at e1;injection e1 with e1;subst e1;exact .inr e2
  simp[a];refine c1 hc ?_;simp;rcases iM with⟨e,hY⟩|hY
  ·refine⟨c (i+1),_,hY,?_⟩;simp[n];exact rd (i+1) e (h1:=o_) (hr:=by simp;exact(d (i+1) o_).2) (hr2:=(d (i+1) o_).1)
  ·refine⟨H',_,hY,?_⟩;simp
 ·have m:i=l.length:=by omega
  have j:k=l.length:=o_
  rcases f with⟨e1,e2⟩|⟨y,e1,e2⟩
  ·simp[a,e2,m,j]
  ·rw[j,List.getElem?_eq_none s_]at e1;cases e1
theorem Eu(p:Nat->Bool):∀n,∃k,k<=n/\(∀j,j<k->p j=true)/\(k=n\/(k<n/\p k=false))
 |0=>⟨0,i0 _,fun j h=>by omega,.inl rfl⟩
 |n+1=>by
  obtain⟨k,f,b,a⟩:=Eu p n;rcases a with a|⟨a,d⟩
  ·subst a;cases c:p k
   ·exact⟨k,o_,b,.inr ⟨o_,c⟩⟩
   ·refine⟨k+1,i0 _,fun j g=>?_,.inl rfl⟩
    by_cases e:j=k
    ·subst e;exact c
    ·exact b j o_
  ·exact⟨k,o_,b,.inr ⟨o_,d⟩⟩
def ng(l:List (List Nat))(i:Nat):Int:=match l[i]? with
 |some s=>bK s
 |none=>0
theorem MS:∀(l:List (List Nat))(k:Nat),(∀j,j<k->ng l j=0)->bQ (l.map bK)=bQ ((l.drop k).map bK)
 |[],k,_=>by simp
 |s::l,0,_=>rfl
 |s::l,k+1,h=>by
  have a:=h 0 o_;have b:bK s=0:=a;rw[gP,bQ,if_pos b,List.drop_succ_cons];exact MS l k fun j c=>h (j+1) o_
theorem Y4(l:List (List Nat))(hl:l.length<=1000000)(hs:∀s∈l,gn s):az prog 271 [.seq (l.map .str)] (.int .i64 (bQ (l.map bK))):=by
 refine aJ nf (i_ func271) mix (by simp[f271]) ?_;simp[f271];refine c1 (awA l) ?_;simp;have aN:=ava l hl hs;obtain⟨k,hk,f,c⟩:=Eu (fun i=>decide (ng l i=0)) l.length;have q:∀j,j<k->ng l j=0:=fun j o=>by simpa using f j o
 have d:=MS l k q;refine rf2 aN rfl s_ (fun L _=>[.box false (.p (.int .i64 0)),.loop L]) (fun L i=>[.box false (.p (.int .i64 (ng l (i-1)))),.loop (L.dn .ret)]) (fun i=>decide (ng l i=0)) .ret k (by simpa using hk) f (by simpa using c) (fun L=>rfl) ?_ ?_ (fun L=>rfl) ?_ ?_
 ·intro L b i hi;clear b;refine⟨rfl,s_,fun _ hl=>?_⟩;simp at hl⊢;exact hl
 ·intro L b i x hi hx;have r:x=[.int .i64 (ng l i)]:=by
   rw[hn]at hx;unfold ng;cases h:l[i]? with
   |none=>rw[h]at hx;cases hx
   |some s=>rw[h]at hx;injection hx with hx;rw[<-hx];rfl
  subst r;rw[j1];refine rP nf mix b rfl rfl k_ ?_;have g:=congrArg ey.env b;dsimp only at g;clear b;generalize ng l i=e
  by_cases he:e=0
  ·subst he;simp;exact .inl rfl
  ·simp[he];exact .inl rfl
 ·intro a L;have a:k=l.length:=by simpa using a
  rw[d,a];simp[bQ]
 ·intro a L;have a:k<l.length:=by simpa using a
  have n:¬ng l k=0:=by
   rcases c with t|⟨_,m⟩
   ·omega
   ·simpa using m
  have e1:ng l k=bK l[k]:=by unfold ng;rw[gp a]
  rw[d,g8 a,gP,bQ,<-e1,if_neg n];simp[kl]
structure gO where
 x:List Nat
 y:List Nat
def ft(p:gO):PV:=.st 81 [.str p.x,.str p.y]
def oC(p:gO):Prop:=gn p.x/\gn p.y
def df(p:gO):Int:=bQ [bK p.x,bK p.y]
@[simp] theorem aTZ(p:gO):aP (ft p)=.agg 81:=rfl
@[simp] theorem aSH(p:gO):cS (ft p)=[.str p.x,.str p.y]:=rfl
@[simp] theorem aRI:prog.cellsOf 81=2:=k_
theorem Xu(p:gO)(a:oC p):az prog 204 [.seq [ft p]] (.int .i64 (df p)):=by
 have hc:=Y4 [p.x,p.y] s_ (by intro s hs;simp at hs;rcases hs with rfl|rfl;exact a.1;exact a.2);refine aJ nf (i_ func204) mix (by simp[f204]) ?_;simp[f204];refine lp (α:=Nat) (fun i=>⟨[(8,.p (.int .i64 i)),(7,.p (.int .i64 1)),(6,.p (.seq [ft p])),(0,.p (.seq [ft p]))],[]⟩) (fun i=>i=0\/(i=1/\df p=0)) (fun i=>1-i) 0 (.inl rfl) ?_;rintro i h;rcases h with rfl|⟨rfl,h⟩
 ·simp[aa];refine cp hc (by simp;exact⟨rfl,rfl⟩) ?_;have b:eb.wrap 1=1:=rfl;rw[show bQ (hK bK [p.x,p.y])=df p from rfl]
  by_cases h:df p=0
  ·simp[h,b];exact rd 1 (.inr ⟨rfl,h⟩)
  ·simp[h]
 ·simp[h]
theorem DF(p:gO)(a:oC p):az prog 120 [ft p] (.int .i64 (df p)):=by
 refine aJ nf (i_ func120) mix (by simp[f120]) ?_;simp[f120,aa];refine cp (Xu p a) (by simp;exact⟨rfl,rfl⟩) ?_;simp
open Go.Proofs Go.Proofs.YtfdgnogcckoalaaGreatDoor
section
variable{H:Type}{W:ea}{ad:Nat->Prop}
theorem BQ{n:Nat}{d:DataW H}(h:∃cs,aY prog W ad (bN prog (n+1) 73 d) cs)(a:Rows.uptoBulk d<=1048576):∃s:List Nat,bN prog (n+1) 73 d=.str s/\gn s:=by
 obtain⟨cs,h⟩:=h;cases d with
 |lit l=>
  cases l with
  |string bytes=>
   refine⟨bytes.map (·.toNat),by simp only[bN,Hi],?_,?_⟩
   ·rw[Rows.uptoBulk]at a;rw[hC];omega
   ·intro c hc;obtain⟨u,_,rfl⟩:=hu.1 hc;exact u.toNat_lt
  |_=>simp only[bN,Hi,aY]at h
 |_=>simp only[bN,Hi,aY]at h
theorem aQ6:∃a b:Field,prog.underlying 82=some (.struct #[a,b])/\a.type=73/\b.type=73:=⟨_,_,underlying82,rfl,rfl⟩
theorem UW:prog.underlyingId 82=81:=k_
theorem asx{m n:Nat}(q:m=n+1){d:DataW H}(h:∃cs,aY prog W ad (bN prog (m+1) 82 d) cs)(e:Rows.uptoBulk d<=1048576):∃p:gO,bN prog (m+1) 82 d=ft p/\oC p:=by
 obtain⟨cs,h⟩:=h;obtain⟨f0,f1,i,t0,t1⟩:=aQ6;cases d with
 |agg l=>
  have g:∀x∈l,Rows.uptoBulk x<=1048576:=fun x hx=>by
   have:=rr.vE hx;rw[Rows.uptoBulk]at e;omega
  simp only[bN,i,aY]at h⊢;obtain⟨t,s,f,c,_⟩:=h;rw[UW,aQJ]at f;cases f
  match l,c with
  |[],c=>simp[bm]at c
  |[x],c=>simp[bm]at c
  |x::y::r,c=>
   simp only[List.zip_cons_cons,gP,bm,List.zip_nil_left,hw,t0,t1]at c⊢;obtain⟨c0,_,_,g1,_,c1,_,_,g2,_⟩:=c;subst q;obtain⟨a,j,o⟩:=BQ ⟨c0,g1⟩ (g x s_);obtain⟨b,k,e⟩:=BQ ⟨c1,g2⟩ (g y s_);exact⟨⟨a,b⟩,by rw[j,k,UW];rfl,o,e⟩
 |_=>simp only[bN,i,aY]at h
theorem MY{n:Nat}{d:DataW H}(h:∃cs,aY prog W ad (bN prog (n+2) 82 d) cs)(a:Rows.uptoBulk d<=1048576):∃p:gO,bN prog (n+2) 82 d=ft p/\oC p:=asx rfl h a
end
def bT:Nat:=1000000000
theorem bf:2<=bT:=by decide
def iP(l:List Nat):List PV:=l.map fun x:Nat=>.int .i64 x
theorem UK(w:List Nat):fh prog 1 (w.map (AV.p∘fun x:Nat=>PV.int .i64 x)):=by
 rw[xw];intro v a;obtain⟨x,_,rfl⟩:=hu.1 a;simp[aa,aP,bO]
def eT(n:Nat):PV:=.seq ((aw bT n).map fun x:Nat=>.int .i64 x)
theorem BZ:aw bT 0=[]:=by simp[aw,oh]
theorem oY{n:Nat}(b:0<n)(h:n<bT):aw bT n=[n]:=by
 have a:=kf bf (m:=1) (n:=n) (by rw[kv];exact h);rw[<-a,row,h3,gP,hw,ae,i9,j3,iz h];have:=xq [] n o_
 rwa [hX]at this
theorem xE{n:Nat}:aw bT n=[]↔n=0:=by
 constructor
 ·intro h;have:=cK bf n;rw[h,List.length_nil,i9]at this;omega
 ·rintro rfl;exact BZ
theorem u9(w:List Nat)(h:w.length<=1048576):az prog 337 [.seq (iP w)] (.seq (iP (eM w))):=by
 refine aJ nf (i_ func337) mix (by simp[f337]) ?_;simp only[iP];simp[f337];refine lp (α:=Nat) (fun i=>⟨[(0,.p (.seq ((w.take i).map fun x:Nat=>.int .i64 x)))],[]⟩) (fun i=>i<=w.length/\eM w=eM (w.take i)) (fun i=>i) w.length s_ ?_;rintro i ⟨k1,k2⟩;have hl:(w.take i).length=i:=by rw[g3];omega
 by_cases hi:0<i
 ·obtain⟨j,rfl⟩:∃j,i=j+1:=⟨i-1,o_⟩
  have f:eb.wrap (j:Int)=j:=aK _ o_ o_;have a:j<w.length:=o_
  have e:(0:Int)<(j:Int)+1:=o_
  have k3:=k2;rw[g7 a]at k2;have c:min (j+1) w.length=j+1:=o_
  have d:min ((j:Int)+1) (w.length:Int)=j+1:=o_
  have g:¬w=[]:=by rintro rfl;simp at a
  by_cases b:w[j]=0
  ·rw[b,DU]at k2;simp[e,f,a,b,c,d,g];refine⟨by rw[<-g9];exact UK _,?_⟩;refine rd j ⟨o_,k2⟩ (he:=?_);rw[<-g9,<-g9,hE,lm o_];simp
  ·rw[xq _ _ b,<-g7 a]at k2;simp[e,f,a,b,c,d,g];rw[k2,g9];exact bI.refl _
 ·obtain rfl:i=0:=by omega
  simp[eM]at k2;simp[k2]
def eG(z:Int):PV:=.st 290 [.bool (decide (z<0)),eT z.natAbs]
@[simp] theorem aTU(z:Int):aP (eG z)=.agg 290:=rfl
@[simp] theorem aSD(z:Int):cS (eG z)=[.bool (decide (z<0)),eT z.natAbs]:=rfl
@[simp] theorem aT4(n:Nat):aP (eT n)=.leaf:=rfl
theorem EK(neg:Bool)(w:List Nat)(n:Nat)(c:eM w=aw bT n)(h:w.length<=1048576):az prog 284 [.bool neg,.seq (iP w)] (eG (if neg=true then -(n:Int)else n)):=by
 have a:=u9 w h;rw[c]at a;refine aJ nf (i_ func284) mix (by simp[f284]) ?_;have b:(if neg=true then -(n:Int)else n).natAbs=n:=by cases neg<;>simp
 rw[eG,b,eT];have d:=xE (n:=n);have e:decide ((if neg=true then -(n:Int)else n)<0)=(neg&&decide (0<(aw bT n).length)):=by
  cases neg
  ·simp
  ·simp;rw[gx,Ne,d];omega
 rw[e];simp only[iP]at a⊢;generalize aw bT n=x at*;cases neg
 ·simp[f284];refine c1 a ?_;simp[aa]
 ·simp[f284];refine c1 a ?_;simp[aa]
  done
theorem Mk{a b:Nat}(h:(aw bT a).length<(aw bT b).length):a<b:=by
 have d:=cK bf a;rcases ii a b with c|c
 ·exact c
 ·have:=et bf (aw bT a).length b (h9 c d);omega
theorem Mt{a b i:Nat}(h:a/bT^(i+1)=b/bT^(i+1))(e:ae bT a i<ae bT b i):a<b:=by
 rw[ip,<-i1,<-i1]at h;have e1:=i4 (a/bT^i) bT;have e2:=i4 (b/bT^i) bT;rw[ae,ae]at e;rw[h]at e1;rcases ii a b with d|d
 ·exact d
 ·have:=Nat.div_le_div_right (c:=bT^i) d;omega
theorem aua{a b i:Nat}(h:a/bT^(i+1)=b/bT^(i+1))(c:ae bT a i=ae bT b i):a/bT^i=b/bT^i:=by
 rw[ip,<-i1,<-i1]at h;have e1:=i4 (a/bT^i) bT;have e2:=i4 (b/bT^i) bT;rw[ae,ae]at c;rw[h]at e1;omega
theorem Mz(a b:Nat)(D:(aw bT a).length<=1048576)(E:(aw bT b).length<=1048576):az prog 298 [eT a,eT b] (.int .i64 (gf a b)):=by
 refine aJ nf (i_ func298) mix (by simp[f298]) ?_
 by_cases hl:(aw bT a).length=(aw bT b).length
 case neg=>
  have o:¬((aw bT a).length:Int)=(aw bT b).length:=o_
  by_cases z:(aw bT a).length<(aw bT b).length
  ·have l:((aw bT a).length:Int)<(aw bT b).length:=by omega
   have:=Mk z;have hc:gf a b= -1:=if_pos this;simp[f298,eT,o,l,hc]
  ·have l:¬((aw bT a).length:Int)<(aw bT b).length:=by omega
   have:=Mk (a:=b) (b:=a) o_;have hc:gf a b=1:=by rw[gf,if_neg o_,if_pos this]
   simp[f298,eT,o,l,hc]
 have s:∀i(h:i<(aw bT a).length),(aw bT a)[i]?=some (ae bT a i):=fun i h=>by rw[gp h,eU bf h]
 have u:∀i(h:i<(aw bT b).length),(aw bT b)[i]?=some (ae bT b i):=fun i h=>by rw[gp h,eU bf h]
 have t:∀i(h:i<(aw bT a).length),(aw bT a)[i]=ae bT a i:=fun i h=>eU bf h;have v:∀i(h:i<(aw bT b).length),(aw bT b)[i]=ae bT b i:=fun i h=>eU bf h;have r:=cK bf a;have n:=cK bf b;rw[<-hl]at n;have w:a/bT^(aw bT a).length=b/bT^(aw bT a).length:=by rw[i7 r,i7 n]
 simp only[eT];generalize aw bT a=x at*;generalize aw bT b=y at*;have C:eb.wrap ((y.length:Int)-1)=y.length-1:=aK _ o_ o_;simp[f298,hl,C];refine lp (α:=Nat) (fun i=>⟨[(5,.p (.int .i64 ((i:Int)-1))),(1,.p (.seq (y.map fun x:Nat=>.int .i64 x))),(0,.p (.seq (x.map fun x:Nat=>.int .i64 x)))],[]⟩) (fun i=>i<=y.length/\a/bT^i=b/bT^i) (fun i=>i) y.length ⟨i0 _,by rw[<-hl];exact w⟩ ?_;rintro i ⟨k1,k2⟩
 by_cases hi:0<i
 ·obtain⟨j,rfl⟩:∃j,i=j+1:=⟨i-1,o_⟩
  have c:j<x.length:=o_
  have d:j<y.length:=o_
  have B:eb.wrap ((j:Int)-1)=j-1:=aK _ o_ o_;have e:=s j c;have g:=u j d;have f:=t j c;have k:=v j d
  by_cases hq:ae bT a j=ae bT b j
  ·simp[c,d,e,g,f,k,hq,B];exact rd j ⟨o_,aua k2 hq⟩
  ·have q:¬(ae bT a j:Int)=ae bT b j:=by omega
   by_cases m:ae bT a j<ae bT b j
   ·have:=Mt k2 m;have hc:gf a b= -1:=if_pos this;simp[c,d,e,g,f,k,q,m,hc]
   ·have:=Mt k2.symm (show ae bT b j<ae bT a j by omega);have A:ae bT b j<ae bT a j:=by omega
    have hc:gf a b=1:=by rw[gf,if_neg o_,if_pos this]
    simp[c,d,e,g,f,k,q,m,A,hc]
 ·obtain rfl:i=0:=by omega
  rw[i9,j3,j3]at k2;have hc:gf a b=0:=by rw[gf,if_neg o_,if_neg o_]
  simp[hc]
theorem avn{n i:Nat}(h:(aw bT n).length<=i):ae bT n i=0:=ka (h6 (cK bf n) (h5 (by decide) h))
theorem Fx(a i:Nat):az prog 345 [eT a,.int .i64 i] (.int .i64 (ae bT a i:Nat)):=by
 refine aJ nf (i_ func345) mix (by simp[f345]) ?_
 by_cases h:i<(aw bT a).length
 ·have b:(aw bT a)[i]=ae bT a i:=eU bf h;rw[eT,<-b];generalize aw bT a=x at*;simp[f345,h]
 ·rw[avn o_,eT];generalize aw bT a=x at*;simp[f345,h]
def eL(i n:Nat):List AV:=(gA i).map fun j=>.p (.int .i64 (ae bT n j:Nat))
theorem sA(i n:Nat):eL (i+1) n=eL i n++[.p (.int .i64 (ae bT n i:Nat))]:=by
 rw[eL,hW,h2];rfl
theorem jf(i n:Nat):(eL i n).length=i:=by simp[eL]
@[simp] theorem aTK{N:Nat×Nat->Prop}{n i:Nat}:aV N (eL i n)=True:=by
 rw[cB,eq_iff_iff,iff_true];intro v a;simp only[eL,hu]at a;obtain⟨x,_,rfl⟩:=a;trivial
theorem PB(i n:Nat):fj (eL i n)=some ((row bT i n).map fun x:Nat=>.int .i64 x):=by
 have:eL i n=(row bT i n).map (AV.p∘fun x:Nat=>PV.int .i64 x):=by
  rw[eL,row,hH];rfl
 rw[this];exact NU
theorem QU(i n:Nat):eL i n=(row bT i n).map (AV.p∘fun x:Nat=>PV.int .i64 x):=by
 rw[eL,row,hH];rfl
theorem awb{n i:Nat}(h:n<bT^i)(a:i=0\/bT^(i-1)<=n):row bT i n=aw bT n:=by
 have hl:(aw bT n).length=i:=by
  have b:=et bf i n h;rcases a with rfl|a
  ·omega
  ·have:=MT bf a;omega
 have:=aD7 bf n;rw[hl]at this;exact this.symm
theorem aAQ(a b:Nat)(I:(aw bT a).length<=1000000)(J:(aw bT b).length<=1000000):az prog 297 [eT a,eT b] (eT (a+b)):=by
 refine aJ nf (i_ func297) mix (by simp[f297]) ?_;have v:=cK bf a;have w:=cK bf b;have C:∀i,i<(aw bT a).length->bT^i<=a:=fun i h=>by
  rcases ii a (bT^i)with c|c
  ·have:=et bf i a c;omega
  ·exact c
 have D:∀i,i<(aw bT b).length->bT^i<=b:=fun i h=>by
  rcases ii b (bT^i)with c|c
  ·have:=et bf i b c;omega
  ·exact c
 have A:∀i,0<dD bT a b i->bT^i<=a+b:=fun i h=>by
  rw[dD]at h;have c:bT^i<=a% bT^i+b% bT^i:=by
   rcases ii (a% bT^i+b% bT^i) (bT^i)with d|d
   ·rw[i7 d]at h;omega
   ·exact d
  have:=mm a (bT^i);have:=mm b (bT^i);omega
 have f:=fun i=>Fx a i;have g:=fun i=>Fx b i;have B:∀i,(aw bT a).length<=i->(aw bT b).length<=i->dD bT a b i=0->a+b<bT^i:=fun i c d s=>by
  have l:=h6 v (h5 (show 0<bT by decide) c);have m:=h6 w (h5 (show 0<bT by decide) d);rw[dD,iz l,iz m]at s;rcases ii (a+b) (bT^i)with e|e
  ·exact e
  ·have:=j7 e (i3 (show 0<bT by decide));omega
 have E:∃M,M=max (aw bT a).length (aw bT b).length:=⟨_,rfl⟩
 obtain⟨M,H⟩:=E;simp only[eT]at f g⊢;have F:=fun i h d=>awb (n:=a+b) (i:=i) h d;generalize aw bT (a+b)=z at*;generalize aw bT a=x at*;generalize aw bT b=y at*;simp[f297];refine lp (α:=Nat) (fun i=>⟨[(7,.p (.int .i64 i)),(6,.p (.int .i64 (dD bT a b i:Nat))),(5,.sl 0 i 1 0 i),(1,.p (.seq (y.map fun x:Nat=>.int .i64 x))),(0,.p (.seq (x.map fun x:Nat=>.int .i64 x)))],[.arr .grow i 1 (eL i (a+b))]⟩)
  (fun i=>i<=M+1/\(i=0\/bT^(i-1)<=a+b)) (fun i=>M+1-i) 0 ⟨o_,.inl rfl⟩ ?_ (he:=by simp[Ad,eL]) (hh:=by simp[eL])
 rintro i ⟨k1,k2⟩;have o:=bS (i:=i) o_;have K:=mM bf a b i;obtain⟨l,m⟩:=sr bf a b i;have N:=cN bf a i;have O:=cN bf b i;have t:bT=1000000000:=rfl;have q:eb.wrap ((ae bT a i:Int)+ae bT b i)=ae bT a i+ae bT b i:=aK _ o_ o_;have r:eb.wrap ((ae bT a i:Int)+ae bT b i+dD bT a b i)=ae bT a i+ae bT b i+dD bT a b i:=aK _ o_ o_;have d1:((ae bT a i:Int)+ae bT b i+dD bT a b i).tmod 1000000000=(ae bT (a+b) i:Nat):=by
  rw[ei o_,<-l,t];omega
 have d2:((ae bT a i:Int)+ae bT b i+dD bT a b i).tdiv 1000000000=(dD bT a b (i+1):Nat):=by
  rw[ej o_,<-m,t];omega
 have d3:eb.wrap (dD bT a b (i+1):Nat)=(dD bT a b (i+1):Nat):=by have:=mM bf a b (i+1);exact aK _ o_ o_
 have j:g0 i (eL i (a+b))=eL i (a+b):=gt (by rw[jf];exact i0 _)
 by_cases hx:i<x.length
 ·simp[hx];refine c2 (f i) ?_;simp;refine c2 (g i) ?_;simp[q,r,d1,d2,d3,jf,j,<-sA];refine⟨by simp only[cJ];omega,?_⟩;refine rd (i+1) ⟨o_,.inr (by rw[j1];exact h8 (C i hx) o_)⟩ o_ (he:=by simp[o])
 by_cases k:i<y.length
 ·simp[hx,k];refine c2 (f i) ?_;simp;refine c2 (g i) ?_;simp[q,r,d1,d2,d3,jf,j,<-sA];refine⟨by simp only[cJ];omega,?_⟩;refine rd (i+1) ⟨o_,.inr (by rw[j1];exact h8 (D i k) o_)⟩ o_ (he:=by simp[o])
 by_cases hc:0<dD bT a b i
 ·have L:i=M:=by
   rcases ii M i with h|h
   ·have e0:=sr bf a b M;have c:ae bT a M=0:=ka (h6 v (h5 (by decide) o_));have d:ae bT b M=0:=ka (h6 w (h5 (by decide) o_));have s:=mM bf a b M;have e:i=M+1:=by omega
    subst e;rw[c,d]at e0;rw[<-e0.2,i7 o_]at hc;omega
   ·omega
  simp[hx,k,hc];refine c2 (f i) ?_;simp;refine c2 (g i) ?_;simp[q,r,d1,d2,d3,jf,j,<-sA];refine⟨by simp only[cJ];omega,?_⟩;refine rd (i+1) ⟨o_,.inr (by rw[j1];exact A i hc)⟩ o_ (he:=by simp[o])
 ·have u:dD bT a b i=0:=by omega
  have G:=F i (B i o_ o_ u) k2;rw[<-G];simp[hx,k,u];refine⟨by rw[jf];exact i0 _,?_⟩;rw[j,QU];simp
theorem QJ(a b:Nat)(A:b<=a)(F:(aw bT a).length<=1000000):az prog 299 [eT a,eT b] (eT (a-b)):=by
 refine aJ nf (i_ func299) mix (by simp[f299]) ?_;have D:=cK bf a;have j:=fun i=>Fx b i;have B:∀i(h:i<(aw bT a).length),(aw bT a)[i]?=some (ae bT a i):=fun i h=>by rw[gp h,eU bf h]
 have C:∀i(h:i<(aw bT a).length),(aw bT a)[i]=ae bT a i:=fun i h=>eU bf h;have E:eM (row bT (aw bT a).length (a-b))=aw bT (a-b):=kf bf (h9 (ls a b) D);have e:=u9 (row bT (aw bT a).length (a-b)) (by rw[P5];omega);rw[E]at e;simp only[eT]at j⊢;simp only[iP]at e;generalize aw bT (a-b)=z at*;generalize aw bT a=x at*;generalize aw bT b=y at*;simp[f299];refine lp (α:=Nat) (fun i=>⟨[(7,.p (.int .i64 i)),(6,.p (.int .i64 (fA bT a b i:Nat))),(5,.sl 0 i 1 0 i),(1,.p (.seq (y.map fun x:Nat=>.int .i64 x))),(0,.p (.seq (x.map fun x:Nat=>.int .i64 x)))],[.arr .grow i 1 (eL i (a-b))]⟩)
  (fun i=>i<=x.length) (fun i=>x.length-i) 0 s_ ?_ (he:=by simp[DT,eL]) (hh:=by simp[eL])
 intro i k1;have s:=bS (i:=i) o_;have r:g0 i (eL i (a-b))=eL i (a-b):=gt (by rw[jf];exact i0 _);have G:bT=1000000000:=rfl;have J:=cN bf a i;have K:=cN bf b i;have L:=cN bf (a-b) i;have M:fA bT a b i<=1:=by rw[fA];split<;>omega
 have u:eb.wrap ((ae bT a i:Int)-ae bT b i)=ae bT a i-ae bT b i:=aK _ o_ o_;have n:eb.wrap ((ae bT a i:Int)-ae bT b i-fA bT a b i)=ae bT a i-ae bT b i-fA bT a b i:=aK _ o_ o_
 by_cases hx:i<x.length
 ·have o:=B i hx;have q:=C i hx;rcases Oq bf A i with⟨v,g,w⟩|⟨v,g,w⟩
  ·have m:(ae bT a i:Int)-ae bT b i-fA bT a b i<0:=by omega
   have f:eb.wrap ((ae bT a i:Int)-ae bT b i-fA bT a b i+1000000000)=(ae bT (a-b) i:Nat):=by rw[aK _ o_ o_];omega
   simp[hx,o,q];refine e2 (j i) ?_;simp[u,n,m,f,jf,r,<-sA];refine⟨by simp only[cJ];omega,?_⟩;refine rd (i+1) hx (he:=by simp[s,g])
  ·have m:¬(ae bT a i:Int)-ae bT b i-fA bT a b i<0:=by omega
   have f:(ae bT a i:Int)-ae bT b i-fA bT a b i=(ae bT (a-b) i:Nat):=o_
   rw[f]at m n;simp[hx,o,q];refine e2 (j i) ?_;simp[u,n,f,jf,r,<-sA];refine⟨by simp only[cJ];omega,?_⟩;refine rd (i+1) hx (he:=by simp[s,g])
 ·have:i=x.length:=by omega
  subst this;have k:=QU x.length (a-b);have d:(row bT x.length (a-b)).length=x.length:=P5;generalize row bT x.length (a-b)=l at e k d;have H:g0 x.length l=l:=gt o_;rcases l with _|⟨c,t⟩
  ·simp at d;simp[k];refine cp e (by simp[<-d];exact⟨rfl,rfl⟩) ?_;simp
  ·have I:g0 x.length (PV.int .i64 c::hK (fun x:Nat=>PV.int .i64 x) t)=PV.int .i64 c::hK (fun x:Nat=>PV.int .i64 x) t:=gt (by simp at d⊢;omega);simp at d;simp[k];refine cp e (by simp[<-d];exact⟨rfl,rfl⟩) ?_;simp
def dF(n:Nat)(f:Nat->Nat):List AV:=(gA n).map fun j=>.p (.int .i64 (f j:Nat))
theorem xN(n:Nat)(f:Nat->Nat):(dF n f).length=n:=by simp[dF]
theorem Ow(n:Nat):gy n (AV.p (.int .i64 0))=dF n fun _=>0:=by
 apply ht (by simp[dF]);intro i a b;simp[dF]
theorem uU{n j:Nat}(f:Nat->Nat)(h:j<n):(dF n f)[j]?=some (.p (.int .i64 (f j:Nat))):=by
 rw[dF,hn,hv h];rfl
theorem E6{n i:Nat}(f g:Nat->Nat)(h:∀j,j<n->j≠i->g j=f j):(dF n f).set i (.p (.int .i64 (g i:Nat)))=dF n g:=by
 apply ht (by simp[dF]);intro j c b;rw[xN]at b;rw[hT];simp only[dF,hd,ha]
 by_cases a:i=j
 ·subst a;rw[if_pos rfl]
 ·rw[if_neg a,h j b (fun e=>a e.symm)]
@[simp] theorem aTJ{N:Nat×Nat->Prop}{n:Nat}{f:Nat->Nat}:aV N (dF n f)=True:=by
 rw[cB,eq_iff_iff,iff_true];intro v a;simp only[dF,hu]at a;obtain⟨x,_,rfl⟩:=a;trivial
theorem AX{n:Nat}{f g:Nat->Nat}(h:∀j,j<n->f j=g j):dF n f=dF n g:=by
 rw[dF,dF];apply hM;intro j a;rw[h j (h4.1 a)]
theorem Ey(n:Nat)(f:Nat->Nat):dF n f=((gA n).map f).map (AV.p∘fun x:Nat=>PV.int .i64 x):=by
 rw[dF,hH];rfl
theorem ZL{n:Nat}{f:Nat->Nat}(h:∀j,f j=0):gy n (AV.p (.int .i64 0))=dF n f:=by
 rw[Ow];exact AX fun j _=>(h j).symm
theorem F4(a b:Nat)(w:(aw bT a).length+(aw bT b).length<=1000000):az prog 300 [eT a,eT b] (eT (a*b)):=by
 refine aJ nf (i_ func300) mix (by simp[f300]) ?_;have L:∀i(h:i<(aw bT a).length),(aw bT a)[i]=ae bT a i:=fun i h=>eU bf h;have M:∀i(h:i<(aw bT b).length),(aw bT b)[i]=ae bT b i:=fun i h=>eU bf h;have t:=cK bf a;have e:=cK bf b;have S:eM ((gA ((aw bT a).length+(aw bT b).length)).map (ae bT (a*b)))=aw bT (a*b):=kf bf (by
  rw[j2];exact j8 t e)
 have c:=u9 ((gA ((aw bT a).length+(aw bT b).length)).map (ae bT (a*b))) (by simp;omega);rw[S]at c;have A:bT=1000000000:=rfl;simp only[eT];simp only[iP]at c;generalize aw bT (a*b)=z at*;generalize aw bT a=x at*;generalize aw bT b=y at*;obtain⟨n,d⟩:∃n,x.length=n:=⟨_,rfl⟩
 obtain⟨m,g⟩:∃m,y.length=m:=⟨_,rfl⟩
 rw[d]at t c w;rw[g]at e c w;have B:=Ey (n+m) (ae bT (a*b));have u:((gA (n+m)).map (ae bT (a*b))).length=n+m:=s_
 generalize (gA (n+m)).map (ae bT (a*b))=l at c B u;have R:((n:Int)+m).toNat=n+m:=o_
 have Q:0<=(n:Int)+m:=o_
 have W:eb.wrap ((n:Int)+m)=(n:Int)+m:=aK _ o_ o_;simp[f300,d,g,W,R,Q];refine⟨by simp only[cJ];omega,?_⟩;rw[ZL (f:=dE bT a b 0 0) (by intro j;simp[qy,mi,ae])];refine lp (α:=Nat) (fun i=>⟨[(6,.p (.int .i64 i)),(5,.sl 0 0 1 0 (n+m)),(1,.p (.seq (y.map fun x:Nat=>.int .i64 x))),(0,.p (.seq (x.map fun x:Nat=>.int .i64 x)))],[.arr .exact 0 1 (dF (n+m) (dE bT a b i 0))]⟩)
  (fun i=>i<=n) (fun i=>n-i) 0 s_ ?_ (he:=s_)
 intro i k1;have T:=bS (i:=i) o_
 by_cases hi:i<n
 ·have r:i<x.length:=by rw[d];exact hi
  have hx:=L i r;have Y:x[i]?=some (ae bT a i):=by rw[gp r,hx]
  simp[d,hi];refine lp (α:=Nat) (fun j=>⟨[(8,.p (.int .i64 j)),(7,.p (.int .i64 (mulC bT a b i j:Nat))),(6,.p (.int .i64 i)),(5,.sl 0 0 1 0 (n+m)),(1,.p (.seq (y.map fun x:Nat=>.int .i64 x))),(0,.p (.seq (x.map fun x:Nat=>.int .i64 x)))],[.arr .exact 0 1 (dF (n+m) (dE bT a b i j))]⟩)
   (fun j=>j<=m) (fun j=>m-j) 0 s_ ?_ (he:=by simp[Eb])
  intro j k2;have V:=bS (i:=j) o_;have H:((i:Int)+j).toNat=i+j:=o_
  have G:0<=(i:Int)+j:=o_
  have U:eb.wrap ((i:Int)+j)=(i:Int)+j:=aK _ o_ o_
  by_cases F:j<m
  ·have s:j<y.length:=by rw[g];exact F
   have I:=M j s;have Z:y[j]?=some (ae bT b j):=by rw[gp s,I]
   have E:i+j<n+m:=o_
   have q:=uU (dE bT a b i j) E;have o:=ES bf a b i j;have ah:=uY bf a b i j;have v:=uY bf a b i (j+1);have ai:dE bT a b i j (i+j)<bT:=by rw[dE];split<;>exact cN bf _ _
   have am:=cN bf a i;have an:=cN bf b j;have hs:=E6 (n:=n+m) (i:=i+j) (dE bT a b i j) (dE bT a b i (j+1)) (fun k _ hk=>Nk bf hk);rw[O6]at hs;rw[<-o.1]at hs;have ak:ae bT a i*ae bT b j<=999999999*999999999:=km o_ o_;rw[<-o.2]at v;have J:=o.2;clear o;have K:((ae bT a i:Int)*(ae bT b j:Int))=((ae bT a i*ae bT b j:Nat):Int):=by push_cast;rfl
   generalize ae bT a i*ae bT b j=P at*;generalize dE bT a b i j (i+j)=O at*;generalize aj:mulC bT a b i j=C at*;have ac:eb.wrap ((ae bT a i:Int)*(ae bT b j:Int))=P:=by rw[K];exact aK _ o_ o_
   have ad:eb.wrap ((O:Int)+P)=O+P:=aK _ o_ o_;have af:eb.wrap ((O:Int)+P+C)=O+P+C:=aK _ o_ o_;have d1:((O:Int)+P+C).tmod 1000000000=((P+O+C)% bT:Nat):=by
    rw[ei o_,A];omega
   generalize (P+O+C)% bT=D at*;have d2:((O:Int)+P+C).tdiv 1000000000=(mulC bT a b i (j+1):Nat):=by
    rw[ej o_,<-J,A];omega
   have d3:eb.wrap ((mulC bT a b i (j+1):Nat):Int)=(mulC bT a b i (j+1):Nat):=aK _ o_ o_;simp[d,g,F,U,H,G,E,q,hx,Y,I,Z,r,s,ac,ad,af,d1,d2,d3,hs,aa];exact rd (j+1) (show j+1<=m by omega) (he:=by simp[V])
  have:j=m:=o_
  subst this;have X:eb.wrap ((i:Int)+j)=(i:Int)+j:=aK _ o_ o_;have al:i+j<n+j:=o_
  have ab:dE bT a b i j (i+j)=0:=by
   rw[dE,if_neg o_];exact ka (xP bf a i e)
  have q:=uU (dE bT a b i j) al;rw[ab]at q;have hs:=E6 (n:=n+j) (i:=i+j) (dE bT a b i j) (dE bT a b (i+1) 0) (fun k _ hk=>by rw[qy,O7 bf e hk]);rw[qy,<-LY bf e]at hs;have v:=uY bf a b i j;have ag:eb.wrap ((mulC bT a b i j:Nat):Int)=(mulC bT a b i j:Nat):=aK _ o_ o_;simp[g,X,H,G,hi,al,q,hs,ag,aa];exact rd (i+1) (show i+1<=n by omega) (he:=by simp[T])
 have:i=n:=o_
 subst this;have N:dF (i+m) (dE bT a b i 0)=dF (i+m) (ae bT (a*b)):=AX fun k _=>by rw[qy,iz t]
 simp[d,N,B];refine cp c (by simp[u];exact⟨rfl,rfl⟩) ?_ (h1:=by simp[gt,u]);simp
theorem asQ{a b i:Nat}(c:0<b):(a/bT^(i+1)% b*bT+ae bT a i)/b=ae bT (a/b) i/\(a/bT^(i+1)% b*bT+ae bT a i)% b=a/bT^i% b:=by
 have e:=uw (B:=bT) a i;have g:=i4 (a/bT^(i+1)) b;have f:a/bT^i=(a/bT^(i+1)% b*bT+ae bT a i)+a/bT^(i+1)/b*bT*b:=by
  rw[e];generalize ae bT a i=d;generalize a/bT^(i+1)/b=Q at*;generalize a/bT^(i+1)% b=R at*;rw[<-g,js,h7 b,lb Q b bT];omega
 have j:(a/bT^(i+1)% b*bT+ae bT a i)/b<bT:=by
  rw[ix c];have k:=cN bf a i;have h:=ik bT (show a/bT^(i+1)% b+1<=b from i5 _ c);rw[js,j5]at h;rw[h7 bT];omega
 constructor
 ·conv=>rhs;rw[ae,i1,h7 b,<-i1,f,Nat.add_mul_div_right _ _ c,lt,iz j]
 ·rw[f,lt]
theorem B0(r x:Nat):(r:Int)*1000000000+x=((r*bT+x:Nat):Int):=by
 rw[gc,eo];rfl
def qT(Q i k:Nat):Nat:=if i<=k then ae bT Q k else 0
theorem FU{m Q i:Nat}:(dF m (qT Q (i+1))).set i (.p (.int .i64 (ae bT Q i:Nat)))=dF m (qT Q i):=by
 have:=E6 (n:=m) (i:=i) (qT Q (i+1)) (qT Q i) (fun k _ hk=>by
  rw[qT,qT]
  by_cases h:i<=k
  ·rw[if_pos h,if_pos o_]
  ·rw[if_neg h,if_neg o_])
 rw[<-this,qT,if_pos (i0 _)]
theorem P8{m Q:Nat}:dF m (qT Q 0)=dF m (ae bT Q):=AX fun k _=>by rw[qT,if_pos (j4 _)]
theorem P9{m Q:Nat}:gy m (AV.p (.int .i64 0))=dF m (qT Q m):=by
 rw[Ow];exact AX fun k hk=>by rw[qT,if_neg o_]
theorem QI{m N:Nat}(h:N<bT^m)(b:m<=1048576):∃l:List Nat,l.length=m/\dF m (ae bT N)=l.map (AV.p∘fun x:Nat=>PV.int .i64 x)/\az prog 337 [.seq (iP l)] (eT N):=by
 refine⟨(gA m).map (ae bT N),s_,Ey m _,?_⟩;have a:=u9 ((gA m).map (ae bT N)) (by simp;omega);rw[show eM ((gA m).map (ae bT N))=aw bT N from kf bf h]at a;exact a
theorem My(a d:Nat)(u:0<d)(T:d<bT)(hl:(aw bT a).length<=1000000):az prog 336 [eT a,.int .i64 d] (.aD [eT (a/d),.int .i64 (a% d:Nat)]):=by
 refine aJ nf (i_ func336) mix (by simp[f336]) ?_;have H:∀i(h:i<(aw bT a).length),(aw bT a)[i]=ae bT a i:=fun i h=>eU bf h;have w:=cK bf a;obtain⟨l,o,y,g⟩:=QI (m:=(aw bT a).length) (N:=a/d) (h9 (kd _ _) w) o_;have j:a/bT^(aw bT a).length% d=0:=by rw[i7 w,Nat.zero_mod]
 have A:a/bT^0% d=a% d:=by rw[i9,j3]
 have S:bT=1000000000:=rfl;simp only[eT]at g⊢;simp only[iP]at g;generalize aw bT (a/d)=W at*;generalize aw bT a=x at*;obtain⟨n,q⟩:∃n,x.length=n:=⟨_,rfl⟩
 rw[q]at o y j hl;generalize V:a% d=rem at*;obtain⟨f,hf⟩:∃f:Nat->Nat,∀i,a/bT^i% d=f i:=⟨_,fun _=>rfl⟩
 have z:=fun i=>asQ (a:=a) (b:=d) (i:=i) u;have v:∀i,f i<d:=fun i=>by rw[<-hf];exact i5 _ u
 simp only[hf]at j A z;have C:eb.wrap ((n:Int)-1)=n-1:=aK _ o_ o_;simp[f336,q,C];refine⟨by simp only[cJ];omega,?_⟩;rw[P9 (Q:=a/d)];refine lp (α:=Nat) (fun i=>⟨[(8,.p (.int .i64 ((i:Int)-1))),(7,.p (.int .i64 (f i:Nat))),(6,.sl 0 0 1 0 n),(1,.p (.int .i64 d)),(0,.p (.seq (x.map fun x:Nat=>.int .i64 x)))],[.arr .exact 0 1 (dF n (qT (a/d) i))]⟩)
  (fun i=>i<=n) (fun i=>i) n (i0 _) ?_ (he:=by simp[j])
 intro i k1
 by_cases hi:0<i
 ·obtain⟨k,rfl⟩:∃k,i=k+1:=⟨i-1,o_⟩
  have D:eb.wrap ((k:Int)-1)=k-1:=aK _ o_ o_;have r:k<x.length:=o_
  have hx:=H k r;have J:x[k]?=some (ae bT a k):=by rw[gp r,hx]
  obtain⟨K,L⟩:=z k;have aN:=FU (m:=n) (Q:=a/d) (i:=k);have gk:=uU (qT (a/d) (k+1)) (show k<n by omega);have I:k<n:=o_
  have P:=v (k+1);have U:=cN bf a k;have hq:=cN bf (a/d) k;have R:=v k;generalize f (k+1)=c at*;generalize E:f k=B at*;generalize ae bT a k=e at*;generalize ae bT (a/d) k=s at*;have M:eb.wrap ((c:Int)*1000000000)=c*1000000000:=aK _ o_ o_;have O:eb.wrap ((c:Int)*1000000000+e)=c*1000000000+e:=aK _ o_ o_;have t:(c:Int)*1000000000+e=((c*bT+e:Nat):Int):=B0 c e;have d1:((c:Int)*1000000000+e).tdiv d=s:=by
   rw[t,ej (ee _),<-ew,K]
  have d2:((c:Int)*1000000000+e).tmod d=B:=by
   rw[t,ei (ee _),<-eq,L]
  have d3:eb.wrap (s:Int)=s:=aK _ o_ o_;have F:¬(d:Int)=0:=o_
  have G:¬d=0:=o_
  simp[q,D,hx,J,I,r,M,O,d1,d2,d3,F,G,gk,aN,aa];exact rd k (show k<=n by omega) (he:=by simp[E])
 ·obtain rfl:i=0:=by omega
  simp[P8,y,A];refine cp g (by simp[o];exact⟨rfl,rfl⟩) ?_ (h1:=by simp[gt,o]);simp
def lQ(a b c:Nat):Nat->Nat->Nat
 |0,_=>0
 |t+1,r=>if bT<=t+1\/r*bT+c<(t+1)*b then(if bT<=r+a then t else lQ a b c t (r+a))else t+1
theorem aLj{a b c t r:Nat}(h:0<t):lQ a b c t r=if bT<=t\/r*bT+c<t*b then(if bT<=r+a then t-1 else lQ a b c (t-1) (r+a))else t:=by
 cases t with
 |zero=>exact absurd h (Nat.lt_irrefl 0)
 |succ t=>rw[lQ,j1]
theorem Ni{a b:Nat}(c:a<bT)(d:b<bT):eb.wrap ((a:Int)*b)=(a:Int)*b:=by
 have e:a*b<=999999999*999999999:=km (by simp only[bT]at c;omega) (by simp only[bT]at d;omega);rw[<-eo];generalize a*b=P at*;exact aK _ o_ o_
theorem UR{a b r w:Nat}:(r:Int)*1000000000+w<(a:Int)*b↔r*bT+w<a*b:=by
 rw[B0,<-eo];exact Int.ofNat_lt
theorem Ch{r v:Nat}:(1000000000:Int)<=(r:Int)+v↔bT<=r+v:=by simp only[bT];omega
theorem Tb{t:Nat}:(1000000000:Int)<=(t:Int)↔bT<=t:=by simp only[bT];omega
theorem aQC{t:Nat}(h:0<t)(a:t<=bT+1):eb.wrap ((t:Int)-1)=((t-1:Nat):Int):=by
 simp only[bT]at a;rw[aK _ o_ o_];omega
theorem R0{a v2 b c w2 Q:Nat}(w:bT<=2*a)(x:a<bT)(o:b<=a)(y:c<bT)(v:Q<bT)
 (g:∀q r,q*a+r=b*bT+c->q<bT->q*v2<=r*bT+w2->q<=Q+1)(m:∀q r,q*a+r=b*bT+c->r*bT+w2<q*v2->Q<q)
 (n:∀q r,bT<=r->q<bT->q*v2<=r*bT+w2):∀t r,t*a+r=b*bT+c->Q<=t->r<bT->t<=bT+1->Q<=lQ a v2 w2 t r/\lQ a v2 w2 t r<=Q+1/\lQ a v2 w2 t r<bT
 |0,r,d,f,p,s=>by
  rw[lQ];exact⟨f,o_,o_⟩
 |t+1,r,d,f,p,s=>by
  rw[lQ]
  by_cases hc:bT<=t+1\/r*bT+w2<(t+1)*v2
  ·rw[if_pos hc];have hq:Q<=t:=by
    rcases hc with h|h
    ·omega
    ·have:=m _ _ d h;omega
   have k:t*a+(r+a)=b*bT+c:=by rw[js,j5]at d;omega
   by_cases i:bT<=r+a
   ·rw[if_pos i];have j:t<bT:=by
     rcases ii t bT with h|h
     ·exact h
     ·have e:t=bT:=by omega
      subst e;have:=ik bT o;rw[h7 a]at this;omega
    exact⟨hq,g _ _ k j (n _ _ i j),j⟩
   ·rw[if_neg i];exact R0 w x o y v g m n t (r+a) k hq o_ o_
  ·rw[if_neg hc];have l:t+1<bT:=by
    rcases ii (t+1) bT with h|h
    ·exact h
    ·exact(hc (.inl h)).elim
   have u:(t+1)*v2<=r*bT+w2:=by
    rcases ii (r*bT+w2) ((t+1)*v2)with h|h
    ·exact(hc (.inr h)).elim
    ·exact h
   exact⟨f,g _ _ d l u,l⟩
theorem aK5(W V N j n:Nat)(k:AK)(ar:Nat)(f:Nat->Nat)(av:2<=n)(aF:(aw bT V).length=n)(aU:bT<=2*ae bT V (n-1))(aG:W<V*bT)(be:N<=1000000)(aY:j+n<N)
 (hf:∀i,i<=n->f (j+i)=ae bT W i):∃t,W/V<=t/\t<=W/V+1/\t<bT/\
 b8 prog 338 [.arr k ar 1 (dF N f)] [.sl 0 ar 1 0 N,.p (eT V),.p (.int .i64 j)] [.arr k ar 1 (dF N f)] (.p (.int .i64 t)):=by
 have aW:bT=1000000000:=rfl;have D:V<bT^n:=by rw[<-aF];exact cK bf V
 have Y:bT^(n-1)<=V:=by
  rcases ii V (bT^(n-1))with h|h
  ·have:=et bf (n-1) V h;omega
  ·exact h
 obtain⟨au,aX⟩:=Ff bf (show 1<=n by omega) D aG;have az:W/bT^n=ae bT W n:=by
  rw[ae,iz];have:=cN bf V (n-1);omega
 have w:W/bT^(n-1)=ae bT W n*bT+ae bT W (n-1):=by
  rw[uw,show n-1+1=n by omega,az]
 have F:=Qz bf av Y D (W:=W);have ad:=fun q r=>GA bf av Y D (W:=W) (q:=q) (r:=r);have ac:=fun q r=>RZ bf av Y D (W:=W) (q:=q) (r:=r);have aL:=fun q r=>Qy bf (V:=V) (W:=W) (n:=n) (q:=q) (r:=r);rw[w]at F ad ac;have q1:=cN bf W n;have a8:=cN bf W (n-1);have bp:=cN bf W (n-2);have q4:=cN bf V (n-1);have a9:=cN bf V (n-2);have aE:=hf n (i0 _);have f2:=hf (n-1) o_;have f3:=hf (n-2) o_;rw[az]at au;have E:(aw bT V)[n-1]?=some (ae bT V (n-1)):=by rw[gp o_,eU bf o_]
 have ab:(aw bT V)[n-2]?=some (ae bT V (n-2)):=by rw[gp o_,eU bf o_]
 have aI:∀h:n-1<(aw bT V).length,(aw bT V)[n-1]=ae bT V (n-1):=fun h=>eU bf h;have aJ:∀h:n-2<(aw bT V).length,(aw bT V)[n-2]=ae bT V (n-2):=fun h=>eU bf h;simp only[eT];generalize aw bT V=y at*;generalize bg:W/V=Q at*;generalize bk:ae bT W n=s at*;generalize bl:ae bT W (n-1)=M at*;generalize bm:ae bT W (n-2)=e at*;generalize bi:ae bT V (n-1)=a at*;generalize bj:ae bT V (n-2)=v2 at*;clear w az D Y aG hf;have S:=uU f (show j+n<N by omega);have U:=uU f (show j+(n-1)<N by omega);have l:=uU f (show j+(n-2)<N by omega);rw[aE]at S;rw[f2]at U;rw[f3]at l;have G:=xN N f;have aA:∀aC:Nat×Nat->Prop,aV aC (dF N f):=fun aC=>by simp
 generalize dF N f=u at*;obtain⟨c,m⟩:∃c,c=s*bT+M:=⟨_,rfl⟩
 obtain⟨b,ah⟩:∃b,b=c/a:=⟨_,rfl⟩
 obtain⟨d,af⟩:∃d,d=c% a:=⟨_,rfl⟩
 have aZ:0<a:=o_
 have aM:b*a+d=c:=by rw[ah,af,h7];exact i4 _ _
 have ax:d<bT:=i8 (by rw[af];exact i5 _ aZ) q4;have ay:b<=bT+1:=by
  have aS:=ik bT au;rw[h7 a]at aS;rcases ii (bT+1) b with h|h
  ·have aT:=ik a (show bT+2<=b from h);rw[js]at aT;omega
  ·exact h
 rw[<-m]at F ad ac;rw[<-ah]at F;have Z:=R0 (v2:=v2) (w2:=e) aU q4 au a8 aX (by rw[<-m];exact ad) (by rw[<-m];exact ac) aL b d (by rw[<-m];exact aM) F ax ay;refine⟨lQ a v2 e b d,Z.1,Z.2.1,Z.2.2,?_⟩;obtain⟨T,w⟩:∃T,T=lQ a v2 e b d:=⟨_,rfl⟩
 rw[<-w];clear Z F ad ac aL;have o:y.length=n:=aF;have bq:eb.wrap ((j:Int)+n)=(j+n:Nat):=by rw[aK _ o_ o_];omega
 have O:eb.wrap ((j:Int)+n)=(j:Int)+n:=aK _ o_ o_;have bc:eb.wrap ((j:Int)+n-1)=(j:Int)+n-1:=aK _ o_ o_;have B:eb.wrap ((n:Int)-1)=(n:Int)-1:=aK _ o_ o_;have an:eb.wrap ((n:Int)-2)=(n:Int)-2:=aK _ o_ o_;have ao:eb.wrap ((j:Int)+n-2)=(j:Int)+n-2:=aK _ o_ o_;have ba:((j:Int)+n).toNat=j+n:=o_
 have bb:((j:Int)+n-1).toNat=j+(n-1):=o_
 have A:((n:Int)-1).toNat=n-1:=o_
 have am:((n:Int)-2).toNat=n-2:=o_
 have te:((j:Int)+n-2).toNat=j+(n-2):=o_
 have wf:eb.wrap ((s:Int)*1000000000)=(s:Int)*1000000000:=aK _ o_ o_;have aH:(s:Int)*1000000000+M=(c:Nat):=by rw[m];exact B0 s M
 have bh:c<1000000000000000000:=by rw[m,aW];omega
 have aO:eb.wrap ((s:Int)*1000000000+M)=(c:Nat):=by rw[aH];exact aK _ o_ o_
 have aD:((c:Nat):Int).tdiv a=b:=by rw[ej (ee _),<-ew,<-ah]
 have dr:((c:Nat):Int).tmod a=d:=by rw[ei (ee _),<-eq,<-af]
 have a0:¬(a:Int)=0:=o_
 have a1:¬a=0:=o_
 have aP:eb.wrap (b:Int)=b:=aK _ o_ o_;have z:n-1<y.length:=o_
 have J:n-2<y.length:=o_
 have H:=aI z;have ai:=aJ J;have aN:j+n<u.length:=o_
 have a2:j+(n-1)<u.length:=o_
 have I:j+(n-2)<u.length:=o_
 have a3:j+(n-1)<N:=o_
 have aj:j+(n-2)<N:=o_
 have aQ:u[j+n]=.p (.int .i64 s):=by rw[gp aN]at S;exact mp S
 have aR:u[j+(n-1)]=.p (.int .i64 M):=by rw[gp a2]at U;exact mp U
 have X:u[j+(n-2)]=.p (.int .i64 e):=by rw[gp I]at l;exact mp l
 have L:¬u=[]:=by rintro rfl;simp at aN
 have a4:0<=(j:Int)+n:=o_
 have a5:0<=(j:Int)+n-1:=o_
 have bn:0<=(j:Int)+n-2:=o_
 have a7:0<=(n:Int)-1:=o_
 have bo:0<=(n:Int)-2:=o_
 have a6:1<=(j:Int)+n:=o_
 have ak:2<=(j:Int)+n:=o_
 have K:1<=(n:Int):=o_
 have al:2<=(n:Int):=o_
 refine dS nf (i_ func338) mix (by simp[f338]) ?_;simp[f338,o,O,bc,B,ba,bb,A,S,U,E,H,wf,aO,aD,dr,a0,a1,aP,G,aY,z,aQ,aR,L,a4,a5,a7,a6,K,a3,aa];refine lp (α:=Nat×Nat) (fun x=>⟨[(10,.p (.int .i64 x.2)),(9,.p (.int .i64 x.1)),(7,.p (.int .i64 n)),(2,.p (.int .i64 j)),(1,.p (.seq (y.map fun x:Nat=>.int .i64 x))),(0,.sl 0 ar 1 0 N)],[.arr k ar 1 u]⟩)
  (fun x=>T=lQ a v2 e x.1 x.2/\x.2<bT/\x.1<=bT+1) (fun x=>x.1) (b,d) ⟨w,ax,ay⟩ ?_ (hr2:=by simp[aA])
 clear m aM ah af aH aO aD dr w wf ax ay aP aI aJ aE f2 f3;rintro⟨t,r⟩ ⟨k1,k2,k3⟩;dsimp only at k1 k2 k3;have ap:eb.wrap ((r:Int)*1000000000)=(r:Int)*1000000000:=aK _ o_ o_;have aq:eb.wrap ((r:Int)*1000000000+e)=(r:Int)*1000000000+e:=aK _ o_ o_;have P:eb.wrap ((r:Int)+a)=(r:Int)+a:=aK _ o_ o_;rcases l3 t with C|C
 ·subst C;rw[lQ]at k1;have c1:¬(r:Int)*1000000000+e<0:=by rw[B0];exact Int.not_lt.2 (ee _)
  have bd:eb.wrap 0=0:=rfl;simp[o,bd,an,am,ap,aq,P,ao,te,ab,ai,J,l,X,I,aj,G,L,ak,al,O,c1,k1,aa]
 rw[aLj C]at k1;have ag:=aQC C k3;have k4:∀x,x<=bT+1->x-1<=bT+1:=fun x h=>h8 (ls _ _) h;have k5:t-1<t:=Nat.sub_lt C (by decide)
 by_cases c0:bT<=t
 ·have v:=Tb.2 c0;rw[if_pos (.inl c0)]at k1
  by_cases c2:bT<=r+a
  ·have g:=Ch.2 c2;rw[if_pos c2]at k1;simp[v,ag,o,B,A,E,H,z,K,P,g,k1]
  ·have g:=mt Ch.1 c2;rw[if_neg c2]at k1;simp[v,ag,o,B,A,E,H,z,K,P,g];exact rd (t-1,r+a) ⟨k1,li c2,k4 _ k3⟩ k5 (he:=s_) (hr2:=by simp[aA])
 have v:=mt Tb.1 c0;have aB:=Ni (li c0) a9
 by_cases c1:r*bT+e<t*v2
 ·have R:=UR.2 c1;rw[if_pos (.inr c1)]at k1
  by_cases c2:bT<=r+a
  ·have g:=Ch.2 c2;rw[if_pos c2]at k1;simp[v,ag,o,B,A,E,H,z,K,P,g,k1,an,am,ap,aq,aB,ao,te,ab,ai,J,l,X,I,aj,G,L,ak,al,O,R,aa]
   done
  ·have g:=mt Ch.1 c2;rw[if_neg c2]at k1;simp[v,ag,o,B,A,E,H,z,K,P,g,an,am,ap,aq,aB,ao,te,ab,ai,J,l,X,I,aj,G,L,ak,al,O,R,aa];exact rd (t-1,r+a) ⟨k1,li c2,k4 _ k3⟩ k5 (he:=s_) (hr2:=by simp[aA])
 ·have R:=mt UR.1 c1;rw[if_neg (fun h=>h.elim c0 c1)]at k1;simp[v,o,B,A,an,am,ap,aq,aB,ao,te,ab,ai,J,l,X,I,aj,G,L,ak,al,O,R,k1,aa]
theorem av6{b k f d:Nat}(n:b<bT^(k+1))(h:d=b/bT^k)(p:0<d)(hf:f=bT/(d+1)):0<f/\f<bT/\b*f<bT^(k+1)/\bT^k<=b*f/\bT<=2*ae bT (b*f) k:=by
 have e:0<bT^k:=i3 (by decide);have s:d<bT:=by
  rw[h,ix e,h7,<-ip];exact n
 have r:bT=1000000000:=rfl;have g:=kh bT (d+1);have j:=Nat.lt_div_mul_add (a:=bT) (show 0<d+1 by omega);rw[<-hf]at g j;have i:0<f:=by rw[hf];exact j7 o_ o_
 have q:f<bT:=by
  rw[hf];exact lq (by decide) o_
 have o:b<(d+1)*bT^k:=by
  rw[<-ix e,<-h];omega
 have l:d*bT^k<=b:=by rw[h];exact kh _ _
 have m:b*f<bT^(k+1):=by
  rw[ip];have e1:b*f<(d+1)*bT^k*f:=kk o i;have e2:(d+1)*bT^k*f=f*(d+1)*bT^k:=by rw[h7,<-i6]
  have e3:=ik (bT^k) g;rw[h7 (bT^k) bT];omega
 refine⟨i,q,m,?_,?_⟩
 ·have e1:1*bT^k<=d*bT^k:=ik _ p;rw[j5]at e1;exact h8 (h8 e1 l) (kA _ i)
 ·have e1:b*f/bT^k=ae bT (b*f) k:=by
   rw[ae,iz];rw[ix e,h7 bT,<-ip];exact m
  have e2:d*f<=b*f/bT^k:=by
   rw[lz e,lb];exact ik _ l
  rw[e1]at e2;have e3:d+f<=d*f+1:=by
   obtain⟨d',rfl⟩:∃d',d=d'+1:=⟨d-1,o_⟩
   obtain⟨c,rfl⟩:∃c,f=c+1:=⟨f-1,o_⟩
   have:(d'+1)*(c+1)=d'*c+d'+c+1:=by rw[js,j6,j5,lk];omega
   omega
  have e4:f*(d+1)=d*f+f:=by rw[j6,lk,h7]
  rw[e4]at g j;generalize d*f=P at*;generalize ae bT (b*f) k=Z at*;omega
def gY(V R t i:Nat):Nat:=(t*(V% bT^i)+R% bT^i)/bT^i
theorem awJ{V R t:Nat}:gY V R t 0=0:=by simp[gY,mi]
theorem OK{W V R t n i:Nat}(h:R+t*V=W+bT^(n+1))(hi:i<=n):ae bT R i+t*ae bT V i+gY V R t i=ae bT W i+gY V R t (i+1)*bT:=by
 have k:0<bT^i:=i3 (by decide);have l:0<bT^(i+1):=i3 (by decide);have d:(t*(V% bT^(i+1))+R% bT^(i+1))% bT^(i+1)=W% bT^(i+1):=by
  have e1:(t*V+R)% bT^(i+1)=(t*(V% bT^(i+1))+R% bT^(i+1))% bT^(i+1):=by
   have a:=i4 V (bT^(i+1));have e:=i4 R (bT^(i+1));have f:t*V+R=t*(V% bT^(i+1))+R% bT^(i+1)+bT^(i+1)*(t*(V/bT^(i+1))+R/bT^(i+1)):=by
    have g:t*V=t*(V% bT^(i+1))+bT^(i+1)*(t*(V/bT^(i+1))):=by
     conv=>lhs;rw[<-a]
     rw[j6,<-i6,h7 t (bT^(i+1)),i6];omega
    rw[g,j6]
    conv=>lhs;rw[<-e]
    omega
   rw[f,kp]
  rw[<-e1,j9 (t*V),h];have:bT^(i+1)∣bT^(n+1):=ll _ o_;obtain⟨c,hc⟩:=this;rw[hc,kp]
 have e2:=i4 (t*(V% bT^(i+1))+R% bT^(i+1)) (bT^(i+1));have e3:=i4 (t*(V% bT^i)+R% bT^i) (bT^i);rw[d]at e2;rw[show(t*(V% bT^(i+1))+R% bT^(i+1))/bT^(i+1)=gY V R t (i+1)from rfl]at e2;rw[show(t*(V% bT^i)+R% bT^i)/bT^i=gY V R t i from rfl]at e3;have j:(t*(V% bT^i)+R% bT^i)% bT^i=W% bT^i:=by
  have:=congrArg (·% bT^i) d
  have b:bT^i∣bT^(i+1):=ll _ o_;rw[lc _ b,lc _ b]at this;rw[<-this,mod_pow_succ,mod_pow_succ];rw[j6];have:t*(V% bT^i)+t*(bT^i*ae bT V i)+(R% bT^i+bT^i*ae bT R i)=t*(V% bT^i)+R% bT^i+bT^i*(t*ae bT V i+ae bT R i):=by
   rw[j6,<-i6 t,h7 t (bT^i),i6];omega
  rw[this,kp]
 rw[j]at e3;rw[mod_pow_succ,mod_pow_succ,mod_pow_succ,ip]at e2;have e4:bT^i*(ae bT R i+t*ae bT V i+gY V R t i)=bT^i*(ae bT W i+gY V R t (i+1)*bT):=by
  have a:t*(V% bT^i+bT^i*ae bT V i)=t*(V% bT^i)+bT^i*(t*ae bT V i):=by
   rw[j6,<-i6 t,h7 t (bT^i),i6]
  rw[a]at e2;rw[j6,j6,j6];rw[i6 (bT^i),h7 bT]at e2;generalize bT^i*ae bT R i=m at*;generalize bT^i*(t*ae bT V i)=o at*;generalize bT^i*gY V R t i=p at*;generalize bT^i*ae bT W i=q at*;generalize bT^i*(gY V R t (i+1)*bT)=r at*;generalize t*(V% bT^i)=s at*;omega
 exact Nat.eq_of_mul_eq_mul_left k e4
theorem awI{r p w b':Nat}(h:r+p=w+b'*bT)(j:r<bT)(k:w<bT):(w<p% bT/\r+p% bT=w+bT/\b'=p/bT+1)\/(p% bT<=w/\r+p% bT=w/\b'=p/bT):=by
 have e:=i4 p bT;have i:=i5 p (show 0<bT by decide);generalize p/bT=q at*;generalize p% bT=m at*;have b:r+m+bT*q=w+b'*bT:=o_
 rw[h7 bT]at b;rcases Nat.lt_trichotomy b' q with a|a|a
 ·have:=ik bT (show b'+1<=q from a);rw[js,j5]at this;omega
 ·subst a;right;omega
 ·have d:=ik bT (show q+1<=b' from a);rw[js,j5]at d;have f:b'=q+1:=by
   rcases ii (q+1) b' with c|c
   ·have g:=ik bT (show q+2<=b' from c);rw[js]at g;omega
   ·omega
  subst f;rw[js,j5]at b;left;omega
theorem aAy{W V t n:Nat}(y:0<V)(j:V<bT^n)(l:W<bT^(n+1))(C:W/V<=t)(D:t<=W/V+1):
 ∃R,R+t*V=W+bT^(n+1)/\
 ((t=W/V/\gY V R t n=ae bT W n/\∀i,i<=n->ae bT R i=ae bT (W% V) i)\/
  (t=W/V+1/\gY V R t n=ae bT W n+1/\dD bT R V n=1/\∀i,i<=n->ae bT (R+V) i=ae bT (W% V) i)):=by
 have H:0<bT^n:=i3 (by decide);have B:0<bT^(n+1):=i3 (by decide);have k:V<bT^(n+1):=h6 j (h5 (by decide) o_);have z:=i4 W V;have o:=i5 W y;have d:bT^(n+1)=bT^n*bT:=ip _ _;have F:bT=1000000000:=rfl;have A:W% V<bT^n:=i8 o j;have s:ae bT (W% V) n=0:=ka A;have q:ae bT V n=0:=ka j;have m:∀R,R+t*V=W+bT^(n+1)->ae bT R n+gY V R t n=ae bT W n+gY V R t (n+1)*bT:=fun R v=>by
  have:=OK v (i0 n);rw[q,l4,Nat.add_zero]at this;exact this
 rcases ii t (W/V+1)with u|u
 ·have b:t=W/V:=by omega
  have r:t*V+W% V=W:=by rw[b,h7];exact z
  refine⟨W% V+bT^(n+1),o_,.inl ⟨b,?_,fun i hi=>?_⟩⟩
  ·have e:=m (W% V+bT^(n+1)) o_;have f:gY V (W% V+bT^(n+1)) t (n+1)=0:=by
    rw[gY,iz k,Nat.add_mod_right,iz (i8 o k),r,i7 l]
   have a:ae bT (W% V+bT^(n+1)) n=0:=by
    rw[<-s];exact xL o_
   rw[f,a]at e;omega
  ·exact xL o_
 ·have b:t=W/V+1:=by omega
  have r:t*V+W% V=W+V:=by rw[b,js,j5,h7];omega
  have G:V<=bT^(n+1)+W% V:=o_
  refine⟨bT^(n+1)+W% V-V,o_,.inr ⟨b,?_,?_⟩⟩
  ·have e:=m (bT^(n+1)+W% V-V) o_;have w:bT^(n+1)+W% V-V<bT^(n+1):=by omega
   have f:gY V (bT^(n+1)+W% V-V) t (n+1)=1:=by
    rw[gY,iz k,iz w];have:t*V+(bT^(n+1)+W% V-V)=W+bT^(n+1):=o_
    rw[this,Nat.add_div_right _ B,i7 l]
   have a:ae bT (bT^(n+1)+W% V-V) n=bT-1:=by
    have g:(bT^(n+1)+W% V-V)/bT^n=bT-1:=by
     refine l1 ?_ ?_
     ·rw[l5,j5,h7 bT,<-d];omega
     ·rw[show bT-1+1=bT by decide,h7 bT,<-d];omega
    rw[ae,g];decide
   rw[f,a]at e;omega
  ·have x:bT^(n+1)+W% V-V+V=W% V+bT^(n+1):=by omega
   have p:∀i,i<=n->ae bT (bT^(n+1)+W% V-V+V) i=ae bT (W% V) i:=fun i hi=>by
    rw[x];exact xL o_
   refine⟨?_,p⟩;have h:=(sr bf (bT^(n+1)+W% V-V) V n).1;have E:=mM bf (bT^(n+1)+W% V-V) V n;rw[p n (i0 _),s,q]at h;have a:ae bT (bT^(n+1)+W% V-V) n=bT-1:=by
    have g:(bT^(n+1)+W% V-V)/bT^n=bT-1:=by
     refine l1 ?_ ?_
     ·rw[l5,j5,h7 bT,<-d];omega
     ·rw[show bT-1+1=bT by decide,h7 bT,<-d];omega
    rw[ae,g];decide
   rw[a]at h;generalize dD bT (bT^(n+1)+W% V-V) V n=c at*;rcases ii 0 c with hc|hc
   ·omega
   ·have:c=0:=by omega
    subst this;simp only[bT]at h;omega
theorem aAx{V R t i:Nat}:gY V R t i<=t:=by
 have a:0<bT^i:=i3 (by decide);have b:=i5 V a;have c:=i5 R a;rw[gY];refine Nat.le_of_lt_succ ?_;rw[ix a];have d:=la t (lv b);rw[Nat.succ_mul];omega
theorem aQD{t v a w r b':Nat}(h:r+(t*v+a)=w+b'*bT)(f:r<bT)(g:w<bT)(b:t<bT)(c:v<bT)(i:a<=t):
 ∃(p q m:Nat),eb.wrap ((t:Int)*v)=(t:Int)*v/\eb.wrap ((t:Int)*v+a)=p/\(p:Int).tmod 1000000000=m/\(p:Int).tdiv 1000000000=q/\q<bT/\m<bT/\
 (((w:Int)-m<0/\(w:Int)-m+1000000000=r/\b'=q+1)\/(¬(w:Int)-m<0/\(w:Int)-m=r/\b'=q)):=by
 have d:t*v<=999999999*999999999:=km (by simp only[bT]at b;omega) (by simp only[bT]at c;omega);have j:=awI h f g;have e:=i5 (t*v+a) (show 0<bT by decide);have hq:(t*v+a)/bT<bT:=by
  rw[ix (by decide)];simp only[bT]at b⊢;omega
 refine⟨t*v+a,(t*v+a)/bT,(t*v+a)% bT,Ni b c,?_,?_,?_,hq,e,?_⟩
 ·rw[<-eo,<-gc];generalize t*v=P at*;simp only[bT]at b;exact aK _ o_ o_
 ·rw[ei (ee _),eq];rfl
 ·rw[ej (ee _),ew];rfl
 ·generalize (t*v+a)/bT=q at*;generalize (t*v+a)% bT=m at*;clear h d;simp only[bT]at*;omega
def de(n:Nat)(f:Nat->Int):List AV:=(gA n).map fun j=>.p (.int .i64 (f j))
theorem mN(n:Nat)(f:Nat->Int):(de n f).length=n:=by simp[de]
theorem UH(n:Nat)(f:Nat->Nat):dF n f=de n (fun k=>(f k:Nat)):=rfl
theorem aQc{n j:Nat}(f:Nat->Int)(h:j<n):(de n f)[j]?=some (.p (.int .i64 (f j))):=by
 rw[de,hn,hv h];rfl
theorem xU{n i:Nat}{v:Int}(f g:Nat->Int)(c:g i=v)(h:∀j,j<n->j≠i->g j=f j):(de n f).set i (.p (.int .i64 v))=de n g:=by
 apply ht (by simp[de]);intro j d b;rw[mN]at b;rw[hT];simp only[de,hd,ha]
 by_cases a:i=j
 ·subst a;rw[if_pos rfl,c]
 ·rw[if_neg a,h j b (fun e=>a e.symm)]
@[simp] theorem aTN{N:Nat×Nat->Prop}{n:Nat}{f:Nat->Int}:aV N (de n f)=True:=by
 rw[cB,eq_iff_iff,iff_true];intro v a;simp only[de,hu]at a;obtain⟨x,_,rfl⟩:=a;trivial
theorem PA{n:Nat}{f g:Nat->Int}(h:∀j,j<n->f j=g j):de n f=de n g:=by
 rw[de,de];apply hM;intro j a;rw[h j (h4.1 a)]
def gM(X R j i k:Nat):Int:=if j<=k/\k<j+i then(ae bT R (k-j):Nat)else(ae bT X k:Nat)
theorem win_zero{X R j k:Nat}:gM X R j 0 k=(ae bT X k:Nat):=by rw[gM,if_neg o_]
theorem FK{X R j i:Nat}:gM X R j i (j+i)=(ae bT X (j+i):Nat):=by rw[gM,if_neg o_]
theorem aRk{X R j i:Nat}:gM X R j (i+1) (j+i)=(ae bT R i:Nat):=by
 rw[gM,if_pos o_,kP]
theorem aRl{X R j i k:Nat}(h:k≠j+i):gM X R j (i+1) k=gM X R j i k:=by
 rw[gM,gM]
 by_cases a:j<=k/\k<j+i
 ·rw[if_pos a,if_pos o_]
 ·rw[if_neg a,if_neg o_]
def iC(X R S j n i k:Nat):Int:=if k=j+n then -1 else if j<=k/\k<j+i then(ae bT S (k-j):Nat)else gM X R j n k
theorem aRh{X R S j n i:Nat}(h:i<n):iC X R S j n i (j+i)=(ae bT R i:Nat):=by
 rw[iC,if_neg o_,if_neg o_,gM,if_pos o_,kP]
theorem aRi{X R S j n i:Nat}(h:i<n):iC X R S j n (i+1) (j+i)=(ae bT S i:Nat):=by
 rw[iC,if_neg o_,if_pos o_,kP]
theorem aRj{X R S j n i k:Nat}(h:k≠j+i):iC X R S j n (i+1) k=iC X R S j n i k:=by
 rw[iC,iC]
 by_cases a:k=j+n
 ·rw[if_pos a,if_pos a]
 ·rw[if_neg a,if_neg a]
  by_cases b:j<=k/\k<j+i
  ·rw[if_pos b,if_pos o_]
  ·rw[if_neg b,if_neg o_]
theorem ave{X V j n N:Nat}(d:0<V)(c:V<bT^n)(e:X<V*bT^(j+1)){g:Nat->Int}(h:∀k,k<N->g k=if k=j+n then 0 else if j<=k/\k<j+n then(ae bT (X/bT^j% V) (k-j):Nat)else(ae bT X k:Nat)):
 de N g=de N fun k=>(ae bT (X% (V*bT^j)) k:Nat):=by
 refine PA fun k hk=>?_;rw[h k hk,(Al (B:=bT) (R:=X) (V:=V) (j:=j)).1,Nn bf];have i:=i5 (X/bT^j) d;have f:X<bT^(n+(j+1)):=by
  rw[j2];exact i8 e (kk c (i3 (by decide)))
 by_cases a:k<j
 ·rw[if_pos a,if_neg o_,if_neg o_]
 ·rw[if_neg a]
  by_cases m:k<j+n
  ·rw[if_neg o_,if_pos o_]
  ·have l:ae bT (X/bT^j% V) (k-j)=0:=ka (h6 (i8 i c) (h5 (by decide) o_));rw[l]
   by_cases b:k=j+n
   ·rw[if_pos b]
   ·rw[if_neg b,if_neg o_];have:ae bT X k=0:=ka (h6 f (h5 (by decide) o_));rw[this]
theorem FW{f:Nat}(a:0<f)(h:f<bT):eT f=.seq [.int .i64 f]:=by rw[eT,oY a h];rfl
theorem auX{r:Nat}(h:r<bT):eM [r]=aw bT r:=by
 have:=kf bf (m:=1) (n:=r) (by rw[kv];exact h);rw[<-this,row,h3,gP,hw,ae,i9,j3,iz h]
@[simp] theorem aTG{σ:Nat->Nat}{n:Nat}{f:Nat->Int}:cF σ (de n f)=de n f:=by
 have:∀l:List Nat,cF σ (l.map fun j=>AV.p (.int .i64 (f j)))=l.map fun j=>AV.p (.int .i64 (f j)):=by
  intro l
  induction l with
  |nil=>rfl
  |cons a r b=>simp only[gP,cF,b];rfl
 exact this _
@[simp] theorem aTL{n j:Nat}{f:Nat->Int}(h:j<(de n f).length):(de n f)[j]=.p (.int .i64 (f j)):=by
 simp only[de,hd,ha]
@[simp] theorem aTI{n j:Nat}{f:Nat->Nat}(h:j<(dF n f).length):(dF n f)[j]=.p (.int .i64 (f j:Nat)):=by
 simp only[dF,hd,ha]
@[simp] theorem aTM{n:Nat}{f:Nat->Int}:(de (n+1) f=[])=False:=by
 rw[eq_iff_iff,iff_false];intro h;have:=congrArg hB h;rw[mN]at this;simp at this
theorem F5(a b:Nat)(K:0<b)(c0:(aw bT a).length<=400000)(b5:(aw bT b).length<=400000):az prog 282 [eT a,eT b] (.aD [eT (a/b),eT (a% b)]):=by
 have bM:=Mz a b o_ o_;refine aJ nf (i_ func282) mix (by simp[f282]) ?_;simp[f282];refine c2 bM ?_
 by_cases S:a<b
 ·have G:=qK.2 S;simp[G,i7 S,iz S,eT,BZ]
 have G:¬gf a b<0:=fun h=>S (qK.1 h);have a3:∀i(h:i<(aw bT b).length),(aw bT b)[i]=ae bT b i:=fun i h=>eU bf h;have C:=cK bf b
 by_cases b3:(aw bT b).length=1
 ·rw[b3,kv]at C;have L:=My a b K C o_;have ca:=i5 a K;have ce:=auX (i8 ca C);have aq:=u9 [a% b] s_;rw[ce]at aq;have cW:=oY K C;rw[FW K C];simp only[eT,iP]at L aq⊢;generalize aw bT (a/b)=cP at*;generalize aw bT (a% b)=cQ at*;generalize aw bT a=x at*;generalize a% b=dg at*;simp[G];refine c2 L ?_;simp;refine cp aq (by simp;exact⟨rfl,rfl⟩) ?_;simp
 have cZ:2<=(aw bT b).length:=by
  rcases ii (aw bT b).length 1 with h|h
  ·have e:(aw bT b).length=0:=by omega
   rw[e,i9]at C;omega
  ·omega
 obtain⟨k,hk⟩:∃k,(aw bT b).length=k+1:=⟨(aw bT b).length-1,o_⟩
 obtain⟨n,aD⟩:∃n,n=k+1:=⟨_,rfl⟩
 rw[hk]at C;obtain⟨d,Z⟩:∃d,d=b/bT^k:=⟨_,rfl⟩
 have ax:bT^k<=b:=by
  rcases ii b (bT^k)with h|h
  ·have:=et bf k b h;omega
  ·exact h
 have bd:0<bT^k:=i3 (by decide);have bN:0<d:=by rw[Z];exact j7 ax bd
 have bS:d<bT:=by rw[Z,ix bd,h7,<-ip];exact C
 have a4:ae bT b k=d:=by rw[ae,<-Z,iz bS]
 obtain⟨f,hf⟩:∃f,f=bT/(d+1):=⟨_,rfl⟩
 obtain⟨f0,f1,f2,f3,f4⟩:=av6 C Z bN hf;obtain⟨V,I⟩:∃V,V=b*f:=⟨_,rfl⟩
 rw[<-I]at f2 f3 f4;have aX:(aw bT V).length=n:=by
  have H:=et bf (k+1) V f2;have bD:=MT bf f3;omega
 have ag:=F4 b f (by rw[oY f0 f1];simp;omega);have ah:=F4 a f (by rw[oY f0 f1];simp;omega);rw[FW f0 f1,<-I]at ag;rw[FW f0 f1]at ah;have bQ:(aw bT b)[k]?=some d:=by rw[gp o_,a3 k o_,a4]
 have bR:∀h:k<(aw bT b).length,(aw bT b)[k]=d:=fun h=>by rw[a3 k h,a4]
 have c5:(aw bT b).length<=400000:=b5;have cV:bT=1000000000:=rfl;have cE:eb.wrap ((d:Int)+1)=(d:Int)+1:=aK _ o_ o_;have bV:(1000000000:Int).tdiv ((d:Int)+1)=(f:Nat):=by
  rw[ej (by decide),hf,ew];rfl
 have bP:¬(d:Int)+1=0:=o_
 have cF:eb.wrap (k:Int)=k:=aK _ o_ o_;have wf:eb.wrap (f:Int)=f:=aK _ o_ o_;have b4:¬(k:Int)+1=1:=o_
 have bZ:¬k=0:=o_
 have bn:k<(aw bT b).length:=o_
 have b0:=bR bn;simp only[eT]at ag ah⊢;generalize cq:aw bT (a/b)=cP at*;generalize cr:aw bT (a% b)=cQ at*;generalize aG:aw bT a=x at*;generalize da:aw bT b=y at*;generalize aj:aw bT V=s at*;simp[G,hk,b4,bZ,cF,bQ,b0,bn,cE,bV,bP,wf];refine cp ag (by simp;exact⟨rfl,rfl⟩) ?_;simp[aX];refine cp ah (by simp;exact⟨rfl,rfl⟩) ?_;obtain⟨u,D⟩:∃u,aw bT (a*f)=u:=⟨_,rfl⟩
 obtain⟨c,M⟩:∃c,x.length=c:=⟨_,rfl⟩
 have bg:u.length<=c+1:=by
  rw[<-D,<-M,<-aG];refine et bf _ _ ?_;rw[ip];exact j8 (cK bf a) f1
 have cj:∀i(h:i<u.length),u[i]=ae bT (a*f) i:=fun i h=>by
  have:=eU bf (n:=a*f) (i:=i) (by rw[D];exact h);simp only[D]at this;exact this
 rw[D];have cU:b<=a*f:=h8 (Nat.le_of_not_lt S) (kA _ f0);have bi:¬u=[]:=by
  intro h;rw[h]at D;have:=xE.1 D;omega
 have a0:a*f<bT^u.length:=by rw[<-D];exact cK bf _
 have ai:hK (AV.p∘fun x:Nat=>PV.int eb x) u=de u.length fun k=>(ae bT (a*f) k:Nat):=by
  apply ht (by simp[de]);intro i G cT;simp only[hd,Function.comp,de,ha];rw[cj i (by simpa using G)]
 have ch:u.length<=400001:=o_
 obtain⟨A,bh⟩:∃A,u.length=A:=⟨_,rfl⟩
 rw[bh]at a0 ai bg ch;clear ag ah;have ci:¬(de A fun k=>(ae bT (a*f) k:Nat))=[]:=by rw[<-ai];simpa using bi
 have cg:¬A=0:=by rw[<-bh];exact fun h=>bi (List.length_eq_zero_iff.1 h)
 simp[M,ai,ci,cg,mN];refine⟨⟨by rw[<-ai];exact UK u,by simp only[cJ];omega⟩,?_⟩;have c4:c<=400000:=o_
 have bw:eb.wrap ((c:Int)+1)=c+1:=aK _ o_ o_;refine tP (fun s'=>∃l o,aS s'.env 8=.sl 0 0 1 0 1/\aS s'.env 9=.p (.seq (s.map fun x:Nat=>.int .i64 x))/\aS s'.env 10=.p (.int .i64 n)/\aS s'.env 11=.sl 2 l 1 0 (c+1)/\s'.heap=[.arr .frozen 0 1 [.p (.int .i64 f)],o,.arr .grow l 1 (de (c+1) fun k=>(ae bT (a*f) k:Nat))]) ?_ ?_
 ·refine lp (α:=Nat) (fun i=>⟨[(11,.sl 2 (i-A) 1 0 i),(10,.p (.int .i64 n)),(9,.p (.seq (s.map fun x:Nat=>.int .i64 x))),(8,.sl 0 0 1 0 1),(0,.p (.seq (x.map fun x:Nat=>.int .i64 x)))],[.arr .frozen 0 1 [.p (.int .i64 f)],.hole,.arr .grow (i-A) 1 (de i fun k=>(ae bT (a*f) k:Nat))]⟩)
   (fun i=>A<=i/\i<=c+1) (fun i=>c+1-i) A ⟨i0 _,bg⟩ ?_ (he:=s_) (hh:=s_)
  rintro i ⟨k1,k2⟩
  by_cases hi:i<c+1
  ·have bW:(i:Int)<c+1:=by omega
   have co:ae bT (a*f) i=0:=ka (h6 a0 (h5 (by decide) k1));have cc:de (i+1) (fun k=>(ae bT (a*f) k:Nat))=de i (fun k=>(ae bT (a*f) k:Nat))++[.p (.int .i64 0)]:=by
    rw[de,hW,h2];simp[co,de]
   have be:i+1-A=i-A+1:=o_
   have cd:g0 i (de i fun k=>(ae bT (a*f) k:Nat))=de i fun k=>(ae bT (a*f) k:Nat):=gt (by rw[mN];exact i0 _);simp[M,bw,bW,mN,cd];refine⟨by simp only[cJ];omega,?_⟩;exact rd (i+1) ⟨o_,hi⟩ (he:=by simp[be]) (hh:=by simp[be,cc]) (hr2:=s_)
  ·have ab:i=c+1:=by omega
   subst ab;simp[M,bw]
 rintro⟨bA,bU⟩ ⟨l,o,E,P,Q,F,T⟩;dsimp only at E P Q F T;subst T;have c9:n<=c:=by
  rw[aD];rcases ii c (k+1)with h|h
  ·have H:=cK bf a;rw[aG,M]at H;have bD:=h6 H (h5 (show 0<bT by decide) (show c<=k by omega));omega
  ·exact h
 obtain⟨m,c7⟩:∃m,m=c-n:=⟨_,rfl⟩
 have cI:eb.wrap ((c:Int)+1-n)=(m:Int)+1:=by rw[aK _ o_ o_];omega
 have cL:((m:Int)+1).toNat=m+1:=o_
 have cM:eb.wrap (m:Int)=m:=aK _ o_ o_;have b8:(m:Int)+1<=cJ:=by simp only[cJ];omega
 simp[E,P,Q,F,cI,cL,cM];refine⟨⟨o_,b8⟩,?_⟩;have au:0<V:=by rw[I];exact md K f0
 have W:V<bT^n:=by rw[aD];exact f2
 have a1:a<bT^c:=by rw[<-M,<-aG];exact cK bf a
 have bJ:a*f% (V*bT^(m+1))=a*f:=by
  refine iz ?_;rw[I,lb];refine kk ?_ f0;refine h6 a1 ?_;rw[show c=k+(m+1)by omega,j2];exact ik _ ax
 obtain⟨X,J⟩:∃X:Nat->Nat,∀j,X j=a*f% (V*bT^j):=⟨_,fun _=>rfl⟩
 have Y:∀j,X j<V*bT^j:=fun j=>by rw[J];exact i5 _ (md au (i3 (by decide)))
 have bL:∀j,X (j+1)% (V*bT^j)=X j:=fun j=>by
  rw[J,J,lc];exact Nat.mul_dvd_mul_left _ (ll _ o_)
 have bK:∀j,X (j+1)/bT^j/V=ae bT (a/b) j:=fun j=>by
  rw[J,<-(Al (B:=bT) (R:=a*f% (V*bT^(j+1))) (V:=V) (j:=j)).2,ip,<-i6,Nat.mod_mul_right_div_self,<-i1,I,Nat.mul_div_mul_right _ _ f0,ae]
 have a6:=fun j(h:j<=m)=>aK5 (X (j+1)/bT^j) V (c+1) j n .grow l (ae bT (X (j+1))) o_ (by rw[aj];exact aX) (by rw[aD,j1];exact f4) (by rw[ix (i3 (by decide)),i6,h7 bT,<-ip];exact Y (j+1)) o_ o_ (fun i hi=>(sK (B:=bT) _ _ _).symm);simp only[eT,UH,aj]at a6;rw[show(gy (m+1) (AV.p (PV.int eb 0)))=dF (m+1) (qT (a/b) (m+1))from P9];rw[show(de (c+1) fun k=>(ae bT (a*f) k:Nat))=de (c+1) fun k=>(ae bT (X (m+1)) k:Nat)by rw[J,bJ]];refine tP (fun s'=>∃bp,aS s'.env 8=.sl 0 0 1 0 1/\aS s'.env 10=.p (.int .i64 n)/\aS s'.env 11=.sl 2 l 1 0 (c+1)/\aS s'.env 12=.sl 3 0 1 0 (m+1)/\s'.heap=[.arr .frozen 0 1 [.p (.int .i64 f)],bp,.arr .grow l 1 (de (c+1) fun k=>(ae bT (X 0) k:Nat)),.arr .exact 0 1 (dF (m+1) (ae bT (a/b)))]) ?_ ?_
 ·refine lp (α:=Nat) (fun j=>⟨[(13,.p (.int .i64 ((j:Int)-1))),(12,.sl 3 0 1 0 (m+1)),(11,.sl 2 l 1 0 (c+1)),(10,.p (.int .i64 n)),(9,.p (.seq (s.map fun x:Nat=>.int .i64 x))),(8,.sl 0 0 1 0 1)],[.arr .frozen 0 1 [.p (.int .i64 f)],.hole,.arr .grow l 1 (de (c+1) fun k=>(ae bT (X j) k:Nat)),.arr .exact 0 1 (dF (m+1) (qT (a/b) j))]⟩)
   (fun j=>j<=m+1) (fun j=>j) (m+1) (i0 _) ?_ (he:=by simp[E,P,Q,F])
  intro j cX;rcases j with _|j
  ·simp[P8]
  ·obtain⟨t,aM,an,ao,bE⟩:=a6 j o_;have bY:¬(j:Int)<0:=by omega
   have bI:X (j+1)/bT^j<bT^(n+1):=by
    rw[ix (i3 (by decide)),<-j2];refine h6 (Y (j+1)) ?_;rw[show n+1+j=n+(j+1)by omega,j2 bT n (j+1)];exact ik _ (lv W)
   obtain⟨R,bG,bH⟩:=aAy au W bI aM an;have iM:=fun i(hi:i<=n)=>OK (i:=i) bG hi;have av:∀i,ae bT (X (j+1)/bT^j) i=ae bT (X (j+1)) (j+i):=fun i=>sK _ _ _;have dj:((n:Nat):Int).toNat=n:=o_
   simp[-bB];rw[bB,bB];simp[-bB,bY];rw[bB,OC,bB];simp[-bB];refine cf bE [2] ?_;simp[-bB,sig,ba];rw[bB];simp[-bB];rw[bB,bB];simp[-bB];have aW:∀i(h:i<s.length),s[i]=ae bT V i:=fun i h=>by
    have:=eU bf (n:=V) (i:=i) (by rw[aj];exact h);simp only[aj]at this;exact this
   have aU:X (j+1)/bT^j/V=ae bT (a/b) j:=bK j;have cY:(j:Int)<=400000:=o_
   have c8:(n:Int)<=400001:=o_
   have a5:∀g:Nat->Int,(∀k,k<c+1->g k=if k=j+n then 0 else if j<=k/\k<j+n then(ae bT (X (j+1)/bT^j% V) (k-j):Nat)else(ae bT (X (j+1)) k:Nat))->de (c+1) g=de (c+1) fun k=>(ae bT (X j) k:Nat):=fun g ay=>by
    rw[ave au W (Y (j+1)) ay,bL]
   have cl:de (c+1) (gM (X (j+1)) R j 0)=de (c+1) fun k=>(ae bT (X (j+1)) k:Nat):=PA fun k _=>win_zero;refine lp (α:=Nat) (fun i=>⟨[(16,.p (.int .i64 i)),(15,.p (.int .i64 (gY V R t i:Nat))),(14,.p (.int .i64 t)),(13,.p (.int .i64 j)),(12,.sl 3 0 1 0 (m+1)),(11,.sl 2 l 1 0 (c+1)),(10,.p (.int .i64 n)),(9,.p (.seq (s.map fun x:Nat=>.int .i64 x))),(8,.sl 0 0 1 0 1)],[.arr .frozen 0 1 [.p (.int .i64 f)],.hole,.arr .grow l 1 (de (c+1) (gM (X (j+1)) R j i)),.arr .exact 0 1 (dF (m+1) (qT (a/b) (j+1)))]⟩)
    (fun i=>i<=n) (fun i=>n-i) 0 (j4 _) ?_ (he:=by simp[awJ]) (hh:=by simp[cl])
   intro i hi;have bv:eb.wrap ((i:Int)+j)=(i:Int)+j:=aK _ o_ o_;have bt:((i:Int)+j).toNat=i+j:=o_
   have bo:¬((i:Int)+j<0):=o_
   have bu:eb.wrap ((i:Int)+1)=(i:Int)+1:=aK _ o_ o_
   by_cases al:i<n
   ·have a8:(i:Int)<n:=by omega
    have ac:i<s.length:=o_
    have aF:=aW i ac;have aN:=iM i hi;rw[av]at aN;have bq:=cN bf (X (j+1)) (j+i);have ct:=cN bf R i;have pv:=cN bf V i;obtain⟨p,q,ak,s1,s2,br,bs,dh,di,cw⟩:=aQD (by rw[<-lu];exact aN) ct bq ao pv aAx;have bm:gM (X (j+1)) R j i (i+j)=(ae bT (X (j+1)) (j+i):Nat):=by rw[j9 i j,FK]
    have a7:0<=(i:Int)+j:=o_
    have get:(de (c+1) (gM (X (j+1)) R j i))[i+j]?=some (.p (.int .i64 (ae bT (X (j+1)) (j+i):Nat))):=by
     rw[aQc _ o_,j9 i j,FK]
    have set:(de (c+1) (gM (X (j+1)) R j i)).set (i+j) (.p (.int .i64 (ae bT R i:Nat)))=de (c+1) (gM (X (j+1)) R j (i+1)):=by
     rw[j9 i j];exact xU _ _ aRk fun k _ hk=>aRl hk
    have ab:i+j<c+1:=o_
    have bj:s[i]?=some (ae bT V i):=by rw[gp ac,aF]
    generalize ae bT (X (j+1)) (j+i)=w at*;generalize ae bT V i=v at*;generalize ae bT R i=r at*;generalize gY V R t i=cR at*;generalize a2:gY V R t (i+1)=cS at*;have cb:¬(r:Int)<0:=o_
    have bz:eb.wrap ((w:Int)-ak)=(w:Int)-ak:=aK _ o_ o_;have bx:eb.wrap (q:Int)=q:=aK _ o_ o_;have aT:eb.wrap ((q:Int)+1)=(q:Int)+1:=aK _ o_ o_;rcases cw with⟨c1,c2,c3⟩|⟨c1,c2,c3⟩
    ·have wr:eb.wrap ((w:Int)-ak+1000000000)=r:=by rw[c2];exact aK _ o_ o_
     simp[a8,bv,bt,bo,ac,aF,bj,s1,s2,br,bs,ab,get,bm,a7,mN,bz,c1,wr,aT,set,bu,aa,aP,bO];exact rd (i+1) (show i+1<=n by omega) (he:=by simp[a2,c3,bx,aT])
    ·have wr:eb.wrap ((w:Int)-ak)=r:=by rw[bz,c2]
     simp[a8,bv,bt,bo,ac,aF,bj,s1,s2,br,bs,ab,get,bm,a7,mN,c1,wr,cb,set,bu,aa,aP,bO];exact rd (i+1) (show i+1<=n by omega) (he:=by simp[a2,c3,bx,aT])
   ·have bX:i=n:=by omega
    subst bX;have aR:eb.wrap ((j:Int)+i)=(j:Int)+i:=aK _ o_ o_;have aO:((j:Int)+i).toNat=j+i:=o_
    have aH:0<=(j:Int)+i:=o_
    have aA:j+i<c+1:=o_
    have bl:gM (X (j+1)) R j i (j+i)=(ae bT (X (j+1)) (j+i):Nat):=FK;have bq:=cN bf (X (j+1)) (j+i);have aQ:eb.wrap ((j:Int)-1)=(j:Int)-1:=aK _ o_ o_;rcases bH with⟨aI,U,aL⟩|⟨aI,U,aL,cv⟩
    ·rw[av]at U;rw[U];generalize ae bT (X (j+1)) (j+i)=w at*;have ap:eb.wrap 0=0:=rfl;have am:eb.wrap ((w:Int)-w)=0:=by rw[ge];rfl
     have aE:t=ae bT (a/b) j:=by rw[aI,aU]
     have qs:(dF (m+1) (qT (a/b) (j+1))).set j (.p (.int .i64 t))=dF (m+1) (qT (a/b) j):=by rw[aE];exact FU
     have fs:(de (c+1) (gM (X (j+1)) R j i)).set (j+i) (.p (.int .i64 0))=de (c+1) fun k=>(ae bT (X j) k:Nat):=by
      rw[xU _ (fun k=>if k=j+i then 0 else gM (X (j+1)) R j i k) (if_pos rfl) (fun k _ hk=>if_neg hk)];refine a5 _ fun k _=>?_
      by_cases hk:k=j+i
      ·rw[if_pos hk,if_pos hk];rfl
      ·rw[if_neg hk,if_neg hk,gM]
       by_cases z:j<=k/\k<j+i
       ·rw[if_pos z,if_pos z,aL (k-j) o_]
       ·rw[if_neg z,if_neg z]
     have ad:j<m+1:=o_
     have b9:¬((ae bT (X j) (j+i):Nat):Int)<0:=o_
     simp[aR,aO,aH,aA,bl,mN,xN,am,ap,aQ,ad,b9,fs,qs,aa,aP,bO];exact rd j (show j<=m+1 by omega)
    ·rw[av]at U;rw[U];generalize ae bT (X (j+1)) (j+i)=w at*;have ap:eb.wrap 0=0:=rfl;have am:eb.wrap ((w:Int)-((w+1:Nat):Int))= -1:=by rw[show(w:Int)-((w+1:Nat):Int)= -1 by omega];rfl
     have cz:eb.wrap (-1)= -1:=rfl;have fs:(de (c+1) (gM (X (j+1)) R j i)).set (j+i) (.p (.int .i64 (-1)))=de (c+1) (iC (X (j+1)) R (R+V) j i 0):=by
      refine xU _ _ (by rw[iC,if_pos rfl]) fun k _ hk=>?_;rw[iC,if_neg hk,if_neg o_]
     have aE:(t:Int)-1=ae bT (a/b) j:=by rw[aI,aU];omega
     have cO:eb.wrap ((t:Int)-1)=ae bT (a/b) j:=by rw[aE];have:=cN bf (a/b) j;exact aK _ o_ o_
     have ad:j<m+1:=o_
     have cm:iC (X (j+1)) R (R+V) j i 0 (j+i)= -1:=by rw[iC,if_pos rfl]
     push_cast at am;simp[aR,aO,aH,aA,bl,mN,xN,am,ap,cz,cO,aQ,ad,fs,cm,aa,aP,bO];refine lp (α:=Nat) (fun k=>⟨[(20,.p (.int .i64 k)),(19,.p (.int .i64 (dD bT R V k:Nat))),(14,.p (.int .i64 (ae bT (a/b) j:Nat))),(13,.p (.int .i64 j)),(12,.sl 3 0 1 0 (m+1)),(11,.sl 2 l 1 0 (c+1)),(10,.p (.int .i64 i)),(9,.p (.seq (s.map fun x:Nat=>.int .i64 x))),(8,.sl 0 0 1 0 1)],[.arr .frozen 0 1 [.p (.int .i64 f)],.hole,.arr .grow l 1 (de (c+1) (iC (X (j+1)) R (R+V) j i k)),.arr .exact 0 1 (dF (m+1) (qT (a/b) (j+1)))]⟩)
      (fun k=>k<=i) (fun k=>i-k) 0 (j4 _) ?_ (he:=by simp[Ad])
     intro k hk;have cH:eb.wrap ((k:Int)+j)=(k:Int)+j:=aK _ o_ o_;have cy:((k:Int)+j).toNat=k+j:=o_
     have cs:0<=(k:Int)+j:=o_
     have cG:eb.wrap ((k:Int)+1)=(k:Int)+1:=aK _ o_ o_;obtain⟨q1,cu⟩:=sr bf R V k;have dc:=mM bf R V k;have q4:=mM bf R V (k+1);have dd:=cN bf R k;have df:=cN bf V k
     by_cases a9:k<i
     ·have yW:(k:Int)<i:=by omega
      have aB:k<s.length:=o_
      have bk:=aW k aB;have ck:s[k]?=some (ae bT V k):=by rw[gp aB,bk]
      have b2:k+j<c+1:=o_
      have ay:iC (X (j+1)) R (R+V) j i k (k+j)=(ae bT R k:Nat):=by rw[j9 k j,aRh a9]
      have aN:(de (c+1) (iC (X (j+1)) R (R+V) j i k)).set (k+j) (.p (.int .i64 (ae bT (R+V) k:Nat)))=de (c+1) (iC (X (j+1)) R (R+V) j i (k+1)):=by
       rw[j9 k j];exact xU _ _ (aRi a9) fun x _ hx=>aRj hx
      have aM:((ae bT R k:Nat):Int)+(ae bT V k:Nat)+(dD bT R V k:Nat)=((ae bT R k+ae bT V k+dD bT R V k:Nat):Int):=o_
      have an:((ae bT R k+ae bT V k+dD bT R V k:Nat):Int).tmod 1000000000=(ae bT (R+V) k:Nat):=by
       rw[<-q1,ei (ee _),eq];rfl
      have ao:((ae bT R k+ae bT V k+dD bT R V k:Nat):Int).tdiv 1000000000=(dD bT R V (k+1):Nat):=by
       rw[<-cu,ej (ee _),ew];rfl
      rw[<-aM]at an ao;have cA:eb.wrap ((ae bT R k:Nat)+(ae bT V k:Nat))=(ae bT R k:Nat)+(ae bT V k:Nat):=aK _ o_ o_;have cB:eb.wrap ((ae bT R k:Nat)+(ae bT V k:Nat)+(dD bT R V k:Nat))=(ae bT R k:Nat)+(ae bT V k:Nat)+(dD bT R V k:Nat):=aK _ o_ o_;have cC:eb.wrap (ae bT (R+V) k:Nat)=(ae bT (R+V) k:Nat):=by have:=cN bf (R+V) k;exact aK _ o_ o_
      have cD:eb.wrap (dD bT R V (k+1):Nat)=(dD bT R V (k+1):Nat):=aK _ o_ o_;simp[yW,aB,bk,ck,cH,cy,cs,b2,ay,aN,mN,cA,cB,cC,cD,an,ao,cG,aa,aP,bO];exact rd (k+1) (show k+1<=i by omega)
     ·have b1:k=i:=by omega
      subst b1;have cn:iC (X (j+1)) R (R+V) j k k (j+k)= -1:=by rw[iC,if_pos rfl]
      have cx:eb.wrap (-1+1)=0:=rfl;have qs:(dF (m+1) (qT (a/b) (j+1))).set j (.p (.int .i64 (ae bT (a/b) j:Nat)))=dF (m+1) (qT (a/b) j):=FU;have bC:(de (c+1) (iC (X (j+1)) R (R+V) j k k)).set (j+k) (.p (.int .i64 0))=de (c+1) fun k=>(ae bT (X j) k:Nat):=by
       rw[xU _ (fun x=>if x=j+k then 0 else iC (X (j+1)) R (R+V) j k k x) (if_pos rfl) (fun x _ hx=>if_neg hx)];refine a5 _ fun x _=>?_
       by_cases hk:x=j+k
       ·rw[if_pos hk,if_pos hk];rfl
       ·rw[if_neg hk,if_neg hk,iC,if_neg hk]
        by_cases z:j<=x/\x<j+k
        ·rw[if_pos z,if_pos z,cv (x-j) o_]
        ·rw[if_neg z,if_neg z,gM,if_neg z]
      rw[aL];simp[aR,aO,aH,aA,cn,mN,xN,cx,ap,aQ,ad,bC,qs,aa,aP,bO];exact rd j (show j<=m+1 by omega)
 rintro⟨bA,bU⟩ ⟨bp,E,P,Q,F,T⟩;dsimp only at E P Q F T;subst T;have aY:X 0=a% b*f:=by rw[J,i9,lk,I,Nat.mul_mod_mul_right]
 have bF:a/b<bT^(m+1):=by
  rw[ix K];refine h6 a1 ?_;rw[show c=m+1+k by omega,j2];exact la _ ax
 obtain⟨db,bb,b6,aV⟩:=QI (m:=m+1) (N:=a/b) bF o_;have aZ:X 0<bT^n:=h6 (by have:=Y 0;rwa [i9,lk]at this) (lv W);obtain⟨O,c6,af,b7,ar⟩:∃O:List Nat,O=(gA (c+1)).map (ae bT (X 0))/\O.length=c+1/\dF (c+1) (ae bT (X 0))=O.map (AV.p∘fun x:Nat=>PV.int .i64 x)/\az prog 337 [.seq (iP (O.take n))] (eT (X 0)):=by
  refine⟨_,rfl,s_,Ey _ _,?_⟩;have e:((gA (c+1)).map (ae bT (X 0))).take n=(gA n).map (ae bT (X 0)):=PT o_ fun k hk=>rfl;rw[e];have H:=u9 ((gA n).map (ae bT (X 0))) (by simp;omega);rw[show eM ((gA n).map (ae bT (X 0)))=aw bT (X 0)from kf bf aZ]at H;exact H
 have L:=My (X 0) f f0 f1 (by
  have:=et bf n (X 0) aZ;omega)
 rw[aY,Nat.mul_div_cancel _ f0]at L;rw[aY]at ar;rw[<-UH,b7,b6]at*;simp only[eT,cq,cr,iP]at aV ar L⊢;have aC:¬O=[]:=by intro h;rw[h]at af;simp at af
 have bc:n<=c+1:=o_
 simp[E,P,Q,F,af,aC,bc];refine ep ar (by simp[af,bc,aC];first|exact⟨rfl,rfl⟩|rfl) (by simp[aC];first|exact⟨rfl,rfl⟩|rfl) ?_ (h1:=by simp[g9]);simp[E,aa,aP,bO];refine e2 L ?_;simp[F];refine⟨by repeat' first|rfl|apply And.intro,?_⟩;refine cp aV (by simp[bb];first|exact⟨rfl,rfl⟩|rfl) ?_ (h1:=by simp[gt,bb]);simp
theorem ZR(n:Nat):eM (aw bT n)=aw bT n:=by
 have h:=Fi bf (l:=aw bT n) (fun d a=>by
  obtain⟨i,hi,rfl⟩:=hN a;rw[eU bf hi];exact cN bf _ _)
 rw[<-h,Oi bf]
theorem sj(neg:Bool)(n:Nat)(h:(aw bT n).length<=1048576):az prog 284 [.bool neg,eT n] (eG (if neg=true then -(n:Int)else n)):=EK neg (aw bT n) n (ZR n) h
theorem OE(a b:Nat)(g:(aw bT a).length<=400000)(h:(aw bT b).length<=400000):az prog 230 [eT a,eT b] (eT (jp a b)):=by
 refine aJ nf (i_ func230) mix (by simp[f230]) ?_;simp[f230];refine lp (α:=Nat×Nat) (fun x=>⟨[(1,.p (eT x.2)),(0,.p (eT x.1))],[]⟩)
  (fun x=>(aw bT x.1).length<=400000/\(aw bT x.2).length<=400000/\jp x.1 x.2=jp a b) (fun x=>x.2) (a,b) ⟨g,h,rfl⟩ ?_
 rintro⟨x,y⟩ ⟨e,d,c⟩;dsimp only at e d c
 by_cases hy:y=0
 ·subst hy;rw[l2]at c;rw[<-c];simp[eT,BZ]
 ·have hl:0<(aw bT y).length:=by
   rw[gx,Ne,xE];exact hy
  have f:=F5 x y o_ e d;have i:=i5 x (show 0<y by omega);simp[eT,hl];refine c2 f ?_;simp;exact rd (y,x% y) ⟨d,by have:=et bf _ _ (i8 i (cK bf y));dsimp only;omega,by rw[<-c,le y,<-mj,le]⟩ (by dsimp only;omega) (he:=by simp[eT])
theorem aBn(a b:Nat)(h:a<9223372036854775808)(i:b<9223372036854775808):az prog 295 [.int .i64 a,.int .i64 b] (.int .i64 (jp a b:Nat)):=by
 refine aJ nf (i_ func295) mix (by simp[f295]) ?_;simp[f295];refine lp (α:=Nat×Nat) (fun x=>⟨[(1,.p (.int .i64 x.2)),(0,.p (.int .i64 x.1))],[]⟩)
  (fun x=>x.1<9223372036854775808/\x.2<9223372036854775808/\jp x.1 x.2=jp a b) (fun x=>x.2) (a,b) ⟨h,i,rfl⟩ ?_
 rintro⟨x,y⟩ ⟨g,d,c⟩;dsimp only at g d c
 by_cases f:y=0
 ·subst f;rw[l2]at c;rw[<-c];simp
 ·have hl:(0:Int)<y:=by omega
  have e:0<y:=o_
  have n:¬(y:Int)=0:=o_
  have m:=i5 x e;have k:(x:Int).tmod y=(x% y:Nat):=by rw[ei (ee _),eq]
  have l:eb.wrap ((x% y:Nat):Int)=(x% y:Nat):=aK _ o_ o_;generalize j:x% y=r at*;simp[e,f,k,l];exact rd (y,r) ⟨d,by dsimp only;omega,by rw[<-c,<-j,le y,<-mj,le]⟩ (by dsimp only;omega)
theorem azf{B a b x y K:Nat}(c:2<=B)(d:a<B^x)(e:b<B^y)(f:B^x<=B^K)(g:B^y<=B^K):a+b<B^(K+1):=by
 rw[ip];have:=la (B^K) c;omega
theorem aze{a b K:Nat}(g:(aw bT a).length<=K)(h:(aw bT b).length<=K):(aw bT (a+b)).length<=K+1:=by
 have c:=cK bf a;have d:=cK bf b;have e:=h5 (show 0<bT by decide) g;have f:=h5 (show 0<bT by decide) h;exact et bf (K+1) (a+b) (azf bf c d e f)
theorem aBV(a b:Int)(l:(aw bT a.natAbs).length<=400000)(o:(aw bT b.natAbs).length<=400000):az prog 254 [eG a,eG b] (eG (a+b)):=by
 have m:=aAQ a.natAbs b.natAbs o_ o_;have k:=Mz a.natAbs b.natAbs o_ o_;have q:(aw bT (a.natAbs+b.natAbs)).length<=1048576:=by
  have r:=aze l o;omega
 refine aJ nf (i_ func254) mix (by simp[f254]) ?_
 by_cases hs:(a<0↔b<0)
 ·have t:(decide (a<0)==decide (b<0))=true:=by simp[hs]
  have d:=sj (decide (a<0)) (a.natAbs+b.natAbs) q;have f:(if decide (a<0)=true then -((a.natAbs+b.natAbs:Nat):Int)else((a.natAbs+b.natAbs:Nat):Int))=a+b:=by
   by_cases h:a<0
   ·have:=hs.1 h;simp[h];omega
   ·have:¬b<0:=fun c=>h (hs.2 c);simp[h];omega
  rw[f]at d;generalize a+b=s at*;generalize a.natAbs+b.natAbs=n at*;have g:(a<0↔b<0)=True:=eq_true hs;simp only[eG]at d⊢;simp[f254,g,aa];refine e2 m ?_;simp[aa];refine e2 d ?_;simp[aa]
 ·have g:(a<0↔b<0)=False:=eq_false hs
  by_cases p:b.natAbs<=a.natAbs
  ·have i:0<=gf a.natAbs b.natAbs:=by
    have:=qK (a:=a.natAbs) (b:=b.natAbs);omega
   have j:=QJ a.natAbs b.natAbs p o_;have d:=sj (decide (a<0)) (a.natAbs-b.natAbs) (by
    have:=et bf _ _ (h9 (ls a.natAbs b.natAbs) (cK bf a.natAbs));omega)
   have f:(if decide (a<0)=true then -((a.natAbs-b.natAbs:Nat):Int)else((a.natAbs-b.natAbs:Nat):Int))=a+b:=by
    by_cases h:a<0
    ·have:¬b<0:=fun c=>hs ⟨fun _=>c,fun _=>h⟩;simp[h];omega
    ·have:b<0:=by
      rcases gg b 0 with c|c
      ·exact c
      ·exact(hs ⟨fun e=>(h e).elim,fun e=>by omega⟩).elim
     simp[h];omega
   rw[f]at d;generalize a+b=s at*;generalize a.natAbs-b.natAbs=n at*;simp only[eG]at d⊢;simp[f254,g,aa];refine c2 k ?_;simp[i,aa];refine e2 j ?_;simp[aa];refine e2 d ?_;simp[aa]
  ·have i:¬0<=gf a.natAbs b.natAbs:=by
    have:=qK (a:=a.natAbs) (b:=b.natAbs);omega
   have j:=QJ b.natAbs a.natAbs o_ o_;have d:=sj (decide (b<0)) (b.natAbs-a.natAbs) (by
    have:=et bf _ _ (h9 (ls b.natAbs a.natAbs) (cK bf b.natAbs));omega)
   have f:(if decide (b<0)=true then -((b.natAbs-a.natAbs:Nat):Int)else((b.natAbs-a.natAbs:Nat):Int))=a+b:=by
    by_cases h:b<0
    ·have:¬a<0:=fun c=>hs ⟨fun _=>h,fun _=>c⟩;simp[h];omega
    ·have:a<0:=by
      rcases gg a 0 with c|c
      ·exact c
      ·exact(hs ⟨fun e=>by omega,fun e=>(h e).elim⟩).elim
     simp[h];omega
   rw[f]at d;generalize a+b=s at*;generalize b.natAbs-a.natAbs=n at*;simp only[eG]at d⊢;simp[f254,g,aa];refine c2 k ?_;simp[i,aa];refine e2 j ?_;simp[aa];refine e2 d ?_;simp[aa]
theorem QK(a:Int)(d:(aw bT a.natAbs).length<=400000):az prog 296 [eG a] (eG (-a)):=by
 have b:=sj (!decide (a<0)) a.natAbs o_;have c:(if(!decide (a<0))=true then -((a.natAbs:Nat):Int)else(a.natAbs:Nat))= -a:=by
  by_cases h:a<0
  ·simp[h];omega
  ·simp[h];omega
 rw[c]at b;refine aJ nf (i_ func296) mix (by simp[f296]) ?_;generalize -a=s at*;simp only[eG]at b⊢;simp[f296,aa];refine c2 b ?_;simp[aa]
theorem xV(a b:Int)(g:(aw bT a.natAbs).length+(aw bT b.natAbs).length<=1000000):az prog 255 [eG a,eG b] (eG (a*b)):=by
 have f:=F4 a.natAbs b.natAbs g;have j:(aw bT (a.natAbs*b.natAbs)).length<=1000000:=by
  have c:=cK bf a.natAbs;have d:=cK bf b.natAbs;have i:=et bf ((aw bT a.natAbs).length+(aw bT b.natAbs).length) (a.natAbs*b.natAbs) (by rw[j2];exact j8 c d);omega
 have e:=sj ((!(decide (a<0)==decide (b<0)))) (a.natAbs*b.natAbs) o_;have h:(if(!(decide (a<0)==decide (b<0)))=true then -((a.natAbs*b.natAbs:Nat):Int)else((a.natAbs*b.natAbs:Nat):Int))=a*b:=by
  by_cases c:a<0<;>by_cases d:b<0
  ·simp[c,d];rw[en (fb c),en (fb d),Int.neg_mul_neg]
  ·simp[c,d];rw[en (fb c),e6 o_,gl,gj]
  ·simp[c,d];rw[en (fb d),e6 o_,gm,gj]
  ·simp[c,d];rw[e6 o_,e6 o_]
 rw[h]at e;refine aJ nf (i_ func255) mix (by simp[f255]) ?_;generalize a*b=s at*;generalize a.natAbs*b.natAbs=n at*;generalize hx:(!(decide (a<0)==decide (b<0)))=x at*;simp only[eG]at e⊢;simp[f255,aa];refine e2 f ?_;simp[hx,aa];refine e2 e ?_;simp[aa]
theorem atL:∀d:Nat,d<10->hV d (g0 (d+1) [48,49,50,51,52,53,54,55,56,57])=[48+d]:=by decide
theorem An(n a:Nat)(E:n<9223372036854775808)(hl:a<=1000):az prog 283 [.int .i64 n,.int .i64 a] (.str (low (max a (nd n)) n)):=by
 have K:nd n<=19:=tF (i8 E (by decide));refine aJ nf (i_ func283) mix (by simp[f283]) ?_;obtain⟨L,e⟩:∃L,L=max a (nd n):=⟨_,rfl⟩
 rw[<-e];obtain⟨g,b⟩:∃g:Nat->Nat,∀i,n/10^i=g i:=⟨_,fun _=>rfl⟩
 have B:g 0=n:=by rw[<-b,i9,j3]
 simp[f283];refine lp (α:=Nat) (fun i=>⟨[(0,.p (.int .i64 (g i:Nat))),(5,.p (.str (low i n))),(1,.p (.int .i64 a))],[]⟩)
  (fun i=>i<=L) (fun i=>L-i) 0 (j4 _) ?_ (he:=by simp[low,B])
 intro i hi;have q:low (i+1) n=(48+g i% 10)::low i n:=by
  rw[j9,sQ,b,uN];rfl
 have hq:g (i+1)=g i/10:=by rw[<-b,<-b,ip,i1]
 have M:g i<=n:=by rw[<-b];exact kd _ _
 have F:0<g i↔i<nd n:=by
  rw[<-b,n8,Nat.div_pos_iff];have:=i3 (n:=i) (show 0<10 by decide);omega
 have l:=sP n i;have j:=atL (g i% 10) (i5 _ (by decide));have f:i<L↔0<g i\/i<a:=by rw[F,e];omega
 have G:=i5 (g i) (show 0<10 by decide);have r:(g i:Int).tmod 10=(g i% 10:Nat):=by rw[ei (ee _),eq];rfl
 have t:(g i:Int).tdiv 10=(g (i+1):Nat):=by rw[hq,ej (ee _),ew (g i)];rfl
 have H:L<=1000:=by rw[e];omega
 generalize g i% 10=d at*;have m:hV d (48::g0 d [49,50,51,52,53,54,55,56,57])=[48+d]:=j;generalize N:g i=z at*;generalize y:g (i+1)=A at*;generalize hs:low i n=s at*;have x:eb.wrap (A:Int)=A:=aK _ o_ o_;have v:eb.wrap (d:Int)=d:=aK _ o_ o_;have w:eb.wrap ((d:Int)+1)=d+1:=aK _ o_ o_;have u:((d:Int)+1).toNat=d+1:=o_
 have J:min (d+1) 10-d+i<9223372036854775808:=o_
 have I:(0:Int)<=d+1/\(d:Int)+1<=10/\(d:Int)<=max (d+1) 0:=o_
 by_cases k:i<L
 ·by_cases c:0<z
  ·simp[c,r,t,x,v,w,u,j,l];refine⟨o_,o_,?_⟩;exact rd (i+1) (show i+1<=L by omega) (he:=by simp[y,q,m])
  ·have o:i<a:=by rcases f.1 k with h|h;exact(c h).elim;exact h
   simp[c,o,r,t,x,v,w,u,j,l];refine⟨o_,o_,?_⟩;exact rd (i+1) (show i+1<=L by omega) (he:=by simp[y,q,m])
 ·have c:¬0<z:=fun h=>k (f.2 (.inl h));have o:¬i<a:=fun h=>k (f.2 (.inr h));have C:s=low L n:=by rw[<-hs];congr 1;omega
  have D:¬L<a:=o_
  simp[c,D,l,C,sP]
theorem auU{n i:Nat}(h:bT^(i+1)<=n):bc (n/bT^i)=bc (n/bT^(i+1))++low 9 (ae bT n i):=by
 have c:0<bT^i:=i3 (by decide);have b:10^9<=n/bT^i:=by
  rw[lz c,h7];rw[ip]at h;exact h
 have a:=avM b;have e1:n/bT^i/10^9=n/bT^(i+1):=by rw[i1,ip];rfl
 have e2:n/bT^i% 10^9=ae bT n i:=rfl;rw[e1,e2]at a;have d:0<n/bT^i:=h6 (by decide) b;have e:0<n/bT^(i+1):=j7 h (i3 (by decide));rw[bc,bc,show max 1 (nd (n/bT^i))=nd (n/bT^i)by have:=yB d;omega,show max 1 (nd (n/bT^(i+1)))=nd (n/bT^(i+1))by have:=yB e;omega,a]
theorem Fv(z:Int)(hl:(aw bT z.natAbs).length<=1000000):az prog 232 [eG z] (.str (bW z)):=by
 refine aJ nf (i_ func232) mix (by simp[f232]) ?_
 by_cases F:z=0
 ·subst F;have v:bW 0=[48]:=by rw[show(0:Int)=((0:Nat):Int)from rfl,xo,nP]
  simp[f232,eG,eT,BZ,aa,v]
 obtain⟨n,f⟩:∃n,z.natAbs=n:=⟨_,rfl⟩
 have M:0<n:=o_
 have L:0<(aw bT n).length:=by
  rw[gx,Ne,xE];omega
 obtain⟨k,hk⟩:∃k,(aw bT n).length=k+1:=⟨(aw bT n).length-1,o_⟩
 have g:=cK bf n;rw[hk]at g;have q:bT^k<=n:=by
  rcases ii n (bT^k)with h|h
  ·have:=et bf k n h;omega
  ·exact h
 have m:∀i(h:i<(aw bT n).length),(aw bT n)[i]=ae bT n i:=fun i h=>eU bf h;have r:n/bT^k=ae bT n k:=by
  rw[ae,iz];rw[ix (i3 (by decide)),h7,<-ip];exact g
 have O:0<ae bT n k:=by rw[<-r];exact j7 q (i3 (by decide))
 have c:=An (ae bT n k) 1 (i8 (cN bf n k) (by decide)) (by decide);rw[show low (max 1 (nd (ae bT n k))) (ae bT n k)=bc (n/bT^k)by rw[r];rfl]at c;have w:∀i,az prog 283 [.int .i64 (ae bT n i:Nat),.int .i64 (9:Nat)] (.str (low 9 (ae bT n i))):=fun i=>by
  have h:=An (ae bT n i) 9 (i8 (cN bf n i) (by decide)) (by decide);have J:nd (ae bT n i)<=9:=tF (cN bf n i)
  rwa [show max 9 (nd (ae bT n i))=9 by omega]at h
 have a:bc (n/bT^0)=bc n:=by rw[i9,j3]
 have iM:∀i,i+1<=k->bc (n/bT^i)=bc (n/bT^(i+1))++low 9 (ae bT n i):=fun i hi=>auU (h8 (h5 (by decide) hi) q);have K:k<=1000000:=by rw[f]at hl;omega
 have C:bW z=if z<0 then 45::bc n else bc n:=by rw[bW,f]
 have N:ae bT n k<bT:=cN bf n k;have B:∀i,ae bT n i<bT:=fun i=>cN bf n i;obtain⟨T,j⟩:∃T:Nat->List Nat,∀i,bc (n/bT^i)=T i:=⟨_,fun _=>rfl⟩
 have l:∀i,(T i).length<=9000000+9:=fun i=>by
  rw[<-j];refine h8 (xn (k:=9*(k+1)) ?_ o_) o_;rw[kw];exact h9 (kd _ _) g
 simp only[j]at c a iM;rw[C];simp only[eG,f,eT,<-a];generalize hx:aw bT n=x at*;have G:eb.wrap ((k:Int)+1-1)=k:=by rw[Int.add_sub_cancel];exact aK _ o_ o_
 have H:eb.wrap (k:Int)=k:=aK _ o_ o_;have u:eb.wrap ((k:Int)+1-2)=(k:Int)-1:=by rw[aK _ o_ o_];omega
 have A:¬(k:Int)+1=0:=o_
 have e:k<x.length:=o_
 have t:=m k e;have E:x[k]?=some (ae bT n k):=by rw[gp e,t]
 simp[f232,aa,hk,A,G,H,u,e,t,E];refine c2 c ?_;simp[aa,hk,u];refine lp (α:=Nat) (fun i=>⟨[(4,.p (.int .i64 ((i:Int)-1))),(3,.p (.str (T i))),(1,.ptr 0 [])],[.box false (.p (.st 290 [.bool (decide (z<0)),.seq (x.map fun x:Nat=>.int .i64 x)]))]⟩)
  (fun i=>i<=k) (fun i=>i) k (i0 _) ?_
 rintro i hi;have P:=B i;rcases i with _|i
 ·by_cases o:z<0
  ·have b:=h9 (l0 (l 0) 1) (show 9000000+9+1<9223372036854775808 by decide);rw[a,j9]at b;simp[o,aa,a,b]
  ·simp[o,aa,a]
 ·have d:i<x.length:=by omega
  have s:=m i d;have D:x[i]?=some (ae bT n i):=by rw[gp d,s]
  have y:¬(i:Int)<0:=o_
  have I:eb.wrap ((i:Int)-1)=(i:Int)-1:=aK _ o_ o_;have b:=h9 (l0 (l (i+1)) 9) (show 9000000+9+9<9223372036854775808 by decide);have aN:=iM i hi;simp[y,aa,d,s,D];refine c2 (w i) ?_;simp[I,sP];refine⟨b,?_⟩;exact rd i (show i<=k by omega) (he:=by simp[aN])
theorem Z6{s:List Nat}{i:Nat}(h:i<s.length):bd (s.take (i+1))=bd (s.take i)*10+(s[i]-48):=by
 rw[g7 h,Ar]
theorem xG{s:List Nat}{p:Nat->Bool}(h:s.all p=true)(i:Nat):(s.take i).all p=true:=by
 rw[gN]at h⊢;intro x hx;exact h x (List.mem_of_mem_take hx)
theorem Ps{s:List Nat}{p:Nat->Bool}(h:s.all p=true)(i:Nat):(s.drop i).all p=true:=by
 rw[gN]at h⊢;intro x hx;exact h x (List.mem_of_mem_drop hx)
theorem Bf{c:Nat}(h:cH c=true):48<=c/\c<=57:=by
 simpa[cH]using h
theorem A4(s:List Nat)(e:s.all cH=true)(hl:s.length<=18):az prog 294 [.str s] (.int .i64 (bd s:Nat)):=by
 refine aJ nf (i_ func294) mix (by simp[f294]) ?_;obtain⟨L,g⟩:∃L,L=s.length:=⟨_,rfl⟩
 have k:bd (s.take L)=bd s:=by rw[g,hS]
 rw[<-k];obtain⟨v,b⟩:∃v:Nat->Nat,∀i,bd (s.take i)=v i:=⟨_,fun _=>rfl⟩
 have o:v 0=0:=by rw[<-b];rfl
 have q:∀i(h:i<s.length),v (i+1)=v i*10+(s[i]-48):=fun i h=>by rw[<-b,<-b,Z6 h]
 have f:∀i,i<=L->v i<10^i:=fun i hi=>by
  rw[<-b];exact jZ i _ (by rw[g3];omega) (xG e i)
 rw[b];simp[f294];refine lp (α:=Nat) (fun i=>⟨[(4,.p (.int .i64 i)),(3,.p (.int .i64 (v i:Nat))),(0,.p (.str s))],[]⟩)
  (fun i=>i<=L) (fun i=>L-i) 0 (j4 _) ?_ (he:=by simp[o])
 intro i hi
 by_cases m:i<L
 ·have a:i<s.length:=by omega
  have j:=f i hi;have A:=f (i+1) m;have hc:=Bf (gN.1 e s[i] (g4 a));have hs:=q i a;have n:10^i<=10^17:=h5 (by decide) o_;have z:v i<100000000000000000:=h6 j (by exact n);generalize d:s[i]=c at*;generalize B:v i=x at*;have r:eb.wrap (10*(x:Int))=10*(x:Int):=aK _ o_ o_;have t:eb.wrap (10*(x:Int)+c)=10*(x:Int)+c:=aK _ o_ o_;have u:eb.wrap (10*(x:Int)+c-48)=(v (i+1):Nat):=by rw[hs,aK _ o_ o_];omega
  have w:eb.wrap ((i:Int)+1)=(i:Int)+1:=aK _ o_ o_;have y:eb.wrap (c:Int)=c:=aK _ o_ o_;have l:s[i]?=some c:=by rw[gp a,d]
  simp[a,d,l,r,t,u,w,y];exact rd (i+1) (show i+1<=L by omega)
 ·have a:¬i<s.length:=by omega
  have:i=L:=o_
  subst this;simp[a]
theorem Qf(c:Nat):∀s:List Nat,c∉(cz c s).1
 |[]=>by simp[cz]
 |x::r=>by
  rw[cz]
  split
  ·simp
  ·rename_i h;simp only[ho,not_or];exact⟨fun e=>h e.symm,Qf c r⟩
theorem xW(s:List Nat)(hl:s.length<=1048576):az prog 227 [.str s] (.int .i64 ((cz 47 s).1.length:Nat)):=by
 refine aJ nf (i_ func227) mix (by simp[f227]) ?_;obtain⟨k,hk⟩:∃k,(cz 47 s).1.length=k:=⟨_,rfl⟩
 have t:=Qf 47 s;have w:k<=s.length:=by rw[<-hk];exact(qz 47 s).1
 have n:∀j(h:j<s.length),j<k->¬s[j]=47:=by
  intro j h v e;apply t;rcases qJ 47 s with⟨_,b⟩|⟨_,b,_⟩
  ·have:s[j]=(cz 47 s).1[j]' o_:=by
    conv=>lhs;rw[hR b]
    rw[List.getElem_append_left]
   have d:(cz 47 s).1[j]' o_∈(cz 47 s).1:=g4 _;rw[<-this,e]at d;exact d
  ·rw[b];have d:s[j]∈s:=g4 _
   rwa [e]at d
 have b:∀(h:k<s.length),s[k]=47:=by
  intro h;rcases qJ 47 s with⟨_,g⟩|⟨_,g,_⟩
  ·rw[hR g,List.getElem_append_right o_];simp[hk]
  ·rw[g]at hk;omega
 rw[hk];simp[f227];refine lp (α:=Nat) (fun i=>⟨[(3,.p (.int .i64 i)),(0,.p (.str s))],[]⟩)
  (fun i=>i<=k) (fun i=>k-i) 0 (j4 _) ?_
 intro i hi;have u:eb.wrap ((i:Int)+1)=(i:Int)+1:=aK _ o_ o_
 by_cases q:i<k
 ·have a:i<s.length:=by omega
  have f:=n i a q;generalize m:s[i]=c at*;have l:s[i]?=some c:=by rw[gp a,m]
  have o:¬(c:Int)=47:=o_
  simp[a,m,l,o,f,u];exact rd (i+1) (show i+1<=k by omega)
 ·have r:i=k:=by omega
  subst r
  by_cases a:i<s.length
  ·have f:=b a;have l:s[i]?=some 47:=by rw[gp a,f]
   simp[a,f,l]
  ·have:i=s.length:=by omega
   simp[a,this]
theorem QH(n:Int)(M:-9223372036854775808<=n)(O:n<=9223372036854775807):az prog 233 [.int .i64 n] (eG n):=by
 refine aJ nf (i_ func233) mix (by simp[f233]) ?_;obtain⟨N,P⟩:∃N,n.natAbs=N:=⟨_,rfl⟩
 have D:N<bT^3:=by
  have:bT^3=1000000000000000000000000000:=by decide
  omega
 obtain⟨g,a⟩:∃g:Nat->Nat,∀i,N/bT^i=g i:=⟨_,fun _=>rfl⟩
 have F:g 0=N:=by rw[<-a,i9,j3]
 have H:∀i,g (i+1)=g i/bT:=fun i=>by rw[<-a,<-a,i1,ip]
 have A:∀i,ae bT N i=g i% bT:=fun i=>by rw[<-a];rfl
 have G:g 3=0:=by rw[<-a,i7 D]
 have k:∀i,g i<=N:=fun i=>by rw[<-a];exact kd _ _
 have y:∀i,i<=3->g i=0->az prog 284 [.bool (decide (n<0)),.seq (iP (row bT i N))] (eG n):=fun i I hi=>by
  have h:=EK (decide (n<0)) (row bT i N) N (kf bf (by
   rw[<-a]at hi;rcases ii N (bT^i)with h|h
   ·exact h
   ·have:=j7 h (i3 (show 0<bT by decide));omega)) (by simp[row];omega)
  have e:(if decide (n<0)=true then -(N:Int)else N)=n:=by
   by_cases c:n<0
   ·simp[c];omega
   ·simp[c];omega
  rwa [e]at h
 obtain⟨m,f⟩:∃m:Nat->Int,∀i,(if n<0 then -(g i:Int)else g i)=m i:=⟨_,fun _=>rfl⟩
 have J:m 0=n:=by rw[<-f,F];split<;>omega
 simp only[eG]at y⊢;simp[f233];refine lp (α:=Nat) (fun i=>⟨[(0,.p (.int .i64 (m i))),(2,.ptr 0 []),(3,.sl 1 i 1 0 i),(4,.p (.bool (decide (n<0))))],[.box false (.p (.st 290 [.bool false,.aH])),.arr .grow i 1 (eL i N)]⟩)
  (fun i=>i<=3) (fun i=>3-i) 0 (j4 _) ?_ (he:=by simp[J,eL]) (hh:=by simp[eL])
 intro i hi;have Q:bT=1000000000:=rfl;have L:=i5 (g i) (show 0<bT by decide);have R:=k i;have E:=i4 (g i) bT;have u:g i% bT=ae bT N i:=(A i).symm
 by_cases d:g i=0
 ·have b:m i=0:=by rw[<-f,d];split<;>rfl
  have hs:=y i hi d;rcases i with _|i
  ·simp[b];refine cp hs (by simp[eL];first|exact⟨rfl,rfl⟩|rfl) ?_ (h1:=by simp[iP,row]);simp[aa]
  ·have j:¬eL (i+1) N=[]:=by intro h;have:=congrArg hB h;rw[jf]at this;simp at this
   simp[b];refine cp hs (by simp[jf,PB,j];first|exact⟨rfl,rfl⟩|rfl) ?_ (h1:=by simp[iP,row,g9,gt]);simp[aa]
 ·have I:i<3:=by
   rcases ii i 3 with h|h
   ·exact h
   ·rw[show i=3 by omega]at d;exact(d G).elim
  have z:=H i;have K:=A i;have l:=sA i N;have x:g0 i (eL i N)=eL i N:=gt (by rw[jf];exact i0 _);rw[K]at l;obtain⟨r,B⟩:∃r,g i% bT=r:=⟨_,rfl⟩
  rw[B]at l L E;have u:=B.symm
  by_cases c:n<0
  ·have b:m i= -(g i:Int):=by rw[<-f,if_pos c]
   have o:m (i+1)= -(g (i+1):Int):=by rw[<-f,if_pos c]
   have j:¬(g i:Int)=0:=o_
   have s:((g i:Nat):Int).tmod 1000000000=r:=by rw[u,ei (ee _),eq];rfl
   have q:((g i:Nat):Int).tdiv 1000000000=(g (i+1):Nat):=by rw[z,ej (ee _),ew (g i)];rfl
   have wr:eb.wrap (r:Int)=r:=aK _ o_ o_;have C:eb.wrap (-(r:Int))= -r:=aK _ o_ o_;have t:eb.wrap (-(g (i+1):Int))= -(g (i+1):Nat):=aK _ (by have:=k (i+1);omega) (by have:=k (i+1);omega)
   by_cases v:r=0
   ·simp[b,d,j,s,q,wr,C,t,v,x,jf];refine⟨by simp only[cJ];omega,?_⟩;exact rd (i+1) (show i+1<=3 by omega) (he:=by simp[o]) (hh:=by simp[l,v])
   ·have w:0<r:=by omega
    simp[b,d,j,s,q,wr,C,t,v,w,x,jf];refine⟨by simp only[cJ];omega,?_⟩;exact rd (i+1) (show i+1<=3 by omega) (he:=by simp[o]) (hh:=by simp[l])
  ·have b:m i=(g i:Int):=by rw[<-f,if_neg c]
   have o:m (i+1)=(g (i+1):Int):=by rw[<-f,if_neg c]
   have j:¬(g i:Int)=0:=o_
   have s:((g i:Nat):Int).tmod 1000000000=r:=by rw[u,ei (ee _),eq];rfl
   have q:((g i:Nat):Int).tdiv 1000000000=(g (i+1):Nat):=by rw[z,ej (ee _),ew (g i)];rfl
   have wr:eb.wrap (r:Int)=r:=aK _ o_ o_;have t:eb.wrap (g (i+1):Int)=(g (i+1):Nat):=aK _ (by have:=k (i+1);omega) (by have:=k (i+1);omega);have w:¬(r:Int)<0:=o_
   simp[b,d,j,s,q,wr,t,w,x,jf];refine⟨by simp only[cJ];omega,?_⟩;exact rd (i+1) (show i+1<=3 by omega) (he:=by simp[o]) (hh:=by simp[l])
theorem MC{d:List Nat}(b:d.all cH=true){L i:Nat}(c:L=d.length)(h:9*(i+1)<=L):
 bd (d.take (L-9*(i+1)))=bd (d.take (L-9*i))/10^9/\bd ((d.take (L-9*i)).drop (L-9*(i+1)))=bd (d.take (L-9*i))% 10^9:=by
 have e:=hb (L-9*(i+1)) (d.take (L-9*i));rw[hE,lm o_]at e;have a:=Oh (d.take (L-9*(i+1))) ((d.take (L-9*i)).drop (L-9*(i+1)));rw[e]at a;have hl:((d.take (L-9*i)).drop (L-9*(i+1))).length=9:=by rw[hp,g3];omega
 rw[hl]at a;have f:=jZ 9 _ hl (Ps (xG b _) _);generalize bd ((d.take (L-9*i)).drop (L-9*(i+1)))=y at*;generalize bd (d.take (L-9*(i+1)))=x at*;rw[a];omega
theorem EL(s:List Nat)(k:(dh s).all cH=true)(hl:s.length<=1000000):az prog 281 [.str s] (eG (if cq s=true then -(bd (dh s):Int)else bd (dh s))):=by
 refine aJ nf (i_ func281) mix (by simp[f281]) ?_;obtain⟨d,v⟩:∃d,dh s=d:=⟨_,rfl⟩
 obtain⟨neg,f⟩:∃neg,cq s=neg:=⟨_,rfl⟩
 obtain⟨N,F⟩:∃N,bd d=N:=⟨_,rfl⟩
 have ag:d.length<=1000000:=by rw[<-v];exact h8 (qq s).1 hl
 rw[v]at k⊢;rw[f,F];have ah:=hl;simp[f281,-bB];rw[bB];simp[-bB];refine join (fun st=>aS st.env 0=.p (.str s)/\aS st.env 2=.ptr 0 []/\aS st.env 3=.p (.bool neg)/\st.heap=[.box false (.p (.st 290 [.bool false,.aH]))]) ?_ ?_
 ·cases s with
  |nil=>simp[<-f,cq]
  |cons c r=>
   by_cases hc:c=45
   ·simp[<-f,cq,hc]
   ·have S:¬(c:Int)=45:=by omega
    simp[<-f,cq,hc,S]
 rintro⟨R,T⟩ ⟨a,b,e,n⟩;dsimp only at a b e n;subst n;refine join (fun st=>aS st.env 0=.p (.str d)/\aS st.env 2=.ptr 0 []/\aS st.env 3=.p (.bool neg)/\st.heap=[.box false (.p (.st 290 [.bool false,.aH]))]) ?_ ?_
 ·cases neg with
  |false=>
   have D:s=d:=by rw[<-v,dh,f];rfl
   simp[a,b,e,D]
  |true=>
   cases s with
   |nil=>simp[cq]at f
   |cons c r=>
    have D:r=d:=by rw[<-v,dh,f];rfl
    simp[a,b,e,D]
 clear a b e;rintro⟨R,T⟩ ⟨a,b,e,n⟩;dsimp only at a b e n;subst n;obtain⟨L,u⟩:∃L,L=d.length:=⟨_,rfl⟩
 obtain⟨g,l⟩:∃g:Nat->Nat,∀i,N/bT^i=g i:=⟨_,fun _=>rfl⟩
 have B:∀i,9*i<=L->bd (d.take (L-9*i))=g i:=by
  intro i
  induction i with
  |zero=>intro _;rw[l4,Nat.sub_zero,u,hS,F,<-l,i9,j3]
  |succ i ac=>
   intro h;rw[(MC k u h).1,ac o_,<-l,<-l,i1,ip];rfl
 have U:∀i,9*(i+1)<=L->bd ((d.take (L-9*i)).drop (L-9*(i+1)))=ae bT N i:=fun i h=>by
  rw[(MC k u h).2,B i o_,<-l];rfl
 have ab:∀i,9*(i+1)<=L->az prog 294 [.str ((d.take (L-9*i)).drop (L-9*(i+1)))] (.int .i64 (ae bT N i:Nat)):=fun i h=>by
  rw[<-U i h];exact A4 _ (Ps (xG k _) _) (by rw[hp,g3];omega)
 have I:∀i,9*i<=L->L<=9*i+9->g i=ae bT N i/\N<bT^(i+1):=fun i j q=>by
  have H:=jZ _ (d.take (L-9*i)) rfl (xG k _);rw[B i j]at H;have y:g i<bT:=h6 H (by
   rw[show bT=10^9 from rfl];exact h5 (by decide) (by rw[g3];omega))
  refine⟨by rw[ae,l,iz y],?_⟩;rw[<-l,ix (i3 (by decide))]at y;rw[ip,h7];exact y
 have V:∀i,9*i<=L->L<=9*i+9->az prog 294 [.str (d.take (L-9*i))] (.int .i64 (ae bT N i:Nat)):=fun i j q=>by
  rw[<-(I i j q).1,<-B i j];exact A4 _ (xG k _) (by rw[g3];omega)
 have G:∀i,9*i<=L->L<=9*i+9->az prog 284 [.bool neg,.seq (iP (row bT (i+1) N))] (eG (if neg=true then -(N:Int)else N)):=fun i j q=>
  EK neg (row bT (i+1) N) N (kf bf (I i j q).2) (by simp[row];omega)
 generalize (if neg=true then -(N:Int)else N)=z at*;simp only[eG]at G⊢;rw[bB];simp[a,b,e,-bB];rw[bB];simp[a,b,e];refine lp (α:=Nat) (fun i=>⟨[(0,.p (.str (d.take (L-9*i)))),(2,.ptr 0 []),(3,.p (.bool neg)),(4,.sl 1 i 1 0 i)],[.box false (.p (.st 290 [.bool false,.aH])),.arr .grow i 1 (eL i N)]⟩)
  (fun i=>9*i<=L) (fun i=>L-i) 0 (j4 _) ?_ (he:=by simp[a,b,e,eL,u]) (hh:=by simp[eL])
 intro i hi;have x:(d.take (L-9*i)).length=L-9*i:=by rw[g3];omega
 have o:=ab i;have w:=V i hi;have E:(d.take (L-9*i)).take (L-9*(i+1))=d.take (L-9*(i+1)):=by rw[hE,lm o_]
 rw[show L-9*(i+1)=L-9*i-9 by omega]at o E;obtain⟨m,C⟩:∃m,m=L-9*i:=⟨_,rfl⟩
 rw[<-C]at x o w E;have M:=sA i N;have O:g0 i (eL i N)=eL i N:=gt (by rw[jf];exact i0 _);have J:i+1<=cJ:=by simp only[cJ];omega
 by_cases ad:9<m
 ·have o:=o o_;have P:eb.wrap ((m:Int)-9)=(m:Int)-9:=aK _ o_ o_;have Q:((m:Int)-9).toNat=m-9:=by omega
  have K:(9:Int)<=m:=o_
  have Y:9*(i+1)<=L:=o_
  rw[<-C];generalize af:g0 m d=t at*;have Z:g0 m t=t:=gt o_;have A:(9:Int)<m:=o_
  have W:m-9=L-9*(i+1):=o_
  simp[x,A,P,Q,K,Z];refine c1 o ?_;simp[O,jf,J,<-M,x,P,Q,K,E];exact rd (i+1) Y (he:=by simp[W])
 ·have w:=w o_;have hs:=G i hi o_;rw[<-C];generalize g0 m d=t at*;have A:¬(9:Int)<m:=by omega
  simp[x,A];refine c1 w ?_;simp[O,jf,J,<-M];have X:¬eL (i+1) N=[]:=by intro h;have:=congrArg hB h;rw[jf]at this;simp at this
  refine cp hs (by simp[jf,PB,X];first|exact⟨rfl,rfl⟩|rfl) ?_ (h1:=by simp[iP,row,g9,gt]);simp[aa]
def kV(s:List Nat):Int:=if cq s=true then -(bd (bM s):Int)else bd (bM s)
def jh(s:List Nat):Nat:=if eK s=true then bd (b6 s)else 1
theorem O1(s:List Nat)(q:(bM s).all cH=true)(l:(b6 s).all cH=true)(hl:s.length<=1000000):az prog 229 [.str s] (.aD [eG (kV s),eG (jh s:Nat)]):=by
 refine aJ nf (i_ func229) mix (by simp[f229]) ?_;have e:=xW s o_;obtain⟨K,f,h,D⟩:=N6 s;have I:=qz 47 s;have C:=QH 1 (by decide) (by decide);rcases qJ 47 s with⟨q1,b⟩|⟨q1,b,M⟩
 ·have a:=EL (cz 47 s).1 (by rw[f];exact q) o_;rw[K,f]at a;have d:=EL (cz 47 s).2.1 (by
   rw[h];rw[gN]at l⊢;intro x hx;exact l x ((qq _).2 x hx)) o_
  have J:cq (b6 s)=false:=by
   rw[cq];cases g:b6 s with
   |nil=>simp
   |cons c r=>
    have:=Bf (gN.1 l c (by rw[g];simp));simp;omega
  rw[h,dh,J]at d;have m:eK s=true:=by rw[<-D];exact q1
  have pL:kV s=if cq s=true then -(bd (bM s):Int)else bd (bM s):=rfl
  have j:jh s=bd (b6 s):=by rw[jh,if_pos m]
  rw[<-pL]at a;simp only[dp,if_false]at d;rw[<-j]at d;generalize L:kV s=z at*;generalize jh s=dn at*;obtain⟨i,o⟩:∃i,(cz 47 s).1=i:=⟨_,rfl⟩
  obtain⟨E,p⟩:∃E,(cz 47 s).2.1=E:=⟨_,rfl⟩
  rw[o,p]at b;rw[o]at e a;rw[p]at h;obtain⟨k,n⟩:∃k,i.length=k:=⟨_,rfl⟩
  rw[n]at e;have hk:k<s.length:=by rw[b];simp;omega
  have B:s.take k=i:=by rw[b,<-n];simp
  have g:s.drop (k+1)=b6 s:=by
   rw[<-h]
   conv=>lhs;rw[b,<-n]
   simp
  clear I b o p;have G:eb.wrap ((k:Int)+1)=(k:Int)+1:=aK _ o_ o_;have F:((k:Int)+1).toNat=k+1:=o_
  have y:¬(k:Int)=s.length:=o_
  have u:k+1<=s.length:=hk;have w:k<=s.length:=o_
  have t:(0:Int)<=k+1:=o_
  have v:(k:Int)+1<=s.length:=o_
  simp only[eG]at a d⊢;simp[f229];refine c1 e ?_;simp[y,G,F,B,g,u,w,t,v];refine e1 a ?_;simp[y,G,F,B,g,u,w,t,v];refine e1 d ?_;simp[aa]
 ·have a:=EL s (by
   have A:=f;rw[b]at A;rw[A];exact q) hl
  have m:eK s=false:=by rw[<-D];exact q1
  have H:dh s=bM s:=by rw[b]at f;exact f
  have pL:kV s=if cq s=true then -(bd (bM s):Int)else bd (bM s):=rfl
  have j:jh s=1:=by rw[jh,m];rfl
  rw[H,<-pL]at a;rw[j];rw[b]at e;generalize kV s=z at*;simp only[eG]at a C⊢;simp[f229];refine c1 e ?_;simp;refine c1 a ?_;simp;refine c1 C ?_;simp[aa]
theorem MD(n:Nat):(bc n).length<=9*(aw bT n).length+1:=by
 rcases l3 n with h|h
 ·subst h;rw[nP];simp
 ·have hl:0<(aw bT n).length:=by rw[gx,Ne,xE];omega
  have a:=cK bf n;rw[show bT^(aw bT n).length=10^(9*(aw bT n).length)by rw[kw];rfl]at a;exact h8 (xn a o_) o_
def kq(n d:Int):Rat:=ms n d
theorem Mo(n g:Nat):(aw bT (n/g)).length<=(aw bT n).length:=
 et bf _ _ (h9 (kd n g) (cK bf n))
theorem Zr(n d:Nat)(a:0<d):(aw bT (jp n d)).length<=(aw bT d).length:=
 et bf _ _ (h9 (kC n a) (cK bf d))
theorem LH(n d:Int)(L:d≠0)(s:(aw bT n.natAbs).length<=400000)(j:(aw bT d.natAbs).length<=400000):az prog 253 [eG n,eG d] (.str (bg (kq n d))):=by
 refine aJ nf (i_ func253) mix (by simp[f253]) ?_;simp[f253,-bB,aa];rw[bB];simp[-bB,aa];refine join (fun st=>∃(e:Int)(d':Nat),0<d'/\(aw bT e.natAbs).length<=400000/\(aw bT d').length<=400000/\kq e d'=kq n d/\aS st.env 2=.ptr 0 []/\aS st.env 3=.ptr 1 []/\st.heap=[.box false (.p (eG e)),.box false (.p (eG (d':Nat)))]) ?_ ?_
 ·have P:=QK n s;have O:=QK d j
  by_cases h:d<0
  ·simp[h,aa];refine e1 P ?_;simp[aa];refine e1 O ?_;simp[aa];refine⟨by repeat' first|rfl|apply And.intro,?_⟩;refine⟨-n,d.natAbs,o_,by rw[fd];exact s,j,?_,rfl,?_⟩
   ·rw[en o_];exact m5 _ _
   ·rw[en o_]
  ·have A:((d.natAbs:Nat):Int)=d:=e6 o_;simp[h,aa];exact⟨n,d.natAbs,o_,s,j,by rw[A],rfl,by rw[A]⟩
 rintro⟨T,U⟩ ⟨e,d',k1,k2,k3,k4,l,m,D⟩;dsimp only at l m D;subst D;rw[<-k4,show kq e d'=ms e d' from rfl];clear k4 s j L;obtain⟨u,v⟩:=mK (n:=e) (show d'≠0 by omega);obtain⟨g,k⟩:∃g,jp e.natAbs d'=g:=⟨_,rfl⟩
 have r:0<g:=by rw[<-k];exact kb _ k1
 have B:(aw bT g).length<=400000:=by rw[<-k];exact h8 (Zr _ _ k1) k3
 rw[k]at u v;have y:=OE e.natAbs d' k2 k3;rw[k]at y;have I:=F5 e.natAbs g r k2 B;have J:=F5 d' g r k3 B;have Y:(aw bT (e.natAbs/g)).length<=400000:=h8 (Mo _ _) k2;have Z:(aw bT (d'/g)).length<=400000:=h8 (Mo _ _) k3;have w:=sj (decide (e<0)) (e.natAbs/g) o_;have f:=sj false (d'/g) o_;have t:(if decide (e<0)=true then -((e.natAbs/g:Nat):Int)else((e.natAbs/g:Nat):Int))=(ms e d').num:=by
  rw[u];have M:(g:Int)∣e:=by rw[<-k];exact e9.2 (kN _ _)
  obtain⟨c,hc⟩:=M;have N:(g:Int)≠0:=o_
  rw[hc,e8 _ N,e7,ed,Nat.mul_div_cancel_left _ r]
  by_cases K:c<0
  ·have:(g:Int)*c<0:=fm o_ K;simp[this];omega
  ·have:¬(g:Int)*c<0:=by
    have:=fl (a:=(g:Int)) (b:=c) o_ o_;omega
   simp[this];omega
 rw[t]at w;simp only[dp,if_false]at f;have z:=Fv (ms e d').num (by
  rw[<-t];split
  ·rw[fd,ed];omega
  ·rw[ed];omega)
 have i:=Fv ((d'/g:Nat):Int) (by rw[ed];omega);rw[xo]at i;have Q:0<d'/g:=by
  refine j7 ?_ r;rw[<-k];exact kC _ k1
 have V:(bW (ms e d').num).length<=3600002:=by
  refine h8 (E8 _) ?_;have h:=MD (ms e d').num.natAbs;have:(ms e d').num.natAbs=e.natAbs/g:=by
   rw[<-t];split
   ·rw[fd,ed]
   ·rw[ed]
  rw[this]at h⊢;omega
 have W:(bc (d'/g)).length<=3600001:=by
  have h:=MD (d'/g);omega
 have F:bg (ms e d')=if d'/g=1 then bW (ms e d').num else bW (ms e d').num++47::bc (d'/g):=by rw[bg,v]
 rw[F];clear F t u v;generalize (ms e d').num=G at*;generalize ab:d'/g=q at*;simp only[eG,ed]at w f z i⊢;simp[l,m,aa];refine c2 y ?_;simp[l,m,aa];refine c2 I ?_;simp[l,m,aa];refine c2 J ?_;simp[l,m,aa];refine c2 w ?_;simp[l,m,aa];refine c1 z ?_;have R:∀h:q=1,aw bT q=[1]:=fun h=>by rw[h];exact oY (by decide) (by decide)
 by_cases o:q=1
 ·have x:=R o;simp[o,eT,oY (show 0<1 by decide) (show 1<bT by decide)]
 ·have C:(bW G).length+1<9223372036854775808:=by omega
  have X:(bW G).length+((bc q).length+1)<9223372036854775808:=o_
  by_cases E:q<bT
  ·have x:=oY Q E;have S:¬(q:Int)=1:=by omega
   simp[o,eT,x,S];refine⟨C,?_⟩;simp only[eT,x,gP,hw]at f i;refine c2 f ?_;simp;refine c1 i ?_;simp;omega
  ·have j:¬((aw bT q).length:Int)=1:=by
    intro h;have H:(aw bT q).length=1:=o_
    have:=cK bf q;rw[H,kv]at this;exact E this
   simp[o,eT,j];refine⟨C,?_⟩;simp only[eT]at f i;refine c2 f ?_;simp;refine c1 i ?_;simp;omega
theorem Zw{n:Int}{g:Nat}(a:0<g)(h:g∣n.natAbs):n.tdiv g=n/g:=by
 obtain⟨c,hc⟩:=e9.2 h;subst hc;rw[Int.mul_tdiv_cancel_left _ o_,e8 _ o_]
theorem SH(n d:Int)(O:d≠0)(U:n.natAbs<=4000000000000000000)(P:d.natAbs<=4000000000000000000):az prog 252 [.int .i64 n,.int .i64 d] (.str (bg (kq n d))):=by
 refine aJ nf (i_ func252) mix (by simp[f252]) ?_;have f:¬n< -4000000000000000000:=o_
 have i:¬4000000000000000000<n:=o_
 have j:¬d< -4000000000000000000:=o_
 have k:¬4000000000000000000<d:=o_
 simp[f252,f,i,j,k,-bB];rw[bB];simp[f,i,j,k,-bB];rw[bB,bB];simp[f,i,j,k,-bB];refine join (fun st=>∃(b:Int)(d':Nat),0<d'/\b.natAbs<=4000000000000000000/\d'<=4000000000000000000/\kq b d'=kq n d/\aS st.env 0=.p (.int .i64 b)/\aS st.env 1=.p (.int .i64 (d':Nat))/\st.heap=[]) ?_ ?_
 ·have H:eb.wrap (-n)= -n:=aK _ o_ o_;have o:eb.wrap (-d)= -d:=aK _ o_ o_
  by_cases h:d<0
  ·simp[h,H,o,f,i,j,k];refine⟨-n,d.natAbs,o_,o_,o_,?_,rfl,?_⟩
   ·rw[en o_];exact m5 _ _
   ·rw[en o_]
  ·have J:((d.natAbs:Nat):Int)=d:=e6 o_;simp[h,f,i,j,k];exact⟨n,d.natAbs,o_,o_,o_,by rw[J],rfl,by rw[J]⟩
 rintro⟨W,X⟩ ⟨b,d',k1,k2,k3,k4,r,s,K⟩;dsimp only at r s K;subst K;rw[<-k4,show kq b d'=ms b d' from rfl];clear k4 U P O f i j k;obtain⟨x,D⟩:=mK (n:=b) (show d'≠0 by omega);obtain⟨g,l⟩:∃g,jp b.natAbs d'=g:=⟨_,rfl⟩
 have F:0<g:=by rw[<-l];exact kb _ k1
 rw[l]at x D;have I:=aBn b.natAbs d' o_ o_;rw[l]at I;have T:(if b< -b then -b else b)=(b.natAbs:Nat):=by split<;>omega
 have H:eb.wrap (-b)= -b:=aK _ o_ o_;have z:b.tdiv g=(ms b d').num:=by rw[x,Zw F (by rw[<-l];exact kN _ _)]
 have A:(d':Int).tdiv g=(d'/g:Nat):=by rw[ej (ee _),ew]
 have V:(ms b d').num.natAbs<=4000000000000000000:=by
  have R:(g:Int)∣b:=by rw[<-l];exact e9.2 (kN _ _)
  obtain⟨c,hc⟩:=R;have S:(g:Int)≠0:=o_
  rw[x,hc,e8 _ S];rw[hc,e7,ed]at k2;exact h8 (lw _ F) k2
 have Q:d'/g<=4000000000000000000:=h8 (kd _ _) k3;have ac:0<d'/g:=by
  refine j7 ?_ F;rw[<-l];exact kC _ k1
 have M:bg (ms b d')=if d'/g=1 then bW (ms b d').num else bW (ms b d').num++47::bc (d'/g):=by rw[bg,D]
 rw[M];clear M x D;generalize (ms b d').num=a at*;generalize ad:d'/g=q at*;have y:¬g=0:=o_
 have u:=An a.natAbs 1 o_ (by decide);have E:=An q 1 o_ (by decide);have Y:(bc a.natAbs).length<=19:=xn (h9 V (by decide)) (by decide);have Z:(bc q).length<=19:=xn (h9 Q (by decide)) (by decide);rw[show low (max 1 (nd a.natAbs)) a.natAbs=bc a.natAbs from rfl]at u;rw[show low (max 1 (nd q)) q=bc q from rfl]at E;have ab:(if a< -a then -a else a)=(a.natAbs:Nat):=by split<;>omega
 have o:eb.wrap (-a)= -a:=aK _ o_ o_;have B:eb.wrap a=a:=aK _ o_ o_;have C:eb.wrap (q:Int)=q:=aK _ o_ o_;simp[r,s,H,T];refine c2 I ?_;have L:(1:Int)<q↔¬q=1:=o_
 have N:eb.wrap 1=1:=rfl;have aa:(bc a.natAbs).length<9223372036854775808:=o_
 by_cases m:a<0
 ·have G:bW a=45::bc a.natAbs:=by rw[bW,if_pos m]
  rw[G];have w:a< -a:=o_
  have v:-a=(a.natAbs:Nat):=o_
  by_cases e:q=1
  ·simp[r,s,y,z,A,B,C,m,o,w,e];rw[v];refine c2 u ?_;simp[e,N];omega
  ·have t:=L.2 e;simp[r,s,y,z,A,B,C,m,o,w,e,t];rw[v];refine c2 u ?_;simp[e,t];refine⟨o_,o_,?_⟩;refine c2 E ?_;simp;omega
 ·have G:bW a=bc a.natAbs:=by rw[bW,if_neg m]
  rw[G];have v:a=(a.natAbs:Nat):=o_
  have w:¬a< -a:=o_
  by_cases e:q=1
  ·simp[r,s,y,z,A,B,C,m,o,w,e];rw[show PV.int .i64 a=.int .i64 (a.natAbs:Nat)by rw[<-v]];refine c2 u ?_;simp[e,N];omega
  ·have t:=L.2 e;simp[r,s,y,z,A,B,C,m,o,w,e,t];rw[show PV.int .i64 a=.int .i64 (a.natAbs:Nat)by rw[<-v]];refine c2 u ?_;simp[e,t];refine⟨o_,o_,?_⟩;refine c2 E ?_;simp;omega
theorem FE(n:Int)(a:-9223372036854775808<=n)(b:n<=9223372036854775807):az prog 158 [.int .i64 n] (.str (bg (n:Rat))):=by
 have e:=QH n a b;have d:=Fv n (by
  have c:n.natAbs<bT^3:=by
   have:bT^3=1000000000000000000000000000:=by decide
   omega
  have:=et bf 3 _ c;omega)
 have hq:bg (n:Rat)=bW n:=by rw[bg,if_pos (m7 n),m6]
 rw[hq];refine aJ nf (i_ func158) mix (by simp[f158]) ?_;simp[f158];refine c1 e ?_;simp;refine c1 d ?_;simp
theorem aBY(s:List Nat)(C:(bM s).all cH=true)(J:(b6 s).all cH=true)(hl:s.length<=1000000):
 ∃(n d:Int)(b:Bool),az prog 251 [.str s] (.aD [.int .i64 n,.int .i64 d,.bool b])/\(b=true->n=kV s/\d=(jh s:Nat)/\n.natAbs<1000000000/\jh s<1000000000):=by
 by_cases K:20<s.length
 ·refine⟨0,0,false,?_,fun h=>by cases h⟩;refine aJ nf (i_ func251) mix (by simp[f251]) ?_;have m:(20:Int)<s.length:=by omega
  simp[f251,m]
 obtain⟨d,l⟩:∃d,dh s=d:=⟨_,rfl⟩
 obtain⟨neg,g⟩:∃neg,cq s=neg:=⟨_,rfl⟩
 have ai:d.length<=s.length:=by rw[<-l];exact(qq s).1
 have i:=xW d o_;have A:(cz 47 d).1=bM s:=by rw[<-l];rfl
 have N:(cz 47 d).2.1=b6 s:=by rw[<-l];rfl
 have P:(cz 47 d).2.2=eK s:=by rw[<-l];rfl
 have q:=qJ 47 d;rw[A,N,P]at q;rw[A]at i;obtain⟨k,hk⟩:∃k,(bM s).length=k:=⟨_,rfl⟩
 rw[hk]at i;have Q:k<=d.length:=by rw[<-hk,<-A];exact(qz 47 d).1
 have m:¬(20:Int)<s.length:=o_
 obtain⟨b,o⟩:∃b:Bool,b=(decide (k<=9)&&decide (d.length-k<=10)):=⟨_,rfl⟩
 have M:b=true->(kV s).natAbs<1000000000/\jh s<1000000000:=fun h=>by
  rw[o]at h;simp only[dk,decide_eq_true_eq]at h;have v:=jZ _ (bM s) rfl C;rw[hk]at v;have ad:bd (bM s)<1000000000:=h6 v (h5 (n:=10) (by decide) h.1);refine⟨by rw[kV];split<;>omega,?_⟩;rcases q with⟨q1,f⟩|⟨q1,f,af⟩
  ·have W:(b6 s).length<=9:=by
    have:=congrArg hB f;simp at this;omega
   have X:=jZ _ (b6 s) rfl J;rw[jh,if_pos q1];exact h6 X (h5 (n:=10) (by decide) W)
  ·rw[jh,q1,if_neg (by decide)];decide
 refine⟨if b=true then kV s else 0,if b=true then(jh s:Nat)else 0,b,?_,fun h=>⟨if_pos h,if_pos h,by rw[if_pos h];exact(M h).1,(M h).2⟩⟩;refine aJ nf (i_ func251) mix (by simp[f251]) ?_;simp[f251,-bB];rw[bB];simp[-bB];rw[bB];simp[-bB];rw[bB,bB];simp[m,-bB];refine join (fun st=>aS st.env 5=.p (.str s)/\aS st.env 6=.p (.bool neg)/\st.heap=[]) ?_ ?_
 ·clear K m;cases s with
  |nil=>simp[<-g,cq]
  |cons c r=>
   by_cases hc:c=45
   ·simp[<-g,cq,hc]
   ·have aa:¬(c:Int)=45:=by omega
    simp[<-g,cq,hc,aa]
 rintro⟨U,ab⟩ ⟨e,a,u⟩;dsimp only at e a u;subst u;refine join (fun st=>aS st.env 5=.p (.str d)/\aS st.env 6=.p (.bool neg)/\st.heap=[]) ?_ ?_
 ·cases t:neg with
  |false=>
   have F:s=d:=by rw[<-l,dh,g,t];rfl
   simp[e,a,t,F]
  |true=>
   clear i q hk N A P K m o;cases s with
   |nil=>simp[cq]at g;rw[t]at g;cases g
   |cons c r=>
    have F:r=d:=by rw[<-l,dh,g,t];rfl
    simp[e,a,t,F]
 clear e a;rintro⟨U,ab⟩ ⟨e,a,u⟩;dsimp only at e a u;subst u;have ah:eb.wrap ((k:Int)+1)=(k:Int)+1:=aK _ o_ o_;have G:eb.wrap ((d.length:Int)-k)=(d.length:Int)-k:=aK _ o_ o_;have ag:((k:Int)+1).toNat=k+1:=o_
 have ae:kV s=if neg=true then -(bd (bM s):Int)else bd (bM s):=by rw[kV,g]
 rw[ae];rcases ii 9 k with D|D
 ·have Y:¬k<=9:=by omega
  have j:(9:Int)<k:=o_
  have E:b=false:=by rw[o];simp[Y]
  simp[e,a];refine c1 i ?_;simp[e,a,j,E]
 rcases ii 10 (d.length-k)with I|I
 ·have V:¬d.length-k<=10:=by omega
  have j:¬(9:Int)<k:=o_
  have x:(10:Int)<(d.length:Int)-k:=o_
  have E:b=false:=by rw[o];simp[V]
  simp[e,a];refine c1 i ?_;simp[e,a,j,x,G,E]
 have j:¬(9:Int)<k:=o_
 have x:¬(10:Int)<(d.length:Int)-k:=o_
 have y:b=true:=by rw[o];simp[D,I]
 have R:d.take k=bM s:=by
  rcases q with⟨_,f⟩|⟨_,f,_⟩
  ·rw[f,<-hk];simp
  ·rw[<-f,<-hk];simp
 have L:=A4 (bM s) C o_;have v:=jZ _ (bM s) rfl C;rw[hk]at v;have ad:bd (bM s)<1000000000:=h6 v (h5 (n:=10) (by decide) D);rcases q with⟨q1,f⟩|⟨q1,f,af⟩
 ·have z:k<d.length:=by rw[f];simp;omega
  have O:d.drop (k+1)=b6 s:=by
   conv=>lhs;rw[f,<-hk]
   simp
  have aj:(b6 s).length<=9:=by rw[<-O,hp];omega
  have Z:=A4 (b6 s) J o_;have B:jh s=bd (b6 s):=by rw[jh,if_pos q1]
  rw[B];generalize bd (b6 s)=ak at*;generalize bd (bM s)=w at*;have H:eb.wrap (-(w:Int))= -(w:Int):=aK _ o_ o_;clear f;simp[e,a];refine c1 i ?_;have S:(0:Int)<=k+1:=o_
  have ac:k+1<=d.length:=z;have T:(k:Int)+1<=d.length:=o_
  simp[e,a,j,x,G,y,Q,R];refine c1 L ?_;cases neg<;>
  ·simp[e,a,z,ac,ah,ag,O,S,T];refine c1 Z ?_;simp[a,H,y]
 ·have z:¬k<d.length:=by rw[<-f,hk];omega
  have B:jh s=1:=by rw[jh,q1];rfl
  rw[B];generalize bd (bM s)=w at*;have H:eb.wrap (-(w:Int))= -(w:Int):=aK _ o_ o_;simp[e,a];refine c1 i ?_;simp[e,a,j,x,G,y,Q,R];refine c1 L ?_;cases neg<;>simp[e,a,z,H,y]
theorem Ed{n k:Nat}(h:n<2^k):(aw bT n).length<=k/29+1:=by
 refine et bf _ _ (h6 h ?_);have a:2^29<=bT:=by decide
 refine h8 ?_ (kW a _);rw[<-kw];exact h5 (by decide) o_
theorem P1(q:Rat):kV (bg q)=q.num:=by
 obtain⟨a,b,_,_⟩:=uV q;rw[kV,a,b,qU]
 by_cases h:q.num<0
 ·rw[if_pos (by simpa using h)];omega
 ·rw[if_neg (by simpa using h)];omega
theorem Qi(q:Rat):jh (bg q)=q.den:=by
 obtain⟨_,_,a,b⟩:=uV q;rw[jh,a,b]
 by_cases h:q.den=1
 ·rw[if_neg (by simpa using h),h]
 ·rw[if_pos (by simpa using h),if_neg h,qU]
theorem CD(q:Rat):(bM (bg q)).all cH=true/\(b6 (bg q)).all cH=true:=by
 obtain⟨_,a,_,b⟩:=uV q;refine⟨by rw[a];exact pJ _,?_⟩;rw[b];split
 ·rfl
 ·exact pJ _
theorem sD{q:Rat}(h:bE kB q):(bg q).length<=1000000:=by
 have a:(bc q.num.natAbs).length<=33334:=pK (K:=kB) (k:=33334) h.1 (by decide) (by decide);have b:(bc q.den).length<=33334:=pK (K:=kB) (k:=33334) h.2 (by decide) (by decide);have:=CL q;omega
theorem AP(q:Rat)(h:bE kB q):∃(n d:Int)(b:Bool),az prog 251 [.str (bg q)] (.aD [.int .i64 n,.int .i64 d,.bool b])/\(b=true->n=q.num/\d=(q.den:Nat)/\n.natAbs<1000000000/\q.den<1000000000):=by
 have:=aBY (bg q) (CD q).1 (CD q).2 (sD h)
 rwa [P1,Qi]at this
theorem Am(q:Rat)(h:bE kB q):az prog 229 [.str (bg q)] (.aD [eG q.num,eG (q.den:Nat)]):=by
 have:=O1 (bg q) (CD q).1 (CD q).2 (sD h)
 rwa [P1,Qi]at this
theorem aEK(a b:Rat):kq (a.num*b.den+b.num*a.den) (a.den*b.den)=a+b:=by
 rw[Rat.add_def'];rfl
theorem aKH(a b:Rat):kq (a.num*b.num) (a.den*b.den)=a*b:=by
 rw[Rat.mul_def,Rat.normalize_eq_mkRat];rfl
theorem R5(a b:Rat):((a.den:Nat):Int)*(b.den:Nat)≠0:=by
 have c:=a.den_pos;have d:=b.den_pos;exact Int.ne_of_gt (Int.mul_pos o_ o_)
theorem yE{x y:Int}(hx:x.natAbs<1000000000)(a:y.natAbs<1000000000):(x*y).natAbs<=999999998000000001:=by
 rw[e7];exact km (show x.natAbs<=999999999 by omega) (show y.natAbs<=999999999 by omega)
theorem xC{x y:Int}(hx:x.natAbs<2^kB)(a:y.natAbs<2^kB):(aw bT (x*y).natAbs).length<=10000:=by
 have h:=Ed (n:=(x*y).natAbs) (k:=kB+kB) (by rw[e7,j2];exact j8 hx a);exact h8 h (by decide)
theorem nO{x:Nat}(hx:x<2^kB):(aw bT x).length<=10000:=h8 (Ed hx) (by decide)
theorem B6(a b:Rat)(h:bE kB a)(i:bE kB b):az prog 188 [.str (bg a),.str (bg b)] (.str (bg (a+b))):=by
 obtain⟨n,d,p,A,E⟩:=AP a h;obtain⟨m,e,r,B,F⟩:=AP b i;have t:=Am a h;have u:=Am b i;refine aJ nf (i_ func188) mix (by simp[f188]) ?_;rw[<-aEK];have z:=R5 a b
 by_cases j:p=true/\r=true
 ·obtain⟨rfl,rfl,k1,k2⟩:=E j.1;obtain⟨rfl,rfl,k3,k4⟩:=F j.2;have O:=yE k1 (show((b.den:Nat):Int).natAbs<1000000000 by rw[ed];exact k4);have P:=yE k3 (show((a.den:Nat):Int).natAbs<1000000000 by rw[ed];exact k2);have Q:=yE (show((a.den:Nat):Int).natAbs<1000000000 by rw[ed];exact k2) (show((b.den:Nat):Int).natAbs<1000000000 by rw[ed];exact k4);have C:=SH (a.num*b.den+b.num*a.den) (a.den*b.den) z o_ o_;have H:eb.wrap (a.num*(b.den:Nat))=a.num*(b.den:Nat):=aK _ o_ o_;have I:eb.wrap (b.num*(a.den:Nat))=b.num*(a.den:Nat):=aK _ o_ o_;have J:eb.wrap (a.num*(b.den:Nat)+b.num*(a.den:Nat))=a.num*(b.den:Nat)+b.num*(a.den:Nat):=aK _ o_ o_;have K:eb.wrap (((a.den:Nat):Int)*(b.den:Nat))=((a.den:Nat):Int)*(b.den:Nat):=aK _ o_ o_;have g:p=true:=j.1;have q:r=true:=j.2;simp[f188];refine c1 A ?_;simp;refine c1 B ?_;simp[g,q,H,I,J,K];refine c2 C ?_;simp
 ·have l:a.num.natAbs<2^kB:=h.1;have o:b.num.natAbs<2^kB:=i.1;have c:((a.den:Nat):Int).natAbs<2^kB:=by rw[ed];exact h.2
  have f:((b.den:Nat):Int).natAbs<2^kB:=by rw[ed];exact i.2
  have w:=xV a.num (b.den:Nat) (by have:=nO l;have:=nO f;omega);have x:=xV b.num (a.den:Nat) (by have:=nO o;have:=nO c;omega);have y:=xV (a.den:Nat) (b.den:Nat) (by have:=nO c;have:=nO f;omega);have L:=xC l f;have M:=xC o c;have N:=xC c f;have v:=aBV (a.num*(b.den:Nat)) (b.num*(a.den:Nat)) o_ o_;have G:(aw bT (a.num*(b.den:Nat)+b.num*(a.den:Nat)).natAbs).length<=400000:=by
   refine h8 (Ed (k:=kB+kB+1) ?_) (by decide);have q1:(a.num*(b.den:Nat)).natAbs<2^(kB+kB):=by rw[e7,j2];exact j8 l f
   have R:(b.num*(a.den:Nat)).natAbs<2^(kB+kB):=by rw[e7,j2];exact j8 o c
   rw[ip];omega
  have s:=LH (a.num*(b.den:Nat)+b.num*(a.den:Nat)) ((a.den:Nat)*(b.den:Nat)) z G o_;simp[f188];refine c1 A ?_;simp;refine c1 B ?_;have D:(p=false)\/(p=true/\r=false):=by cases p<;>cases r<;>simp_all
  rcases D with g|⟨g,q⟩
  ·simp[g];refine c1 t ?_;simp[aa];refine c1 u ?_;simp[aa];refine e2 w ?_;simp[aa];refine e2 x ?_;simp[aa];refine e2 v ?_;simp[aa];refine e2 y ?_;simp[aa];refine e2 s ?_;simp
  ·simp[g,q];refine c1 t ?_;simp[aa];refine c1 u ?_;simp[aa];refine e2 w ?_;simp[aa];refine e2 x ?_;simp[aa];refine e2 v ?_;simp[aa];refine e2 y ?_;simp[aa];refine e2 s ?_;simp
theorem Bk(a b:Rat)(f:bE kB a)(g:bE kB b):az prog 189 [.str (bg a),.str (bg b)] (.str (bg (a*b))):=by
 obtain⟨n,d,p,x,B⟩:=AP a f;obtain⟨m,e,r,y,C⟩:=AP b g;have s:=Am a f;have t:=Am b g;refine aJ nf (i_ func189) mix (by simp[f189]) ?_;rw[<-aKH];have w:=R5 a b
 by_cases h:p=true/\r=true
 ·obtain⟨rfl,rfl,k1,k2⟩:=B h.1;obtain⟨rfl,rfl,k3,k4⟩:=C h.2;have H:=yE k1 k3;have I:=yE (show((a.den:Nat):Int).natAbs<1000000000 by rw[ed];exact k2) (show((b.den:Nat):Int).natAbs<1000000000 by rw[ed];exact k4);have z:=SH (a.num*b.num) (a.den*b.den) w o_ o_;have D:eb.wrap (a.num*b.num)=a.num*b.num:=aK _ o_ o_;have E:eb.wrap (((a.den:Nat):Int)*(b.den:Nat))=((a.den:Nat):Int)*(b.den:Nat):=aK _ o_ o_;have c:p=true:=h.1;have i:r=true:=h.2;simp[f189];refine c1 x ?_;simp;refine c1 y ?_;simp[c,i,D,E];refine c2 z ?_;simp
 ·have j:a.num.natAbs<2^kB:=f.1;have l:b.num.natAbs<2^kB:=g.1;have k:((a.den:Nat):Int).natAbs<2^kB:=by rw[ed];exact f.2
  have o:((b.den:Nat):Int).natAbs<2^kB:=by rw[ed];exact g.2
  have u:=xV a.num b.num (by have:=nO j;have:=nO l;omega);have v:=xV (a.den:Nat) (b.den:Nat) (by have:=nO k;have:=nO o;omega);have F:=xC j l;have G:=xC k o;have q:=LH (a.num*b.num) ((a.den:Nat)*(b.den:Nat)) w o_ o_;simp[f189];refine c1 x ?_;simp;refine c1 y ?_;have A:(p=false)\/(p=true/\r=false):=by cases p<;>cases r<;>simp_all
  rcases A with c|⟨c,i⟩
  ·simp[c];refine c1 s ?_;simp[aa];refine c1 t ?_;simp[aa];refine e2 u ?_;simp[aa];refine e2 v ?_;simp[aa];refine e2 q ?_;simp
  ·simp[c,i];refine c1 s ?_;simp[aa];refine c1 t ?_;simp[aa];refine e2 u ?_;simp[aa];refine e2 v ?_;simp[aa];refine e2 q ?_;simp
theorem aO4{a:Rat}(h:a≠0):a.num≠0:=fun e=>h (Rat.num_eq_zero.1 e)
theorem QN(s:List Nat)(hl:s.length<=1048576):az prog 194 [.str s] (.int .i64 (if s=[48]then 0 else if cq s=true then -1 else 1)):=by
 refine aJ nf (i_ func194) mix (by simp[f194]) ?_
 by_cases b:s=[48]
 ·simp[f194,b]
 ·cases s with
  |nil=>simp[f194,cq]
  |cons c r=>
   by_cases hc:c=45
   ·simp[f194,cq,hc]
   ·have e:¬(c:Int)=45:=by omega
    have d:¬(c=48/\r=[]):=fun h=>b (by rw[h.1,h.2])
    by_cases a:c=48
    ·have f:¬r=[]:=fun h=>d ⟨a,h⟩;simp[f194,cq,a,f]
    ·simp[f194,cq,hc,e,a]
theorem Ay(q:Rat):q.num<0↔q<0:=by
 have h:=FP q
 by_cases b:q<0
 ·rw[if_pos b]at h;refine⟨fun _=>b,fun _=>?_⟩
  by_cases a:q.num<0
  ·exact a
  ·rw[if_neg a]at h;split at h<;>omega
 ·refine⟨fun a=>?_,fun a=>(b a).elim⟩;rw[if_neg b,if_pos a]at h
  split at h<;>omega
def fN(q:Rat):Int:=if q<0 then -1 else if q=0 then 0 else 1
theorem aQW:bg 0=[48]:=by
 have h:bW 0=[48]:=by rw[show(0:Int)=((0:Nat):Int)from rfl,xo,nP]
 rw[bg,if_pos (show(0:Rat).den=1 from rfl)];exact h
theorem L3(q:Rat):bg q=[48]↔q=0:=by
 rw[<-aQW];exact⟨fun h=>aQR h,fun h=>by rw[h]⟩
theorem aQj(q:Rat):(if bg q=[48]then(0:Int)else if cq (bg q)=true then -1 else 1)=fN q:=by
 have e:=(uV q).1;have c:=L3 q;have d:q<0↔q.num<0:=(Ay q).symm;rw[e,fN]
 by_cases b:q=0
 ·subst b;rw[if_pos (c.2 rfl),if_neg (by decide),if_pos rfl]
 ·rw[if_neg (fun h=>b (c.1 h))]
  by_cases a:q<0
  ·rw[if_pos (by simpa using d.1 a),if_pos a]
  ·rw[if_neg (by simpa using fun h=>a (d.2 h)),if_neg a,if_neg b]
theorem A6(q:Rat)(h:bE kB q):az prog 194 [.str (bg q)] (.int .i64 (fN q)):=by
 have:=QN (bg q) (by have:=sD h;omega)
 rwa [aQj]at this
theorem QP{q:Rat}(h:q<0):bg q=45::bg (-q):=by
 have a:q.num<0:=(Ay q).2 h;have e1:bW q.num=45::bc q.num.natAbs:=by rw[bW,if_pos a]
 have e2:bW (-q).num=bc q.num.natAbs:=by rw[nb,bW,if_neg o_,fd]
 rw[bg,bg,Rat.neg_den,e1,e2]
 split<;>rfl
theorem F6(q:Rat)(h:bE kB q):az prog 111 [.str (bg q)] (.str (bg (-q))):=by
 have a:=A6 q h;have f:=sD h;refine aJ nf (i_ func111) mix (by simp[f111]) ?_
 by_cases b:q<0
 ·have hs:fN q= -1:=by rw[fN,if_pos b]
  rw[hs]at a;have c:=QP b;rw[c]at a f⊢;simp[f111];refine c1 a ?_;simp
 ·by_cases d:q=0
  ·have hs:fN q=0:=by rw[fN,if_neg b,if_pos d]
   rw[hs]at a;have hq:-q=q:=by rw[d];rfl
   rw[hq];simp[f111];refine c1 a ?_;simp;refine c1 a ?_;simp
  ·have hs:fN q=1:=by rw[fN,if_neg b,if_neg d]
   rw[hs]at a;have e:-q<0:=by
    rw[<-Ay,nb];have g:¬q.num<0:=fun h=>b ((Ay q).1 h);have i:=aO4 d;omega
   have c:=QP e;rw[Rat.neg_neg]at c;rw[c];have j:(bg q).length+1<9223372036854775808:=o_
   simp[f111];refine c1 a ?_;simp;refine c1 a ?_;simp;omega
theorem Bj(a b:Rat)(f:bE kB a)(d:bE kB b):az prog 104 [.str (bg a),.str (bg b)] (.str (bg (a-b))):=by
 have e:=F6 b d;have c:=B6 a (-b) f (vg d);rw[<-Rat.sub_eq_add_neg]at c;refine aJ nf (i_ func104) mix (by simp[f104]) ?_;simp[f104];refine c1 e ?_;simp;refine c2 c ?_;simp
theorem aQi(a b:Rat):fN (a-b)=dx a b:=by
 have d:a-b<0↔a<b:=by
  rw[<-nc,<-nc,<-Rat.le_iff_sub_nonneg]
 have e:a-b=0↔a=b:=by
  constructor
  ·intro h;have f:a-b+b=0+b:=by rw[h]
   rwa [mx,m1]at f
  ·rintro rfl;exact na
 rw[fN,dx]
 by_cases h:a<b
 ·rw[if_pos (d.2 h),if_pos h]
 ·rw[if_neg (fun x=>h (d.1 x)),if_neg h]
  by_cases c:a=b
  ·rw[if_pos (e.2 c),if_pos c]
  ·rw[if_neg (fun x=>c (e.1 x)),if_neg c]
theorem wD(a b:Rat)(d:bE (kB/3) a)(e:bE (kB/3) b):az prog 155 [.str (bg a),.str (bg b)] (.int .i64 (dx a b)):=by
 have f:=Bj a b (d.mono (by decide)) (e.mono (by decide));have c:=A6 (a-b) ((uD d e).mono (by decide));rw[aQi]at c;refine aJ nf (i_ func155) mix (by simp[f155]) ?_;simp[f155];refine c2 f ?_;simp;refine c1 c ?_;simp
theorem SB{a b:Nat}(h:a<=b):10^a<=10^b:=h5 (by decide) h
theorem B7{s:List Nat}{k:Nat}(h:s.length<=k)(a:s.all cH=true):bd s<10^k:=h6 (jZ _ s rfl a) (SB h)
theorem aPm{x a b:Nat}(hx:x<10^a)(h:a<=9*b):(aw bT x).length<=b:=et bf b x (h6 hx (by
 rw[show bT^b=10^(9*b)by rw[kw];rfl];exact SB h))
theorem awG(s:List Nat)(hl:s.length<=1048576):az prog 280 [.str s] (.bool (s.all cH)):=by
 refine aJ nf (i_ func280) mix (by simp[f280]) ?_;obtain⟨k,hk,n,o⟩:=Eu (fun j=>cH (s[j]?.getD 0)) s.length;have e:∀j(h:j<s.length),s[j]?.getD 0=s[j]:=fun j h=>by rw[gp h];rfl
 have B:s.all cH=decide (k=s.length):=by
  rcases o with h|⟨a,b⟩
  ·rw[h,decide_eq_true rfl,gN];intro x hx;obtain⟨j,A,rfl⟩:=hN hx;have:=n j o_
   rwa [e j A]at this
  ·rw[decide_eq_false o_];rw[e k a]at b
   by_cases m:s.all cH=true
   ·have:=gN.1 m _ (g4 a);rw[this]at b;cases b
   ·simpa using m
 rw[B];simp[f280];refine lp (α:=Nat) (fun i=>⟨[(3,.p (.int .i64 i)),(0,.p (.str s))],[]⟩)
  (fun i=>i<=k) (fun i=>k-i) 0 (j4 _) ?_
 intro i hi;have C:eb.wrap ((i:Int)+1)=(i:Int)+1:=aK _ o_ o_
 by_cases y:i<k
 ·have l:i<s.length:=by omega
  have q:=n i y;rw[e i l]at q;have D:=Bf q;generalize d:s[i]=c at*;have f:s[i]?=some c:=by rw[gp l,d]
  have a:¬(c:Int)<48:=o_
  have b:¬(57:Int)<c:=o_
  have t:¬c<48:=o_
  have u:¬57<c:=o_
  simp[l,d,f,a,b,t,u,C];exact rd (i+1) (show i+1<=k by omega)
 ·have z:i=k:=by omega
  subst z;rcases o with h|⟨a,b⟩
  ·simp[h]
  ·rw[e i a]at b;have r:¬i=s.length:=by omega
   generalize d:s[i]=c at*;have f:s[i]?=some c:=by rw[gp a,d]
   by_cases hc:c<48
   ·have g:(c:Int)<48:=by omega
    simp[a,d,f,hc,g,r]
   ·have v:57<c:=by
     simp only[cH,Bool.and_eq_false_iff,decide_eq_false_iff_not]at b;omega
    have g:¬(c:Int)<48:=o_
    have w:(57:Int)<c:=o_
    simp[a,d,f,hc,g,v,w,r]
theorem NP(s:List Nat)(hl:s.length<=1048576):az prog 228 [.str s] (.bool (dV s)):=by
 have b:=awG s hl;refine aJ nf (i_ func228) mix (by simp[f228]) ?_;cases s with
 |nil=>simp[f228,dV]
 |cons c r=>
  have j:(c:Int)=48↔c=48:=o_
  by_cases a:r=[]
  ·subst a;have e:dV [c]=[c].all cH:=by
    rw[dV]
    by_cases h:c=48
    ·subst h;rfl
    ·simp[h]
   rw[e];simp[f228];refine c1 b ?_;simp
  ·have d:0<r.length:=gx.2 a;have f:¬(r.length:Int)+1=0:=by omega
   have g:(1:Int)<r.length+1:=o_
   by_cases hc:c=48
   ·have e:dV (c::r)=false:=by rw[dV,hc];simp[a]
    rw[e];simp[f228,a,hc,d,f,g]
   ·have i:¬(c:Int)=48:=by omega
    have e:dV (c::r)=(c::r).all cH:=by rw[dV];simp[hc]
    rw[e];simp[f228,a,hc,i,d,f,g];refine c1 b ?_;simp
theorem yA(s:List Nat)(hs:gn s):az prog 153 [.str s] (.int .i64 (bK s)):=by
 refine aJ nf (i_ func153) mix (by simp[f153]) ?_;obtain⟨hl,aN⟩:=hs;obtain⟨d,S⟩:∃d,dh s=d:=⟨_,rfl⟩
 obtain⟨neg,A⟩:∃neg,cq s=neg:=⟨_,rfl⟩
 have aR:d.length<=s.length:=by rw[<-S];exact(qq s).1
 have T:=xW d o_;have Y:(cz 47 d).1=bM s:=by rw[<-S];rfl
 have W:(cz 47 d).2.1=b6 s:=by rw[<-S];rfl
 have ah:(cz 47 d).2.2=eK s:=by rw[<-S];rfl
 have z:=qJ 47 d;have F:=qz 47 d;rw[Y,W,ah]at z;rw[Y]at T F;rw[W]at F;obtain⟨k,hk⟩:∃k,(bM s).length=k:=⟨_,rfl⟩
 rw[hk]at T;have J:k<=d.length:=by rw[<-hk];exact F.1
 have av:d.take k=bM s:=by
  rcases z with⟨_,G⟩|⟨_,G,_⟩
  ·rw[G,<-hk];simp
  ·rw[<-G,<-hk];simp
 have M:=NP (bM s) o_;have l:=NP (b6 s) o_;simp[f153,-bB];rw[bB];simp[-bB];rw[bB];simp[-bB];refine join (fun st=>aS st.env 0=.p (.str s)/\aS st.env 3=.p (.str d)/\st.heap=[]) ?_ ?_
 ·cases aj:neg with
  |false=>
   have au:s=d:=by rw[<-S,dh,A,aj];rfl
   clear T z hk W Y ah av M l F J;subst au;cases s with
   |nil=>simp
   |cons c r=>
    rw[aj]at A;have hc:¬c=45:=fun h=>by rw[h]at A;simp[cq]at A
    have an:¬(c:Int)=45:=o_
    simp[hc,an]
  |true=>
   clear T z hk W Y ah av M l F J;cases s with
   |nil=>simp[cq]at A;rw[aj]at A;cases A
   |cons c r=>
    have au:r=d:=by rw[<-S,dh,A,aj];rfl
    rw[aj]at A;have hc:c=45:=by simpa[cq]using A
    simp[hc,au]
 rintro⟨aH,aV⟩ ⟨w,e,ak⟩;dsimp only at w e ak;subst ak;have ag:kJ s=(dV (bM s)&&!(neg&&decide (bM s=[48]))&&(!eK s||(dV (b6 s)&&decide (b6 s≠[48])&&decide (b6 s≠[49])))):=by rw[kJ,A]
 have a5:d.length<=1048576:=o_
 have V:(bM s).all cH=true->(b6 s).all cH=true->eK s=true->0<k->d.length<=1000000->az prog 229 [.str d] (.aD [eG (bd (bM s):Nat),eG (bd (b6 s):Nat)]):=fun y O ax aD aY=>by
  have al:cq d=false/\dh d=d:=by
   have aG:cq d=false:=by
    rcases z with⟨_,G⟩|⟨q1,_⟩
    ·cases X:bM s with
     |nil=>rw[X]at hk;simp at hk;omega
     |cons c r=>
      rw[X]at G y;have:=Bf (gN.1 y c s_);rw[G,cq];simp;omega
    ·rw[ax]at q1;cases q1
   exact⟨aG,by rw[dh,aG];rfl⟩
  have e1:bM d=bM s:=by rw[bM,al.2,Y]
  have e2:b6 d=b6 s:=by rw[b6,al.2,W]
  have e3:eK d=true:=by rw[eK,al.2,ah];exact ax
  have:=O1 d (by rw[e1];exact y) (by rw[e2];exact O) aY;rw[kV,jh,e1,e2,al.1,if_pos e3]at this;exact this
 rw[bK];generalize kJ s=N at*;generalize bM s=v at*;generalize b6 s=f at*;generalize eK s=fr at*;have U:g0 k d=v:=av
 by_cases K:dV v=true
 ·have aD:0<k:=by
   rw[<-hk,gx];intro h;rw[h]at K;cases K
  obtain⟨c,r,hs⟩:∃c r,s=c::r:=by
   cases s with
   |nil=>
    have:d.length<=0:=by simpa using aR
    omega
   |cons c r=>exact⟨c,r,rfl⟩
  have ao:c=45↔neg=true:=by rw[<-A,hs];simp[cq]
  have an:(c:Int)=45↔c=45:=o_
  rw[K]at M;clear aN hl S A Y W ah
  by_cases P:neg=true/\v=[48]
  ·have hf:N=false:=by rw[ag,P.1,P.2];simp
   have aQ:=ao.2 P.1;rw[if_pos hf];clear z F l V ao an;subst hs aQ;have X:=P.2;simp[w,e];refine c1 T ?_;simp[w,e,J,U];refine c1 M ?_;simp[w,e,J,U,X]
  ·subst hs;rw[bB];simp[w,e,-bB];refine c1 T ?_;simp[w,e,-bB];refine join (fun st=>aS st.env 3=.p (.str d)/\aS st.env 4=.p (.int .i64 k)/\st.heap=[]) ?_ ?_
   ·by_cases y:c=45
    ·have X:¬v=[48]:=fun h=>P ⟨ao.1 y,h⟩;subst y;clear z F l V;simp[w,e,J,U];refine c1 M ?_;simp[w,e,J,U,X]
    ·have aI:¬(c:Int)=45:=by omega
     clear z F l V;simp[w,e,J,U];refine c1 M ?_;simp[w,e,J,U,y,aI]
   clear w e;rintro⟨aH,aV⟩ ⟨e,j,ak⟩;dsimp only at e j ak;subst ak;cases ai:fr with
   |false=>
    have i:k=d.length:=by
     rcases z with⟨q1,_⟩|⟨_,G,_⟩
     ·rw[ai]at q1;cases q1
     ·rw[<-hk,G]
    have aE:¬k<d.length:=o_
    have aT:f=[]:=by
     rcases z with⟨q1,_⟩|⟨_,_,a2⟩
     ·rw[ai]at q1;cases q1
     ·exact a2
    have hf:N=true:=by
     rw[ag,K,ai];simp
     by_cases y:neg=true
     ·exact .inr fun O=>P ⟨y,O⟩
     ·exact .inl (by simpa using y)
    have Z:eb.wrap ((d.length:Int)-k)=0:=by rw[i,ge];rfl
    have ab:eb.wrap (-1)= -1:=rfl;rw[hf,hk,aT];clear z F l V
    by_cases I:600<k
    ·have B:¬(k:Int)<=600:=by omega
     have C:¬k<=600:=o_
     have D:(600:Int)<k:=o_
     simp[e,j,aE,I,B,C,D]
    ·have B:(k:Int)<=600:=by omega
     have C:k<=600:=o_
     have D:¬(600:Int)<k:=o_
     simp[e,j,aE,I,B,C,D,Z,ab]
   |true=>
    rw[ai]at ag V;have ar:d=v++47::f:=by
     rcases z with⟨_,G⟩|⟨q1,_⟩
     ·exact G
     ·rw[ai]at q1;cases q1
    have i:k<d.length:=by rw[ar];simp;omega
    have q:d.drop (k+1)=f:=by
     conv=>lhs;rw[ar,<-hk]
     simp
    have a6:d.length=k+1+f.length:=by rw[ar];simp;omega
    have u:eb.wrap ((k:Int)+1)=(k:Int)+1:=aK _ o_ o_;have t:((k:Int)+1).toNat=k+1:=o_
    have m:(0:Int)<=k+1:=o_
    have n:(k:Int)+1<=d.length:=o_
    have o:k+1<=d.length:=i;clear z F;have af:N=(dV f&&decide (f≠[48])&&decide (f≠[49])):=by
     rw[ag,K];have:(neg&&decide (v=[48]))=false:=by
      by_cases y:neg=true
      ·have:¬v=[48]:=fun O=>P ⟨y,O⟩;simp[this]
      ·have:neg=false:=by simpa using y
       rw[this];rfl
     rw[this];simp
    by_cases ap:N=true
    ·rw[ap]at af;have aW:¬N=false:=by rw[ap];decide
     rw[if_neg aW];have aM:dV f=true/\¬f=[48]/\¬f=[49]:=by
      have:=af.symm;simp only[dk,decide_eq_true_eq]at this;exact⟨this.1.1,this.1.2,this.2⟩
     obtain⟨L,H,E⟩:=aM;rw[L]at l;rw[hk];have Z:eb.wrap ((d.length:Int)-k)=(d.length:Int)-k:=aK _ o_ o_;have ab:eb.wrap ((d.length:Int)-k-1)=f.length:=by rw[aK _ o_ o_];omega
     by_cases I:600<k
     ·have B:¬(k:Int)<=600:=by omega
      have C:¬k<=600:=o_
      have D:(600:Int)<k:=o_
      simp[e,j,i,u,t,m,n,o,q];refine c1 l ?_;simp[e,j,i,u,t,m,n,o,q,H,E,I,B,C,D]
     by_cases ac:600<f.length
     ·have B:(k:Int)<=600:=by omega
      have C:k<=600:=o_
      have D:¬(600:Int)<k:=o_
      have ad:(600:Int)<f.length:=o_
      simp[e,j,i,u,t,m,n,o,q];refine c1 l ?_;simp[e,j,i,u,t,m,n,o,q,H,E,I,B,C,D,Z,ab,ac,ad]
     have B:(k:Int)<=600:=o_
     have C:k<=600:=o_
     have D:¬(600:Int)<k:=o_
     have ad:¬(600:Int)<f.length:=o_
     have R:=V (jR K) (jR L) rfl aD o_;have aU:=AJ L H;have a0:v.length<=700:=o_
     have a1:f.length<=700:=o_
     have aO:bd v<10^700:=B7 (s:=v) (k:=700) a0 (jR K);have aP:bd f<10^700:=B7 (s:=f) (k:=700) a1 (jR L);have aF:∀x:Nat,x<10^700->(aw bT x).length<=400000:=fun x hx=>h8 (aPm (a:=700) (b:=78) hx (by decide)) (by decide);have Q:=OE (bd v) (bd f) (aF _ aO) (aF _ aP);have aB:0<jp (bd v) (bd f):=kb _ aU;generalize bd v=a4 at*;generalize bd f=a3 at*;obtain⟨g,am⟩:∃g,jp a4 a3=g:=⟨_,rfl⟩
     simp only[am]at Q aB⊢;have aZ:¬(600<k\/600<f.length):=fun h=>by rcases h with h|h;exact I h;exact ac h
     rw[if_neg aZ];simp only[eG,ed]at R
     by_cases aq:g=1
     ·subst aq;have ae:aw bT 1=[1]:=oY (by decide) (by decide);simp only[eT,ae]at Q R;simp[e,j,i,u,t,m,n,o,q];refine c1 l ?_;simp[e,j,i,u,t,m,n,o,q,H,E,I,B,C,D,Z,ab,ac,ad];refine c1 R ?_;simp[aa];refine c2 Q ?_;simp[am]
     ·by_cases aC:g<bT
      ·have ae:aw bT g=[g]:=oY aB aC;have aX:¬(g:Int)=1:=by omega
       simp only[eT,ae]at Q R;simp[e,j,i,u,t,m,n,o,q];refine c1 l ?_;simp[e,j,i,u,t,m,n,o,q,H,E,I,B,C,D,Z,ab,ac,ad];refine c1 R ?_;simp[aa];refine c2 Q ?_;simp[aq,aX,am]
      ·have ae:¬((aw bT g).length:Int)=1:=by
        intro h;have O:(aw bT g).length=1:=o_
        have:=cK bf g;rw[O,kv]at this;exact aC this
       simp only[eT]at Q R;simp[e,j,i,u,t,m,n,o,q];refine c1 l ?_;simp[e,j,i,u,t,m,n,o,q,H,E,I,B,C,D,Z,ab,ac,ad];refine c1 R ?_;simp[aa];refine c2 Q ?_;simp[aq,ae,am]
    ·have aA:N=false:=by simpa using ap
     rw[if_pos aA]
     by_cases L:dV f=true
     ·rw[L]at l
      by_cases H:f=[48]
      ·simp[e,j,i,u,t,m,n,o,q];refine c1 l ?_;simp[e,j,i,u,t,m,n,o,q,H]
      ·have E:f=[49]:=by
        rw[L]at af
        by_cases E:f=[49]
        ·exact E
        ·rw[aA]at af;simp[H,E]at af
       simp[e,j,i,u,t,m,n,o,q];refine c1 l ?_;simp[e,j,i,u,t,m,n,o,q,E]
     ·have aL:dV f=false:=by simpa using L
      rw[aL]at l;simp[e,j,i,u,t,m,n,o,q];refine c1 l ?_;simp[e,j,i,u,t,m,n,o,q]
 ·have ay:dV v=false:=by simpa using K
  have hf:N=false:=by rw[ag,ay];rfl
  rw[if_pos hf];rw[ay]at M;simp[w,e];refine c1 T ?_;simp[w,e,J,U];refine c1 M ?_;simp[w,e]
theorem YV(l:List (List Nat))(hl:l.length<=1000000)(hs:∀s∈l,gn s):az prog 156 [.seq (l.map .str)] (.int .i64 (bQ (l.map bK))):=by
 refine aJ nf (i_ func156) mix (by simp[f156]) ?_;simp[f156];refine lp (α:=Nat) (fun i=>⟨[(3,.p (.int .i64 i)),(0,.p (.seq (l.map .str)))],[]⟩) (fun i=>i<=l.length/\bQ ((l.drop i).map bK)=bQ (l.map bK)) (fun i=>l.length-i) 0 s_ ?_;rintro i ⟨e,a⟩
 by_cases hi:i<l.length
 ·rw[g8 hi]at a;have d:=bS (i:=i) o_;have hc:=yA l[i] (hs _ (g4 hi));obtain⟨s,b⟩:∃s,l[i]=s:=⟨_,rfl⟩
  have c:l[i]?=some s:=by rw[gp hi,b]
  rw[b]at hc a;simp[hi,c,b];refine c1 hc ?_
  by_cases he:bK s=0
  ·simp[bQ,he]at a;simp[he,d];exact rd (i+1) ⟨hi,by simpa using a⟩
  ·simp[bQ,he]at a;simp[he,<-a]
 ·have:i=l.length:=by omega
  subst this;simp[bQ]at a;simp[<-a]
theorem Lq(p:gO)(a:oC p):az prog 66 [ft p] (.int .i64 (df p)):=by
 have hc:=YV [p.x,p.y] s_ (by intro s hs;simp at hs;rcases hs with rfl|rfl;exact a.1;exact a.2);refine aJ nf (i_ func66) mix (by simp[f66]) ?_;simp[f66,aa];refine cp hc (by simp;exact⟨rfl,rfl⟩) ?_;simp[df]
theorem L4(z:Int):47∉bW z:=by
 rw[bW];split
 ·simp only[ho,not_or];exact⟨by decide,CJ (pJ _) rfl⟩
 ·exact CJ (pJ _) rfl
theorem CZ(q:Rat):(cz 47 (bg q)).1=bW q.num/\(q.den≠1->bg q=bW q.num++47::bc q.den)/\(q.den=1->bg q=bW q.num):=by
 by_cases h:q.den=1
 ·have e:bg q=bW q.num:=by rw[bg,if_pos h]
  refine⟨?_,fun a=>(a h).elim,fun _=>e⟩;rw[e,Eo 47 _ (L4 _)]
 ·have e:bg q=bW q.num++47::bc q.den:=by rw[bg,if_neg h]
  refine⟨?_,fun _=>e,fun a=>(h a).elim⟩;rw[e,EI 47 _ _ (L4 _)]
theorem aAL(q:Rat)(h:bE kB q):az prog 169 [.str (bg q)] (.str (bW q.num)):=by
 have i:=sD h;obtain⟨e,c,d⟩:=CZ q;have hs:=xW (bg q) o_;rw[e]at hs;have g:(bg q).take (bW q.num).length=bW q.num:=by
  by_cases b:q.den=1
  ·rw[d b];simp
  ·rw[c b];simp
 have f:(bW q.num).length<=(bg q).length:=by
  by_cases b:q.den=1
  ·rw[d b];exact i0 _
  ·rw[c b];simp
 refine aJ nf (i_ func169) mix (by simp[f169]) ?_;generalize bW q.num=a at*;generalize bg q=s at*;simp[f169];refine c1 hs ?_;simp[g,f]
theorem aAE(q:Rat)(h:bE kB q):az prog 170 [.str (bg q)] (.str (bc q.den)):=by
 have d:=sD h;obtain⟨i,j,k⟩:=CZ q;have hs:=xW (bg q) o_;rw[i]at hs;refine aJ nf (i_ func170) mix (by simp[f170]) ?_
 by_cases c:q.den=1
 ·have e:=k c;rw[c,Hv];rw[e]at hs⊢;generalize bW q.num=a at*;simp[f170];refine c1 hs ?_;simp
 ·have e:=j c;rw[e]at hs d⊢;generalize bW q.num=a at*;generalize bc q.den=b at*;simp only[g5,hA]at d;have m:¬(a.length:Int)=(a.length:Int)+(b.length+1):=by omega
  have p:eb.wrap ((a.length:Int)+1)=(a.length:Int)+1:=aK _ o_ o_;have o:((a.length:Int)+1).toNat=a.length+1:=o_
  have f:(0:Int)<=(a.length:Int)+1:=o_
  have g:(a.length:Int)+1<=(a.length:Int)+(b.length+1):=o_
  have l:hV (a.length+1) (a++47::b)=b:=s_
  have n:g0 (a.length+(b.length+1)) (a++47::b)=a++47::b:=gt s_;simp[f170];refine c1 hs ?_;simp[m,p,o,f,g,l,n]
theorem aAC(z:Int)(h:(bW z).length<=1000000):az prog 168 [.str (bW z)] (.str (bc z.natAbs)):=by
 have a:=QN (bW z) o_;have g:cq (bW z)=decide (z<0):=by
  have:=(As z []).1;rwa [hg]at this
 have f:bW z=[48]↔z=0:=by
  have e:bW z=bg (z:Rat):=by rw[bg,if_pos (m7 z),m6]
  rw[e,L3]
  exact_mod_cast Iff.rfl
 refine aJ nf (i_ func168) mix (by simp[f168]) ?_;rw[g]at a
 by_cases c:z<0
 ·have e:bW z=45::bc z.natAbs:=by rw[bW,if_pos c]
  rw[if_neg (fun x=>by have:=f.1 x;omega),if_pos (by simpa using c)]at a;rw[e]at a⊢;simp[f168];refine c1 a ?_;simp
 ·have e:bW z=bc z.natAbs:=by rw[bW,if_neg c]
  have b:∃v:Int,¬v<0/\az prog 194 [.str (bW z)] (.int .i64 v):=by
   by_cases d:bW z=[48]
   ·rw[if_pos d]at a;exact⟨0,o_,a⟩
   ·rw[if_neg d,if_neg (by simpa using c)]at a;exact⟨1,o_,a⟩
  obtain⟨v,i,b⟩:=b;rw[e]at b⊢;simp[f168];refine c1 b ?_;simp[i]
def fK(s:List Nat)(D:Nat):Bool:=decide (s.length<=2*D+2)&&decide (bK s=0)&&decide ((bc (aI s).num.natAbs).length<=D)&&decide ((bc (aI s).den).length<=D)
theorem aCX{s:List Nat}(h:bK s=0):bE kB (aI s):=by
 obtain⟨b,c⟩:=Ia h;have a:(10:Nat)^mD<=2^kB:=h8 (PF mD) (h5 (by decide) (by decide));exact⟨h6 b a,h6 c a⟩
theorem B5(s:List Nat)(D:Nat)(hs:gn s)(v:D<=100000):az prog 75 [.str s,.int .i64 D] (.bool (fK s D)):=by
 have g:=yA s hs;have hl:=hs.1;refine aJ nf (i_ func75) mix (by simp[f75]) ?_;have h:eb.wrap (2*(D:Int))=2*(D:Int):=aK _ o_ o_;have i:eb.wrap (2*(D:Int)+2)=2*(D:Int)+2:=aK _ o_ o_
 by_cases n:s.length<=2*D+2
 ·have f:(s.length:Int)<=2*(D:Int)+2:=by omega
  by_cases d:bK s=0
  ·have m:=aCX d;have e:=(jg d).1;rw[d]at g;have l:=aAL (aI s) m;have p:=aAE (aI s) m;have r:(bW (aI s).num).length<=1000000:=by
    have:=sD m;obtain⟨_,t,u⟩:=CZ (aI s)
    by_cases q:(aI s).den=1
    ·rw[u q]at this;exact this
    ·rw[t q]at this;simp at this;omega
   have o:=aAC (aI s).num r;rw[e]at l p;have hf:fK s D=(decide ((bc (aI s).num.natAbs).length<=D)&&decide ((bc (aI s).den).length<=D)):=by
    rw[fK,decide_eq_true n,decide_eq_true d];simp
   rw[hf];generalize bc (aI s).num.natAbs=a at*;generalize bc (aI s).den=b at*;generalize bW (aI s).num=c at*
   by_cases j:a.length<=D
   ·have k:(a.length:Int)<=D:=by omega
    simp[f75,h,i,f];refine c1 g ?_;simp;refine c1 l ?_;simp;refine c1 o ?_;simp[j,k];refine c1 p ?_;simp[j]
   ·have k:¬(a.length:Int)<=D:=by omega
    simp[f75,h,i,f];refine c1 g ?_;simp;refine c1 l ?_;simp;refine c1 o ?_;simp[j,k]
  ·have hf:fK s D=false:=by rw[fK,decide_eq_false d];simp
   rw[hf];simp[f75,h,i,f];refine c1 g ?_;simp[d]
 ·have f:¬(s.length:Int)<=2*(D:Int)+2:=by omega
  have hf:fK s D=false:=by rw[fK,decide_eq_false n];simp
  rw[hf];simp[f75,h,i,f]
structure V2 where
 x:Rat
 y:Rat
def eV(v:V2):PV:=ft ⟨bg v.x,bg v.y⟩
@[simp] theorem aT8(v:V2):aP (eV v)=.agg 81:=rfl
@[simp] theorem aSO(v:V2):cS (eV v)=[.str (bg v.x),.str (bg v.y)]:=rfl
theorem vt(x y:Rat):eV ⟨x,y⟩=.st 81 [.str (bg x),.str (bg y)]:=rfl
def bP(k:Nat)(v:V2):Prop:=bE k v.x/\bE k v.y
theorem bP.mono{k l:Nat}{v:V2}(h:bP k v)(hl:k<=l):bP l v:=⟨h.1.mono hl,h.2.mono hl⟩
def V2.sub(v w:V2):V2:=⟨v.x-w.x,v.y-w.y⟩
def V2.add(v w:V2):V2:=⟨v.x+w.x,v.y+w.y⟩
def V2.mul(v:V2)(k:Rat):V2:=⟨v.x*k,v.y*k⟩
def V2.dot(v w:V2):Rat:=v.x*w.x+v.y*w.y
def V2.er(v w:V2):Rat:=v.x*w.y-v.y*w.x
theorem mr{k l:Nat}{v w:V2}(h:bP k v)(a:bP l w):bP (k+l+1) (v.sub w):=⟨uD h.1 a.1,uD h.2 a.2⟩
theorem Hu{k l:Nat}{v w:V2}(h:bP k v)(a:bP l w):bP (k+l+1) (v.add w):=⟨BH h.1 a.1,BH h.2 a.2⟩
theorem DH{k l:Nat}{v w:V2}(h:bP k v)(a:bP l w):bE (k+l+(k+l)+1) (v.dot w):=BH (ke h.1 a.1) (ke h.2 a.2)
theorem Hp{k l:Nat}{v w:V2}(h:bP k v)(a:bP l w):bE (k+l+(k+l)+1) (v.er w):=uD (ke h.1 a.2) (ke h.2 a.1)
theorem Hx{k l:Nat}{v:V2}{a:Rat}(h:bP k v)(b:bE l a):bP (k+l) (v.mul a):=⟨ke h.1 b,ke h.2 b⟩
def kQ:Nat:=20000
theorem eH{q:Rat}(h:bE kQ q):bE kB q:=h.mono (by decide)
theorem yN(v w:V2)(a:bP kQ v)(b:bP kQ w):az prog 35 [eV v,eV w] (eV (v.sub w)):=by
 have c:=Bj v.x w.x (eH a.1) (eH b.1);have d:=Bj v.y w.y (eH a.2) (eH b.2);refine aJ nf (i_ func35) mix (by simp[f35]) ?_;rw[V2.sub,vt];simp[f35,aa];refine e2 c ?_;simp[aa];refine e2 d ?_;simp[aa]
theorem aAF(v w:V2)(a:bP kQ v)(b:bP kQ w):az prog 103 [eV v,eV w] (.str (bg (v.dot w))):=by
 have c:=Bk v.x w.x (eH a.1) (eH b.1);have d:=Bk v.y w.y (eH a.2) (eH b.2);have e:=B6 (v.x*w.x) (v.y*w.y) ((ke a.1 b.1).mono (by decide)) ((ke a.2 b.2).mono (by decide));refine aJ nf (i_ func103) mix (by simp[f103]) ?_;rw[V2.dot];simp[f103,aa];refine e2 c ?_;simp[aa];refine e2 d ?_;simp[aa];refine e2 e ?_;simp
theorem Vk(v w:V2)(a:bP kQ v)(b:bP kQ w):az prog 231 [eV v,eV w] (.str (bg (v.er w))):=by
 have c:=Bk v.x w.y (eH a.1) (eH b.2);have d:=Bk v.y w.x (eH a.2) (eH b.1);have e:=Bj (v.x*w.y) (v.y*w.x) ((ke a.1 b.2).mono (by decide)) ((ke a.2 b.1).mono (by decide));refine aJ nf (i_ func231) mix (by simp[f231]) ?_;rw[V2.er];simp[f231,aa];refine e2 c ?_;simp[aa];refine e2 d ?_;simp[aa];refine e2 e ?_;simp
theorem DZ(v:V2)(a:bP kQ v):az prog 34 [eV v] (.str (bg (v.dot v))):=by
 refine aJ nf (i_ func34) mix (by simp[f34]) ?_;simp[f34,aa];refine c2 (aAF v v a a) ?_;simp
theorem aAK(v w:V2)(a:bP kQ v)(b:bP kQ w):az prog 112 [eV v,eV w] (eV (v.add w)):=by
 have c:=B6 v.x w.x (eH a.1) (eH b.1);have d:=B6 v.y w.y (eH a.2) (eH b.2);refine aJ nf (i_ func112) mix (by simp[f112]) ?_;rw[V2.add,vt];simp[f112,aa];refine e2 c ?_;simp[aa];refine e2 d ?_;simp[aa]
def sN(r:Int):Rat:=((4*r*r:Int):Rat)
theorem Bh{r:Int}(a:0<=r)(b:r<=1000000):0<=4*r*r/\4*r*r<=4000000000000:=by
 have c:=fl a a;have d:=Int.mul_le_mul b b a (by decide);rw[Int.mul_assoc];omega
theorem Lt{r:Int}(a:0<=r)(b:r<=1000000):bE 42 (sN r):=by
 have:=Bh a b;exact yk o_ (by decide)
structure S3 where
 a:Rat
 b:Rat
 d:Rat
theorem QA:prog.stoodInHeld 82=false:=k_
@[simp] theorem aSc:lO prog 82=true:=k_
def pA(a b c d:List Nat):Bool:=decide (a=c/\b=d)
@[simp] theorem aSi{a b c d:List Nat}:eA prog 9 82 (.st 81 [.str a,.str b]) (.st 81 [.str c,.str d])=some (pA a b c d):=by
 have e:=underlying82;have:((a==c)&&((b==d)&&true))=pA a b c d:=by
  rw[pA,Bool.eq_iff_iff];simp
 rw[<-this];simp[eA,e,QA,gv,aP]
theorem Oz(p:gO)(D:Nat)(d:oC p)(c:D<=100000):az prog 76 [ft p,.int .i64 D] (.bool (fK p.x D&&fK p.y D)):=by
 have a:=B5 p.x D d.1 c;have b:=B5 p.y D d.2 c;refine aJ nf (i_ func76) mix (by simp[f76]) ?_;obtain⟨x,y⟩:=p;dsimp only at a b⊢;simp only[ft];cases hx:fK x D
 ·rw[hx]at a;simp[f76,aa];refine c2 a ?_;simp
 ·rw[hx]at a;simp[f76,aa];refine c2 a ?_;simp[aa];refine c2 b ?_;simp
def y5(k:Nat)(s:S3):Prop:=bE k s.a/\bE k s.b/\bE k s.d
theorem y5.mono{k l:Nat}{s:S3}(h:y5 k s)(hl:k<=l):y5 l s:=⟨h.1.mono hl,h.2.1.mono hl,h.2.2.mono hl⟩
def S3.add(s t:S3):S3:=⟨s.a+t.a,s.b+t.b,s.d⟩
def S3.mul(s t:S3):S3:=⟨s.a*t.a+s.b*t.b*s.d,s.a*t.b+t.a*s.b,s.d⟩
def S3.times(x:Rat)(s:S3):S3:=⟨x*s.a,x*s.b,s.d⟩
def kS:Nat:=8000
structure P4 where
 x:S3
 y:S3
def GX(k:Nat)(p:P4):Prop:=y5 k p.x/\y5 k p.y
theorem GX.mono{k l:Nat}{p:P4}(h:GX k p)(hl:k<=l):GX l p:=⟨h.1.mono hl,h.2.mono hl⟩
def P4.dot(v:V2)(p:P4):S3:=(S3.times v.x p.x).add (S3.times v.y p.y)
theorem azj(q:Rat):fN q= -1\/fN q=0\/fN q=1:=by
 rw[fN];split
 ·exact .inl rfl
 ·split
  ·exact .inr (.inl rfl)
  ·exact .inr (.inr rfl)
def sg3(a b o:Int):Int:=if 0<=a*b then(if a=0 then b else a)else a*o
def sgS(s:S3):Int:=sg3 (fN s.a) (fN s.b*fN s.d) (dx (s.a*s.a) (s.b*s.b*s.d))
namespace Hk
def lM:Nat:=9223372036854775808
def Bp:Nat:=1606938044258990275541962092341162602522202993782792835301376
def rE{α:Type}(n:Nat)(f:Nat->α):α:=match n with
 |0=>f 0
 |k+1=>f (k+1)
theorem yd{α:Type}(n:Nat)(f:Nat->α):rE n f=f n:=by cases n<;>rfl
def Cg{α:Type}(z:Int)(f:Int->α):α:=match z with
 | .ofNat n=>rE n fun n=>f (.ofNat n)
 | .negSucc n=>rE n fun n=>f (.negSucc n)
theorem Qg{α:Type}(z:Int)(f:Int->α):Cg z f=f z:=by cases z<;>simp[Cg,yd]
def pU:Int->Bool
 | .ofNat n=>kg n lM
 | .negSucc n=>kg (n+1) lM
theorem Bl{z:Int}:pU z=true↔z.natAbs<9223372036854775808:=by
 cases z with
 |ofNat n=>simp only[pU,ko,lM];exact Iff.rfl
 |negSucc n=>simp only[pU,ko,lM];exact Iff.rfl
def pM:Int->Int->Bool
 | .ofNat a,.ofNat b=>i2 a b
 | .negSucc a,.negSucc b=>i2 a b
 |_,_=>false
theorem BB:∀{a b:Int},pM a b=true->a=b
 | .ofNat a,.ofNat b,h=>by simp only[pM]at h;rw[ih h]
 | .negSucc a,.negSucc b,h=>by simp only[pM]at h;rw[ih h]
 | .ofNat a,.negSucc b,h=>by simp[pM]at h
 | .negSucc a,.ofNat b,h=>by simp[pM]at h
def vK(z:Int):Option PV:=bif pU z then some (fw z)else bif i2 z.natAbs lM then none else some (lL z)
theorem A3{z:Int}{p:PV}(h:vK z=some p)(m:Bool):eI ⟨z,m⟩=p:=by
 unfold vK at h;rw[jP];rcases hs:pU z with _|_
 ·simp only[hs,cond_false]at h;rcases a:i2 z.natAbs lM with _|_
  case true=>rw[a]at h;cases h
  ·have c:¬i2 z.natAbs lM=true:=by rw[a];decide
   rw[a,cond_false]at h;simp only[mo]at h;have b:¬z.natAbs<9223372036854775808:=fun h=>by rw[Bl.2 h]at hs;cases hs
   have d:z.natAbs≠9223372036854775808:=fun e=>c (by rw[e];rfl);rw[if_neg,h];simp only[NI.sm,dq,decide_eq_true_eq,dk,not_or,not_and];exact⟨o_,fun h=>by omega⟩
 ·simp only[hs,cond_true,mo]at h;have b:=Bl.1 hs;rw[if_pos,h];simp only[NI.sm,dq,decide_eq_true_eq,dk];exact .inl o_
def zd:List PV->Option (List Nat)
 |[]=>some []
 | .int .u64 (.ofNat x)::r=>match zd r with
  |some l=>some (x::l)
  |none=>none
 |_=>none
theorem QY:∀{l:List PV}{a:List Nat},zd l=some a->l=a.map fun x:Nat=>PV.int .u64 x
 |[],a,h=>by simp only[zd,mo]at h;subst h;rfl
 |v::r,a,h=>by
  unfold zd at h
  split at h
  ·rename_i e;cases e
  ·rename_i x b e;cases e
   split at h
   ·rename_i l hl;simp only[mo]at h;subst h;rw[QY hl];rfl
   ·cases h
  ·cases h
def tX:List Nat->List Nat->Bool
 |[],[]=>true
 |x::a,y::b=>bif i2 x y then tX a b else false
 |_,_=>false
theorem E5:∀{a b:List Nat},tX a b=true->a=b
 |[],[],_=>rfl
 |[],_::_,h=>by simp[tX]at h
 |_::_,[],h=>by simp[tX]at h
 |x::a,y::b,h=>by
  simp only[tX,dl]at h
  split at h
  ·rename_i hx;rw[ih hx,E5 h]
  ·cases h
def Cd:PV->Option Int
 | .st u [.int .i64 z,.aH]=>bif i2 u 162 then(bif pU z then some z else none)else none
 | .st u [.int .i64 s,.seq l]=>match zd l with
  |some a=>rE (jx wB a) fun n=>bif i2 u 162&&(kg lM n&&tX (aw wB n) a)then
   (bif pM s 1 then some (.ofNat n)else bif pM s (-1)then some (.negSucc (n-1))else none)else none
  |none=>none
 |_=>none
theorem Qk{p:PV}{z:Int}(h:Cd p=some z):p=eI ⟨z,false⟩:=by
 unfold Cd at h
 split at h
 ·rename_i u y;simp only[dl]at h
  split at h
  ·rename_i f
   split at h
   ·rename_i hs;simp only[mo]at h;subst h;rw[ih f];exact(A3 (by rw[vK,hs];rfl) false).symm
   ·cases h
  ·cases h
 ·rename_i u s l
  split at h
  ·rename_i g e;rw[yd]at h;have hl:=QY e;generalize jx wB g=n at h;simp only[dl]at h
   split at h
   ·rename_i hc;simp only[dk,ko]at hc;obtain⟨b,i,c⟩:=hc;have d:=E5 c;have j:lM=9223372036854775808:=rfl;rw[ih b,hl,<-d];have key:∀z:Int,z.natAbs=n->eI ⟨z,false⟩=lL z:=fun z k=>by
     refine A3 ?_ false;have e1:pU z=false:=by
      rcases a:pU z with _|_
      ·rfl
      ·have:=Bl.1 a;omega
     have e2:i2 z.natAbs lM=false:=by
      rcases a:i2 z.natAbs lM with _|_
      ·rfl
      ·have:=ih a;omega
     rw[vK,e1,e2];rfl
    split at h
    ·rename_i hs;simp only[mo]at h;subst h;rw[BB hs,key _ rfl,lL,if_neg (by show¬((n:Int)<0);omega)];rfl
    ·split at h
     ·rename_i hs;simp only[mo]at h;subst h;rw[BB hs,key _ (by show n-1+1=n;omega),lL,if_pos o_];have:(fv (n-1)).natAbs=n:=by show n-1+1=n;omega
      rw[this];rfl
     ·cases h
   ·cases h
  ·cases h
 ·cases h
def GZ(n:Int)(d:Nat):Bool:=kg 0 d&&(kg n.natAbs Bp&&(kg d Bp&&i2 (jp n.natAbs d) 1))
def rB:PV->Option (Int×Nat)
 | .st u [a,b]=>match Cd a,Cd b with
  |some n,some (.ofNat d)=>bif i2 u 164&&GZ n d then some (n,d)else none
  |_,_=>none
 |_=>none
def fr(n:Int)(d:Nat):NF:=⟨ms n d,false⟩
theorem ZQ:Bp=2^200:=by decide
theorem E9{p:PV}{n:Int}{d:Nat}(h:rB p=some (n,d)):p=eF (fr n d)/\d≠0/\bE kB (fr n d).q:=by
 unfold rB at h
 split at h
 case h_2=>cases h
 rename_i u a b
 split at h
 case h_2=>cases h
 rename_i c d' j k;simp only[dl]at h
 split at h
 case isFalse=>cases h
 rename_i hc;simp only[mo,Prod.mk.injEq]at h;obtain⟨rfl,rfl⟩:=h;simp only[GZ,dk,ko]at hc;obtain⟨c1,c2,c3,c4,c5⟩:=hc;have f:=ih c5;have e:d'≠0:=o_
 obtain⟨e1,e2⟩:=mK (n:=c) e;rw[f]at e1 e2;simp only[gb,gi,j3]at e1 e2;rw[ZQ]at c3 c4;refine⟨?_,e,(ER e c3 c4).mono (by decide)⟩;rw[ih c1,Qk j,Qk k,eF];have g:(fr c d').num=⟨c,false⟩:=by rw[NF.num,fr,e1]
 have i:(fr c d').den=⟨(d':Int),false⟩:=by rw[NF.den,fr,e2];rfl
 rw[g,i];rfl
def om(n:Int)(d:Nat):Option PV:=
 rE (jp n.natAbs d) fun g=>Cg (n/g) fun n=>rE (d/g) fun d=>match vK n,vK (.ofNat d)with
  |some a,some b=>some (.st 164 [a,b])
  |_,_=>none
theorem qI{n:Int}{d:Nat}{p:PV}(i:d≠0)(h:om n d=some p)(m:Bool):p=eF ⟨ms n d,m⟩:=by
 obtain⟨e1,e2⟩:=mK (n:=n) i;simp only[om,yd,Qg]at h
 split at h
 case h_2=>cases h
 rename_i a b f g;simp only[mo]at h;subst h;rw[eF];have c:(NF.num ⟨ms n d,m⟩)=⟨n/(jp n.natAbs d:Nat),m⟩:=by rw[NF.num,e1]
 have e:(NF.den ⟨ms n d,m⟩)=⟨((d/jp n.natAbs d:Nat):Int),false⟩:=by rw[NF.den,e2];rfl
 rw[c,e,A3 f,<-A3 g false];rfl
def two(op:Int->Nat->Int->Nat->Option PV)(a b:PV):Option PV:=match rB a,rB b with
 |some (n,d),some (m,e)=>op n d m e
 |_,_=>none
theorem yh{op:Int->Nat->Int->Nat->Option PV}{a b p:PV}(h:two op a b=some p):
 ∃n d m e,a=eF (fr n d)/\b=eF (fr m e)/\d≠0/\e≠0/\bE kB (fr n d).q/\bE kB (fr m e).q/\op n d m e=some p:=by
 unfold two at h
 split at h
 case h_2=>cases h
 rename_i n d m e j k;obtain⟨c,a2,a3⟩:=E9 j;obtain⟨f,g,i⟩:=E9 k;exact⟨n,d,m,e,c,f,a2,g,a3,i,h⟩
def Uk(n:Int)(d:Nat)(m:Int)(e:Nat):Option PV:=om (n*e+m*d) (d*e)
def Um(n:Int)(d:Nat)(m:Int)(e:Nat):Option PV:=om (n*e-m*d) (d*e)
def Ul(n:Int)(d:Nat)(m:Int)(e:Nat):Option PV:=om (n*m) (d*e)
def CB:Int->Int
 | .ofNat n=>bif i2 n 0 then 0 else 1
 | .negSucc _=>-1
theorem Py(z:Int):CB z=if z<0 then -1 else if z=0 then 0 else 1:=by
 cases z with
 |ofNat n=>
  rw[if_neg s_];cases n with
  |zero=>rfl
  |succ n=>rw[if_neg (by simp;omega)];rfl
 |negSucc n=>rw[if_pos o_];rfl
def GW(n:Int)(d:Nat)(m:Int)(e:Nat):Option PV:=some (.int .i64 (CB (n*e-m*d)))
def Cr(n:Int)(d:Nat)(m:Int)(e:Nat):Option PV:=match m with
 | .ofNat k=>bif i2 k 0 then none else om (n*e) (d*k)
 | .negSucc k=>om (-(n*e)) (d*(k+1))
theorem vJ{d:Nat}(h:d≠0):(d:Int)≠0:=o_
theorem aBF{n m:Int}{d e:Nat}{p:PV}(a:d≠0)(b:e≠0)(h:Uk n d m e=some p):p=eF ((fr n d).add (fr m e)):=by
 rw[NF.add,fr,fr];dsimp only;rw[m3 _ _ (vJ a) (vJ b)];have:=qI (kc a b) h;rw[eo]at this;exact this _
theorem aBT{n m:Int}{d e:Nat}{p:PV}(a:d≠0)(b:e≠0)(h:Um n d m e=some p):p=eF ((fr n d).sub (fr m e)):=by
 rw[NF.sub,NF.add,NF.neg,fr,fr];dsimp only;rw[m8,m3 _ _ (vJ a) (vJ b)];have:=qI (kc a b) h;rw[eo]at this;rw[gl,<-Int.sub_eq_add_neg];exact this _
theorem aBP{n m:Int}{d e:Nat}{p:PV}(a:d≠0)(b:e≠0)(h:Ul n d m e=some p):p=eF ((fr n d).mul (fr m e)):=by
 rw[NF.mul,fr,fr];dsimp only;rw[m0];have:=qI (kc a b) h;rw[eo]at this;exact this _
theorem avy(x y:Rat):dx x y=if x-y<0 then -1 else if x-y=0 then 0 else 1:=by
 have b:x-y<0↔x<y:=by
  constructor
  ·intro h;have a:=(m4 (c:=y)).2 h
   rwa [mx,m1]at a
  ·intro h;refine(m4 (c:=y)).1 ?_
   rwa [mx,m1]
 have a:x-y=0↔x=y:=by
  constructor
  ·intro h;have d:=congrArg (·+y) h
   simpa[mx,m1]using d
  ·intro h;rw[h,na]
 simp only[dx,b,a]
theorem Em(n:Int){d:Nat}(i:d≠0):(if ms n d<0 then(-1:Int)else if ms n d=0 then 0 else 1)=CB n:=by
 rw[FP,Py];obtain⟨e1,-⟩:=mK (n:=n) i;have k:0<jp n.natAbs d:=kb _ o_;have j:((jp n.natAbs d:Nat):Int)∣n:=by
  rw[e9];exact kN _ _
 obtain⟨c,hc⟩:=j;rw[e1];generalize jp n.natAbs d=g at*;have a:(0:Int)<g:=o_
 subst hc;rw[e8 _ o_];have b:(g:Int)*c<0↔c<0:=by
  constructor
  ·intro h;refine Int.not_le.1 fun f=>?_;have:=fl (fb a) f;omega
  ·intro h;exact fm a h
 have e:(g:Int)*c=0↔c=0:=by
  rw[Int.mul_eq_zero];constructor
  ·rintro(h|h)
   ·omega
   ·exact h
  ·exact fun h=>.inr h
 simp only[b,e]
theorem aBL{n m:Int}{d e:Nat}{p:PV}(a:d≠0)(b:e≠0)(h:GW n d m e=some p):p=.int .i64 (dx (fr n d).q (fr m e).q):=by
 simp only[GW,mo]at h;rw[<-h,avy,fr,fr];dsimp only;rw[Rat.divInt_sub_divInt _ _ (vJ a) (vJ b),<-eo,Em _ (kc a b)]
theorem RL{n m:Int}{d e:Nat}{p:PV}(a:d≠0)(c:e≠0)(h:Cr n d m e=some p):p=eF ((fr n d).div (fr m e))/\(fr m e).q≠0:=by
 have b:m≠0->(fr m e).q≠0:=fun g hq=>by
  rw[fr]at hq;dsimp only at hq;have:=Em m c;rw[hq,if_neg (by decide),if_pos rfl,Py]at this
  split at this
  ·omega
  ·first
     |omega
     |(rw[if_neg g]at this;omega)
 rw[NF.div,fr,fr];dsimp only;unfold Cr at h;cases m with
 |ofNat k=>
  simp only[dl]at h
  split at h
  ·cases h
  ·rename_i hk;have f:k≠0:=fun e=>hk (by rw[e];rfl);have:=qI (kc a f) h;refine⟨?_,b (by show(k:Int)≠0;omega)⟩;have e:(ms n d:Rat)/ms (Int.ofNat k) e=ms (n*e) (d*k):=by
    rw[m2,m9,m0];rfl
   rw[e];rw[eo]at this;exact this _
 |negSucc k=>
  dsimp only at h;have:=qI (kc a (Nat.succ_ne_zero k)) h;refine⟨?_,b o_⟩;have e:(ms n d:Rat)/ms (fv k) e=ms (-(n*e)) ((d:Int)*((k+1:Nat):Int)):=by
   rw[m2,m9,m0];rw[show fv k= -((k+1:Nat):Int)from rfl,gm];rw[Rat.divInt_neg']
  rw[e];rw[eo]at this;exact this _
def Cq:Nat->Nat->Nat
 |0,_=>0
 |f+1,n=>bif i2 n 0 then 0 else Cq f (n/10)+1
theorem aAw{a b:Nat}(h:a<b):kg a b=true:=by rw[ko];exact h
theorem B9{a b:Nat}(h:kg a b=true):a<b:=by rw[ko]at h;exact h
theorem Ry:∀(f n:Nat),n<10^f->Cq f n=nd n
 |0,n,h=>by
  have:n=0:=by simpa using h
  subst this;rw[nd];rfl
 |f+1,n,h=>by
  rw[Cq,nd]
  by_cases a:n=0
  ·subst a;rfl
  ·have b:i2 n 0=false:=by
    rcases c:i2 n 0 with _|_
    ·rfl
    ·exact(a (ih c)).elim
   rw[b,cond_false,dif_neg a,Ry f (n/10) (by rw[ix o_];rw[ip]at h;exact h)]
def v7(n:Nat):List Nat:=rE (Cq 80 n) fun k=>bif kg 1 k then low k n else low 1 n
theorem BG{n:Nat}(h:n<10^80):v7 n=bc n:=by
 rw[v7,yd,Ry _ _ h,bc];rcases a:kg 1 (nd n)with _|_
 ·have:¬1<nd n:=fun b=>by rw[aAw b]at a;cases a
  rw[cond_false,Nat.max_eq_left o_]
 ·have:1<nd n:=B9 a;rw[cond_true,Nat.max_eq_right o_]
def Hf:Int->List Nat
 | .ofNat n=>v7 n
 | .negSucc n=>45::v7 (n+1)
theorem aQT{z:Int}(h:z.natAbs<10^80):Hf z=bW z:=by
 cases z with
 |ofNat n=>rw[bW,if_neg (by show¬((n:Int)<0);omega)];exact BG h
 |negSucc n=>rw[bW,if_pos o_];exact congrArg (45::·) (BG h)
def He(n:Int)(d:Nat):List Nat:=bif i2 d 1 then Hf n else Hf n++47::v7 d
theorem OO{n:Int}{d:Nat}(a:d≠0)(b:jp n.natAbs d=1):(fr n d).q.num=n/\(fr n d).q.den=d:=by
 obtain⟨e1,e2⟩:=mK (n:=n) a;rw[b]at e1 e2;simp only[gb,gi,j3]at e1 e2;exact⟨e1,e2⟩
theorem OT{p:PV}{n:Int}{d:Nat}(h:rB p=some (n,d)):jp n.natAbs d=1/\n.natAbs<10^80/\d<10^80:=by
 unfold rB at h
 split at h
 case h_2=>cases h
 split at h
 case h_2=>cases h
 simp only[dl]at h
 split at h
 case isFalse=>cases h
 rename_i hc;simp only[mo,Prod.mk.injEq]at h;obtain⟨rfl,rfl⟩:=h;simp only[GZ,dk,ko]at hc;obtain⟨c1,c2,c3,c4,c5⟩:=hc;have a:Bp<10^80:=by decide
 exact⟨ih c5,o_,o_⟩
theorem aQS{p:PV}{n:Int}{d:Nat}(h:rB p=some (n,d))(f:d≠0):He n d=bg (fr n d).q:=by
 obtain⟨g,b,c⟩:=OT h;obtain⟨e1,e2⟩:=OO f g;rw[He,bg,e1,e2,aQT b,BG c];rcases a:i2 d 1 with _|_
 ·rw[cond_false,if_neg (fun e=>by rw[e]at a;cases a)]
 ·rw[cond_true,if_pos (ih a)]
def ru:List Nat->Nat->Bool
 |[],_=>true
 |c::r,f=>match f with
  |0=>false
  |f+1=>bif kg c 256 then ru r f else false
theorem yt:∀{s:List Nat}{f:Nat},ru s f=true->s.length<=f/\∀c∈s,c<256
 |[],_,_=>⟨j4 _,fun c hc=>by cases hc⟩
 |c::r,0,h=>by simp[ru]at h
 |c::r,f+1,h=>by
  simp only[ru,dl]at h
  split at h
  ·rename_i hc;obtain⟨b,a⟩:=yt h;refine⟨by simp;omega,fun x hx=>?_⟩;rcases ho.1 hx with rfl|hx
   ·exact B9 hc
   ·exact a x hx
  ·cases h
def Ue(z:Int):Bool:=match z with
 | .ofNat n=>i2 n 0
 |_=>false
theorem aN4{z:Int}(h:Ue z=true):z=0:=by
 cases z with
 |ofNat n=>rw[ih (show i2 n 0=true from h)];rfl
 |negSucc n=>cases h
def Gt(n:Int)(d:Nat):Option PV:=bif i2 d 0 then none else om n d
theorem aKM{n:Int}{d:Nat}{p:PV}(h:Gt n d=some p)(m:Bool):p=eF ⟨ms n d,m⟩:=by
 unfold Gt at h;rcases a:i2 d 0 with _|_
 ·rw[a]at h;exact qI (fun e=>by rw[e]at a;cases a) h m
 ·rw[a]at h;cases h
def Gu(s:List Nat):Option PV:=bif Ue (bK s)&&ru s 1000 then
 Cg (if cq s=true then -(bd (bM s):Int)else bd (bM s)) fun n=>rE (if eK s=true then bd (b6 s)else 1) fun d=>Gt n d else none
theorem aKN{s:List Nat}{p:PV}(h:Gu s=some p):p=eF ⟨aI s,false⟩/\bK s=0/\s.length<=1048576:=by
 unfold Gu at h;simp only[dl,Qg,yd]at h
 split at h
 case isFalse=>cases h
 rename_i hc;rw[dk]at hc;obtain⟨c1,c2⟩:=hc;obtain⟨a,b⟩:=yt c2;refine⟨?_,aN4 c1,o_⟩;rw[aI];exact aKM h false
def Ti:Int->Bool
 | .ofNat n=>kg n lM
 | .negSucc n=>kg n lM
theorem aLq{z:Int}(h:Ti z=true):-9223372036854775808<=z/\z<=9223372036854775807:=by
 cases z with
 |ofNat n=>have:n<9223372036854775808:=B9 h;refine⟨?_,?_⟩<;>show _<=_<;>simp only[Int.ofNat_eq_natCast]<;>omega
 |negSucc n=>have:n<9223372036854775808:=B9 h;omega
def G1(f:Nat)(a:PV):Option PV:=match a with
 | .int .i64 z=>bif i2 f 94&&Ti z then om z 1 else none
 | .str s=>bif i2 f 110 then Gu s else bif i2 f 190&&ru s 1000 then some (.int .i64 (bK s))else none
 | .st u [.str x,.str y]=>bif i2 f 120&&(i2 u 81&&(ru x 1000&&ru y 1000))then some (.int .i64 (df ⟨x,y⟩))else none
 | .st u [c,e]=>match rB (.st u [c,e])with
  |some (n,d)=>bif i2 f 173 then om (-n) d else
   bif i2 f 122 then some (.int .i64 (CB n))else
   bif i2 f 185 then Cr 1 1 n d else
   bif i2 f 176 then some (.str (He n d))else
   bif i2 f 175 then some (.bool false)else none
  |none=>none
 |_=>none
def vZ(f:Nat)(a b:PV):Option PV:=
 bif i2 f 96 then two Uk a b else
 bif i2 f 172 then two Um a b else
 bif i2 f 184 then two Ul a b else
 bif i2 f 99 then two Cr a b else
 bif i2 f 101 then two GW a b else none
def hk(f:Nat):List PV->Option PV
 |[a]=>G1 f a
 |[a,b]=>vZ f a b
 |_=>none
theorem S0(z:Int):ms z ((1:Nat):Int)=(z:Rat):=by
 rw[show((1:Nat):Int)=1 from rfl,Rat.divInt_eq_div];rw[show((1:Int):Rat)=1 from rfl,m2,show(1:Rat)⁻¹=1 from by decide+kernel,Rat.mul_one]
theorem bq{a b:Nat}(h:i2 a b=true):a=b:=ih h
theorem aO9{f:Nat}{a v:PV}(h:G1 f a=some v):az prog f [a] v:=by
 unfold G1 at h
 split at h
 ·rename_i z;simp only[dl]at h
  split at h
  ·rename_i hc;rw[dk]at hc;obtain⟨t,w⟩:=aLq hc.2;rw[bq hc.1,qI (by decide) h true];have:=ry z t w;rw[NF.int]at this;rw[S0];exact this
  ·cases h
 ·rename_i s;simp only[dl]at h
  split at h
  ·rename_i hf;obtain⟨e1,e2,e3⟩:=aKN h;rw[bq hf,e1];exact kL s e2 e3
  ·split at h
   ·rename_i hc;rw[dk]at hc;obtain⟨j,b⟩:=yt hc.2;simp only[mo]at h;subst h;rw[bq hc.1];exact yK s o_ b
   ·cases h
 ·rename_i u x y;simp only[dl]at h
  split at h
  ·rename_i hc;simp only[dk]at hc;obtain⟨c1,c2,c3,c4⟩:=hc;obtain⟨j,b⟩:=yt c3;obtain⟨A,o⟩:=yt c4;simp only[mo]at h;subst h;rw[bq c1,bq c2];exact DF ⟨x,y⟩ ⟨⟨by show x.length<=_;omega,b⟩,⟨by show y.length<=_;omega,o⟩⟩
  ·cases h
 ·rename_i u c e _
  split at h
  case h_2=>cases h
  rename_i n d l;obtain⟨r,g,i⟩:=E9 l;rw[r];simp only[dl]at h
  split at h
  ·rename_i hf;rw[bq hf,qI g h false,<-m8];exact BD _ i
  split at h
  ·rename_i hf;simp only[mo]at h;subst h;rw[bq hf,<-Em n g];exact Fw _
  split at h
  ·rename_i hf;obtain⟨e1,e2⟩:=RL (by decide) g h;have e3:(fr 1 1).div (fr n d)=(fr n d).inv:=by
    rw[NF.div,NF.inv,fr,fr];dsimp only;rw[S0,m2];rw[show((1:Int):Rat)=1 from rfl,Rat.one_mul]
   rw[bq hf,e1,e3];exact O2 _ i e2
  split at h
  ·rename_i hf;simp only[mo]at h;subst h;rw[bq hf,aQS l g];exact AZ _ i
  split at h
  ·rename_i hf;simp only[mo]at h;subst h;rw[bq hf];have hl:=A7 _ i;obtain⟨p,j,b⟩:=OT l;obtain⟨e1,e2⟩:=OO g p;have m:∀k,k<10^80->lS k=false:=fun k hk=>by
    rw[lS,decide_eq_false_iff_not];have B:nd k<=80:=Nat.not_lt.1 fun q=>by have:=(n8 _ _).1 q;omega
    rw[qA];omega
   rw[yZ,e1,e2,m _ j,m _ b]at hl;exact hl
  ·cases h
 ·cases h
theorem aQO{f:Nat}{a b v:PV}(h:vZ f a b=some v):az prog f [a,b] v:=by
 unfold vZ at h;simp only[dl]at h
 split at h
 ·rename_i hf;obtain⟨n,d,m,e,rfl,rfl,c,g,j,k,i⟩:=yh h;rw[bq hf,aBF c g i];exact vG _ _ j k
 split at h
 ·rename_i hf;obtain⟨n,d,m,e,rfl,rfl,c,g,j,k,i⟩:=yh h;rw[bq hf,aBT c g i];exact yo _ _ j k
 split at h
 ·rename_i hf;obtain⟨n,d,m,e,rfl,rfl,c,g,j,k,i⟩:=yh h;rw[bq hf,aBP c g i];exact qQ _ _ j k
 split at h
 ·rename_i hf;obtain⟨n,d,m,e,rfl,rfl,c,g,j,k,i⟩:=yh h;obtain⟨e1,e2⟩:=RL c g i;rw[bq hf,e1];exact Sz _ _ j k e2
 split at h
 ·rename_i hf;obtain⟨n,d,m,e,rfl,rfl,c,g,j,k,i⟩:=yh h;rw[bq hf,aBL c g i];exact rl _ _ j k
 ·cases h
theorem aLm{f:Nat}{vs:List PV}{v:PV}(h:hk f vs=some v):az prog f vs v:=by
 unfold hk at h
 split at h
 ·exact aO9 h
 ·exact aQO h
 ·cases h
end Hk
theorem aQV{n:Nat}(h:n<10^80):bg ((n:Nat):Rat)=Hk.v7 n:=by
 rw[Hk.BG h,bg,if_pos (by rfl),bW,if_neg (by show¬((n:Int)<0);omega)];rfl
structure bU where
 x:Int
 y:Int
 deriving DecidableEq
structure bZ where
 name:List Nat
 bH:Int
 a:List Nat
 b:List Nat
structure bR where
 name:List Nat
 pt:gO
structure aj where
 cs:List bU
 aU:Int
 aB:List bZ
 ag:List bR
def aG(p:bU):PV:=.st 63 [.int .i64 p.x,.int .i64 p.y]
def bn(p:bZ):PV:=.st 87 [.str p.name,.int .i64 p.bH,.str p.a,.str p.b]
def aR(p:bR):PV:=.st 84 [.str p.name,ft p.pt]
def cg(t:aj):PV:=.st 25 [.seq (t.cs.map aG),.int .i64 t.aU,.seq (t.aB.map bn),.seq (t.ag.map aR)]
@[simp] theorem aT1(p:bU):aP (aG p)=.agg 63:=rfl
@[simp] theorem aSI(p:bU):cS (aG p)=[.int .i64 p.x,.int .i64 p.y]:=rfl
@[simp] theorem aTX(p:bZ):aP (bn p)=.agg 87:=rfl
@[simp] theorem aSF(p:bZ):cS (bn p)=[.str p.name,.int .i64 p.bH,.str p.a,.str p.b]:=rfl
@[simp] theorem aT2(p:bR):aP (aR p)=.agg 84:=rfl
@[simp] theorem aSJ(p:bR):cS (aR p)=[.str p.name,ft p.pt]:=rfl
@[simp] theorem aT7(t:aj):aP (cg t)=.agg 25:=rfl
@[simp] theorem aSN(t:aj):cS (cg t)=[.seq (t.cs.map aG),.int .i64 t.aU,.seq (t.aB.map bn),.seq (t.ag.map aR)]:=rfl
@[simp] theorem aRN:prog.cellsOf 63=2:=k_
@[simp] theorem aRL:prog.cellsOf 87=4:=k_
@[simp] theorem aRO:prog.cellsOf 84=3:=k_
theorem Li(x y:Int):aG ⟨x,y⟩=.st 63 [.int .i64 x,.int .i64 y]:=rfl
def dd(p:bU):Bool:=decide (10000<max p.x p.y)||decide (min p.x p.y< -10000)
theorem DE(p:bU):az prog 61 [aG p] (.bool (dd p)):=by
 obtain⟨x,y⟩:=p;refine aJ nf (i_ func61) mix (by simp[f61]) ?_;have e1:max x y=if x<y then y else x:=by split<;>omega
 have e2:min x y=if y<x then y else x:=by split<;>omega
 rw[dd,e1,e2]
 by_cases h:(if x<y then y else x)<=10000
 ·have a:¬10000<(if x<y then y else x):=by omega
  by_cases b:(if y<x then y else x)< -10000
  ·simp[f61,aa,h,a,b]
  ·simp[f61,aa,h,a,b]
 ·have a:10000<(if x<y then y else x):=by omega
  simp[f61,aa,h,a]
def bV(p:bU):Prop:=-10000<=p.x/\p.x<=10000/\-10000<=p.y/\p.y<=10000
theorem rQ{p:bU}(h:dd p=false):bV p:=by
 simp only[dd,Bool.or_eq_false_iff,decide_eq_false_iff_not]at h;unfold bV;omega
def gF(a b c:bU):Int:=(b.x-a.x)*(c.y-a.y)-(b.y-a.y)*(c.x-a.x)
theorem ud{a b:Int}{A B:Int}(c:-A<=a)(d:a<=A)(e:-B<=b)(f:b<=B):-(A*B)<=a*b/\a*b<=A*B:=by
 have k1:a.natAbs<=A.natAbs:=o_
 have k2:b.natAbs<=B.natAbs:=o_
 have k3:=km k1 k2;rw[<-e7,<-e7]at k3;have k4:0<=A*B:=fl o_ o_;omega
theorem VE(a b c:bU)(i:bV a)(j:bV b)(hc:bV c):az prog 151 [aG a,aG b,aG c] (.int .i64 (gF a b c)):=by
 obtain⟨d,e⟩:=a;obtain⟨bx,f⟩:=b;obtain⟨g,h⟩:=c;simp only[bV]at i j hc;have k:eb.wrap (bx-d)=bx-d:=aK _ o_ o_;have l:eb.wrap (h-e)=h-e:=aK _ o_ o_;have m:eb.wrap (f-e)=f-e:=aK _ o_ o_
 have n:eb.wrap (g-d)=g-d:=aK _ o_ o_;have r:=ud (a:=bx-d) (b:=h-e) (A:=20000) (B:=20000) o_ o_ o_ o_;have s:=ud (a:=f-e) (b:=g-d) (A:=20000) (B:=20000) o_ o_ o_ o_;have o:eb.wrap ((bx-d)*(h-e))=(bx-d)*(h-e):=aK _ o_ o_;have p:eb.wrap ((f-e)*(g-d))=(f-e)*(g-d):=aK _ o_ o_;have q:eb.wrap ((bx-d)*(h-e)-(f-e)*(g-d))=(bx-d)*(h-e)-(f-e)*(g-d):=aK _ o_ o_;refine aJ nf (i_ func151) mix (by simp[f151]) ?_;rw[gF];simp[f151,aa,k,l,m,n,o,p,q]
def aj.nx(t:aj)(i:Nat):Nat:=(i+1)% t.cs.length
def aj.at(t:aj)(i:Nat):bU:=t.cs.getD i ⟨0,0⟩
theorem aj.get{t:aj}{i:Nat}(h:i<t.cs.length):t.cs[i]?=some (t.at i):=by
 rw[aj.at,hF,gp h];rfl
@[simp] theorem aj.aS{t:aj}{i:Nat}(h:i<t.cs.length):t.cs[i]'h=t.at i:=by
 rw[aj.at,hF,gp h];rfl
theorem aj.iT{t:aj}(h:0<t.cs.length)(i:Nat):t.nx i<t.cs.length:=i5 _ h
theorem HV(t:aj)(i:Nat)(h:i<t.cs.length)(hl:t.cs.length<=1000000):az prog 152 [cg t,.int .i64 i] (aG (t.at (t.nx i))):=by
 have f:eb.wrap ((i:Int)+1)=(i:Int)+1:=aK _ o_ o_;have c:=t.iT o_ i;have e1:((i:Int)+1).tmod (t.cs.length:Int)=((t.nx i:Nat):Int):=by
  rw[aj.nx,eq,ei o_];rfl
 have b:=aj.get c;have d:¬t.cs.length=0:=o_
 have a:¬t.cs=[]:=by intro e;rw[e]at h;simp at h
 refine aJ nf (i_ func152) mix (by simp[f152]) ?_;simp[f152,aa,f,e1,b,d,a]
end Go.an
