import Derived.Test.YtfdgnogcckoalaaGreatDoorRPE
import Derived.Lib.Builder
import Derived.WalkKit
import Derived.Laws.Externs
import Derived.Shelf.RegionOpenPlain
import Derived.Test.YtfdgnogcckoalaaGreatDoorRThC
import Derived.Lib.AtoiAll
/- Parts of a proof. -/
set_option maxRecDepth 100000
set_option maxHeartbeats 4000000
set_option linter.unusedSimpArgs false
set_option linter.unusedVariables false
set_option linter.unusedSectionVars false
open Go.Proofs.Tryz
open Bool renaming and_eq_true->dk, cond_eq_ite->dl, false_eq_true->dp, or_eq_true->dq
open Go renaming FuncId->dz, World->ea
open Go.IntKind renaming i64->eb
open Go.Oper renaming upon_value->ec
open Int renaming natAbs_natCast->ed, natCast_nonneg->ee, tmod_eq_emod_of_nonneg->ei, tdiv_eq_ediv_of_nonneg->ej, ofNat_natAbs_of_nonpos->en, natCast_mul->eo, natCast_emod->eq, natCast_ediv->er, natAbs_of_nonneg->et, natAbs_mul->ew, mul_ediv_cancel_left->ez, ofNat_dvd_left->eL, le_of_lt->e6, natAbs_neg->e7, mul_nonneg->e8, mul_neg_of_pos_of_neg->e9, negSucc->fb, natCast_one->fd, natCast_add->fl, sub_self->fm, lt_or_le->fv, ediv_one->gb, neg_neg->gc, neg_mul->ge, mul_neg->gg
open List renaming getElem?_eq_getElem->gi, take_of_length_le->gj, length_pos_iff->gm, replicate->gt, range->gx, all_eq_true->gy, map_cons->gD, take->g0, length_take->g3, getElem_mem->g4, length_append->g5, length_singleton->g6, take_succ_eq_append_getElem->g7, drop_eq_getElem_cons->g8, map_take->g9, getElem_range->ha, take_append_drop->hb, getElem_map->hd, append_nil->hg, getElem?_map->hn, mem_cons->ho, length_drop->hp, ext_getElem->ht, mem_map->hu, getElem?_range->hv, map_nil->hw, reverse_nil->hz, length_cons->hA, length->hB, length_map->hC, foldl_cons->hD, take_take->hE, getD_eq_getElem?_getD->hF, all_cons->hG, map_map->hH, dropWhile_sublist->hK, map->hL, reverse_append->hM, map_congr_left->hN, getElem_of_mem->hO, flatten_append->hP, dropWhile_cons->hQ, mem_singleton->hR, getElem_of_eq->hS, take_length->hT, getElem_set->hU, flatten_nil->hV, drop->hW, range_succ->hX, nil_append->hZ, mem_append->h2, map_append->h3, range_one->h4, mem_range->h5
open Nat renaming pow_le_pow_right->h6, lt_of_lt_of_le->h7, mul_comm->h8, le_trans->h9, lt_of_le_of_lt->ih, eq_of_beq_eq_true->ii, lt_or_ge->ik, mul_le_mul_right->ip, pow_succ->ix, div_lt_iff_lt_mul->iz, mod_eq_of_lt->i0, le_refl->i1, div_div_eq_div_mul->i2, beq->i3, pow_pos->i4, div_add_mod->i5, mod_lt->i6, mul_assoc->i7, div_eq_of_lt->i8, lt_trans->i9, pow_zero->jp, gcd->js, add_mul->j1, add_sub_cancel->j2, pow_add->j3, div_one->j4, zero_le->j5, one_mul->j6, mul_add->j7, div_pos->j8, mul_lt_mul''->j9, add_comm->kc, gcd_pos_of_pos_right->kd, mul_ne_zero->kh, div_le_self->kk, blt->km, div_mul_le_self->ko, mul_lt_mul_of_pos_right->kp, mul_le_mul->kt, blt_eq->kv, add_mul_mod_self_left->kw, pow_one->la, pow_mul->lb, le_mul_of_pos_right->lc, gcd_le_right->le, gcd_dvd_left->li, add_sub_cancel_left->lk, pow_le_pow_left->ll, mul_le_mul_left->lm, mul_right_comm->ln, mod_mod_of_dvd->lq, gcd_comm->ls, lt_of_not_le->lt, mul_one->lu, pow_dvd_pow->lv, min_eq_left->lw, div_lt_self->lz, sub_le->l0, add_mul_mod_self_right->l1, add_assoc->l2, le_of_lt->l3, le_mul_of_pos_left->l4, le_div_iff_mul_le->l5, add_le_add_right->md, div_eq_of_lt_le->mm, gcd_zero_right->mo, eq_zero_or_pos->mp, mul_zero->ms, sub_mul->mx, mul_pos->m0, mod_one->m1, gcd_rec->m2, mod_le->m3
open Option.some renaming injEq->m4, inj->m5
open Rat renaming divInt->m6, sub_add_cancel->m7, divInt_mul_divInt->m8, zero_add->m9, div_def->na, divInt_add_divInt->nb, add_lt_add_right->nc, neg_divInt_neg->nk, num_intCast->nl, den_intCast->nn, neg_divInt->np, inv_divInt->ns, sub_self->nz, neg_num->n0, not_le->n1
open UInt8 renaming ofNat->n2
namespace Go.au
def tB:Nat:=1000000000000000000
theorem D1:tB=10^18:=by decide
theorem M6:∀i,low i 0=gt i 48
 |0=>rfl
 |i+1=>by rw[tE,Nat.zero_div,M6 i,List.replicate_succ']
theorem SB{r:Nat}(h:r<tB):gt (18-(bd r).length) 48++bd r=low 18 r:=by
 rw[rh,bd];have c:nd r<=18:=rX (by rw[<-D1];exact h);obtain⟨k,hk⟩:∃k,k=max 1 (nd r):=⟨_,rfl⟩
 have d:k<=18:=o_
 have b:r<10^k:=h7 (Dc r) (h6 (by decide) o_);rw[<-hk];have:=rp (18-k) r (a:=k);have e:low 18 r=low (18-k) (r/10^k)++low k r:=by
  have:=rp k r (18-k);rw[show 18-k+k=18 by omega]at this;exact this
 rw[e,i8 b,M6]
theorem DH{r:Nat}(h:r<tB):(bd r).length<=18:=by
 rw[rh];have a:nd r<=18:=rX (by rw[<-D1];exact h);omega
theorem YD{m:Nat}(h:tB<=m):bd m=bd (m/tB)++low 18 (m% tB):=by
 rw[D1]at h⊢;have e:=Ec (n:=m) (k:=18) h;have a:0<nd (m/10^18):=wT (j8 h (i4 (by decide)));rw[bd,bd,show max 1 (nd m)=max 1 (nd (m/10^18))+18 by omega,rp,Dy m 18 18 (i1 _)]
def kr(m:Nat)(a:List (List Nat)):List Nat:=(if m=0 then[]else bd m)++a.reverse.flatten
def eK(m:Nat):List Nat:=if m/tB=0 then bd m else low 18 (m% tB)
theorem Mf{m:Nat}(h:m≠0)(c:List (List Nat)):kr (m/tB) (c++[eK m])=kr m c:=by
 rw[kr,kr,if_neg h,eK,hM]
 by_cases a:m/tB=0
 ·rw[if_pos a,if_pos a];simp
 ·rw[if_neg a,if_neg a];have:tB<=m:=by
   rcases ik m tB with b|b
   ·exact(a (i8 b)).elim
   ·exact b
  rw[YD this];simp
theorem YF(a:List (List Nat)):kr 0 a=a.reverse.flatten:=by rw[kr,if_pos rfl];rfl
theorem zj(n:Nat):0<(bd n).length:=by rw[rh];omega
theorem Ld(m:Nat):eK m≠[]:=by
 intro h;have:(eK m).length=0:=by rw[h];rfl
 rw[eK]at this
 split at this
 ·have:=zj m;omega
 ·rw[rl]at this;omega
theorem Le(m:Nat):(eK m).length<=18:=by
 rw[eK]
 split
 ·rename_i h;have b:m<tB:=by
   rcases ik m tB with a|a
   ·exact a
   ·have:=j8 a (show 0<tB by decide);omega
  exact DH b
 ·rw[rl];exact i1 _
theorem Nf{c:Nat}(h:b9 c=true):c<256:=by
 simp only[b9,dk,decide_eq_true_eq]at h;omega
end Go.au
namespace Go.Proofs
open Go.au
theorem Tryz.B2:prog.underlying 115=some (.pointer 118):=k_
theorem Tryz.I6:prog.underlying 282=some .unsafePointer:=k_
theorem Tryz.Il:(prog.info? 118).map (·.size)=some 2:=k_
theorem Tryz.aKk:liesAt prog prog.depth 118 (2/prog.cellsOf 118) 0 118 1=true:=k_
set_option maxHeartbeats 1000000 in
set_option maxRecDepth 100000 in
theorem Tryz.U8(b:Nat)(w:ea)(h0:w.cell? ⟨b,0,none⟩=some (.pointer (some ⟨b,0,none⟩))):
 Calls prog 138 #[.pointer (some ⟨b,0,none⟩)] w fun e w'=>e=.returned (.tuple #[])/\w'=w:=by
 obtain⟨j,hj,_⟩:=Option.map_eq_some_iff.1 Il
 go_enter func138,ntmps138
 go_wp2
 rw[Lib.run_neq_ptr_same w _ B2 hj]
 go_wp2
 go_end0
 exact⟨rfl,rfl⟩
set_option maxHeartbeats 1000000 in
set_option maxRecDepth 100000 in
theorem Tryz.U9(b:Nat)(w:ea)(h0:w.cell? ⟨b,0,none⟩=some (.pointer none))(hsh:w.shape? b=some (118,2))(hfz:w.frozen? ⟨b,0,none⟩=false):
 Calls prog 138 #[.pointer (some ⟨b,0,none⟩)] w fun e w'=>e=.returned (.tuple #[])/\w'=w.setCell ⟨b,0,none⟩ (.pointer (some ⟨b,0,none⟩)):=by
 obtain⟨j,hj,hjs⟩:=Option.map_eq_some_iff.1 Il
 go_enter func138,ntmps138
 go_wp2
 rw[Lib.run_to_unsafe w ⟨b,0,none⟩ B2 I6 hj (by rw[hjs];decide) hsh (Nat.zero_lt_succ 1)];simp only[Result.andThen];rw[ec]
 go_wp2
 rw[run_callFunc_extern func220 k_ k_ k_ (e:=Extern.AbiNoEscape.same) k_];rw[Lib.run_noEscape];simp only[Result.andThen];rw[ec]
 go_wp2
 rw[Lib.run_from_unsafe w ⟨b,0,none⟩ I6 B2 hj hsh aKk];simp only[Result.andThen];rw[ec]
 go_wp2
 go_end0
 exact⟨rfl,rfl⟩
end Go.Proofs
namespace Go.au
open Go.Proofs
set_option linter.unusedSectionVars false
theorem B3:dL prog 117=some [1,1]:=k_
section
variable{w:ea}{aa ah:Nat->Prop}{β:Bd}{H:Heap}
theorem VO{al:Nat}{c0 c1 v:Value}{T:TypeId}(h:w.heap[al]?=some (.cells #[c0,c1] T (0,0))):w.setCell ⟨al,0,none⟩ v=w.setRow al #[v,c1]:=by
 obtain⟨d,a⟩:=Array.getElem?_eq_some_iff.1 h;unfold World.setCell World.setRow;congr 1;apply Array.ext
 ·simp
 ·intro i b c;simp only[Array.getElem_modify]
  by_cases hi:al=i
  ·subst hi;simp[a]
  ·simp[hi]
theorem Vj{t x:AV}{cs:Array Value}(g:t=iC 117 [.p .dc,x]\/t=.st 117 [.p .dc,x])(h:bp prog w aa β H t cs.toList):∃y,cs=#[.pointer none,y]/\bp prog w aa β H x [y]:=by
 have a:bp prog w aa β H (.st 117 [.p .dc,x]) cs.toList:=by
  rcases g with rfl|rfl
  ·exact Nu.1 h
  ·exact h
 simp only[bp,B3,m4]at a;obtain⟨l,k,rfl,b,d⟩:=a;simp only[bL,bp,aV]at b;obtain⟨c,i,rfl,rfl,_,c2,j,rfl,e,f,rfl⟩:=b
 match c2,f with
 |[y],_=>exact⟨y,Array.ext' (by simpa using d),e⟩
theorem Vd{b:Nat}{x:AV}{cs:Array Value}(h:bp prog w aa β H (.st 117 [.ptr b [],x]) cs.toList):∃v y,cs=#[v,y]/\bO prog β H (.ptr b []) v:=by
 simp only[bp,B3,m4]at h;obtain⟨l,j,rfl,a,d⟩:=h;simp only[bL,bp]at a;obtain⟨c,g,rfl,⟨v,rfl,f⟩,_,c2,i,rfl,k,e,rfl⟩:=a
 match c2,e with
 |[y],_=>exact⟨v,y,Array.ext' (by simpa using d),f⟩
end
theorem ES{H:Heap}{b:Nat}{t x:AV}(d:H[b]?=some (.box false t))(g:t=iC 117 [.p .dc,x]\/t= .st 117 [.p .dc,x]):
 bW prog 138 H [.ptr b []] (H.set b (.box false (.st 117 [.ptr b [],x]))) (.p (.aE [])):=by
 refine⟨il func138 k_,fun w aa ah β I f i J=>?_⟩;simp only[br,aw]at i;obtain⟨v,vs,rfl,⟨_,G,K,L,rfl,j,A⟩,rfl⟩:=i;simp only[gG,m4]at j;subst j;obtain⟨rfl,rfl⟩:=A (.inl ⟨false,t,d⟩);obtain⟨cs,T,k1,k2,k3,_,k5⟩:=f.cS b _ d;have E:ad t=.agg 117:=by
  rcases g with rfl|rfl
  ·exact CK _ _
  ·rfl
 have o:T=118:=by
  rw[E]at k5;exact dC (by simpa[jS,Gl.bx,Rn]using k5)
 subst o;obtain⟨y,rfl,F⟩:=Vj g k2;have n:¬aa (β.al b)/\¬ah (β.al b):=by simpa[cC]using k3
 refine(U9 (β.al b) w (by simp[World.cell?,k1]) (by simp[World.shape?,k1]) (by simp[World.frozen?,k1])).mono ?_;rintro e w' ⟨rfl,rfl⟩;rw[VO k1];have aI:cm β H β (H.set b (.box false (.st 117 [.ptr b [],x]))):=pB d (.inl ⟨_,_,_,_,rfl,rfl⟩);have ak:∀z,aH H z->aH (H.set b (.box false (.st 117 [.ptr b [],x]))) z:=ml d (fun _ h=>h);have q:b<H.length:=(List.getElem?_eq_some_iff.1 d).1;have s:(H.set b (.box false (.st 117 [.ptr b [],x])))[b]?=some (.box false (.st 117 [.ptr b [],x])):=List.getElem?_set_self q;have m:aC (aH H) x:=by
  have:=f.refs b _ d;rcases g with rfl|rfl
  ·simp only[Obj.refs]at this;unfold iC at this
   split at this
   ·rename_i l hl;have hl:=mi hl
    match l,hl with
    |[a,c],hl=>simp at hl;rw[hl.2];simp[aC]
    |[],hl=>simp at hl
    |[_],hl=>simp at hl
    |_::_::_::_,hl=>simp at hl
   ·simp only[aC,aR]at this;exact this.2.1
  ·simp only[Obj.refs,aC,aR]at this;exact this.2.1
 have D:∀k,aa k->(w.setRow (β.al b) #[.pointer (some ⟨β.al b,0,none⟩),y]).heap[k]?=w.heap[k]?:=fun k u=>setRow_other w _ k _ (fun r=>n.1 (r▸u));have C:Obj.refs (aH (H.set b (.box false (.st 117 [.ptr b [],x])))) (.box false (.st 117 [.ptr b [],x])):=by
  simp only[Obj.refs,aC,aR,and_true];exact⟨⟨_,s,trivial⟩,aC.mono ak _ m⟩
 have B:=qE f d trivial (o':=.box false (.st 117 [.ptr b [],x])) trivial (fun _ h=>h) k1 (new:=#[.pointer (some ⟨β.al b,0,none⟩),y]) n aI
  ⟨_,118,setRow_heap w _ _ _ 118 _ k1,by
   simp only[bp,B3,m4];refine⟨_,[[.pointer (some ⟨β.al b,0,none⟩)],[y]],rfl,?_,rfl⟩;simp only[bL,bp];exact⟨_,_,rfl,⟨_,rfl,⟨rfl,_,_,0,rfl,rfl,fun _=>⟨rfl,rfl⟩⟩⟩,rfl,_,_,rfl,bp.mono (fun _ x=>x) D aI _ _ m F,rfl,rfl⟩,k3,s_,by simp[ad,jS,Gl.bx]⟩ C
 exact⟨_,β,aa,rfl,B,by simp[aw,aB,bm],by simp[aC]⟩
theorem Rj{H:Heap}{b:Nat}{x:AV}(c:H[b]?=some (.box false (.st 117 [.ptr b [],x]))):bW prog 138 H [.ptr b []] H (.p (.aE [])):=by
 refine⟨il func138 k_,fun w aa ah β l g f m=>?_⟩;simp only[br,aw]at f;obtain⟨v,vs,rfl,⟨_,j,n,i,rfl,a,d⟩,rfl⟩:=f;simp only[gG,m4]at a;subst a;obtain⟨rfl,rfl⟩:=d (.inl ⟨false,_,c⟩);obtain⟨cs,T,k1,k2,k3,_,k5⟩:=g.cS b _ c;obtain⟨v,y,rfl,h⟩:=Vd k2;simp only[bO,bV]at h;obtain⟨_,k,o,i,rfl,a,d⟩:=h;simp only[gG,m4]at a;subst a;obtain⟨rfl,rfl⟩:=d (.inl ⟨false,_,c⟩);refine(U8 (β.al b) w (by simp[World.cell?,k1])).mono ?_;rintro e w' ⟨rfl,rfl⟩;exact⟨_,β,aa,rfl,bZ.refl g,by simp[aw,aB,bm],by simp[aC]⟩
end Go.au
namespace Go.au
open Go.Proofs
@[simp] theorem gu8:(Gl.u8:TypeId)=5:=(rfl)
def bK(t:List Nat):List AV:=t.map fun(c:Nat)=>AV.p (.int .u8 (c:Int))
theorem vY(t:List Nat):(bK t).length=t.length:=by simp[bK]
theorem aMt(a t:List Nat):bK (a++t)=bK a++bK t:=by simp[bK]
theorem Du:∀t:List Nat,fk prog 1 (bK t)
 |[]=>by simp[bK,fk]
 |c::t=>by
  have:=Du t;simp only[bK,gD]at this⊢;simp[fk];exact this
theorem KY:∀(t:List Nat),(∀c∈t,c<256)->bytesOf (bK t)=some t
 |[],_=>rfl
 |c::t,a=>by
  have b:=a c s_;have:=KY t fun c hc=>a c (by simp[hc]);show bytesOf (.p (.int .u8 (c:Int))::bK t)=some (c::t);rw[bytesOf,if_pos ⟨o_,o_⟩,this];simp
theorem yj(t:List Nat)(a:t≠[])(h:t.length<=1048576):bW prog 52 [.box false (.p (.st 117 [.dc,.aK]))] [.ptr 0 [],.p (.str t)]
 [.box false (.st 117 [.ptr 0 [],.sl 1 0 1 0 t.length]),.arr .bytes 0 1 (bK t)] (.p (.aE [.int .i64 t.length,.gl])):=by
 refine dU nf (i_ func52) mix (by simp[f52]) ?_;simp[f52];refine ci (ES (b:=0) (t:=.p (.st 117 [.dc,.aK])) (x:=.p .aK) rfl (.inl rfl)) ?_;simp;refine⟨⟨Du t,by simp only[cM];omega⟩,?_⟩;simp[a,bK]
theorem sX(a t:List Nat)(v n:Nat)(f:n=a.length)(c:t≠[])(h:t.length<=1048576)(e:a.length<=1048576):bW prog 52 [.box false (.st 117 [.ptr 0 [],.sl 1 v 1 0 n]),.arr .bytes v 1 (bK a)] [.ptr 0 [],.p (.str t)]
 [.box false (.st 117 [.ptr 0 [],.sl 1 (v+1) 1 0 (n+t.length)]),.arr .bytes (v+1) 1 (bK (a++t))] (.p (.aE [.int .i64 t.length,.gl])):=by
 refine dU nf (i_ func52) mix (by simp[f52]) ?_;simp[f52];refine ci (Rj (b:=0) (x:=.sl 1 v 1 0 n) rfl) ?_;simp;refine⟨⟨Du t,by rw[vY];omega,by rw[vY];simp only[cM];omega⟩,?_⟩;have d:g0 n (bK a)=bK a:=gj (by rw[vY];omega);simp[c,d,aMt];exact .inl rfl
theorem Rl(a:List Nat)(v n:Nat)(b:n=a.length)(d:a≠[])(g:a.length<=1048576)(e:∀c∈a,c<256):bW prog 142 [.box false (.st 117 [.ptr 0 [],.sl 1 v 1 0 n]),.arr .bytes v 1 (bK a)] [.ptr 0 []]
 [.box false (.st 117 [.ptr 0 [],.sl 1 v 1 0 n]),.dead] (.p (.str a)):=by
 refine dU nf (i_ func142) mix (by simp[f142]) ?_;have f:0<a.length:=gm.2 d;simp[f142];refine axo (aq:=v) (es:=bK a) rfl rfl (by rw[b];exact f) (by simp[bK,b]) ?_;simp;refine axr (aq:=v) (es:=bK a) (l:=a) rfl rfl rfl o_ (by simp[vY,b]) o_ rfl ?_ ?_ ?_ ?_
 ·kernel_rfl
 ·kernel_rfl
 ·rw[gj (by rw[vY];simp[b])];exact KY a e
 simp
 repeat' with_reducible refine And.intro ?_ ?_
 all_goals rfl
theorem ke{σ:Nat->Nat}:∀{a b:List AV},cW σ (a++b)=cW σ a++cW σ b
 |[],b=>by simp[cW]
 |x::a,b=>by simp[cW,ke (a:=a)]
theorem zY:ar wB tB=[tB]:=tU (by decide) (by decide)
theorem YQ(a:NI)(hs:a.sm=true):aA prog 239 [eI a] (.str (bn a.v)):=by
 refine aM nf (i_ func239) mix (by simp[f239]) ?_;have r1:=NI.pO hs;simp[f239,ad,mz hs,nr hs,dF,cZ];refine c1 (qD a.v r1.1 r1.2) ?_;simp
theorem Oz{m k A L:Nat}(e:0<m)(h:m*tB^k<=A)(a:A<wB^L):k<64*L:=by
 have b:2^k<=tB^k:=ll (by decide) k;have c:tB^k<=m*tB^k:=l4 _ e;rw[show wB=2^64 from rfl,<-lb]at a;have d:2^k<2^(64*L):=ih (h9 b (h9 c h)) a
 rwa [Nat.pow_lt_pow_iff_right (by decide)]at d
theorem YP(a:NI)(hs:a.sm=false)(hl:okW a.v)(av:(bd a.v.natAbs).length<=1000000):aA prog 239 [eI a] (.str (bn a.v)):=by
 have N:=ot (eI a) a.v (mC a);have aH:=NI.zO (a:=a) (by rw[hs];decide);have ah:=h7 (cq bh a.v.natAbs) (h6 (show 0<wB by decide) (oi hl));obtain⟨c,cs,G⟩:=oJ hs;refine aM nf (i_ func239) mix (by simp[f239]) ?_;simp[f239,ad,G,dF,cZ];refine c1 N ?_;simp;refine so (fun s'=>∃b:List (List Nat),kr 0 b=kr a.v.natAbs []/\(∀p∈b,p≠[]/\p.length<=18)/\b≠[]/\b.length<=57600000/\aN s'.env 3=.p (.bool (decide (a.v<0)))/\aN s'.env 6=.sl 2 b.length 1 0 b.length/\∃o,s'.heap=[.hole,o,.arr .grow b.length 1 (b.map fun p=>.p (.str p))]) ?_ ?_
 ·refine lp (α:=Nat×List (List Nat)×Bool) (fun x=>⟨[(6,.sl 2 x.2.1.length 1 0 x.2.1.length),(5,.sl 1 0 1 0 1),(4,.p (eN x.1)),(3,.p (.bool (decide (a.v<0))))],[.hole,.arr (if x.2.2=true then .frozen else .exact) 0 1 [.p (.int .u64 1000000000000000000)],.arr .grow x.2.1.length 1 (x.2.1.map fun p=>.p (.str p))]⟩)
   (fun x=>x.1<=a.v.natAbs/\kr x.1 x.2.1=kr a.v.natAbs []/\(∀p∈x.2.1,p≠[]/\p.length<=18)/\x.2.1.length<=57600000/\x.1*tB^x.2.1.length<=a.v.natAbs) (fun x=>x.1) (a.v.natAbs,[],false) ⟨i1 _,rfl,s_,s_,s_⟩ ?_
  rintro⟨m,b,f⟩ ⟨k1,k2,k3,k5,k4⟩;dsimp only at k1 k2 k3 k5 k4;rcases f with _|_
  ·simp only[dp,if_false];have aw:(ar wB m).length<=900000:=by
    have:=dO bh _ _ (ih k1 (cq bh a.v.natAbs));have:=oi hl;omega
   by_cases hm:m=0
   ·subst hm;have Z:b≠[]:=by
     rintro rfl;rw[kr,kr,if_pos rfl,if_neg o_]at k2;have:=zj a.v.natAbs;rw[hz,hV,hg,hg]at k2;rw[<-k2]at this;simp at this
    simp[eN,lV];refine⟨b,k2,k3,Z,k5,?_⟩;simp
   ·have d:=C6 m tB (by decide) o_ (by rw[zY];decide);have Y:ar wB m≠[]:=mt tg.1 hm;have C:0<(ar wB m).length:=gm.2 Y;have aI:=Mf hm b;have B:∀p∈b++[eK m],p≠[]/\p.length<=18:=by
     intro p N;rcases h2.1 N with h|h
     ·exact k3 p h
     ·rw[hR.1 h];exact⟨Ld m,Le m⟩
    have A:m/tB<m:=lz o_ (by decide);have ay:=Oz (show 0<m by omega) k4 ah;have w:m/tB*tB^(b++[eK m]).length<=a.v.natAbs:=by
     rw[g5,g6,ix,h8 (tB^b.length),<-i7];exact h9 (ip _ (ko _ _)) k4
    have y:(b++[eK m]).length<=57600000:=by rw[g5,g6];omega
    have r:m% tB<tB:=i6 _ (by decide);have Q:m/tB=0->m% tB=m:=fun h=>by have:=i5 m tB;rw[h]at this;omega
    simp only[eN]at d⊢;rw[zY]at d;have P:=tg (n:=m/tB);have L:=QS (m% tB) (i9 r (by decide));have q:=QU [48] (18-(bd (m% tB)).length) o_ (by simp;omega);have az:=DH r;have aa:=SB r;rw[CX]at q;have l:eK m=if m/tB=0 then bd (m% tB)else gt (18-(bd (m% tB)).length) 48++bd (m% tB):=by
     rw[eK,aa];split
     ·rename_i h;rw[Q h]
     ·rfl
    have s:eb.wrap (18-((bd (m% tB)).length:Int))=(18-(bd (m% tB)).length:Nat):=by rw[aO _ o_ o_];omega
    have aD:((18-(bd (m% tB)).length:Nat):Int)=18-((bd (m% tB)).length:Int):=o_
    have u:∀t,t=eK m->(b.map fun p=>AV.p (.str p))++[AV.p (.str t)]=(b++[eK m]).map fun p=>AV.p (.str p):=fun t e=>by rw[e];simp
    by_cases F:m% tB=0
    ·have j:¬m/tB=0:=fun h=>hm (by rw[<-Q h];exact F);have E:0<(ar wB (m/tB)).length:=gm.2 (mt P.1 j);have e:gt (18-(bd (m% tB)).length) 48++bd (m% tB)=eK m:=by rw[l,if_neg j]
     rw[F,ou]at e q s;rw[F,lV]at d;simp only[g6]at e q s;have hf:=u _ e;generalize D:ar wB (m/tB)=ag at*;simp[C];refine cp d (by simp;exact⟨rfl,rfl⟩) ?_ (h1:=by simp[tB]);simp[E,s];refine c2 q ?_;simp;refine⟨by simp only[cM];omega,?_⟩;refine rd (m/tB,b++[eK m],true) ⟨o_,by rw[aI];exact k2,by simpa using B,y,w⟩ A (he:=by simp[D]) (hh:=by simp only[<-hf];simp) (hr2:=by simp only[<-hf];simp)
    ·have ac:ar wB (m% tB)=[m% tB]:=tU o_ (i9 r (by decide));rw[ac]at d
     by_cases j:m/tB=0
     ·have e:bd (m% tB)=eK m:=by rw[l,if_pos j]
      have hf:=u _ e;rw[j,lV]at d;simp[C];refine cp d (by simp;exact⟨rfl,rfl⟩) ?_ (h1:=by simp[tB]);simp;refine c2 L ?_;simp;refine⟨by simp only[cM];omega,?_⟩;refine rd (m/tB,b++[eK m],true) ⟨o_,by rw[aI];exact k2,by simpa using B,y,w⟩ A (he:=by simp[j,lV]) (hh:=by simp only[<-hf];simp) (hr2:=by simp only[<-hf];simp)
     ·have E:0<(ar wB (m/tB)).length:=gm.2 (mt P.1 j);have e:gt (18-(bd (m% tB)).length) 48++bd (m% tB)=eK m:=by rw[l,if_neg j]
      have hf:=u _ e;generalize D:ar wB (m/tB)=ag at*;simp[C];refine cp d (by simp;exact⟨rfl,rfl⟩) ?_ (h1:=by simp[tB]);simp;refine c2 L ?_;simp[E,s];refine c2 q ?_;simp;refine⟨o_,by simp only[cM];omega,?_⟩;refine rd (m/tB,b++[eK m],true) ⟨o_,by rw[aI];exact k2,by simpa using B,y,w⟩ A (he:=by simp[D]) (hh:=by simp only[<-hf];simp) (hr2:=by simp only[<-hf];simp)
  ·simp only[if_true];have aw:(ar wB m).length<=900000:=by
    have:=dO bh _ _ (ih k1 (cq bh a.v.natAbs));have:=oi hl;omega
   by_cases hm:m=0
   ·subst hm;have Z:b≠[]:=by
     rintro rfl;rw[kr,kr,if_pos rfl,if_neg o_]at k2;have:=zj a.v.natAbs;rw[hz,hV,hg,hg]at k2;rw[<-k2]at this;simp at this
    simp[eN,lV];refine⟨b,k2,k3,Z,k5,?_⟩;simp
   ·have d:=C6 m tB (by decide) o_ (by rw[zY];decide);have Y:ar wB m≠[]:=mt tg.1 hm;have C:0<(ar wB m).length:=gm.2 Y;have aI:=Mf hm b;have B:∀p∈b++[eK m],p≠[]/\p.length<=18:=by
     intro p N;rcases h2.1 N with h|h
     ·exact k3 p h
     ·rw[hR.1 h];exact⟨Ld m,Le m⟩
    have A:m/tB<m:=lz o_ (by decide);have ay:=Oz (show 0<m by omega) k4 ah;have w:m/tB*tB^(b++[eK m]).length<=a.v.natAbs:=by
     rw[g5,g6,ix,h8 (tB^b.length),<-i7];exact h9 (ip _ (ko _ _)) k4
    have y:(b++[eK m]).length<=57600000:=by rw[g5,g6];omega
    have r:m% tB<tB:=i6 _ (by decide);have Q:m/tB=0->m% tB=m:=fun h=>by have:=i5 m tB;rw[h]at this;omega
    simp only[eN]at d⊢;rw[zY]at d;have P:=tg (n:=m/tB);have L:=QS (m% tB) (i9 r (by decide));have q:=QU [48] (18-(bd (m% tB)).length) o_ (by simp;omega);have az:=DH r;have aa:=SB r;rw[CX]at q;have l:eK m=if m/tB=0 then bd (m% tB)else gt (18-(bd (m% tB)).length) 48++bd (m% tB):=by
     rw[eK,aa];split
     ·rename_i h;rw[Q h]
     ·rfl
    have s:eb.wrap (18-((bd (m% tB)).length:Int))=(18-(bd (m% tB)).length:Nat):=by rw[aO _ o_ o_];omega
    have aD:((18-(bd (m% tB)).length:Nat):Int)=18-((bd (m% tB)).length:Int):=o_
    have u:∀t,t=eK m->(b.map fun p=>AV.p (.str p))++[AV.p (.str t)]=(b++[eK m]).map fun p=>AV.p (.str p):=fun t e=>by rw[e];simp
    by_cases F:m% tB=0
    ·have j:¬m/tB=0:=fun h=>hm (by rw[<-Q h];exact F);have E:0<(ar wB (m/tB)).length:=gm.2 (mt P.1 j);have e:gt (18-(bd (m% tB)).length) 48++bd (m% tB)=eK m:=by rw[l,if_neg j]
     rw[F,ou]at e q s;rw[F,lV]at d;simp only[g6]at e q s;have hf:=u _ e;generalize D:ar wB (m/tB)=ag at*;simp[C];refine cp d (by simp;exact⟨rfl,rfl⟩) ?_ (h1:=by simp[tB]);simp[E,s];refine c2 q ?_;simp;refine⟨by simp only[cM];omega,?_⟩;refine rd (m/tB,b++[eK m],true) ⟨o_,by rw[aI];exact k2,by simpa using B,y,w⟩ A (he:=by simp[D]) (hh:=by simp only[<-hf];simp) (hr2:=by simp only[<-hf];simp)
    ·have ac:ar wB (m% tB)=[m% tB]:=tU o_ (i9 r (by decide));rw[ac]at d
     by_cases j:m/tB=0
     ·have e:bd (m% tB)=eK m:=by rw[l,if_pos j]
      have hf:=u _ e;rw[j,lV]at d;simp[C];refine cp d (by simp;exact⟨rfl,rfl⟩) ?_ (h1:=by simp[tB]);simp;refine c2 L ?_;simp;refine⟨by simp only[cM];omega,?_⟩;refine rd (m/tB,b++[eK m],true) ⟨o_,by rw[aI];exact k2,by simpa using B,y,w⟩ A (he:=by simp[j,lV]) (hh:=by simp only[<-hf];simp) (hr2:=by simp only[<-hf];simp)
     ·have E:0<(ar wB (m/tB)).length:=gm.2 (mt P.1 j);have e:gt (18-(bd (m% tB)).length) 48++bd (m% tB)=eK m:=by rw[l,if_neg j]
      have hf:=u _ e;generalize D:ar wB (m/tB)=ag at*;simp[C];refine cp d (by simp;exact⟨rfl,rfl⟩) ?_ (h1:=by simp[tB]);simp;refine c2 L ?_;simp[E,s];refine c2 q ?_;simp;refine⟨o_,by simp only[cM];omega,?_⟩;refine rd (m/tB,b++[eK m],true) ⟨o_,by rw[aI];exact k2,by simpa using B,y,w⟩ A (he:=by simp[D]) (hh:=by simp only[<-hf];simp) (hr2:=by simp only[<-hf];simp)
 ·rintro⟨aF,aJ⟩ ⟨b,q1,aE,U,q4,ap,S,o,aj⟩;dsimp only at ap S aj;subst aj;have aB:0<b.length:=gm.2 U;have ab:bd a.v.natAbs=b.reverse.flatten:=by rw[<-YF,q1,kr,if_neg o_];simp
  obtain⟨neg,M⟩:∃neg:Bool,neg=decide (a.v<0):=⟨_,rfl⟩
  obtain⟨pre,O⟩:∃pre:List Nat,pre=if neg=true then[45]else[]:=⟨_,rfl⟩
  have al:bn a.v=pre++b.reverse.flatten:=by
   rw[bn,<-ab,O,M]
   by_cases h:a.v<0
   ·simp[h]
   ·simp[h]
  obtain⟨g,J⟩:∃g:Nat->List Nat,g=fun k=>pre++(b.reverse.take k).flatten:=⟨_,rfl⟩
  have K:g b.length=bn a.v:=by rw[J,al];dsimp only;rw[gj s_]
  have aC:∀k,(b.reverse.take k).flatten.length<=1000000:=fun k=>by
   have aq:b.reverse.flatten=(b.reverse.take k).flatten++(b.reverse.drop k).flatten:=by rw[<-hP,hb]
   rw[ab,aq,g5]at av;omega
  have aK:pre.length<=1:=by rw[O];split<;>simp
  have W:∀k,(g k).length<=1000001:=fun k=>by rw[J];dsimp only;rw[g5];have:=aC k;omega
  have l:∀k(h:k<b.length),g (k+1)=g k++b[b.length-1-k]' o_:=fun k h=>by
   rw[J];dsimp only;rw[g7 (by simpa using h),hP,List.getElem_reverse,<-List.append_assoc];simp
  have au:∀c∈bn a.v,c<256:=by
   intro c hc;rw[bn]at hc;have d:=qc a.v.natAbs;rw[gy]at d
   split at hc
   ·rcases ho.1 hc with h|h
    ·omega
    ·exact Nf (d c h)
   ·exact Nf (d c hc)
  have ae:eb.wrap ((b.length:Int)-1)=b.length-1:=aO _ o_ o_;have ak:∀i(h:i<b.length),b[i]≠[]/\b[i].length<=18:=fun i h=>aE _ (g4 h);have H:=Rl (g b.length) (if neg=true then b.length else b.length-1) (g b.length).length rfl (by rw[K,al];intro h;rw[List.append_eq_nil_iff,<-ab]at h;have:=zj a.v.natAbs;rw[h.2]at this;simp at this) (by have:=W b.length;omega) (by rw[K];exact au);simp[ap,S,ae]
  by_cases T:a.v<0
  ·rw[decide_eq_true T]at M;subst M;have ax:g 0=[45]:=by rw[J,O];simp
   simp only[if_true]at H;simp[T];refine cf (yj [45] s_ s_) [3] ?_;simp[aW,sig,S,ae];refine lp (α:=Nat) (fun k=>⟨[(11,.p (.int .i64 ((b.length:Int)-1-k))),(10,.ptr 3 []),(6,.sl 2 b.length 1 0 b.length)],[.hole,.hole,.arr .grow b.length 1 (b.map fun p=>.p (.str p)),.box false (.st 117 [.ptr 3 [],.sl 4 k 1 0 (g k).length]),.arr .bytes k 1 (bK (g k))]⟩)
    (fun k=>k<=b.length) (fun k=>b.length-k) 0 s_ ?_ (he:=by simp[S]) (hh:=by simp[ax,bK]) (hr2:=by simp[bK])
   intro k hk
   by_cases z:k<b.length
   ·have G:eb.wrap ((b.length:Int)-1-k-1)=b.length-1-(k+1:Nat):=by rw[aO _ o_ o_];omega
    have e1:((b.length:Int)-1-k).toNat=b.length-1-k:=o_
    have I:(k:Int)<=(b.length:Int)-1:=o_
    have R:b.length-1-k<b.length:=o_
    have hx:=ak _ R;have af:=sX (g k) (b[b.length-1-k]) k (g k).length rfl hx.1 o_ (by have:=W k;omega);simp[I,e1,R,U];refine cf af [3,4] ?_ (ak:=by simp[sig,bK]) (aG:=by simp[sig]) (hr:=by simp[bK]);simp[sig,bK,aW,G,ke];refine rd (k+1) z (he:=by simp[l k z]) (hh:=by simp[l k z,bK]) (hr2:=by simp[bK])
   ·have X:k=b.length:=by omega
    subst X;have V:¬(b.length:Int)<=(b.length:Int)-1:=o_
    simp[V];refine cf H [3,4] ?_ (ak:=by simp[sig,bK]) (aG:=by simp[sig]) (hr:=by simp[bK]);simp[sig,aW,K]
  ·rw[decide_eq_false T]at M;subst M;simp only[dp,if_false]at H O;have ai:g 1=b[b.length-1]:=by rw[l 0 aB,J];simp[O]
   have ao:b.length-1<b.length:=o_
   have an:=ak _ ao;have am:=yj (b[b.length-1]) an.1 o_;rw[<-ai]at am an;simp[T,ae]
   refine lp (α:=Option Nat) (fun st=>match st with
     |none=>⟨[(11,.p (.int .i64 ((b.length:Int)-1))),(10,.ptr 3 []),(6,.sl 2 b.length 1 0 b.length)],[.hole,.hole,.arr .grow b.length 1 (b.map fun p=>.p (.str p)),.box false (.p (.st 117 [.dc,.aK]))]⟩
     |some k=>⟨[(11,.p (.int .i64 ((b.length:Int)-1-(k+1)))),(10,.ptr 3 []),(6,.sl 2 b.length 1 0 b.length)],[.hole,.hole,.arr .grow b.length 1 (b.map fun p=>.p (.str p)),.box false (.st 117 [.ptr 3 [],.sl 4 k 1 0 (g (k+1)).length]),.arr .bytes k 1 (bK (g (k+1)))]⟩)
    (fun st=>match st with
     |none=>True
     |some k=>k+1<=b.length) (fun st=>match st with
     |none=>b.length+1
     |some k=>b.length-(k+1)) none trivial ?_ (he:=by simp[S])
   intro st hk;cases st with
   |none=>
    have G:eb.wrap ((b.length:Int)-1-1)=b.length-1-(0+1):=by rw[aO _ o_ o_];omega
    have e1:((b.length:Int)-1).toNat=b.length-1:=o_
    have I:(1:Int)<=(b.length:Int):=o_
    simp[I,e1,ao,U,<-ai];refine cf am [3] ?_;simp[aW,sig,G];refine rd (some 0) (by show 0+1<=b.length;omega) (by show b.length-(0+1)<b.length+1;omega) (he:=s_) (hh:=by simp[bK]) (hr2:=by simp[bK])
   |some k=>
    have hk:k+1<=b.length:=hk
    by_cases z:k+1<b.length
    ·have G:eb.wrap ((b.length:Int)-1-(k+1)-1)=b.length-1-(k+1+1):=by rw[aO _ o_ o_];omega
     have e1:((b.length:Int)-1-(k+1)).toNat=b.length-1-(k+1):=o_
     have I:(k:Int)+1<=(b.length:Int)-1:=o_
     have R:b.length-1-(k+1)<b.length:=o_
     have hx:=ak _ R;have af:=sX (g (k+1)) (b[b.length-1-(k+1)]) k (g (k+1)).length rfl hx.1 o_ (by have:=W (k+1);omega);simp[I,e1,R,U];refine cf af [3,4] ?_ (ak:=by simp[sig,bK]) (aG:=by simp[sig]) (hr:=by simp[bK]);simp[sig,bK,aW,G,ke];refine rd (some (k+1)) z (by show b.length-(k+1+1)<b.length-(k+1);omega) (he:=by simp[l (k+1) z]) (hh:=by simp[l (k+1) z,bK]) (hr2:=by simp[bK])
    ·have X:b.length=k+1:=by omega
     have V:¬(k:Int)+1<=(b.length:Int)-1:=o_
     rw[X]at H K;rw[j2]at H;simp[V];refine cf H [3,4] ?_ (ak:=by simp[sig,bK]) (aG:=by simp[sig]) (hr:=by simp[bK]);simp[sig,aW,K]
theorem C7(a:NI)(hl:okW a.v)(b:(bd a.v.natAbs).length<=1000000):aA prog 239 [eI a] (.str (bn a.v)):=by
 rcases h:a.sm with _|_
 ·exact YP a h hl b
 ·exact YQ a h
open Go
theorem LR:∀(r:List Nat)(a:Nat),a<=r.foldl (fun n c=>n*10+(c-48)) a
 |[],a=>i1 _
 |x::r,a=>h9 (show a<=a*10+(x-48)by omega) (LR r _)
theorem Dn:∀(d:List Nat)(a:Nat),d.all b9=true->d.foldl (fun n c=>n*10+(c-48)) a<1000000000000000000->Lib.parseUint10 a (d.map n2)=.ok (d.foldl (fun n c=>n*10+(c-48)) a)
 |[],a,_,_=>rfl
 |c::r,a,h,hl=>by
  simp only[hG,dk]at h;have hc:=h.1;simp only[b9,dk,decide_eq_true_eq]at hc;have b:=LR r (a*10+(c-48));rw[hD]at hl⊢;have e:(n2 c).toNat=c:=by simp;omega
  rw[gD,Lib.parseUint10,e,if_pos hc,if_neg o_,if_neg o_];exact Dn r _ h.2 hl
theorem O6{d:List Nat}(h:d.all b9=true)(b:d≠[])(f:d.length<=18):Lib.atoiAll (d.map n2)=.ok (aY d):=by
 have hl:=jL _ d rfl h;have i:10^d.length<=10^18:=h6 o_ f;cases d with
 |nil=>exact(b rfl).elim
 |cons c r=>
  have hc:=(dk ..▸(hG▸h):b9 c=true/\r.all b9=true).1;simp only[b9,dk,decide_eq_true_eq]at hc;have e:(n2 c).toNat=c:=by simp;omega
  have g:aY (c::r)<1000000000000000000:=o_
  have a:=Dn (c::r) 0 h g;rw[<-aY]at a;rw[gD]at a;rw[gD,Lib.atoiAll];simp only[e];rw[if_neg o_,Lib.parseMag,if_neg s_,a];dsimp only;rw[if_neg o_,if_neg o_,if_neg o_]
theorem CJ:∀(b:List Nat)(x:Nat),b.foldl (fun n c=>n*10+(c-48)) x=x*10^b.length+aY b
 |[],x=>by simp[aY]
 |c::b,x=>by
  rw[aY,hD,hD,CJ b,CJ b (0*10+(c-48)),hA,ix,j1,i7,h8 10];simp[l2]
theorem Mb(a b:List Nat):aY (a++b)=aY a*10^b.length+aY b:=by
 rw[aY,List.foldl_append,CJ];rfl
theorem NG(k:Nat):10^k<=2^(4*k):=by
 rw[lb];exact ll (by decide) k
theorem Mj{a K:Nat}(h:4*a<=K):10^a<=2^K:=h9 (NG a) (h6 (by decide) h)
theorem wF{n k:Nat}(h:n<2^k)(hk:k<=3*1000000):(bd n).length<=1000000:=
 ED h hk (by decide)
theorem agh(a:NF)(h:cj kB a.q):aA prog 176 [eF a] (.str (bC a.q)):=by
 have f:kB=100000:=rfl;have w:=CO a;have c:=C7 a.num (iO h.1 qq) (wF h.1 o_);have d:=C7 a.den (iO (by rw[kO];exact h.2) qq) (wF (by rw[kO];exact h.2) o_);rw[lU]at c;rw[kb,tj]at d;have g:=wF h.1 (show kB<=3*1000000 by omega);have i:=wF h.2 (show kB<=3*1000000 by omega);have j:=Dv a.q.num;refine aM nf (i_ func176) mix (by simp[f176]) ?_;rw[bC]
 by_cases b:a.q.den=1
 ·have e:a.fL=true:=by simp[NF.fL,b]
  rw[e]at w;rw[if_pos b];simp[f176];refine c1 w ?_;simp[ad];refine c1 c ?_;simp
 ·have e:a.fL=false:=by simp[NF.fL,b]
  rw[e]at w;rw[if_neg b];simp[f176];refine c1 w ?_;simp[ad];refine e1 c ?_;simp[ad];refine⟨o_,?_⟩;refine e1 d ?_;simp;omega
def kR:Nat:=2800
theorem zR(s:List Nat)(i:(bS s).all b9=true)(hl:(bS s).length<=700):aA prog 193 [.str s] (eI (.mk' (if bQ s=true then -(aY (bS s):Int)else aY (bS s)))):=by
 refine aM nf (i_ func193) mix (by simp[f193]) ?_;simp[f193];refine c2 (Z5 s) ?_;simp;refine c2 (Dt s) ?_;simp;generalize bS s=d at*;generalize bQ s=neg at*;have w:ft 0=eI (.mk' 0):=(oN (by decide) (by decide)).symm;rw[show PV.st 162 [.int .i64 0,.aK]=eI (.mk' 0)from w];refine lp (α:=List Nat×NI) (fun x=>⟨[(4,.ptr 1 []),(3,.p (.bool neg)),(2,.ptr 0 []),(0,.p (.str x.1))],[.box false (.p (eI (.mk' 0))),.box false (.p (eI x.2))]⟩)
  (fun x=>∃m:Nat,x.2.v=m/\m*10^x.1.length+aY x.1=aY d/\x.1.all b9=true/\x.1.length<=700/\m<2^kR) (fun x=>x.1.length) (d,.mk' 0) ⟨0,rfl,s_,i,hl,i4 (by decide)⟩ ?_
 rintro⟨r,o⟩ ⟨m,k1,k2,k3,k4,k5⟩;dsimp only at k1 k2 k3 k4 k5;have R:kR=2800:=rfl;have c:o.v.natAbs<2^kR:=by rw[k1,ed];exact k5
 have H:okW o.v:=iO c (by have:kB=100000:=rfl;omega)
 by_cases f:r=[]
 ·subst f;have u:o.v=aY d:=by rw[k1];simp[aY]at k2⊢;omega
  cases neg
  ·have e:eI (.mk' (aY d:Nat))=eI o:=nv (by rw[NI.ja,u]) (fun h=>by rw[NI.ja]at h;omega);simp;rw[e];simp[ad]
  ·have e:eI (.mk' (-(aY d:Nat)))=eI o.neg:=by rw[NI.neg,u]
   simp;rw[e];refine c1 (ug o H) ?_;simp[ad]
 ·have K:0<r.length:=gm.2 f;obtain⟨n,S⟩:∃n,n=min 18 r.length:=⟨_,rfl⟩
  have j:n<=r.length:=o_
  have U:0<n:=o_
  have F:n<=18:=o_
  have G:(if(r.length:Int)<18 then(r.length:Int)else 18)=n:=by split<;>omega
  have g:(r.take n).length=n:=by rw[g3];omega
  have a:=k3;rw[<-hb n r,List.all_append,dk]at a;have M:=jL _ (r.take n) rfl a.1;have C:=B0 (r.take n) (aY (r.take n)) (O6 a.1 (by intro e;rw[e]at g;simp at g;omega) o_) o_;rw[g]at M;have q:10^n<=10^18:=h6 (by decide) F;have z:10^n<wB^1:=by rw[la];exact ih q (by decide)
  have A:((10^n:Nat):Int).natAbs<2^64:=by rw[ed];exact ih q (by decide)
  have N:=dO bh 1 _ z;have uC:=yZ c;have O:kB=100000:=rfl;have V:=jL _ d rfl i;have P:10^d.length<=2^kR:=Mj (by have:kR=2800:=rfl;omega);have I:=afL (.of 10) n (10^n) (by decide) rfl o_ (by decide) o_;have E:=Al o (.mk' (10^n:Nat)) (by rw[NI.ja,ed];omega);have B:=xb (o.mul (.mk' (10^n:Nat))) (.of (aY (r.take n):Nat)) (iO (px (x:=o.v) (y:=((10^n:Nat):Int)) c A) o_) (iO (k:=64) (show((aY (r.take n):Nat):Int).natAbs<2^64 by rw[ed];omega) o_);have l:=sn (aY (r.take n):Nat);rw[<-uj o_ o_]at l;have t:=sn 10;rw[<-uj (by decide) (by decide)]at t;have L:aY r=aY (r.take n)*10^(r.drop n).length+aY (r.drop n):=by rw[<-Mb,hb]
  have J:r.length=n+(r.drop n).length:=by rw[hp];omega
  have D:(m*10^n+aY (r.take n))*10^(r.drop n).length+aY (r.drop n)=aY d:=by
   rw[<-k2,L,J,j3,j1,i7,l2]
  generalize 10^n=T at*;generalize W:aY (r.take n)=b at*;have Q:m*T+b<=aY d:=by
   have:=lc (m*T+b) (show 0<10^(r.drop n).length from i4 (by decide));omega
  simp[f,K,G];refine⟨j,?_⟩;refine c1 C ?_;simp;refine e1 t ?_;simp;refine e2 I ?_;simp[ad];refine e2 E ?_;simp;refine e1 l ?_;simp;refine e2 B ?_;simp[ad];refine⟨rfl,j,?_⟩;refine rd (r.drop n,(o.mul (.mk' T)).add (.of b)) ⟨m*T+b,by rw[NI.rZ,NI.my,NI.ja,k1];rfl,D,a.2,by dsimp only;omega,o_⟩ (by dsimp only;omega)
theorem zm{s:List Nat}(h:dx s=true):bQ s=false/\bS s=s:=by
 have b:=jk h;have:bQ s=false:=by
  rw[bQ,decide_eq_false_iff_not];intro a;cases s with
  |nil=>simp at a
  |cons c r=>
   simp at a;subst a;rw[hG,dk]at b;simp[b9]at b
 exact⟨this,by rw[bS,this];rfl⟩
theorem LV(s:List Nat):bQ (bP 47 s).1=bQ s/\bS (bP 47 s).1=bF s/\(bP 47 s).2.1=bU s/\(bP 47 s).2.2=eh s:=by
 cases s with
 |nil=>exact⟨rfl,rfl,rfl,rfl⟩
 |cons c r=>
  by_cases h:c=45
  ·subst h;have e:bP 47 (45::r)=(45::(bP 47 r).1,(bP 47 r).2.1,(bP 47 r).2.2):=by rw[bP,if_neg (by decide)]
   rw[e];exact⟨rfl,rfl,rfl,rfl⟩
  ·have b:bQ (c::r)=false:=by rw[bQ,decide_eq_false_iff_not];simpa using h
   have a:bS (c::r)=c::r:=by rw[bS,b];rfl
   have d:bQ (bP 47 (c::r)).1=false:=by
    rw[bQ,decide_eq_false_iff_not,bP]
    split
    ·simp
    ·simpa using h
   refine⟨by rw[b,d],?_,?_,?_⟩
   ·rw[bS,d,bF,a];rfl
   ·rw[bU,a]
   ·rw[eh,a]
theorem Ex{s:List Nat}(h:bM s=0):dx (bF s)=true/\(bF s).length<=600/\(bU s).length<=600/\(eh s=true->dx (bU s)=true):=by
 unfold bM at h
 split at h
 ·cases h
 rename_i a
 split at h
 ·cases h
 rename_i d;have a:nu s=true:=by simpa using a
 simp only[nu,dk,dq,Bool.not_eq_true']at a;refine⟨a.1.1,o_,o_,fun c=>?_⟩;rcases a.2 with b|b
 ·rw[c]at b;cases b
 ·exact b.1.1
theorem UW(z:Int):bS (bn z)=bd z.natAbs:=by
 have:=(yO z []).2;simpa using this
theorem tF(c:Nat):∀s:List Nat,(bP c s).1.length<=s.length/\(bP c s).2.1.length<=s.length/\(∀x∈(bP c s).1,x∈s)/\(∀x∈(bP c s).2.1,x∈s)
 |[]=>by simp[bP]
 |y::r=>by
  have a:=tF c r;rw[bP]
  split
  ·simp;intro x hx;exact .inr hx
  ·simp only[hA,ho];refine⟨o_,o_,?_,fun x hx=>.inr (a.2.2.2 x hx)⟩;rintro x (rfl|hx)
   ·exact .inl rfl
   ·exact .inr (a.2.2.1 x hx)
theorem py(s:List Nat):(bS s).length<=s.length/\∀x∈bS s,x∈s:=by
 rw[bS]
 split
 ·exact⟨s_,fun x hx=>List.mem_of_mem_tail hx⟩
 ·exact⟨i1 _,fun _ h=>h⟩
theorem nB(s:List Nat)(h:bM s=0)(hl:s.length<=1048576):aA prog 110 [.str s] (eF ⟨aZ s,false⟩):=by
 obtain⟨l,r,t,m⟩:=Ex h;obtain⟨n,f,o,p⟩:=LV s;obtain⟨q1,q,a⟩:=kC h;have b:=QR s 47 hl;rw[o,p]at b;have c:=zR (bP 47 s).1 (by rw[f];exact jk l) (by rw[f];omega);rw[n,f]at c;have j:eI (NF.mk (aZ s) false).num=eI (.mk' (if bQ s=true then -(aY (bF s):Int)else aY (bF s))):=by
  show eI ⟨(aZ s).num,false⟩=_;rw[q];rfl
 rw[<-j]at c;refine aM nf (i_ func110) mix (by simp[f110]) ?_;cases hf:eh s
 ·rw[hf]at b a;simp only[dp,if_false]at a;have e:(NF.mk (aZ s) false).den=.mk' 1:=by
   show NI.mk' ((aZ s).den:Int)=_;rw[a];rfl
  have i:=DS (NF.mk (aZ s) false).num;have k:eF (.whole (NF.mk (aZ s) false).num)=eF ⟨aZ s,false⟩:=by
   rw[eF,eF,e];rfl
  rw[k]at i;simp[f110];refine c2 b ?_;simp;refine c1 c ?_;simp;refine c1 i ?_;simp[ad]
 ·rw[hf]at b a;simp only[if_true]at a;have g:=m hf;obtain⟨d1,d2⟩:=zm g;have d:=zR (bU s) (by rw[d2];exact jk g) (by rw[d2];omega);rw[d1,d2]at d;simp only[dp,if_false]at d;have e:eI (NF.mk (aZ s) false).den=eI (.mk' (aY (bU s):Nat)):=by
   show eI (NI.mk' ((aZ s).den:Int))=_;rw[a]
  rw[<-e]at d;rw[eF];simp[f110];refine c2 b ?_;simp;refine c1 c ?_;simp;refine c1 d ?_;simp[ad]
def mJ(n:Nat):Bool:=decide (600<(bd n).length)
theorem PY(a:NI)(h:a.v.natAbs<2^kB):aA prog 238 [eI a] (.bool (mJ a.v.natAbs)):=by
 have l:kB=100000:=rfl;have d:=iO h qq;have g:=ad1 a d;have i:=C7 a d (wF h o_);have c:=Dt (bn a.v);rw[UW]at c;refine aM nf (i_ func238) mix (by simp[f238]) ?_;simp[f238];refine c1 g ?_
 by_cases j:1800<oO a.v.natAbs
 ·have b:(1800:Int)<(oO a.v.natAbs:Nat):=by omega
  have e:decide ((600:Int)<((bd a.v.natAbs).length:Nat))=mJ a.v.natAbs:=by rw[mJ,decide_eq_decide];omega
  simp[b];refine c1 i ?_;simp;refine c2 c ?_;simp[mJ];omega
 ·have f:=h7 (MC a.v.natAbs) (h6 (show 0<2 by decide) (show oO a.v.natAbs<=3*600 by omega));have k:=KC f (by decide);have e:mJ a.v.natAbs=false:=by rw[mJ,decide_eq_false_iff_not];omega
  have b:¬(1800:Int)<(oO a.v.natAbs:Nat):=o_
  simp[b,e]
def FB(q:Rat):Bool:=mJ q.num.natAbs||mJ q.den
theorem aeQ(a:NF)(h:cj kB a.q):aA prog 175 [eF a] (.bool (FB a.q)):=by
 have b:=PY a.num h.1;have c:=PY a.den (by rw[kO];exact h.2);rw[lU]at b;rw[kO]at c;refine aM nf (i_ func175) mix (by simp[f175]) ?_;rw[FB];cases hc:mJ a.q.num.natAbs
 ·rw[hc]at b;simp[f175,ad];refine c1 b ?_;simp[ad];refine c1 c ?_;simp
 ·rw[hc]at b;simp[f175,ad];refine c1 b ?_;simp
def uo:List (Nat×Func)->dz->Option Func
 |[],_=>none
 |(i,g)::r,f=>bif i3 i f then some g else uo r f
def Ba(P:Program):List (Nat×Func)->Prop
 |[]=>True
 |p::r=>an P p.1 p.2/\Ba P r
theorem DX{P:Program}:∀{l:List (Nat×Func)},Ba P l->∀{f:Nat}{fn:Func},uo l f=some fn->an P f fn
 |[],_,f,fn,h=>by simp[uo]at h
 |(i,g)::r,a,f,fn,h=>by
  simp only[uo,dl]at h
  split at h
  ·rename_i hf;simp only[m4]at h;subst h;rw[<-ii hf];exact a.1
  ·exact DX a.2 h
noncomputable def FX:List (Nat×Func):=[(2,f2),(3,f3),(4,f4),(5,f5),(6,f6),(7,f7),(8,f8),(9,f9),(10,f10),(11,f11),(12,f12),(13,f13),(14,f14),(15,f15),(16,f16),(17,f17),(18,f18),(19,f19),(20,f20),(21,f21),(22,f22),(23,f23),(24,f24),(25,f25),(26,f26),(27,f27),(28,f28),(29,f29),(30,f30),(31,f31),(32,f32),(33,f33),(34,f34),(35,f35),(36,f36),(37,f37),(38,f38),(39,f39),(40,f40),(41,f41),(42,f42),(43,f43),(44,f44),(45,f45),(46,f46),(47,f47),(48,f48),(49,f49),(50,f50),(51,f51),(52,f52),(53,f53),(54,f54),(55,f55),(56,f56),(57,f57),(58,f58),(59,f59),(60,f60),(61,f61),(62,f62),(63,f63),(64,f64),(65,f65),(66,f66),(67,f67),(68,f68),(69,f69),(70,f70),(71,f71),(72,f72),(73,f73),(74,f74),(75,f75),(76,f76),(77,f77),(78,f78),(79,f79),(80,f80),(81,f81),(82,f82),(83,f83),(84,f84),(85,f85),(86,f86),(87,f87),(88,f88),(89,f89),(90,f90),(91,f91),(92,f92),(93,f93),(94,f94),(95,f95),(96,f96),(97,f97),(98,f98),(99,f99),(100,f100),(101,f101),(102,f102),(103,f103),(104,f104),(105,f105),(106,f106),(107,f107),(108,f108),(109,f109),(110,f110),(111,f111),(112,f112),(113,f113),(114,f114),(115,f115),(116,f116),(117,f117),(118,f118),(119,f119),(120,f120),(121,f121),(122,f122),(123,f123),(124,f124),(125,f125),(126,f126),(127,f127),(128,f128),(129,f129),(130,f130),(131,f131),(132,f132),(133,f133),(134,f134),(135,f135),(136,f136),(137,f137),(138,f138),(139,f139),(140,f140),(141,f141),(142,f142),(143,f143),(144,f144),(145,f145),(146,f146),(147,f147),(148,f148),(149,f149),(150,f150),(151,f151),(152,f152),(153,f153),(154,f154),(155,f155),(156,f156),(157,f157),(158,f158),(159,f159),(160,f160),(161,f161),(162,f162),(163,f163),(164,f164),(165,f165),(166,f166),(167,f167),(168,f168),(169,f169),(170,f170),(171,f171),(172,f172),(173,f173),(174,f174),(175,f175),(176,f176),(177,f177),(178,f178),(179,f179),(180,f180),(181,f181),(182,f182),(183,f183),(184,f184),(185,f185),(186,f186),(187,f187),(188,f188),(189,f189),(190,f190),(191,f191),(192,f192),(193,f193),(194,f194),(195,f195),(196,f196),(197,f197),(198,f198),(199,f199),(200,f200),(201,f201),(202,f202),(203,f203),(204,f204),(205,f205),(206,f206),(207,f207),(208,f208),(209,f209),(210,f210),(211,f211),(212,f212),(213,f213),(214,f214),(215,f215),(216,f216),(217,f217),(218,f218),(219,f219),(221,f221),(222,f222),(223,f223),(224,f224),(225,f225),(226,f226),(227,f227),(228,f228),(229,f229),(230,f230),(231,f231),(232,f232),(233,f233),(234,f234),(235,f235),(236,f236),(237,f237),(238,f238),(239,f239),(240,f240),(241,f241),(242,f242),(243,f243),(244,f244),(245,f245),(246,f246),(247,f247),(248,f248),(249,f249),(250,f250),(251,f251),(252,f252),(253,f253),(254,f254),(255,f255),(256,f256),(257,f257),(258,f258),(259,f259),(260,f260),(261,f261),(262,f262),(263,f263),(264,f264),(265,f265),(266,f266),(267,f267),(268,f268),(269,f269),(270,f270),(271,f271),(272,f272),(273,f273),(274,f274),(275,f275),(276,f276),(277,f277),(278,f278),(279,f279),(280,f280),(281,f281),(282,f282),(283,f283),(284,f284),(285,f285),(286,f286),(287,f287),(288,f288),(290,f290),(292,f292),(293,f293),(294,f294),(295,f295),(296,f296),(297,f297),(298,f298),(299,f299),(300,f300),(301,f301),(302,f302),(303,f303),(304,f304),(305,f305),(306,f306),(307,f307),(308,f308),(309,f309),(310,f310),(311,f311),(312,f312),(313,f313),(314,f314),(315,f315),(316,f316),(317,f317),(318,f318),(319,f319),(320,f320),(321,f321),(322,f322),(323,f323),(324,f324),(325,f325),(327,f327),(329,f329),(330,f330),(331,f331),(332,f332),(333,f333),(334,f334),(336,f336),(337,f337),(338,f338),(339,f339),(340,f340),(341,f341),(342,f342),(343,f343),(344,f344),(345,f345),(346,f346),(347,f347),(348,f348),(349,f349),(350,f350),(351,f351),(352,f352),(353,f353),(355,f355),(356,f356),(357,f357),(358,f358),(359,f359),(360,f360),(361,f361),(362,f362),(363,f363),(364,f364),(365,f365),(366,f366),(367,f367),(368,f368),(369,f369),(370,f370),(371,f371),(372,f372),(373,f373),(374,f374),(375,f375),(376,f376),(377,f377),(379,f379),(380,f380),(381,f381),(382,f382),(383,f383),(384,f384),(385,f385),(386,f386),(387,f387),(388,f388),(389,f389),(390,f390),(420,f420)]
theorem I7:Ba prog FX:=⟨i_ func2,i_ func3,i_ func4,i_ func5,i_ func6,i_ func7,i_ func8,i_ func9,i_ func10,i_ func11,i_ func12,i_ func13,i_ func14,i_ func15,i_ func16,i_ func17,i_ func18,i_ func19,i_ func20,i_ func21,i_ func22,i_ func23,i_ func24,i_ func25,i_ func26,i_ func27,i_ func28,i_ func29,i_ func30,i_ func31,i_ func32,i_ func33,i_ func34,i_ func35,i_ func36,i_ func37,i_ func38,i_ func39,i_ func40,i_ func41,i_ func42,i_ func43,i_ func44,i_ func45,i_ func46,i_ func47,i_ func48,i_ func49,i_ func50,i_ func51,i_ func52,i_ func53,i_ func54,i_ func55,i_ func56,i_ func57,i_ func58,i_ func59,i_ func60,i_ func61,i_ func62,i_ func63,i_ func64,i_ func65,i_ func66,i_ func67,i_ func68,i_ func69,i_ func70,i_ func71,i_ func72,i_ func73,i_ func74,i_ func75,i_ func76,i_ func77,i_ func78,i_ func79,i_ func80,i_ func81,i_ func82,i_ func83,i_ func84,i_ func85,i_ func86,i_ func87,i_ func88,i_ func89,i_ func90,i_ func91,i_ func92,i_ func93,i_ func94,i_ func95,i_ func96,i_ func97,i_ func98,i_ func99,i_ func100,i_ func101,i_ func102,i_ func103,i_ func104,i_ func105,i_ func106,i_ func107,i_ func108,i_ func109,i_ func110,i_ func111,i_ func112,i_ func113,i_ func114,i_ func115,i_ func116,i_ func117,i_ func118,i_ func119,i_ func120,i_ func121,i_ func122,i_ func123,i_ func124,i_ func125,i_ func126,i_ func127,i_ func128,i_ func129,i_ func130,i_ func131,i_ func132,i_ func133,i_ func134,i_ func135,i_ func136,i_ func137,i_ func138,i_ func139,i_ func140,i_ func141,i_ func142,i_ func143,i_ func144,i_ func145,i_ func146,i_ func147,i_ func148,i_ func149,i_ func150,i_ func151,i_ func152,i_ func153,i_ func154,i_ func155,i_ func156,i_ func157,i_ func158,i_ func159,i_ func160,i_ func161,i_ func162,i_ func163,i_ func164,i_ func165,i_ func166,i_ func167,i_ func168,i_ func169,i_ func170,i_ func171,i_ func172,i_ func173,i_ func174,i_ func175,i_ func176,i_ func177,i_ func178,i_ func179,i_ func180,i_ func181,i_ func182,i_ func183,i_ func184,i_ func185,i_ func186,i_ func187,i_ func188,i_ func189,i_ func190,i_ func191,i_ func192,i_ func193,i_ func194,i_ func195,i_ func196,i_ func197,i_ func198,i_ func199,i_ func200,i_ func201,i_ func202,i_ func203,i_ func204,i_ func205,i_ func206,i_ func207,i_ func208,i_ func209,i_ func210,i_ func211,i_ func212,i_ func213,i_ func214,i_ func215,i_ func216,i_ func217,i_ func218,i_ func219,i_ func221,i_ func222,i_ func223,i_ func224,i_ func225,i_ func226,i_ func227,i_ func228,i_ func229,i_ func230,i_ func231,i_ func232,i_ func233,i_ func234,i_ func235,i_ func236,i_ func237,i_ func238,i_ func239,i_ func240,i_ func241,i_ func242,i_ func243,i_ func244,i_ func245,i_ func246,i_ func247,i_ func248,i_ func249,i_ func250,i_ func251,i_ func252,i_ func253,i_ func254,i_ func255,i_ func256,i_ func257,i_ func258,i_ func259,i_ func260,i_ func261,i_ func262,i_ func263,i_ func264,i_ func265,i_ func266,i_ func267,i_ func268,i_ func269,i_ func270,i_ func271,i_ func272,i_ func273,i_ func274,i_ func275,i_ func276,i_ func277,i_ func278,i_ func279,i_ func280,i_ func281,i_ func282,i_ func283,i_ func284,i_ func285,i_ func286,i_ func287,i_ func288,i_ func290,i_ func292,i_ func293,i_ func294,i_ func295,i_ func296,i_ func297,i_ func298,i_ func299,i_ func300,i_ func301,i_ func302,i_ func303,i_ func304,i_ func305,i_ func306,i_ func307,i_ func308,i_ func309,i_ func310,i_ func311,i_ func312,i_ func313,i_ func314,i_ func315,i_ func316,i_ func317,i_ func318,i_ func319,i_ func320,i_ func321,i_ func322,i_ func323,i_ func324,i_ func325,i_ func327,i_ func329,i_ func330,i_ func331,i_ func332,i_ func333,i_ func334,i_ func336,i_ func337,i_ func338,i_ func339,i_ func340,i_ func341,i_ func342,i_ func343,i_ func344,i_ func345,i_ func346,i_ func347,i_ func348,i_ func349,i_ func350,i_ func351,i_ func352,i_ func353,i_ func355,i_ func356,i_ func357,i_ func358,i_ func359,i_ func360,i_ func361,i_ func362,i_ func363,i_ func364,i_ func365,i_ func366,i_ func367,i_ func368,i_ func369,i_ func370,i_ func371,i_ func372,i_ func373,i_ func374,i_ func375,i_ func376,i_ func377,i_ func379,i_ func380,i_ func381,i_ func382,i_ func383,i_ func384,i_ func385,i_ func386,i_ func387,i_ func388,i_ func389,i_ func390,i_ func420,trivial⟩
noncomputable def xy(facts:dz->List PV->Option PV)(kI:dz->dz->Nat):mO:=⟨uo FX,facts,fun _ _ _=>none,kI,fun _ _ _=>none⟩
theorem aLa{facts:dz->List PV->Option PV}{kI:dz->dz->Nat}(h:∀f vs v,facts f vs=some v->aA prog f vs v):nj prog (xy facts kI):=by
 refine⟨mix,fun f fn hf=>DX I7 hf,fun f vs v hk=>h f vs v hk,fun f args H v H' hk=>?_,fun f args H ak v hk=>?_⟩
 ·simp only[xy]at hk;cases hk
 ·simp only[xy]at hk;cases hk
noncomputable def SM(facts:dz->List PV->Option PV)(kI:dz->dz->Nat)(f:dz)(vs:List PV):Option PV:=oW prog nf (xy facts kI) (kA prog nf (xy facts kI) 20) f vs
theorem N7{facts:dz->List PV->Option PV}{kI:dz->dz->Nat}(h:∀f vs v,facts f vs=some v->aA prog f vs v){f:dz}{vs:List PV}{v:PV}(a:SM facts kI f vs=some v):aA prog f vs v:=reckon 20 (aLa h) a
def noF:dz->List PV->Option PV:=fun _ _=>none
def qz:PV:=.st 381 ((gx 256).map fun i=>.bool (b9 i))
theorem MR(c:Nat)(hc:c<256):aA prog 375 [.cA qz,.int .u8 c] (.bool (b9 c)):=by
 refine aM nf (i_ func375) mix (by simp[f375]) ?_;have a:(gx 256)[c]?=some c:=hv hc;simp[f375,qz,a,hc]
theorem Wf(s:List Nat)(h:s.length<=1048576)(g:∀c∈s,c<256):aA prog 349 [.str s,.cA qz] (.str (lT s)):=by
 refine aM nf (i_ func349) mix (by simp[f349]) ?_;simp[f349];refine lp (α:=List Nat) (fun r=>⟨[(1,.p (.cA qz)),(0,.p (.str r))],[]⟩) (fun r=>lT r=lT s/\r.length<=s.length/\∀c∈r,c<256) (fun r=>r.length) s (by exact⟨rfl,i1 _,g⟩) ?_;rintro r ⟨a,f,b⟩;cases r with
 |nil=>
  have e:lT s=[]:=by rw[<-a];rfl
  simp[e]
 |cons x r=>
  have hx:=b x s_;have i:lT (x::r)=if b9 x=true then lT r else x::r:=by
   rw[lT,hQ];split<;>rfl
  rw[i]at a;have j:(0:Int)<(r.length:Int)+1:=o_
  simp[j];refine c2 (MR x hx) ?_;cases d:b9 x
  ·rw[d]at a;simp[<-a]
  ·rw[d]at a;simp;exact rd r ⟨by simpa using a,by simp at f;omega,fun c hc=>b c (by simp[hc])⟩ (h1:=s_)
theorem VR(s:List Nat)(h:s.length<=1048576)(i:∀c∈s,c<256):aA prog 350 [.str s,.cA qz] (.str (jA s)):=by
 refine aM nf (i_ func350) mix (by simp[f350]) ?_;simp[f350];refine lp (α:=List Nat) (fun r=>⟨[(1,.p (.cA qz)),(0,.p (.str r))],[]⟩) (fun r=>jA r=jA s/\r.length<=s.length/\∀c∈r,c<256) (fun r=>r.length) s (by exact⟨rfl,i1 _,i⟩) ?_;rintro r ⟨a,b,d⟩;rcases List.eq_nil_or_concat r with rfl|⟨t,x,rfl⟩
 ·have e:jA s=[]:=by rw[<-a];rfl
  simp[e]
 ·simp only[List.concat_eq_append]at a b d⊢;have hx:=d x s_;have j:jA (t++[x])=if b9 x=true then jA t else t++[x]:=by
   rw[jA,hM,List.reverse_cons,hz,hZ,List.singleton_append,hQ]
   split
   ·rfl
   ·simp
  rw[j]at a;have k:(0:Int)<(t.length:Int)+1:=o_
  have g:eb.wrap (t.length:Int)=t.length:=aO _ o_ (by simp at b;omega);simp[k,g];refine c2 (MR x hx) ?_;cases f:b9 x
  ·rw[f]at a;simp[<-a]
  ·rw[f]at a;simp[g];exact rd t ⟨by simpa using a,by simp at b;omega,fun c hc=>d c (by simp[hc])⟩ (h1:=s_)
def xe:List Nat:=[48,49,50,51,52,53,54,55,56,57]
theorem YO:aA prog 348 [.str xe] (.aE [qz,.bool true]):=N7 (facts:=noF) (kI:=fun _ _=>0) (fun _ _ _ h=>by cases h) k_
theorem aMs:cK prog 382=some (.st 381 (gt 256 (.bool false))):=k_
theorem Z3(s:List Nat)(h:s.length<=1048576)(d:∀c∈s,c<256):aA prog 302 [.str s,.str xe] (.str (lT (jA s))):=by
 refine aM nf (i_ func302) mix (by simp[f302]) ?_
 by_cases b:s=[]
 ·subst b;simp[f302,xe,lT,jA]
 simp[f302,xe,b];refine c1 YO ?_;have g:(jA s).length<=s.length:=by
  rw[jA,List.length_reverse];have:=(hK b9 (l:=s.reverse)).length_le;simpa using this
 have f:∀c∈jA s,c<256:=by
  intro c hc;rw[jA,List.mem_reverse]at hc;exact d c (by simpa using(hK b9 (l:=s.reverse)).subset hc)
 simp[aMs];have a:aL qz=.agg 381:=rfl;refine⟨⟨⟨a.symm,by rw[a];intro e;cases e⟩,a.symm⟩,?_⟩;refine cp (VR s h d) (by simp;exact⟨rfl,rfl⟩) ?_;simp;refine cp (Wf (jA s) o_ f) (by simp;exact⟨rfl,rfl⟩) ?_;simp
def bI:List Int->Int
 |[]=>0
 |e::r=>if e=0 then bI r else e
def ba(b:Bool)(e:Int):Int:=if b=true then e else 0
theorem Z4(a:List Int)(h:a.length<=1048576):aA prog 258 [.seq (a.map (.int .i64))] (.int .i64 (bI a)):=by
 refine aM nf (i_ func258) mix (by simp[f258]) ?_;simp[f258];refine lp (α:=Nat) (fun i=>⟨[(7,.p (.int .i64 i)),(6,.p (.int .i64 a.length)),(5,.p (.seq (a.map (.int .i64))))],[]⟩) (fun i=>i<=a.length/\bI (a.drop i)=bI a) (fun i=>a.length-i) 0 s_ ?_;rintro i ⟨d,b⟩;simp
 by_cases hi:i<a.length
 ·rw[g8 hi]at b;have c:=bY (i:=i) o_;simp[hi]
  by_cases he:a[i]=0
  ·simp[bI,he]at b;simp[he,c];exact rd (i+1) ⟨hi,b⟩
  ·simp[bI,he]at b;simp[he,<-b]
 ·have:i=a.length:=by omega
  subst this;simp[bI]at b;simp[<-b]
theorem nN(a:List Int)(h:a.length<=1048576):aA prog 56 [.seq (a.map (.int .i64))] (.int .i64 (bI a)):=by
 refine aM nf (i_ func56) mix (by simp[f56]) ?_;simp[f56];refine lp (α:=Nat) (fun i=>⟨[(7,.p (.int .i64 i)),(6,.p (.int .i64 a.length)),(5,.p (.seq (a.map (.int .i64))))],[]⟩) (fun i=>i<=a.length/\bI (a.drop i)=bI a) (fun i=>a.length-i) 0 s_ ?_;rintro i ⟨h1,b⟩;simp
 by_cases hi:i<a.length
 ·rw[g8 hi]at b;have c:=bY (i:=i) o_;simp[hi]
  by_cases he:a[i]=0
  ·simp[bI,he]at b;simp[he,c];exact rd (i+1) ⟨hi,b⟩
  ·simp[bI,he]at b;simp[he,<-b]
 ·have:i=a.length:=by omega
  subst this;simp[bI]at b;simp[<-b]
theorem wv(b:Bool)(e:Int):aA prog 259 [.bool b,.int .i64 e] (.int .i64 (ba b e)):=by
 refine aM nf (i_ func259) mix (by simp[f259]) ?_;cases b<;>simp[f259,ba]
theorem gQ(b:Bool)(e:Int):aA prog 57 [.bool b,.int .i64 e] (.int .i64 (ba b e)):=by
 refine aM nf (i_ func57) mix (by simp[f57]) ?_;cases b<;>simp[f57,ba]
theorem OU(s:List Nat)(h:s.length<=1048576)(i:∀c∈s,c<256):aA prog 257 [.str s] (.bool (dx s)):=by
 have f:=Z3 s h i;have g:=W5 s;rw[show xe=[48,49,50,51,52,53,54,55,56,57]from rfl]at f;refine aM nf (i_ func257) mix (by simp[f257]) ?_;generalize lT (jA s)=t at*;cases s with
 |nil=>simp[f257,dx]
 |cons c r=>
  have hc:=i c s_
  by_cases b:t=[]
  ·have d:=g.1 b;have e:dx (c::r)=(decide (¬c=48)||decide (r=[])):=by
    rw[dx,d]
    by_cases a:c=48
    ·subst a;simp
    ·simp[a]
   rw[e];clear e d g
   by_cases a:c=48
   ·cases r with
    |nil=>
     simp[f257];refine c2 f ?_;simp[b,a]
    |cons x r=>
     simp[f257];refine c2 f ?_;simp[b,a]
   ·have j:¬(c:Int)=48:=by omega
    simp[f257];refine c2 f ?_;simp[b,a,j]
  ·have d:¬(c::r).all b9=true:=mt g.2 b;have a:(c::r).all b9=false:=by simpa using d
   have e:dx (c::r)=false:=by rw[dx,a];simp
   rw[e];clear e d a g;simp[f257];refine c2 f ?_;simp[b]
theorem azo{a b:Nat}:(decide (kH (eQ a b) 1≠0))=decide (js a b≠1):=by
 rw[decide_eq_decide,kH,eQ,ed,ed]
 split
 ·simp;omega
 ·split
  ·simp;omega
  ·simp;omega
theorem FI{s:List Nat}(h:s.all b9=true)(hl:s.length<=700):okW (aY s:Nat):=by
 have a:=jL _ s rfl h;have b:aY s<2^kR:=h7 a (Mj (by have:kR=2800:=rfl;omega));exact iO (k:=kR) (by rw[ed];exact b) (by have:kB=100000:=rfl;have:kR=2800:=rfl;omega)
theorem Ad(s:List Nat)(h:s.length<=1048576)(I:∀c∈s,c<256):aA prog 190 [.str s] (.int .i64 (bM s)):=by
 have V:=ZI s;have y:=QR (bS s) 47 (h9 (py s).1 h);rw[show(bP 47 (bS s)).1=bF s from rfl,show(bP 47 (bS s)).2.1=bU s from rfl,show(bP 47 (bS s)).2.2=eh s from rfl]at y;refine aM nf (i_ func190) mix (by simp[f190]) ?_;simp[f190,-bu];rw[bu];simp[-bu];rw[bu];simp[-bu];refine c2 V ?_;simp[-bu];rw[bu];simp[-bu];refine c2 y ?_;simp[-bu];have Z:=(py s).1;have q:=tF 47 (bS s);have ab:(bF s).length<=1048576:=by have:=q.1;rw[bF];omega
 have aa:(bU s).length<=1048576:=by have:=q.2.1;rw[bU];omega
 have U:∀c∈bF s,c<256:=fun c hc=>I c ((py s).2 c (q.2.2.1 c hc));have T:∀c∈bU s,c<256:=fun c hc=>I c ((py s).2 c (q.2.2.2 c hc));clear q Z;have X:=OU (bF s) ab U;have W:=OU (bU s) aa T;obtain⟨m,z⟩:∃m,m=(dx (bF s)&&!(bQ s&&decide (bF s=[48]))):=⟨_,rfl⟩
 obtain⟨f2,k⟩:∃f2,f2=(m&&(!eh s||(dx (bU s)&&decide (bU s≠[48])&&decide (bU s≠[49])))):=⟨_,rfl⟩
 have J:bM s=if f2=false then 1 else if 600<(bF s).length\/600<(bU s).length then 4 else if eh s=true/\js (aY (bF s)) (aY (bU s))≠1 then 1 else 0:=by rw[k,z];rfl
 rw[J];clear J y;generalize eh s=fr at*;refine join (fun s'=>aN s'.env 8=.p (.bool m)/\aN s'.env 7=.p (.bool fr)/\aN s'.env 6=.p (.str (bU s))/\aN s'.env 5=.p (.str (bF s))/\s'.heap=[]) ?_ ?_
 ·simp;refine c1 X ?_;rw[z];cases dx (bF s)
  ·simp
  ·cases bQ s
   ·simp
   ·by_cases r:bF s=[48]
    ·simp[r]
    ·simp[r]
 rintro⟨G,Y⟩ ⟨d,f,g,i,t⟩;dsimp only at d f g i t;subst t;refine join (fun s'=>aN s'.env 8=.p (.bool f2)/\aN s'.env 7=.p (.bool fr)/\aN s'.env 6=.p (.str (bU s))/\aN s'.env 5=.p (.str (bF s))/\s'.heap=[]) ?_ ?_
 ·rw[k];cases fr
  ·simp[d,f,g,i]
  ·cases m
   ·simp[d,f,g,i]
   ·simp[d,f,g,i];refine c1 W ?_;cases dx (bU s)
    ·simp[d,f,g,i]
    ·by_cases r:bU s=[48]
     ·simp[d,f,g,i,r]
     ·by_cases L:bU s=[49]
      ·simp[d,f,g,i,L]
      ·simp[d,f,g,i,r,L]
 clear d f g i G;rintro⟨G,Y⟩ ⟨d,f,g,i,t⟩;dsimp only at d f g i t;subst t;have head:∀(n v:Bool),aA prog 258 [.seq [.int .i64 (ba n 1),.int .i64 (ba v 4)]] (.int .i64 (if n=true then 1 else if v=true then 4 else 0)):=fun n v=>by
  have:=Z4 [ba n 1,ba v 4] s_;cases n<;>cases v<;>exact this
 have F:=wv (!f2) 1;have P:=wv true 4;have wf:=wv false 4;have H:=head (!f2) true;have S:=head (!f2) false;have M:(600<(bF s).length)↔(600:Int)<((bF s).length:Nat):=o_
 have N:(600<(bU s).length)↔(600:Int)<((bU s).length:Nat):=o_
 by_cases u:(600:Int)<((bF s).length:Nat)
 ·simp[d,f,g,i];refine c2 F ?_;simp[d,f,g,i,u];refine c2 P ?_;simp;refine cp H (by simp;exact⟨rfl,rfl⟩) ?_;cases f2
  ·simp
  ·simp[M.2 u]
 by_cases x:(600:Int)<((bU s).length:Nat)
 ·simp[d,f,g,i];refine c2 F ?_;simp[d,f,g,i,u,x];refine c2 P ?_;simp;refine cp H (by simp;exact⟨rfl,rfl⟩) ?_;cases f2
  ·simp
  ·simp[N.2 x]
 have C:¬600<(bF s).length:=mt M.1 u;have D:¬600<(bU s).length:=mt N.1 x;have O:=wv false 1;have ae:=wv true 1;simp[d,f,g,i];refine c2 F ?_;simp[d,f,g,i,u,x];refine c2 wf ?_;simp;refine cp S (by simp;exact⟨rfl,rfl⟩) ?_;cases f2
 ·simp
 cases fr
 ·simp[d,f,g,i,C,D];refine c2 O ?_;simp[ba];exact⟨o_,o_⟩
 have j:dx (bF s)=true/\dx (bU s)=true:=by
  cases Q:dx (bF s)
  ·rw[z,Q]at k;simp at k
  cases R:dx (bU s)
  ·rw[R]at k;simp at k
  exact⟨rfl,rfl⟩
 obtain⟨ac,E⟩:=zm j.1;obtain⟨ad,n4⟩:=zm j.2;have r1:=zR (bF s) (by rw[E];exact jk j.1) (by rw[E];omega);have r2:=zR (bU s) (by rw[n4];exact jk j.2) (by rw[n4];omega);rw[ac,E]at r1;rw[ad,n4]at r2;simp only[dp,if_false]at r1 r2;have A:=QN (.mk' (aY (bF s):Nat)) (.mk' (aY (bU s):Nat)) (FI (jk j.1) o_) (FI (jk j.2) o_);rw[NI.ja,NI.ja]at A;have B:=sn 1;rw[NJ]at B;have hc:=QM (.mk' (eQ (aY (bF s):Nat) (aY (bU s):Nat))) (.mk' 1) (re (FI (jk j.2) o_) (by rw[NI.ja,eQ,ed,ed,ed];exact le _ (vT j.2 (fun e=>by rw[e]at k;simp at k)))) (by rw[okW];decide);rw[NI.ja,NI.ja]at hc;have K:=azo (a:=aY (bF s)) (b:=aY (bU s));generalize kH (eQ (aY (bF s):Nat) (aY (bU s):Nat)) 1=o at*
 by_cases l:js (aY (bF s)) (aY (bU s))=1
 ·have w:o=0:=by simpa[l]using K
  simp[d,f,g,i,C,D,l];refine c1 r1 ?_;simp[d,f,g,i];refine c1 r2 ?_;simp;refine c2 A ?_;simp;refine c1 B ?_;simp;refine c2 hc ?_;simp[w];refine c2 O ?_;simp[ba];rw[if_neg o_,if_pos l]
 ·have w:¬o=0:=by simpa[l]using K
  simp[d,f,g,i,C,D,l];refine c1 r1 ?_;simp[d,f,g,i];refine c1 r2 ?_;simp;refine c2 A ?_;simp;refine c1 B ?_;simp;refine c2 hc ?_;simp[w];refine c2 ae ?_ (h1:=by simp[w]);simp[ba];rw[if_neg o_,if_neg l]
def jF(s:List Nat):Prop:=s.length<=1048576/\∀c∈s,c<256
theorem ZH(l:List (List Nat)):aA prog 327 [.seq (l.map .str)] (.func 370 [] [.cA (.seq (l.map .str))]):=by
 refine aM nf (i_ func327) mix (by simp[f327]) ?_;simp[f327];exact bB.refl _
def E9(s:List Nat):List PV:=[.int .i64 (bM s)]
theorem Zj(l:List (List Nat))(hl:l.length<=1000000)(hs:∀s∈l,jF s):Stream prog 370 [] [.cA (.seq (l.map .str))] (l.map E9):=by
 intro b k c H' hk d o f;refine dU nf (i_ func370) mix (by simp[f370]) ?_;rw[hC]at hk;have g:∀i(h:i<l.length),(l.map E9)[i]?=some (E9 l[i]):=fun i h=>by rw[hn,gi h];rfl
 simp[f370];refine lp (α:=Nat) (fun i=>⟨[(7,.p (.int .i64 i)),(6,.p (.int .i64 l.length)),(5,.p (.seq (l.map .str))),(0,.map b)],c i⟩) (fun i=>i<=k) (fun i=>l.length-i) 0 s_ ?_ (hr:=by simp;exact(d 0 o_).2) (hr2:=(d 0 o_).1);intro i hi;have n:=bY (i:=i) o_
 by_cases a:i<l.length
 ·have hc:=Ad l[i] (hs _ (g4 a)).1 (hs _ (g4 a)).2;have iu:(i<k/\iY prog b (c i) [.p (.int .i64 (bM l[i]))] (c (i+1)) (.p (.bool true)))\/iY prog b (c i) [.p (.int .i64 (bM l[i]))] H' (.p (.bool false)):=by
   by_cases e:i<k
   ·exact .inl ⟨e,o i _ e (g i a)⟩
   ·have:i=k:=by omega
    subst this;rcases f with⟨e1,_⟩|⟨y,e1,e2⟩
    ·rw[hC]at e1;omega
    ·rw[g i a]at e1;injection e1 with e1;subst e1;exact .inr e2
  simp[a];refine c1 hc ?_;simp;rcases iu with⟨e,hY⟩|hY
  ·refine⟨c (i+1),_,hY,?_⟩;simp[n];exact rd (i+1) e (h1:=o_) (hr:=by simp;exact(d (i+1) o_).2) (hr2:=(d (i+1) o_).1)
  ·refine⟨H',_,hY,?_⟩;simp
 ·have m:i=l.length:=by omega
  have j:k=l.length:=o_
  rcases f with⟨e1,e2⟩|⟨y,e1,e2⟩
  ·simp[a,e2,m,j]
  ·rw[j,List.getElem?_eq_none s_]at e1;cases e1
theorem CS(p:Nat->Bool):∀n,∃k,k<=n/\(∀j,j<k->p j=true)/\(k=n\/(k<n/\p k=false))
 |0=>⟨0,i1 _,fun j h=>by omega,.inl rfl⟩
 |n+1=>by
  obtain⟨k,f,b,a⟩:=CS p n;rcases a with a|⟨a,d⟩
  ·subst a;cases c:p k
   ·exact⟨k,o_,b,.inr ⟨o_,c⟩⟩
   ·refine⟨k+1,i1 _,fun j g=>?_,.inl rfl⟩
    by_cases e:j=k
    ·subst e;exact c
    ·exact b j o_
  ·exact⟨k,o_,b,.inr ⟨o_,d⟩⟩
def mB(l:List (List Nat))(i:Nat):Int:=match l[i]? with
 |some s=>bM s
 |none=>0
theorem KS:∀(l:List (List Nat))(k:Nat),(∀j,j<k->mB l j=0)->bI (l.map bM)=bI ((l.drop k).map bM)
 |[],k,_=>by simp
 |s::l,0,_=>rfl
 |s::l,k+1,h=>by
  have a:=h 0 o_;have b:bM s=0:=a;rw[gD,bI,if_pos b,List.drop_succ_cons];exact KS l k fun j c=>h (j+1) o_
theorem WI(l:List (List Nat))(hl:l.length<=1000000)(hs:∀s∈l,jF s):aA prog 271 [.seq (l.map .str)] (.int .i64 (bI (l.map bM))):=by
 refine aM nf (i_ func271) mix (by simp[f271]) ?_;simp[f271];refine c1 (ZH l) ?_;simp;have aI:=Zj l hl hs;obtain⟨k,hk,f,c⟩:=CS (fun i=>decide (mB l i=0)) l.length;have q:∀j,j<k->mB l j=0:=fun j o=>by simpa using f j o
 have d:=KS l k q;refine rf2 aI rfl s_ (fun L _=>[.box false (.p (.int .i64 0)),.loop L]) (fun L i=>[.box false (.p (.int .i64 (mB l (i-1)))),.loop (L.dn .ret)]) (fun i=>decide (mB l i=0)) .ret k (by simpa using hk) f (by simpa using c) (fun L=>rfl) ?_ ?_ (fun L=>rfl) ?_ ?_
 ·intro L b i hi;clear b;refine⟨rfl,s_,fun _ hl=>?_⟩;simp at hl⊢;exact hl
 ·intro L b i x hi hx;have r:x=[.int .i64 (mB l i)]:=by
   rw[hn]at hx;unfold mB;cases h:l[i]? with
   |none=>rw[h]at hx;cases hx
   |some s=>rw[h]at hx;injection hx with hx;rw[<-hx];rfl
  subst r;rw[j2];refine Gt nf mix b rfl rfl k_ ?_;have g:=congrArg fD.env b;dsimp only at g;clear b;generalize mB l i=e
  by_cases he:e=0
  ·subst he;simp;exact .inl rfl
  ·simp[he];exact .inl rfl
 ·intro a L;have a:k=l.length:=by simpa using a
  rw[d,a];simp[bI]
 ·intro a L;have a:k<l.length:=by simpa using a
  have n:¬mB l k=0:=by
   rcases c with t|⟨_,m⟩
   ·omega
   ·simpa using m
  have e1:mB l k=bM l[k]:=by unfold mB;rw[gi a]
  rw[d,g8 a,gD,bI,<-e1,if_neg n];simp[kX]
structure gZ where
 x:List Nat
 y:List Nat
def fE(p:gZ):PV:=.st 81 [.str p.x,.str p.y]
def qt(p:gZ):Prop:=jF p.x/\jF p.y
def dV(p:gZ):Int:=bI [bM p.x,bM p.y]
@[simp] theorem aPl(p:gZ):aL (fE p)=.agg 81:=rfl
@[simp] theorem aN6(p:gZ):cH (fE p)=[.str p.x,.str p.y]:=rfl
@[simp] theorem aNh:prog.cellsOf 81=2:=k_
theorem Vc(p:gZ)(a:qt p):aA prog 204 [.seq [fE p]] (.int .i64 (dV p)):=by
 have hc:=WI [p.x,p.y] s_ (by intro s hs;simp at hs;rcases hs with rfl|rfl;exact a.1;exact a.2);refine aM nf (i_ func204) mix (by simp[f204]) ?_;simp[f204];refine lp (α:=Nat) (fun i=>⟨[(8,.p (.int .i64 i)),(7,.p (.int .i64 1)),(6,.p (.seq [fE p])),(0,.p (.seq [fE p]))],[]⟩) (fun i=>i=0\/(i=1/\dV p=0)) (fun i=>1-i) 0 (.inl rfl) ?_;rintro i h;rcases h with rfl|⟨rfl,h⟩
 ·simp[ad];refine cp hc (by simp;exact⟨rfl,rfl⟩) ?_;have b:eb.wrap 1=1:=rfl;rw[show bI (hL bM [p.x,p.y])=dV p from rfl]
  by_cases h:dV p=0
  ·simp[h,b];exact rd 1 (.inr ⟨rfl,h⟩)
  ·simp[h]
 ·simp[h]
theorem B4(p:gZ)(a:qt p):aA prog 120 [fE p] (.int .i64 (dV p)):=by
 refine aM nf (i_ func120) mix (by simp[f120]) ?_;simp[f120,ad];refine cp (Vc p a) (by simp;exact⟨rfl,rfl⟩) ?_;simp
open Go.Proofs Go.Proofs.YtfdgnogcckoalaaGreatDoor
section
variable{H:Type}{W:ea}{aa:Nat->Prop}
theorem Ak{n:Nat}{d:DataW H}(h:∃cs,aV prog W aa (bH prog (n+1) 73 d) cs)(a:Rows.uptoBulk d<=1048576):∃s:List Nat,bH prog (n+1) 73 d=.str s/\jF s:=by
 obtain⟨cs,h⟩:=h;cases d with
 |lit l=>
  cases l with
  |string bytes=>
   refine⟨bytes.map (·.toNat),by simp only[bH,F1],?_,?_⟩
   ·rw[Rows.uptoBulk]at a;rw[hC];omega
   ·intro c hc;obtain⟨u,_,rfl⟩:=hu.1 hc;exact u.toNat_lt
  |_=>simp only[bH,F1,aV]at h
 |_=>simp only[bH,F1,aV]at h
theorem aMA:∃a b:Field,prog.underlying 82=some (.struct #[a,b])/\a.type=73/\b.type=73:=⟨_,_,underlying82,rfl,rfl⟩
theorem SZ:prog.underlyingId 82=81:=k_
theorem X3{m n:Nat}(q:m=n+1){d:DataW H}(h:∃cs,aV prog W aa (bH prog (m+1) 82 d) cs)(e:Rows.uptoBulk d<=1048576):∃p:gZ,bH prog (m+1) 82 d=fE p/\qt p:=by
 obtain⟨cs,h⟩:=h;obtain⟨f0,f1,i,t0,t1⟩:=aMA;cases d with
 |agg l=>
  have g:∀x∈l,Rows.uptoBulk x<=1048576:=fun x hx=>by
   have:=qf.wZ hx;rw[Rows.uptoBulk]at e;omega
  simp only[bH,i,aV]at h⊢;obtain⟨t,s,f,c,_⟩:=h;rw[SZ,aMe]at f;cases f
  match l,c with
  |[],c=>simp[bg]at c
  |[x],c=>simp[bg]at c
  |x::y::r,c=>
   simp only[List.zip_cons_cons,gD,bg,List.zip_nil_left,hw,t0,t1]at c⊢;obtain⟨c0,_,_,g1,_,c1,_,_,g2,_⟩:=c;subst q;obtain⟨a,j,o⟩:=Ak ⟨c0,g1⟩ (g x s_);obtain⟨b,k,e⟩:=Ak ⟨c1,g2⟩ (g y s_);exact⟨⟨a,b⟩,by rw[j,k,SZ];rfl,o,e⟩
 |_=>simp only[bH,i,aV]at h
theorem K1{n:Nat}{d:DataW H}(h:∃cs,aV prog W aa (bH prog (n+2) 82 d) cs)(a:Rows.uptoBulk d<=1048576):∃p:gZ,bH prog (n+2) 82 d=fE p/\qt p:=X3 rfl h a
end
def bT:Nat:=1000000000
theorem bc:2<=bT:=by decide
def iP(l:List Nat):List PV:=l.map fun x:Nat=>.int .i64 x
theorem SQ(w:List Nat):fk prog 1 (w.map (AV.p∘fun x:Nat=>PV.int .i64 x)):=by
 rw[vC];intro v a;obtain⟨x,_,rfl⟩:=hu.1 a;simp[ad,aL,bG]
def eT(n:Nat):PV:=.seq ((ar bT n).map fun x:Nat=>.int .i64 x)
theorem As:ar bT 0=[]:=by simp[ar,nD]
theorem n9{n:Nat}(b:0<n)(h:n<bT):ar bT n=[n]:=by
 have a:=jZ bc (m:=1) (n:=n) (by rw[la];exact h);rw[<-a,row,h4,gD,hw,ae,jp,j4,i0 h];have:=vz [] n o_
 rwa [hZ]at this
theorem vJ{n:Nat}:ar bT n=[]↔n=0:=by
 constructor
 ·intro h;have:=cq bc n;rw[h,List.length_nil,jp]at this;omega
 ·rintro rfl;exact As
theorem tW(w:List Nat)(h:w.length<=1048576):aA prog 337 [.seq (iP w)] (.seq (iP (eB w))):=by
 refine aM nf (i_ func337) mix (by simp[f337]) ?_;simp only[iP];simp[f337];refine lp (α:=Nat) (fun i=>⟨[(0,.p (.seq ((w.take i).map fun x:Nat=>.int .i64 x)))],[]⟩) (fun i=>i<=w.length/\eB w=eB (w.take i)) (fun i=>i) w.length s_ ?_;rintro i ⟨k1,k2⟩;have hl:(w.take i).length=i:=by rw[g3];omega
 by_cases hi:0<i
 ·obtain⟨j,rfl⟩:∃j,i=j+1:=⟨i-1,o_⟩
  have f:eb.wrap (j:Int)=j:=aO _ o_ o_;have a:j<w.length:=o_
  have e:(0:Int)<(j:Int)+1:=o_
  have k3:=k2;rw[g7 a]at k2;have c:min (j+1) w.length=j+1:=o_
  have d:min ((j:Int)+1) (w.length:Int)=j+1:=o_
  have g:¬w=[]:=by rintro rfl;simp at a
  by_cases b:w[j]=0
  ·rw[b,Cj]at k2;simp[e,f,a,b,c,d,g];refine⟨by rw[<-g9];exact SQ _,?_⟩;refine rd j ⟨o_,k2⟩ (he:=?_);rw[<-g9,<-g9,hE,lw o_];simp
  ·rw[vz _ _ b,<-g7 a]at k2;simp[e,f,a,b,c,d,g];rw[k2,g9];exact bB.refl _
 ·obtain rfl:i=0:=by omega
  simp[eB]at k2;simp[k2]
def eG(z:Int):PV:=.st 290 [.bool (decide (z<0)),eT z.natAbs]
@[simp] theorem aPg(z:Int):aL (eG z)=.agg 290:=rfl
@[simp] theorem aN2(z:Int):cH (eG z)=[.bool (decide (z<0)),eT z.natAbs]:=rfl
@[simp] theorem aPq(n:Nat):aL (eT n)=.leaf:=rfl
theorem C4(neg:Bool)(w:List Nat)(n:Nat)(c:eB w=ar bT n)(h:w.length<=1048576):aA prog 284 [.bool neg,.seq (iP w)] (eG (if neg=true then -(n:Int)else n)):=by
 have a:=tW w h;rw[c]at a;refine aM nf (i_ func284) mix (by simp[f284]) ?_;have b:(if neg=true then -(n:Int)else n).natAbs=n:=by cases neg<;>simp
 rw[eG,b,eT];have d:=vJ (n:=n);have e:decide ((if neg=true then -(n:Int)else n)<0)=(neg&&decide (0<(ar bT n).length)):=by
  cases neg
  ·simp
  ·simp;rw[gm,Ne,d];omega
 rw[e];simp only[iP]at a⊢;generalize ar bT n=x at*;cases neg
 ·simp[f284];refine c1 a ?_;simp[ad]
 ·simp[f284];refine c1 a ?_;simp[ad]
  done
theorem Ki{a b:Nat}(h:(ar bT a).length<(ar bT b).length):a<b:=by
 have d:=cq bc a;rcases ik a b with c|c
 ·exact c
 ·have:=dO bc (ar bT a).length b (ih c d);omega
theorem Kr{a b i:Nat}(h:a/bT^(i+1)=b/bT^(i+1))(e:ae bT a i<ae bT b i):a<b:=by
 rw[ix,<-i2,<-i2]at h;have e1:=i5 (a/bT^i) bT;have e2:=i5 (b/bT^i) bT;rw[ae,ae]at e;rw[h]at e1;rcases ik a b with d|d
 ·exact d
 ·have:=Nat.div_le_div_right (c:=bT^i) d;omega
theorem YK{a b i:Nat}(h:a/bT^(i+1)=b/bT^(i+1))(c:ae bT a i=ae bT b i):a/bT^i=b/bT^i:=by
 rw[ix,<-i2,<-i2]at h;have e1:=i5 (a/bT^i) bT;have e2:=i5 (b/bT^i) bT;rw[ae,ae]at c;rw[h]at e1;omega
theorem Kx(a b:Nat)(D:(ar bT a).length<=1048576)(E:(ar bT b).length<=1048576):aA prog 298 [eT a,eT b] (.int .i64 (fY a b)):=by
 refine aM nf (i_ func298) mix (by simp[f298]) ?_
 by_cases hl:(ar bT a).length=(ar bT b).length
 case neg=>
  have o:¬((ar bT a).length:Int)=(ar bT b).length:=o_
  by_cases z:(ar bT a).length<(ar bT b).length
  ·have l:((ar bT a).length:Int)<(ar bT b).length:=by omega
   have:=Ki z;have hc:fY a b= -1:=if_pos this;simp[f298,eT,o,l,hc]
  ·have l:¬((ar bT a).length:Int)<(ar bT b).length:=by omega
   have:=Ki (a:=b) (b:=a) o_;have hc:fY a b=1:=by rw[fY,if_neg o_,if_pos this]
   simp[f298,eT,o,l,hc]
 have s:∀i(h:i<(ar bT a).length),(ar bT a)[i]?=some (ae bT a i):=fun i h=>by rw[gi h,eH bc h]
 have u:∀i(h:i<(ar bT b).length),(ar bT b)[i]?=some (ae bT b i):=fun i h=>by rw[gi h,eH bc h]
 have t:∀i(h:i<(ar bT a).length),(ar bT a)[i]=ae bT a i:=fun i h=>eH bc h;have v:∀i(h:i<(ar bT b).length),(ar bT b)[i]=ae bT b i:=fun i h=>eH bc h;have r:=cq bc a;have n:=cq bc b;rw[<-hl]at n;have w:a/bT^(ar bT a).length=b/bT^(ar bT a).length:=by rw[i8 r,i8 n]
 simp only[eT];generalize ar bT a=x at*;generalize ar bT b=y at*;have C:eb.wrap ((y.length:Int)-1)=y.length-1:=aO _ o_ o_;simp[f298,hl,C];refine lp (α:=Nat) (fun i=>⟨[(5,.p (.int .i64 ((i:Int)-1))),(1,.p (.seq (y.map fun x:Nat=>.int .i64 x))),(0,.p (.seq (x.map fun x:Nat=>.int .i64 x)))],[]⟩) (fun i=>i<=y.length/\a/bT^i=b/bT^i) (fun i=>i) y.length ⟨i1 _,by rw[<-hl];exact w⟩ ?_;rintro i ⟨k1,k2⟩
 by_cases hi:0<i
 ·obtain⟨j,rfl⟩:∃j,i=j+1:=⟨i-1,o_⟩
  have c:j<x.length:=o_
  have d:j<y.length:=o_
  have B:eb.wrap ((j:Int)-1)=j-1:=aO _ o_ o_;have e:=s j c;have g:=u j d;have f:=t j c;have k:=v j d
  by_cases hq:ae bT a j=ae bT b j
  ·simp[c,d,e,g,f,k,hq,B];exact rd j ⟨o_,YK k2 hq⟩
  ·have q:¬(ae bT a j:Int)=ae bT b j:=by omega
   by_cases m:ae bT a j<ae bT b j
   ·have:=Kr k2 m;have hc:fY a b= -1:=if_pos this;simp[c,d,e,g,f,k,q,m,hc]
   ·have:=Kr k2.symm (show ae bT b j<ae bT a j by omega);have A:ae bT b j<ae bT a j:=by omega
    have hc:fY a b=1:=by rw[fY,if_neg o_,if_pos this]
    simp[c,d,e,g,f,k,q,m,A,hc]
 ·obtain rfl:i=0:=by omega
  rw[jp,j4,j4]at k2;have hc:fY a b=0:=by rw[fY,if_neg o_,if_neg o_]
  simp[hc]
theorem Zv{n i:Nat}(h:(ar bT n).length<=i):ae bT n i=0:=jY (h7 (cq bc n) (h6 (by decide) h))
theorem DR(a i:Nat):aA prog 345 [eT a,.int .i64 i] (.int .i64 (ae bT a i:Nat)):=by
 refine aM nf (i_ func345) mix (by simp[f345]) ?_
 by_cases h:i<(ar bT a).length
 ·have b:(ar bT a)[i]=ae bT a i:=eH bc h;rw[eT,<-b];generalize ar bT a=x at*;simp[f345,h]
 ·rw[Zv o_,eT];generalize ar bT a=x at*;simp[f345,h]
def ey(i n:Nat):List AV:=(gx i).map fun j=>.p (.int .i64 (ae bT n j:Nat))
theorem qQ(i n:Nat):ey (i+1) n=ey i n++[.p (.int .i64 (ae bT n i:Nat))]:=by
 rw[ey,hX,h3];rfl
theorem iX(i n:Nat):(ey i n).length=i:=by simp[ey]
@[simp] theorem aO5{N:Nat×Nat->Prop}{n i:Nat}:aR N (ey i n)=True:=by
 rw[cO,eq_iff_iff,iff_true];intro v a;simp only[ey,hu]at a;obtain⟨x,_,rfl⟩:=a;trivial
theorem Nz(i n:Nat):eZ (ey i n)=some ((row bT i n).map fun x:Nat=>.int .i64 x):=by
 have:ey i n=(row bT i n).map (AV.p∘fun x:Nat=>PV.int .i64 x):=by
  rw[ey,row,hH];rfl
 rw[this];exact LK
theorem O3(i n:Nat):ey i n=(row bT i n).map (AV.p∘fun x:Nat=>PV.int .i64 x):=by
 rw[ey,row,hH];rfl
theorem ZQ{n i:Nat}(h:n<bT^i)(a:i=0\/bT^(i-1)<=n):row bT i n=ar bT n:=by
 have hl:(ar bT n).length=i:=by
  have b:=dO bc i n h;rcases a with rfl|a
  ·omega
  ·have:=KU bc a;omega
 have:=axy bc n;rw[hl]at this;exact this.symm
theorem agt(a b:Nat)(I:(ar bT a).length<=1000000)(J:(ar bT b).length<=1000000):aA prog 297 [eT a,eT b] (eT (a+b)):=by
 refine aM nf (i_ func297) mix (by simp[f297]) ?_;have v:=cq bc a;have w:=cq bc b;have C:∀i,i<(ar bT a).length->bT^i<=a:=fun i h=>by
  rcases ik a (bT^i)with c|c
  ·have:=dO bc i a c;omega
  ·exact c
 have D:∀i,i<(ar bT b).length->bT^i<=b:=fun i h=>by
  rcases ik b (bT^i)with c|c
  ·have:=dO bc i b c;omega
  ·exact c
 have A:∀i,0<dt bT a b i->bT^i<=a+b:=fun i h=>by
  rw[dt]at h;have c:bT^i<=a% bT^i+b% bT^i:=by
   rcases ik (a% bT^i+b% bT^i) (bT^i)with d|d
   ·rw[i8 d]at h;omega
   ·exact d
  have:=m3 a (bT^i);have:=m3 b (bT^i);omega
 have f:=fun i=>DR a i;have g:=fun i=>DR b i;have B:∀i,(ar bT a).length<=i->(ar bT b).length<=i->dt bT a b i=0->a+b<bT^i:=fun i c d s=>by
  have l:=h7 v (h6 (show 0<bT by decide) c);have m:=h7 w (h6 (show 0<bT by decide) d);rw[dt,i0 l,i0 m]at s;rcases ik (a+b) (bT^i)with e|e
  ·exact e
  ·have:=j8 e (i4 (show 0<bT by decide));omega
 have E:∃M,M=max (ar bT a).length (ar bT b).length:=⟨_,rfl⟩
 obtain⟨M,H⟩:=E;simp only[eT]at f g⊢;have F:=fun i h d=>ZQ (n:=a+b) (i:=i) h d;generalize ar bT (a+b)=z at*;generalize ar bT a=x at*;generalize ar bT b=y at*;simp[f297];refine lp (α:=Nat) (fun i=>⟨[(7,.p (.int .i64 i)),(6,.p (.int .i64 (dt bT a b i:Nat))),(5,.sl 0 i 1 0 i),(1,.p (.seq (y.map fun x:Nat=>.int .i64 x))),(0,.p (.seq (x.map fun x:Nat=>.int .i64 x)))],[.arr .grow i 1 (ey i (a+b))]⟩)
  (fun i=>i<=M+1/\(i=0\/bT^(i-1)<=a+b)) (fun i=>M+1-i) 0 ⟨o_,.inl rfl⟩ ?_ (he:=by simp[yA,ey]) (hh:=by simp[ey])
 rintro i ⟨k1,k2⟩;have o:=bY (i:=i) o_;have K:=me bc a b i;obtain⟨l,m⟩:=qL bc a b i;have N:=ct bc a i;have O:=ct bc b i;have t:bT=1000000000:=rfl;have q:eb.wrap ((ae bT a i:Int)+ae bT b i)=ae bT a i+ae bT b i:=aO _ o_ o_;have r:eb.wrap ((ae bT a i:Int)+ae bT b i+dt bT a b i)=ae bT a i+ae bT b i+dt bT a b i:=aO _ o_ o_;have d1:((ae bT a i:Int)+ae bT b i+dt bT a b i).tmod 1000000000=(ae bT (a+b) i:Nat):=by
  rw[ei o_,<-l,t];omega
 have d2:((ae bT a i:Int)+ae bT b i+dt bT a b i).tdiv 1000000000=(dt bT a b (i+1):Nat):=by
  rw[ej o_,<-m,t];omega
 have d3:eb.wrap (dt bT a b (i+1):Nat)=(dt bT a b (i+1):Nat):=by have:=me bc a b (i+1);exact aO _ o_ o_
 have j:g0 i (ey i (a+b))=ey i (a+b):=gj (by rw[iX];exact i1 _)
 by_cases hx:i<x.length
 ·simp[hx];refine c2 (f i) ?_;simp;refine c2 (g i) ?_;simp[q,r,d1,d2,d3,iX,j,<-qQ];refine⟨by simp only[cM];omega,?_⟩;refine rd (i+1) ⟨o_,.inr (by rw[j2];exact h9 (C i hx) o_)⟩ o_ (he:=by simp[o])
 by_cases k:i<y.length
 ·simp[hx,k];refine c2 (f i) ?_;simp;refine c2 (g i) ?_;simp[q,r,d1,d2,d3,iX,j,<-qQ];refine⟨by simp only[cM];omega,?_⟩;refine rd (i+1) ⟨o_,.inr (by rw[j2];exact h9 (D i k) o_)⟩ o_ (he:=by simp[o])
 by_cases hc:0<dt bT a b i
 ·have L:i=M:=by
   rcases ik M i with h|h
   ·have e0:=qL bc a b M;have c:ae bT a M=0:=jY (h7 v (h6 (by decide) o_));have d:ae bT b M=0:=jY (h7 w (h6 (by decide) o_));have s:=me bc a b M;have e:i=M+1:=by omega
    subst e;rw[c,d]at e0;rw[<-e0.2,i8 o_]at hc;omega
   ·omega
  simp[hx,k,hc];refine c2 (f i) ?_;simp;refine c2 (g i) ?_;simp[q,r,d1,d2,d3,iX,j,<-qQ];refine⟨by simp only[cM];omega,?_⟩;refine rd (i+1) ⟨o_,.inr (by rw[j2];exact A i hc)⟩ o_ (he:=by simp[o])
 ·have u:dt bT a b i=0:=by omega
  have G:=F i (B i o_ o_ u) k2;rw[<-G];simp[hx,k,u];refine⟨by rw[iX];exact i1 _,?_⟩;rw[j,O3];simp
theorem OS(a b:Nat)(A:b<=a)(F:(ar bT a).length<=1000000):aA prog 299 [eT a,eT b] (eT (a-b)):=by
 refine aM nf (i_ func299) mix (by simp[f299]) ?_;have D:=cq bc a;have j:=fun i=>DR b i;have B:∀i(h:i<(ar bT a).length),(ar bT a)[i]?=some (ae bT a i):=fun i h=>by rw[gi h,eH bc h]
 have C:∀i(h:i<(ar bT a).length),(ar bT a)[i]=ae bT a i:=fun i h=>eH bc h;have E:eB (row bT (ar bT a).length (a-b))=ar bT (a-b):=jZ bc (ih (l0 a b) D);have e:=tW (row bT (ar bT a).length (a-b)) (by rw[N9];omega);rw[E]at e;simp only[eT]at j⊢;simp only[iP]at e;generalize ar bT (a-b)=z at*;generalize ar bT a=x at*;generalize ar bT b=y at*;simp[f299];refine lp (α:=Nat) (fun i=>⟨[(7,.p (.int .i64 i)),(6,.p (.int .i64 (fu bT a b i:Nat))),(5,.sl 0 i 1 0 i),(1,.p (.seq (y.map fun x:Nat=>.int .i64 x))),(0,.p (.seq (x.map fun x:Nat=>.int .i64 x)))],[.arr .grow i 1 (ey i (a-b))]⟩)
  (fun i=>i<=x.length) (fun i=>x.length-i) 0 s_ ?_ (he:=by simp[Ci,ey]) (hh:=by simp[ey])
 intro i k1;have s:=bY (i:=i) o_;have r:g0 i (ey i (a-b))=ey i (a-b):=gj (by rw[iX];exact i1 _);have G:bT=1000000000:=rfl;have J:=ct bc a i;have K:=ct bc b i;have L:=ct bc (a-b) i;have M:fu bT a b i<=1:=by rw[fu];split<;>omega
 have u:eb.wrap ((ae bT a i:Int)-ae bT b i)=ae bT a i-ae bT b i:=aO _ o_ o_;have n:eb.wrap ((ae bT a i:Int)-ae bT b i-fu bT a b i)=ae bT a i-ae bT b i-fu bT a b i:=aO _ o_ o_
 by_cases hx:i<x.length
 ·have o:=B i hx;have q:=C i hx;rcases Mk bc A i with⟨v,g,w⟩|⟨v,g,w⟩
  ·have m:(ae bT a i:Int)-ae bT b i-fu bT a b i<0:=by omega
   have f:eb.wrap ((ae bT a i:Int)-ae bT b i-fu bT a b i+1000000000)=(ae bT (a-b) i:Nat):=by rw[aO _ o_ o_];omega
   simp[hx,o,q];refine e2 (j i) ?_;simp[u,n,m,f,iX,r,<-qQ];refine⟨by simp only[cM];omega,?_⟩;refine rd (i+1) hx (he:=by simp[s,g])
  ·have m:¬(ae bT a i:Int)-ae bT b i-fu bT a b i<0:=by omega
   have f:(ae bT a i:Int)-ae bT b i-fu bT a b i=(ae bT (a-b) i:Nat):=o_
   rw[f]at m n;simp[hx,o,q];refine e2 (j i) ?_;simp[u,n,f,iX,r,<-qQ];refine⟨by simp only[cM];omega,?_⟩;refine rd (i+1) hx (he:=by simp[s,g])
 ·have:i=x.length:=by omega
  subst this;have k:=O3 x.length (a-b);have d:(row bT x.length (a-b)).length=x.length:=N9;generalize row bT x.length (a-b)=l at e k d;have H:g0 x.length l=l:=gj o_;rcases l with _|⟨c,t⟩
  ·simp at d;simp[k];refine cp e (by simp[<-d];exact⟨rfl,rfl⟩) ?_;simp
  ·have I:g0 x.length (PV.int .i64 c::hL (fun x:Nat=>PV.int .i64 x) t)=PV.int .i64 c::hL (fun x:Nat=>PV.int .i64 x) t:=gj (by simp at d⊢;omega);simp at d;simp[k];refine cp e (by simp[<-d];exact⟨rfl,rfl⟩) ?_;simp
def dv(n:Nat)(f:Nat->Nat):List AV:=(gx n).map fun j=>.p (.int .i64 (f j:Nat))
theorem vV(n:Nat)(f:Nat->Nat):(dv n f).length=n:=by simp[dv]
theorem Mo(n:Nat):gt n (AV.p (.int .i64 0))=dv n fun _=>0:=by
 apply ht (by simp[dv]);intro i a b;simp[dv]
theorem tM{n j:Nat}(f:Nat->Nat)(h:j<n):(dv n f)[j]?=some (.p (.int .i64 (f j:Nat))):=by
 rw[dv,hn,hv h];rfl
theorem Ds{n i:Nat}(f g:Nat->Nat)(h:∀j,j<n->j≠i->g j=f j):(dv n f).set i (.p (.int .i64 (g i:Nat)))=dv n g:=by
 apply ht (by simp[dv]);intro j c b;rw[vV]at b;rw[hU];simp only[dv,hd,ha]
 by_cases a:i=j
 ·subst a;rw[if_pos rfl]
 ·rw[if_neg a,h j b (fun e=>a e.symm)]
@[simp] theorem aO4{N:Nat×Nat->Prop}{n:Nat}{f:Nat->Nat}:aR N (dv n f)=True:=by
 rw[cO,eq_iff_iff,iff_true];intro v a;simp only[dv,hu]at a;obtain⟨x,_,rfl⟩:=a;trivial
theorem zg{n:Nat}{f g:Nat->Nat}(h:∀j,j<n->f j=g j):dv n f=dv n g:=by
 rw[dv,dv];apply hN;intro j a;rw[h j (h5.1 a)]
theorem CW(n:Nat)(f:Nat->Nat):dv n f=((gx n).map f).map (AV.p∘fun x:Nat=>PV.int .i64 x):=by
 rw[dv,hH];rfl
theorem Xm{n:Nat}{f:Nat->Nat}(h:∀j,f j=0):gt n (AV.p (.int .i64 0))=dv n f:=by
 rw[Mo];exact zg fun j _=>(h j).symm
theorem Er(a b:Nat)(w:(ar bT a).length+(ar bT b).length<=1000000):aA prog 300 [eT a,eT b] (eT (a*b)):=by
 refine aM nf (i_ func300) mix (by simp[f300]) ?_;have L:∀i(h:i<(ar bT a).length),(ar bT a)[i]=ae bT a i:=fun i h=>eH bc h;have M:∀i(h:i<(ar bT b).length),(ar bT b)[i]=ae bT b i:=fun i h=>eH bc h;have t:=cq bc a;have e:=cq bc b;have S:eB ((gx ((ar bT a).length+(ar bT b).length)).map (ae bT (a*b)))=ar bT (a*b):=jZ bc (by
  rw[j3];exact j9 t e)
 have c:=tW ((gx ((ar bT a).length+(ar bT b).length)).map (ae bT (a*b))) (by simp;omega);rw[S]at c;have A:bT=1000000000:=rfl;simp only[eT];simp only[iP]at c;generalize ar bT (a*b)=z at*;generalize ar bT a=x at*;generalize ar bT b=y at*;obtain⟨n,d⟩:∃n,x.length=n:=⟨_,rfl⟩
 obtain⟨m,g⟩:∃m,y.length=m:=⟨_,rfl⟩
 rw[d]at t c w;rw[g]at e c w;have B:=CW (n+m) (ae bT (a*b));have u:((gx (n+m)).map (ae bT (a*b))).length=n+m:=s_
 generalize (gx (n+m)).map (ae bT (a*b))=l at c B u;have R:((n:Int)+m).toNat=n+m:=o_
 have Q:0<=(n:Int)+m:=o_
 have W:eb.wrap ((n:Int)+m)=(n:Int)+m:=aO _ o_ o_;simp[f300,d,g,W,R,Q];refine⟨by simp only[cM];omega,?_⟩;rw[Xm (f:=du bT a b 0 0) (by intro j;simp[pD,m1,ae])];refine lp (α:=Nat) (fun i=>⟨[(6,.p (.int .i64 i)),(5,.sl 0 0 1 0 (n+m)),(1,.p (.seq (y.map fun x:Nat=>.int .i64 x))),(0,.p (.seq (x.map fun x:Nat=>.int .i64 x)))],[.arr .exact 0 1 (dv (n+m) (du bT a b i 0))]⟩)
  (fun i=>i<=n) (fun i=>n-i) 0 s_ ?_ (he:=s_)
 intro i k1;have T:=bY (i:=i) o_
 by_cases hi:i<n
 ·have r:i<x.length:=by rw[d];exact hi
  have hx:=L i r;have Y:x[i]?=some (ae bT a i):=by rw[gi r,hx]
  simp[d,hi];refine lp (α:=Nat) (fun j=>⟨[(8,.p (.int .i64 j)),(7,.p (.int .i64 (mulC bT a b i j:Nat))),(6,.p (.int .i64 i)),(5,.sl 0 0 1 0 (n+m)),(1,.p (.seq (y.map fun x:Nat=>.int .i64 x))),(0,.p (.seq (x.map fun x:Nat=>.int .i64 x)))],[.arr .exact 0 1 (dv (n+m) (du bT a b i j))]⟩)
   (fun j=>j<=m) (fun j=>m-j) 0 s_ ?_ (he:=by simp[CA])
  intro j k2;have V:=bY (i:=j) o_;have H:((i:Int)+j).toNat=i+j:=o_
  have G:0<=(i:Int)+j:=o_
  have U:eb.wrap ((i:Int)+j)=(i:Int)+j:=aO _ o_ o_
  by_cases F:j<m
  ·have s:j<y.length:=by rw[g];exact F
   have I:=M j s;have Z:y[j]?=some (ae bT b j):=by rw[gi s,I]
   have E:i+j<n+m:=o_
   have q:=tM (du bT a b i j) E;have o:=Dd bc a b i j;have ah:=tR bc a b i j;have v:=tR bc a b i (j+1);have ai:du bT a b i j (i+j)<bT:=by rw[du];split<;>exact ct bc _ _
   have am:=ct bc a i;have an:=ct bc b j;have hs:=Ds (n:=n+m) (i:=i+j) (du bT a b i j) (du bT a b i (j+1)) (fun k _ hk=>Lj bc hk);rw[MY]at hs;rw[<-o.1]at hs;have al:ae bT a i*ae bT b j<=999999999*999999999:=kt o_ o_;rw[<-o.2]at v;have J:=o.2;clear o;have K:((ae bT a i:Int)*(ae bT b j:Int))=((ae bT a i*ae bT b j:Nat):Int):=by push_cast;rfl
   generalize ae bT a i*ae bT b j=P at*;generalize du bT a b i j (i+j)=O at*;generalize aj:mulC bT a b i j=C at*;have ab:eb.wrap ((ae bT a i:Int)*(ae bT b j:Int))=P:=by rw[K];exact aO _ o_ o_
   have ac:eb.wrap ((O:Int)+P)=O+P:=aO _ o_ o_;have af:eb.wrap ((O:Int)+P+C)=O+P+C:=aO _ o_ o_;have d1:((O:Int)+P+C).tmod 1000000000=((P+O+C)% bT:Nat):=by
    rw[ei o_,A];omega
   generalize (P+O+C)% bT=D at*;have d2:((O:Int)+P+C).tdiv 1000000000=(mulC bT a b i (j+1):Nat):=by
    rw[ej o_,<-J,A];omega
   have d3:eb.wrap ((mulC bT a b i (j+1):Nat):Int)=(mulC bT a b i (j+1):Nat):=aO _ o_ o_;simp[d,g,F,U,H,G,E,q,hx,Y,I,Z,r,s,ab,ac,af,d1,d2,d3,hs,ad];exact rd (j+1) (show j+1<=m by omega) (he:=by simp[V])
  have:j=m:=o_
  subst this;have X:eb.wrap ((i:Int)+j)=(i:Int)+j:=aO _ o_ o_;have ak:i+j<n+j:=o_
  have aa:du bT a b i j (i+j)=0:=by
   rw[du,if_neg o_];exact jY (vX bc a i e)
  have q:=tM (du bT a b i j) ak;rw[aa]at q;have hs:=Ds (n:=n+j) (i:=i+j) (du bT a b i j) (du bT a b (i+1) 0) (fun k _ hk=>by rw[pD,MZ bc e hk]);rw[pD,<-JZ bc e]at hs;have v:=tR bc a b i j;have ag:eb.wrap ((mulC bT a b i j:Nat):Int)=(mulC bT a b i j:Nat):=aO _ o_ o_;simp[g,X,H,G,hi,ak,q,hs,ag,ad];exact rd (i+1) (show i+1<=n by omega) (he:=by simp[T])
 have:i=n:=o_
 subst this;have N:dv (i+m) (du bT a b i 0)=dv (i+m) (ae bT (a*b)):=zg fun k _=>by rw[pD,i0 t]
 simp[d,N,B];refine cp c (by simp[u];exact⟨rfl,rfl⟩) ?_ (h1:=by simp[gj,u]);simp
theorem XW{a b i:Nat}(c:0<b):(a/bT^(i+1)% b*bT+ae bT a i)/b=ae bT (a/b) i/\(a/bT^(i+1)% b*bT+ae bT a i)% b=a/bT^i% b:=by
 have e:=s8 (B:=bT) a i;have g:=i5 (a/bT^(i+1)) b;have f:a/bT^i=(a/bT^(i+1)% b*bT+ae bT a i)+a/bT^(i+1)/b*bT*b:=by
  rw[e];generalize ae bT a i=d;generalize a/bT^(i+1)/b=Q at*;generalize a/bT^(i+1)% b=R at*;rw[<-g,j1,h8 b,ln Q b bT];omega
 have j:(a/bT^(i+1)% b*bT+ae bT a i)/b<bT:=by
  rw[iz c];have k:=ct bc a i;have h:=ip bT (show a/bT^(i+1)% b+1<=b from i6 _ c);rw[j1,j6]at h;rw[h8 bT];omega
 constructor
 ·conv=>rhs;rw[ae,i2,h8 b,<-i2,f,Nat.add_mul_div_right _ _ c,l1,i0 j]
 ·rw[f,l1]
theorem Au(r x:Nat):(r:Int)*1000000000+x=((r*bT+x:Nat):Int):=by
 rw[fl,eo];rfl
def qT(Q i k:Nat):Nat:=if i<=k then ae bT Q k else 0
theorem Ee{m Q i:Nat}:(dv m (qT Q (i+1))).set i (.p (.int .i64 (ae bT Q i:Nat)))=dv m (qT Q i):=by
 have:=Ds (n:=m) (i:=i) (qT Q (i+1)) (qT Q i) (fun k _ hk=>by
  rw[qT,qT]
  by_cases h:i<=k
  ·rw[if_pos h,if_pos o_]
  ·rw[if_neg h,if_neg o_])
 rw[<-this,qT,if_pos (i1 _)]
theorem Oc{m Q:Nat}:dv m (qT Q 0)=dv m (ae bT Q):=zg fun k _=>by rw[qT,if_pos (j5 _)]
theorem Od{m Q:Nat}:gt m (AV.p (.int .i64 0))=dv m (qT Q m):=by
 rw[Mo];exact zg fun k hk=>by rw[qT,if_neg o_]
theorem OR{m N:Nat}(h:N<bT^m)(b:m<=1048576):∃l:List Nat,l.length=m/\dv m (ae bT N)=l.map (AV.p∘fun x:Nat=>PV.int .i64 x)/\aA prog 337 [.seq (iP l)] (eT N):=by
 refine⟨(gx m).map (ae bT N),s_,CW m _,?_⟩;have a:=tW ((gx m).map (ae bT N)) (by simp;omega);rw[show eB ((gx m).map (ae bT N))=ar bT N from jZ bc h]at a;exact a
theorem Kw(a d:Nat)(u:0<d)(R:d<bT)(hl:(ar bT a).length<=1000000):aA prog 336 [eT a,.int .i64 d] (.aE [eT (a/d),.int .i64 (a% d:Nat)]):=by
 refine aM nf (i_ func336) mix (by simp[f336]) ?_;have H:∀i(h:i<(ar bT a).length),(ar bT a)[i]=ae bT a i:=fun i h=>eH bc h;have w:=cq bc a;obtain⟨l,o,y,g⟩:=OR (m:=(ar bT a).length) (N:=a/d) (ih (kk _ _) w) o_;have j:a/bT^(ar bT a).length% d=0:=by rw[i8 w,Nat.zero_mod]
 have A:a/bT^0% d=a% d:=by rw[jp,j4]
 have P:bT=1000000000:=rfl;simp only[eT]at g⊢;simp only[iP]at g;generalize ar bT (a/d)=U at*;generalize ar bT a=x at*;obtain⟨n,q⟩:∃n,x.length=n:=⟨_,rfl⟩
 rw[q]at o y j hl;generalize T:a% d=rem at*;obtain⟨f,hf⟩:∃f:Nat->Nat,∀i,a/bT^i% d=f i:=⟨_,fun _=>rfl⟩
 have z:=fun i=>XW (a:=a) (b:=d) (i:=i) u;have v:∀i,f i<d:=fun i=>by rw[<-hf];exact i6 _ u
 simp only[hf]at j A z;have C:eb.wrap ((n:Int)-1)=n-1:=aO _ o_ o_;simp[f336,q,C];refine⟨by simp only[cM];omega,?_⟩;rw[Od (Q:=a/d)];refine lp (α:=Nat) (fun i=>⟨[(8,.p (.int .i64 ((i:Int)-1))),(7,.p (.int .i64 (f i:Nat))),(6,.sl 0 0 1 0 n),(1,.p (.int .i64 d)),(0,.p (.seq (x.map fun x:Nat=>.int .i64 x)))],[.arr .exact 0 1 (dv n (qT (a/d) i))]⟩)
  (fun i=>i<=n) (fun i=>i) n (i1 _) ?_ (he:=by simp[j])
 intro i k1
 by_cases hi:0<i
 ·obtain⟨k,rfl⟩:∃k,i=k+1:=⟨i-1,o_⟩
  have D:eb.wrap ((k:Int)-1)=k-1:=aO _ o_ o_;have r:k<x.length:=o_
  have hx:=H k r;have J:x[k]?=some (ae bT a k):=by rw[gi r,hx]
  obtain⟨r1,r2⟩:=z k;have aI:=Ee (m:=n) (Q:=a/d) (i:=k);have gk:=tM (qT (a/d) (k+1)) (show k<n by omega);have I:k<n:=o_
  have M:=v (k+1);have S:=ct bc a k;have hq:=ct bc (a/d) k;have O:=v k;generalize f (k+1)=c at*;generalize E:f k=B at*;generalize ae bT a k=e at*;generalize ae bT (a/d) k=s at*;have K:eb.wrap ((c:Int)*1000000000)=c*1000000000:=aO _ o_ o_;have L:eb.wrap ((c:Int)*1000000000+e)=c*1000000000+e:=aO _ o_ o_;have t:(c:Int)*1000000000+e=((c*bT+e:Nat):Int):=Au c e;have d1:((c:Int)*1000000000+e).tdiv d=s:=by
   rw[t,ej (ee _),<-er,r1]
  have d2:((c:Int)*1000000000+e).tmod d=B:=by
   rw[t,ei (ee _),<-eq,r2]
  have d3:eb.wrap (s:Int)=s:=aO _ o_ o_;have F:¬(d:Int)=0:=o_
  have G:¬d=0:=o_
  simp[q,D,hx,J,I,r,K,L,d1,d2,d3,F,G,gk,aI,ad];exact rd k (show k<=n by omega) (he:=by simp[E])
 ·obtain rfl:i=0:=by omega
  simp[Oc,y,A];refine cp g (by simp[o];exact⟨rfl,rfl⟩) ?_ (h1:=by simp[gj,o]);simp
def lr(a b c:Nat):Nat->Nat->Nat
 |0,_=>0
 |t+1,r=>if bT<=t+1\/r*bT+c<(t+1)*b then(if bT<=r+a then t else lr a b c t (r+a))else t+1
theorem azr{a b c t r:Nat}(h:0<t):lr a b c t r=if bT<=t\/r*bT+c<t*b then(if bT<=r+a then t-1 else lr a b c (t-1) (r+a))else t:=by
 cases t with
 |zero=>exact absurd h (Nat.lt_irrefl 0)
 |succ t=>rw[lr,j2]
theorem Lh{a b:Nat}(c:a<bT)(d:b<bT):eb.wrap ((a:Int)*b)=(a:Int)*b:=by
 have e:a*b<=999999999*999999999:=kt (by simp only[bT]at c;omega) (by simp only[bT]at d;omega);rw[<-eo];generalize a*b=P at*;exact aO _ o_ o_
theorem SW{a b r w:Nat}:(r:Int)*1000000000+w<(a:Int)*b↔r*bT+w<a*b:=by
 rw[Au,<-eo];exact Int.ofNat_lt
theorem AH{r v:Nat}:(1000000000:Int)<=(r:Int)+v↔bT<=r+v:=by simp only[bT];omega
theorem Rm{t:Nat}:(1000000000:Int)<=(t:Int)↔bT<=t:=by simp only[bT];omega
theorem aL8{t:Nat}(h:0<t)(a:t<=bT+1):eb.wrap ((t:Int)-1)=((t-1:Nat):Int):=by
 simp only[bT]at a;rw[aO _ o_ o_];omega
theorem Qb{a v2 b c w2 Q:Nat}(w:bT<=2*a)(x:a<bT)(o:b<=a)(y:c<bT)(v:Q<bT)
 (g:∀q r,q*a+r=b*bT+c->q<bT->q*v2<=r*bT+w2->q<=Q+1)(m:∀q r,q*a+r=b*bT+c->r*bT+w2<q*v2->Q<q)
 (n:∀q r,bT<=r->q<bT->q*v2<=r*bT+w2):∀t r,t*a+r=b*bT+c->Q<=t->r<bT->t<=bT+1->Q<=lr a v2 w2 t r/\lr a v2 w2 t r<=Q+1/\lr a v2 w2 t r<bT
 |0,r,d,f,p,s=>by
  rw[lr];exact⟨f,o_,o_⟩
 |t+1,r,d,f,p,s=>by
  rw[lr]
  by_cases hc:bT<=t+1\/r*bT+w2<(t+1)*v2
  ·rw[if_pos hc];have hq:Q<=t:=by
    rcases hc with h|h
    ·omega
    ·have:=m _ _ d h;omega
   have k:t*a+(r+a)=b*bT+c:=by rw[j1,j6]at d;omega
   by_cases i:bT<=r+a
   ·rw[if_pos i];have j:t<bT:=by
     rcases ik t bT with h|h
     ·exact h
     ·have e:t=bT:=by omega
      subst e;have:=ip bT o;rw[h8 a]at this;omega
    exact⟨hq,g _ _ k j (n _ _ i j),j⟩
   ·rw[if_neg i];exact Qb w x o y v g m n t (r+a) k hq o_ o_
  ·rw[if_neg hc];have l:t+1<bT:=by
    rcases ik (t+1) bT with h|h
    ·exact h
    ·exact(hc (.inl h)).elim
   have u:(t+1)*v2<=r*bT+w2:=by
    rcases ik (r*bT+w2) ((t+1)*v2)with h|h
    ·exact(hc (.inr h)).elim
    ·exact h
   exact⟨f,g _ _ d l u,l⟩
theorem ayT(W V N j n:Nat)(k:AK)(aq:Nat)(f:Nat->Nat)(aw:2<=n)(aF:(ar bT V).length=n)(aV:bT<=2*ae bT V (n-1))(aG:W<V*bT)(bf:N<=1000000)(aY:j+n<N)
 (hf:∀i,i<=n->f (j+i)=ae bT W i):∃t,W/V<=t/\t<=W/V+1/\t<bT/\
 bW prog 338 [.arr k aq 1 (dv N f)] [.sl 0 aq 1 0 N,.p (eT V),.p (.int .i64 j)] [.arr k aq 1 (dv N f)] (.p (.int .i64 t)):=by
 have aW:bT=1000000000:=rfl;have D:V<bT^n:=by rw[<-aF];exact cq bc V
 have Y:bT^(n-1)<=V:=by
  rcases ik V (bT^(n-1))with h|h
  ·have:=dO bc (n-1) V h;omega
  ·exact h
 obtain⟨av,aX⟩:=DB bc (show 1<=n by omega) D aG;have az:W/bT^n=ae bT W n:=by
  rw[ae,i0];have:=ct bc V (n-1);omega
 have w:W/bT^(n-1)=ae bT W n*bT+ae bT W (n-1):=by
  rw[s8,show n-1+1=n by omega,az]
 have F:=OJ bc aw Y D (W:=W);have ac:=fun q r=>EU bc aw Y D (W:=W) (q:=q) (r:=r);have ab:=fun q r=>Qa bc aw Y D (W:=W) (q:=q) (r:=r);have aK:=fun q r=>OI bc (V:=V) (W:=W) (n:=n) (q:=q) (r:=r);rw[w]at F ac ab;have q1:=ct bc W n;have a8:=ct bc W (n-1);have bp:=ct bc W (n-2);have q4:=ct bc V (n-1);have a9:=ct bc V (n-2);have aE:=hf n (i1 _);have f2:=hf (n-1) o_;have f3:=hf (n-2) o_;rw[az]at av;have E:(ar bT V)[n-1]?=some (ae bT V (n-1)):=by rw[gi o_,eH bc o_]
 have aa:(ar bT V)[n-2]?=some (ae bT V (n-2)):=by rw[gi o_,eH bc o_]
 have aI:∀h:n-1<(ar bT V).length,(ar bT V)[n-1]=ae bT V (n-1):=fun h=>eH bc h;have aJ:∀h:n-2<(ar bT V).length,(ar bT V)[n-2]=ae bT V (n-2):=fun h=>eH bc h;simp only[eT];generalize ar bT V=y at*;generalize bg:W/V=Q at*;generalize bk:ae bT W n=s at*;generalize bl:ae bT W (n-1)=M at*;generalize bm:ae bT W (n-2)=e at*;generalize bi:ae bT V (n-1)=a at*;generalize bj:ae bT V (n-2)=v2 at*;clear w az D Y aG hf;have S:=tM f (show j+n<N by omega);have U:=tM f (show j+(n-1)<N by omega);have l:=tM f (show j+(n-2)<N by omega);rw[aE]at S;rw[f2]at U;rw[f3]at l;have G:=vV N f;have aA:∀aC:Nat×Nat->Prop,aR aC (dv N f):=fun aC=>by simp
 generalize dv N f=u at*;obtain⟨c,m⟩:∃c,c=s*bT+M:=⟨_,rfl⟩
 obtain⟨b,ah⟩:∃b,b=c/a:=⟨_,rfl⟩
 obtain⟨d,af⟩:∃d,d=c% a:=⟨_,rfl⟩
 have aZ:0<a:=o_
 have aL:b*a+d=c:=by rw[ah,af,h8];exact i5 _ _
 have ax:d<bT:=i9 (by rw[af];exact i6 _ aZ) q4;have ay:b<=bT+1:=by
  have aT:=ip bT av;rw[h8 a]at aT;rcases ik (bT+1) b with h|h
  ·have aU:=ip a (show bT+2<=b from h);rw[j1]at aU;omega
  ·exact h
 rw[<-m]at F ac ab;rw[<-ah]at F;have Z:=Qb (v2:=v2) (w2:=e) aV q4 av a8 aX (by rw[<-m];exact ac) (by rw[<-m];exact ab) aK b d (by rw[<-m];exact aL) F ax ay;refine⟨lr a v2 e b d,Z.1,Z.2.1,Z.2.2,?_⟩;obtain⟨T,w⟩:∃T,T=lr a v2 e b d:=⟨_,rfl⟩
 rw[<-w];clear Z F ac ab aK;have o:y.length=n:=aF;have bq:eb.wrap ((j:Int)+n)=(j+n:Nat):=by rw[aO _ o_ o_];omega
 have O:eb.wrap ((j:Int)+n)=(j:Int)+n:=aO _ o_ o_;have bd:eb.wrap ((j:Int)+n-1)=(j:Int)+n-1:=aO _ o_ o_;have B:eb.wrap ((n:Int)-1)=(n:Int)-1:=aO _ o_ o_;have an:eb.wrap ((n:Int)-2)=(n:Int)-2:=aO _ o_ o_;have ao:eb.wrap ((j:Int)+n-2)=(j:Int)+n-2:=aO _ o_ o_;have ba:((j:Int)+n).toNat=j+n:=o_
 have bb:((j:Int)+n-1).toNat=j+(n-1):=o_
 have A:((n:Int)-1).toNat=n-1:=o_
 have am:((n:Int)-2).toNat=n-2:=o_
 have te:((j:Int)+n-2).toNat=j+(n-2):=o_
 have wf:eb.wrap ((s:Int)*1000000000)=(s:Int)*1000000000:=aO _ o_ o_;have aH:(s:Int)*1000000000+M=(c:Nat):=by rw[m];exact Au s M
 have bh:c<1000000000000000000:=by rw[m,aW];omega
 have aN:eb.wrap ((s:Int)*1000000000+M)=(c:Nat):=by rw[aH];exact aO _ o_ o_
 have aD:((c:Nat):Int).tdiv a=b:=by rw[ej (ee _),<-er,<-ah]
 have dr:((c:Nat):Int).tmod a=d:=by rw[ei (ee _),<-eq,<-af]
 have a0:¬(a:Int)=0:=o_
 have a1:¬a=0:=o_
 have aP:eb.wrap (b:Int)=b:=aO _ o_ o_;have z:n-1<y.length:=o_
 have J:n-2<y.length:=o_
 have H:=aI z;have ai:=aJ J;have aM:j+n<u.length:=o_
 have a2:j+(n-1)<u.length:=o_
 have I:j+(n-2)<u.length:=o_
 have a3:j+(n-1)<N:=o_
 have aj:j+(n-2)<N:=o_
 have aQ:u[j+n]=.p (.int .i64 s):=by rw[gi aM]at S;exact m5 S
 have aS:u[j+(n-1)]=.p (.int .i64 M):=by rw[gi a2]at U;exact m5 U
 have X:u[j+(n-2)]=.p (.int .i64 e):=by rw[gi I]at l;exact m5 l
 have L:¬u=[]:=by rintro rfl;simp at aM
 have a4:0<=(j:Int)+n:=o_
 have a5:0<=(j:Int)+n-1:=o_
 have bn:0<=(j:Int)+n-2:=o_
 have a7:0<=(n:Int)-1:=o_
 have bo:0<=(n:Int)-2:=o_
 have a6:1<=(j:Int)+n:=o_
 have ak:2<=(j:Int)+n:=o_
 have K:1<=(n:Int):=o_
 have al:2<=(n:Int):=o_
 refine dU nf (i_ func338) mix (by simp[f338]) ?_;simp[f338,o,O,bd,B,ba,bb,A,S,U,E,H,wf,aN,aD,dr,a0,a1,aP,G,aY,z,aQ,aS,L,a4,a5,a7,a6,K,a3,ad];refine lp (α:=Nat×Nat) (fun x=>⟨[(10,.p (.int .i64 x.2)),(9,.p (.int .i64 x.1)),(7,.p (.int .i64 n)),(2,.p (.int .i64 j)),(1,.p (.seq (y.map fun x:Nat=>.int .i64 x))),(0,.sl 0 aq 1 0 N)],[.arr k aq 1 u]⟩)
  (fun x=>T=lr a v2 e x.1 x.2/\x.2<bT/\x.1<=bT+1) (fun x=>x.1) (b,d) ⟨w,ax,ay⟩ ?_ (hr2:=by simp[aA])
 clear m aL ah af aH aN aD dr w wf ax ay aP aI aJ aE f2 f3;rintro⟨t,r⟩ ⟨k1,k2,k3⟩;dsimp only at k1 k2 k3;have ap:eb.wrap ((r:Int)*1000000000)=(r:Int)*1000000000:=aO _ o_ o_;have au:eb.wrap ((r:Int)*1000000000+e)=(r:Int)*1000000000+e:=aO _ o_ o_;have P:eb.wrap ((r:Int)+a)=(r:Int)+a:=aO _ o_ o_;rcases mp t with C|C
 ·subst C;rw[lr]at k1;have c1:¬(r:Int)*1000000000+e<0:=by rw[Au];exact Int.not_lt.2 (ee _)
  have be:eb.wrap 0=0:=rfl;simp[o,be,an,am,ap,au,P,ao,te,aa,ai,J,l,X,I,aj,G,L,ak,al,O,c1,k1,ad]
 rw[azr C]at k1;have ag:=aL8 C k3;have k4:∀x,x<=bT+1->x-1<=bT+1:=fun x h=>h9 (l0 _ _) h;have k5:t-1<t:=Nat.sub_lt C (by decide)
 by_cases c0:bT<=t
 ·have v:=Rm.2 c0;rw[if_pos (.inl c0)]at k1
  by_cases c2:bT<=r+a
  ·have g:=AH.2 c2;rw[if_pos c2]at k1;simp[v,ag,o,B,A,E,H,z,K,P,g,k1]
  ·have g:=mt AH.1 c2;rw[if_neg c2]at k1;simp[v,ag,o,B,A,E,H,z,K,P,g];exact rd (t-1,r+a) ⟨k1,lt c2,k4 _ k3⟩ k5 (he:=s_) (hr2:=by simp[aA])
 have v:=mt Rm.1 c0;have aB:=Lh (lt c0) a9
 by_cases c1:r*bT+e<t*v2
 ·have R:=SW.2 c1;rw[if_pos (.inr c1)]at k1
  by_cases c2:bT<=r+a
  ·have g:=AH.2 c2;rw[if_pos c2]at k1;simp[v,ag,o,B,A,E,H,z,K,P,g,k1,an,am,ap,au,aB,ao,te,aa,ai,J,l,X,I,aj,G,L,ak,al,O,R,ad]
   done
  ·have g:=mt AH.1 c2;rw[if_neg c2]at k1;simp[v,ag,o,B,A,E,H,z,K,P,g,an,am,ap,au,aB,ao,te,aa,ai,J,l,X,I,aj,G,L,ak,al,O,R,ad];exact rd (t-1,r+a) ⟨k1,lt c2,k4 _ k3⟩ k5 (he:=s_) (hr2:=by simp[aA])
 ·have R:=mt SW.1 c1;rw[if_neg (fun h=>h.elim c0 c1)]at k1;simp[v,o,B,A,an,am,ap,au,aB,ao,te,aa,ai,J,l,X,I,aj,G,L,ak,al,O,R,k1,ad]
theorem YX{b k f d:Nat}(n:b<bT^(k+1))(h:d=b/bT^k)(p:0<d)(hf:f=bT/(d+1)):0<f/\f<bT/\b*f<bT^(k+1)/\bT^k<=b*f/\bT<=2*ae bT (b*f) k:=by
 have e:0<bT^k:=i4 (by decide);have s:d<bT:=by
  rw[h,iz e,h8,<-ix];exact n
 have r:bT=1000000000:=rfl;have g:=ko bT (d+1);have j:=Nat.lt_div_mul_add (a:=bT) (show 0<d+1 by omega);rw[<-hf]at g j;have i:0<f:=by rw[hf];exact j8 o_ o_
 have q:f<bT:=by
  rw[hf];exact lz (by decide) o_
 have o:b<(d+1)*bT^k:=by
  rw[<-iz e,<-h];omega
 have l:d*bT^k<=b:=by rw[h];exact ko _ _
 have m:b*f<bT^(k+1):=by
  rw[ix];have e1:b*f<(d+1)*bT^k*f:=kp o i;have e2:(d+1)*bT^k*f=f*(d+1)*bT^k:=by rw[h8,<-i7]
  have e3:=ip (bT^k) g;rw[h8 (bT^k) bT];omega
 refine⟨i,q,m,?_,?_⟩
 ·have e1:1*bT^k<=d*bT^k:=ip _ p;rw[j6]at e1;exact h9 (h9 e1 l) (lc _ i)
 ·have e1:b*f/bT^k=ae bT (b*f) k:=by
   rw[ae,i0];rw[iz e,h8 bT,<-ix];exact m
  have e2:d*f<=b*f/bT^k:=by
   rw[l5 e,ln];exact ip _ l
  rw[e1]at e2;have e3:d+f<=d*f+1:=by
   obtain⟨d',rfl⟩:∃d',d=d'+1:=⟨d-1,o_⟩
   obtain⟨c,rfl⟩:∃c,f=c+1:=⟨f-1,o_⟩
   have:(d'+1)*(c+1)=d'*c+d'+c+1:=by rw[j1,j7,j6,lu];omega
   omega
  have e4:f*(d+1)=d*f+f:=by rw[j7,lu,h8]
  rw[e4]at g j;generalize d*f=P at*;generalize ae bT (b*f) k=Z at*;omega
def gK(V R t i:Nat):Nat:=(t*(V% bT^i)+R% bT^i)/bT^i
theorem ZL{V R t:Nat}:gK V R t 0=0:=by simp[gK,m1]
theorem MB{W V R t n i:Nat}(h:R+t*V=W+bT^(n+1))(hi:i<=n):ae bT R i+t*ae bT V i+gK V R t i=ae bT W i+gK V R t (i+1)*bT:=by
 have k:0<bT^i:=i4 (by decide);have l:0<bT^(i+1):=i4 (by decide);have d:(t*(V% bT^(i+1))+R% bT^(i+1))% bT^(i+1)=W% bT^(i+1):=by
  have e1:(t*V+R)% bT^(i+1)=(t*(V% bT^(i+1))+R% bT^(i+1))% bT^(i+1):=by
   have a:=i5 V (bT^(i+1));have e:=i5 R (bT^(i+1));have f:t*V+R=t*(V% bT^(i+1))+R% bT^(i+1)+bT^(i+1)*(t*(V/bT^(i+1))+R/bT^(i+1)):=by
    have g:t*V=t*(V% bT^(i+1))+bT^(i+1)*(t*(V/bT^(i+1))):=by
     conv=>lhs;rw[<-a]
     rw[j7,<-i7,h8 t (bT^(i+1)),i7];omega
    rw[g,j7]
    conv=>lhs;rw[<-e]
    omega
   rw[f,kw]
  rw[<-e1,kc (t*V),h];have:bT^(i+1)∣bT^(n+1):=lv _ o_;obtain⟨c,hc⟩:=this;rw[hc,kw]
 have e2:=i5 (t*(V% bT^(i+1))+R% bT^(i+1)) (bT^(i+1));have e3:=i5 (t*(V% bT^i)+R% bT^i) (bT^i);rw[d]at e2;rw[show(t*(V% bT^(i+1))+R% bT^(i+1))/bT^(i+1)=gK V R t (i+1)from rfl]at e2;rw[show(t*(V% bT^i)+R% bT^i)/bT^i=gK V R t i from rfl]at e3;have j:(t*(V% bT^i)+R% bT^i)% bT^i=W% bT^i:=by
  have:=congrArg (·% bT^i) d
  have b:bT^i∣bT^(i+1):=lv _ o_;rw[lq _ b,lq _ b]at this;rw[<-this,mod_pow_succ,mod_pow_succ];rw[j7];have:t*(V% bT^i)+t*(bT^i*ae bT V i)+(R% bT^i+bT^i*ae bT R i)=t*(V% bT^i)+R% bT^i+bT^i*(t*ae bT V i+ae bT R i):=by
   rw[j7,<-i7 t,h8 t (bT^i),i7];omega
  rw[this,kw]
 rw[j]at e3;rw[mod_pow_succ,mod_pow_succ,mod_pow_succ,ix]at e2;have e4:bT^i*(ae bT R i+t*ae bT V i+gK V R t i)=bT^i*(ae bT W i+gK V R t (i+1)*bT):=by
  have a:t*(V% bT^i+bT^i*ae bT V i)=t*(V% bT^i)+bT^i*(t*ae bT V i):=by
   rw[j7,<-i7 t,h8 t (bT^i),i7]
  rw[a]at e2;rw[j7,j7,j7];rw[i7 (bT^i),h8 bT]at e2;generalize bT^i*ae bT R i=m at*;generalize bT^i*(t*ae bT V i)=o at*;generalize bT^i*gK V R t i=p at*;generalize bT^i*ae bT W i=q at*;generalize bT^i*(gK V R t (i+1)*bT)=r at*;generalize t*(V% bT^i)=s at*;omega
 exact Nat.eq_of_mul_eq_mul_left k e4
theorem ZK{r p w b':Nat}(h:r+p=w+b'*bT)(j:r<bT)(k:w<bT):(w<p% bT/\r+p% bT=w+bT/\b'=p/bT+1)\/(p% bT<=w/\r+p% bT=w/\b'=p/bT):=by
 have e:=i5 p bT;have i:=i6 p (show 0<bT by decide);generalize p/bT=q at*;generalize p% bT=m at*;have b:r+m+bT*q=w+b'*bT:=o_
 rw[h8 bT]at b;rcases Nat.lt_trichotomy b' q with a|a|a
 ·have:=ip bT (show b'+1<=q from a);rw[j1,j6]at this;omega
 ·subst a;right;omega
 ·have d:=ip bT (show q+1<=b' from a);rw[j1,j6]at d;have f:b'=q+1:=by
   rcases ik (q+1) b' with c|c
   ·have g:=ip bT (show q+2<=b' from c);rw[j1]at g;omega
   ·omega
  subst f;rw[j1,j6]at b;left;omega
theorem acH{W V t n:Nat}(y:0<V)(j:V<bT^n)(l:W<bT^(n+1))(C:W/V<=t)(D:t<=W/V+1):
 ∃R,R+t*V=W+bT^(n+1)/\
 ((t=W/V/\gK V R t n=ae bT W n/\∀i,i<=n->ae bT R i=ae bT (W% V) i)\/
  (t=W/V+1/\gK V R t n=ae bT W n+1/\dt bT R V n=1/\∀i,i<=n->ae bT (R+V) i=ae bT (W% V) i)):=by
 have H:0<bT^n:=i4 (by decide);have B:0<bT^(n+1):=i4 (by decide);have k:V<bT^(n+1):=h7 j (h6 (by decide) o_);have z:=i5 W V;have o:=i6 W y;have d:bT^(n+1)=bT^n*bT:=ix _ _;have F:bT=1000000000:=rfl;have A:W% V<bT^n:=i9 o j;have s:ae bT (W% V) n=0:=jY A;have q:ae bT V n=0:=jY j;have m:∀R,R+t*V=W+bT^(n+1)->ae bT R n+gK V R t n=ae bT W n+gK V R t (n+1)*bT:=fun R v=>by
  have:=MB v (i1 n);rw[q,ms,Nat.add_zero]at this;exact this
 rcases ik t (W/V+1)with u|u
 ·have b:t=W/V:=by omega
  have r:t*V+W% V=W:=by rw[b,h8];exact z
  refine⟨W% V+bT^(n+1),o_,.inl ⟨b,?_,fun i hi=>?_⟩⟩
  ·have e:=m (W% V+bT^(n+1)) o_;have f:gK V (W% V+bT^(n+1)) t (n+1)=0:=by
    rw[gK,i0 k,Nat.add_mod_right,i0 (i9 o k),r,i8 l]
   have a:ae bT (W% V+bT^(n+1)) n=0:=by
    rw[<-s];exact vS o_
   rw[f,a]at e;omega
  ·exact vS o_
 ·have b:t=W/V+1:=by omega
  have r:t*V+W% V=W+V:=by rw[b,j1,j6,h8];omega
  have G:V<=bT^(n+1)+W% V:=o_
  refine⟨bT^(n+1)+W% V-V,o_,.inr ⟨b,?_,?_⟩⟩
  ·have e:=m (bT^(n+1)+W% V-V) o_;have w:bT^(n+1)+W% V-V<bT^(n+1):=by omega
   have f:gK V (bT^(n+1)+W% V-V) t (n+1)=1:=by
    rw[gK,i0 k,i0 w];have:t*V+(bT^(n+1)+W% V-V)=W+bT^(n+1):=o_
    rw[this,Nat.add_div_right _ B,i8 l]
   have a:ae bT (bT^(n+1)+W% V-V) n=bT-1:=by
    have g:(bT^(n+1)+W% V-V)/bT^n=bT-1:=by
     refine mm ?_ ?_
     ·rw[mx,j6,h8 bT,<-d];omega
     ·rw[show bT-1+1=bT by decide,h8 bT,<-d];omega
    rw[ae,g];decide
   rw[f,a]at e;omega
  ·have x:bT^(n+1)+W% V-V+V=W% V+bT^(n+1):=by omega
   have p:∀i,i<=n->ae bT (bT^(n+1)+W% V-V+V) i=ae bT (W% V) i:=fun i hi=>by
    rw[x];exact vS o_
   refine⟨?_,p⟩;have h:=(qL bc (bT^(n+1)+W% V-V) V n).1;have E:=me bc (bT^(n+1)+W% V-V) V n;rw[p n (i1 _),s,q]at h;have a:ae bT (bT^(n+1)+W% V-V) n=bT-1:=by
    have g:(bT^(n+1)+W% V-V)/bT^n=bT-1:=by
     refine mm ?_ ?_
     ·rw[mx,j6,h8 bT,<-d];omega
     ·rw[show bT-1+1=bT by decide,h8 bT,<-d];omega
    rw[ae,g];decide
   rw[a]at h;generalize dt bT (bT^(n+1)+W% V-V) V n=c at*;rcases ik 0 c with hc|hc
   ·omega
   ·have:c=0:=by omega
    subst this;simp only[bT]at h;omega
theorem abw{V R t i:Nat}:gK V R t i<=t:=by
 have a:0<bT^i:=i4 (by decide);have b:=i6 V a;have c:=i6 R a;rw[gK];refine Nat.le_of_lt_succ ?_;rw[iz a];have d:=lm t (l3 b);rw[Nat.succ_mul];omega
theorem aL9{t v a w r b':Nat}(h:r+(t*v+a)=w+b'*bT)(f:r<bT)(g:w<bT)(b:t<bT)(c:v<bT)(i:a<=t):
 ∃(p q m:Nat),eb.wrap ((t:Int)*v)=(t:Int)*v/\eb.wrap ((t:Int)*v+a)=p/\(p:Int).tmod 1000000000=m/\(p:Int).tdiv 1000000000=q/\q<bT/\m<bT/\
 (((w:Int)-m<0/\(w:Int)-m+1000000000=r/\b'=q+1)\/(¬(w:Int)-m<0/\(w:Int)-m=r/\b'=q)):=by
 have d:t*v<=999999999*999999999:=kt (by simp only[bT]at b;omega) (by simp only[bT]at c;omega);have j:=ZK h f g;have e:=i6 (t*v+a) (show 0<bT by decide);have hq:(t*v+a)/bT<bT:=by
  rw[iz (by decide)];simp only[bT]at b⊢;omega
 refine⟨t*v+a,(t*v+a)/bT,(t*v+a)% bT,Lh b c,?_,?_,?_,hq,e,?_⟩
 ·rw[<-eo,<-fl];generalize t*v=P at*;simp only[bT]at b;exact aO _ o_ o_
 ·rw[ei (ee _),eq];rfl
 ·rw[ej (ee _),er];rfl
 ·generalize (t*v+a)/bT=q at*;generalize (t*v+a)% bT=m at*;clear h d;simp only[bT]at*;omega
def cX(n:Nat)(f:Nat->Int):List AV:=(gx n).map fun j=>.p (.int .i64 (f j))
theorem mf(n:Nat)(f:Nat->Int):(cX n f).length=n:=by simp[cX]
theorem SN(n:Nat)(f:Nat->Nat):dv n f=cX n (fun k=>(f k:Nat)):=rfl
theorem aLK{n j:Nat}(f:Nat->Int)(h:j<n):(cX n f)[j]?=some (.p (.int .i64 (f j))):=by
 rw[cX,hn,hv h];rfl
theorem wj{n i:Nat}{v:Int}(f g:Nat->Int)(c:g i=v)(h:∀j,j<n->j≠i->g j=f j):(cX n f).set i (.p (.int .i64 v))=cX n g:=by
 apply ht (by simp[cX]);intro j d b;rw[mf]at b;rw[hU];simp only[cX,hd,ha]
 by_cases a:i=j
 ·subst a;rw[if_pos rfl,c]
 ·rw[if_neg a,h j b (fun e=>a e.symm)]
@[simp] theorem aO8{N:Nat×Nat->Prop}{n:Nat}{f:Nat->Int}:aR N (cX n f)=True:=by
 rw[cO,eq_iff_iff,iff_true];intro v a;simp only[cX,hu]at a;obtain⟨x,_,rfl⟩:=a;trivial
theorem Ny{n:Nat}{f g:Nat->Int}(h:∀j,j<n->f j=g j):cX n f=cX n g:=by
 rw[cX,cX];apply hN;intro j a;rw[h j (h5.1 a)]
def gC(X R j i k:Nat):Int:=if j<=k/\k<j+i then(ae bT R (k-j):Nat)else(ae bT X k:Nat)
theorem win_zero{X R j k:Nat}:gC X R j 0 k=(ae bT X k:Nat):=by rw[gC,if_neg o_]
theorem D5{X R j i:Nat}:gC X R j i (j+i)=(ae bT X (j+i):Nat):=by rw[gC,if_neg o_]
theorem aMS{X R j i:Nat}:gC X R j (i+1) (j+i)=(ae bT R i:Nat):=by
 rw[gC,if_pos o_,lk]
theorem aMT{X R j i k:Nat}(h:k≠j+i):gC X R j (i+1) k=gC X R j i k:=by
 rw[gC,gC]
 by_cases a:j<=k/\k<j+i
 ·rw[if_pos a,if_pos o_]
 ·rw[if_neg a,if_neg o_]
def gY(X R S j n i k:Nat):Int:=if k=j+n then -1 else if j<=k/\k<j+i then(ae bT S (k-j):Nat)else gC X R j n k
theorem aMP{X R S j n i:Nat}(h:i<n):gY X R S j n i (j+i)=(ae bT R i:Nat):=by
 rw[gY,if_neg o_,if_neg o_,gC,if_pos o_,lk]
theorem aMQ{X R S j n i:Nat}(h:i<n):gY X R S j n (i+1) (j+i)=(ae bT S i:Nat):=by
 rw[gY,if_neg o_,if_pos o_,lk]
theorem aMR{X R S j n i k:Nat}(h:k≠j+i):gY X R S j n (i+1) k=gY X R S j n i k:=by
 rw[gY,gY]
 by_cases a:k=j+n
 ·rw[if_pos a,if_pos a]
 ·rw[if_neg a,if_neg a]
  by_cases b:j<=k/\k<j+i
  ·rw[if_pos b,if_pos o_]
  ·rw[if_neg b,if_neg o_]
theorem Zm{X V j n N:Nat}(c:0<V)(b:V<bT^n)(d:X<V*bT^(j+1)){g:Nat->Int}(f:∀k,k<N->g k=if k=j+n then 0 else if j<=k/\k<j+n then(ae bT (X/bT^j% V) (k-j):Nat)else(ae bT X k:Nat)):
 cX N g=cX N fun k=>(ae bT (X% (V*bT^j)) k:Nat):=by
 refine Ny fun k hk=>?_;rw[f k hk,(yH (B:=bT) (R:=X) (V:=V) (j:=j)).1,Lm bc];have h:=i6 (X/bT^j) c;have e:X<bT^(n+(j+1)):=by
  rw[j3];exact i9 d (kp b (i4 (by decide)))
 by_cases h1:k<j
 ·rw[if_pos h1,if_neg o_,if_neg o_]
 ·rw[if_neg h1]
  by_cases l:k<j+n
  ·rw[if_neg o_,if_pos o_]
  ·have i:ae bT (X/bT^j% V) (k-j)=0:=jY (h7 (i9 h b) (h6 (by decide) o_));rw[i]
   by_cases a:k=j+n
   ·rw[if_pos a]
   ·rw[if_neg a,if_neg o_];have:ae bT X k=0:=jY (h7 e (h6 (by decide) o_));rw[this]
theorem Eg{f:Nat}(a:0<f)(h:f<bT):eT f=.seq [.int .i64 f]:=by rw[eT,n9 a h];rfl
theorem YH{r:Nat}(h:r<bT):eB [r]=ar bT r:=by
 have:=jZ bc (m:=1) (n:=r) (by rw[la];exact h);rw[<-this,row,h4,gD,hw,ae,jp,j4,i0 h]
@[simp] theorem aO1{σ:Nat->Nat}{n:Nat}{f:Nat->Int}:cW σ (cX n f)=cX n f:=by
 have:∀l:List Nat,cW σ (l.map fun j=>AV.p (.int .i64 (f j)))=l.map fun j=>AV.p (.int .i64 (f j)):=by
  intro l
  induction l with
  |nil=>rfl
  |cons a r b=>simp only[gD,cW,b];rfl
 exact this _
@[simp] theorem aO6{n j:Nat}{f:Nat->Int}(h:j<(cX n f).length):(cX n f)[j]=.p (.int .i64 (f j)):=by
 simp only[cX,hd,ha]
@[simp] theorem aO3{n j:Nat}{f:Nat->Nat}(h:j<(dv n f).length):(dv n f)[j]=.p (.int .i64 (f j:Nat)):=by
 simp only[dv,hd,ha]
@[simp] theorem aO7{n:Nat}{f:Nat->Int}:(cX (n+1) f=[])=False:=by
 rw[eq_iff_iff,iff_false];intro h;have:=congrArg hB h;rw[mf]at this;simp at this
theorem Et(a b:Nat)(K:0<b)(cZ:(ar bT a).length<=400000)(b3:(ar bT b).length<=400000):aA prog 282 [eT a,eT b] (.aE [eT (a/b),eT (a% b)]):=by
 have bL:=Kx a b o_ o_;refine aM nf (i_ func282) mix (by simp[f282]) ?_;simp[f282];refine c2 bL ?_
 by_cases S:a<b
 ·have G:=pL.2 S;simp[G,i8 S,i0 S,eT,As]
 have G:¬fY a b<0:=fun h=>S (pL.1 h);have a2:∀i(h:i<(ar bT b).length),(ar bT b)[i]=ae bT b i:=fun i h=>eH bc h;have C:=cq bc b
 by_cases b1:(ar bT b).length=1
 ·rw[b1,la]at C;have L:=Kw a b K C o_;have b8:=i6 a K;have cc:=YH (i9 b8 C);have ap:=tW [a% b] s_;rw[cc]at ap;have cU:=n9 K C;rw[Eg K C];simp only[eT,iP]at L ap⊢;generalize ar bT (a/b)=cN at*;generalize ar bT (a% b)=cO at*;generalize ar bT a=x at*;generalize a% b=de at*;simp[G];refine c2 L ?_;simp;refine cp ap (by simp;exact⟨rfl,rfl⟩) ?_;simp
 have cY:2<=(ar bT b).length:=by
  rcases ik (ar bT b).length 1 with h|h
  ·have e:(ar bT b).length=0:=by omega
   rw[e,jp]at C;omega
  ·omega
 obtain⟨k,hk⟩:∃k,(ar bT b).length=k+1:=⟨(ar bT b).length-1,o_⟩
 obtain⟨n,aC⟩:∃n,n=k+1:=⟨_,rfl⟩
 rw[hk]at C;obtain⟨d,Y⟩:∃d,d=b/bT^k:=⟨_,rfl⟩
 have aw:bT^k<=b:=by
  rcases ik b (bT^k)with h|h
  ·have:=dO bc k b h;omega
  ·exact h
 have bb:0<bT^k:=i4 (by decide);have bM:0<d:=by rw[Y];exact j8 aw bb
 have bQ:d<bT:=by rw[Y,iz bb,h8,<-ix];exact C
 have a3:ae bT b k=d:=by rw[ae,<-Y,i0 bQ]
 obtain⟨f,hf⟩:∃f,f=bT/(d+1):=⟨_,rfl⟩
 obtain⟨f0,f1,f2,f3,f4⟩:=YX C Y bM hf;obtain⟨V,I⟩:∃V,V=b*f:=⟨_,rfl⟩
 rw[<-I]at f2 f3 f4;have aV:(ar bT V).length=n:=by
  have H:=dO bc (k+1) V f2;have bB:=KU bc f3;omega
 have af:=Er b f (by rw[n9 f0 f1];simp;omega);have ag:=Er a f (by rw[n9 f0 f1];simp;omega);rw[Eg f0 f1,<-I]at af;rw[Eg f0 f1]at ag;have bO:(ar bT b)[k]?=some d:=by rw[gi o_,a2 k o_,a3]
 have bP:∀h:k<(ar bT b).length,(ar bT b)[k]=d:=fun h=>by rw[a2 k h,a3]
 have c4:(ar bT b).length<=400000:=b3;have cT:bT=1000000000:=rfl;have cE:eb.wrap ((d:Int)+1)=(d:Int)+1:=aO _ o_ o_;have bS:(1000000000:Int).tdiv ((d:Int)+1)=(f:Nat):=by
  rw[ej (by decide),hf,er];rfl
 have bN:¬(d:Int)+1=0:=o_
 have cF:eb.wrap (k:Int)=k:=aO _ o_ o_;have wf:eb.wrap (f:Int)=f:=aO _ o_ o_;have b2:¬(k:Int)+1=1:=o_
 have bX:¬k=0:=o_
 have bl:k<(ar bT b).length:=o_
 have bY:=bP bl;simp only[eT]at af ag⊢;generalize cn:ar bT (a/b)=cN at*;generalize co:ar bT (a% b)=cO at*;generalize aF:ar bT a=x at*;generalize c9:ar bT b=y at*;generalize ai:ar bT V=s at*;simp[G,hk,b2,bX,cF,bO,bY,bl,cE,bS,bN,wf];refine cp af (by simp;exact⟨rfl,rfl⟩) ?_;simp[aV];refine cp ag (by simp;exact⟨rfl,rfl⟩) ?_;obtain⟨u,D⟩:∃u,ar bT (a*f)=u:=⟨_,rfl⟩
 obtain⟨c,M⟩:∃c,x.length=c:=⟨_,rfl⟩
 have be:u.length<=c+1:=by
  rw[<-D,<-M,<-aF];refine dO bc _ _ ?_;rw[ix];exact j9 (cq bc a) f1
 have ch:∀i(h:i<u.length),u[i]=ae bT (a*f) i:=fun i h=>by
  have:=eH bc (n:=a*f) (i:=i) (by rw[D];exact h);simp only[D]at this;exact this
 rw[D];have cS:b<=a*f:=h9 (Nat.le_of_not_lt S) (lc _ f0);have bg:¬u=[]:=by
  intro h;rw[h]at D;have:=vJ.1 D;omega
 have aZ:a*f<bT^u.length:=by rw[<-D];exact cq bc _
 have ah:hL (AV.p∘fun x:Nat=>PV.int eb x) u=cX u.length fun k=>(ae bT (a*f) k:Nat):=by
  apply ht (by simp[cX]);intro i G cR;simp only[hd,Function.comp,cX,ha];rw[ch i (by simpa using G)]
 have ce:u.length<=400001:=o_
 obtain⟨A,bf⟩:∃A,u.length=A:=⟨_,rfl⟩
 rw[bf]at aZ ah be ce;clear af ag;have cg:¬(cX A fun k=>(ae bT (a*f) k:Nat))=[]:=by rw[<-ah];simpa using bg
 have cd:¬A=0:=by rw[<-bf];exact fun h=>bg (List.length_eq_zero_iff.1 h)
 simp[M,ah,cg,cd,mf];refine⟨⟨by rw[<-ah];exact SQ u,by simp only[cM];omega⟩,?_⟩;have c0:c<=400000:=o_
 have bv:eb.wrap ((c:Int)+1)=c+1:=aO _ o_ o_;refine so (fun s'=>∃l o,aN s'.env 8=.sl 0 0 1 0 1/\aN s'.env 9=.p (.seq (s.map fun x:Nat=>.int .i64 x))/\aN s'.env 10=.p (.int .i64 n)/\aN s'.env 11=.sl 2 l 1 0 (c+1)/\s'.heap=[.arr .frozen 0 1 [.p (.int .i64 f)],o,.arr .grow l 1 (cX (c+1) fun k=>(ae bT (a*f) k:Nat))]) ?_ ?_
 ·refine lp (α:=Nat) (fun i=>⟨[(11,.sl 2 (i-A) 1 0 i),(10,.p (.int .i64 n)),(9,.p (.seq (s.map fun x:Nat=>.int .i64 x))),(8,.sl 0 0 1 0 1),(0,.p (.seq (x.map fun x:Nat=>.int .i64 x)))],[.arr .frozen 0 1 [.p (.int .i64 f)],.hole,.arr .grow (i-A) 1 (cX i fun k=>(ae bT (a*f) k:Nat))]⟩)
   (fun i=>A<=i/\i<=c+1) (fun i=>c+1-i) A ⟨i1 _,be⟩ ?_ (he:=s_) (hh:=s_)
  rintro i ⟨k1,k2⟩
  by_cases hi:i<c+1
  ·have bU:(i:Int)<c+1:=by omega
   have cm:ae bT (a*f) i=0:=jY (h7 aZ (h6 (by decide) k1));have ca:cX (i+1) (fun k=>(ae bT (a*f) k:Nat))=cX i (fun k=>(ae bT (a*f) k:Nat))++[.p (.int .i64 0)]:=by
    rw[cX,hX,h3];simp[cm,cX]
   have bd:i+1-A=i-A+1:=o_
   have cb:g0 i (cX i fun k=>(ae bT (a*f) k:Nat))=cX i fun k=>(ae bT (a*f) k:Nat):=gj (by rw[mf];exact i1 _);simp[M,bv,bU,mf,cb];refine⟨by simp only[cM];omega,?_⟩;exact rd (i+1) ⟨o_,hi⟩ (he:=by simp[bd]) (hh:=by simp[bd,ca]) (hr2:=s_)
  ·have Z:i=c+1:=by omega
   subst Z;simp[M,bv]
 rintro⟨bz,bR⟩ ⟨l,o,E,P,Q,F,T⟩;dsimp only at E P Q F T;subst T;have c8:n<=c:=by
  rw[aC];rcases ik c (k+1)with h|h
  ·have H:=cq bc a;rw[aF,M]at H;have bB:=h7 H (h6 (show 0<bT by decide) (show c<=k by omega));omega
  ·exact h
 obtain⟨m,c6⟩:∃m,m=c-n:=⟨_,rfl⟩
 have cI:eb.wrap ((c:Int)+1-n)=(m:Int)+1:=by rw[aO _ o_ o_];omega
 have cJ:((m:Int)+1).toNat=m+1:=o_
 have cK:eb.wrap (m:Int)=m:=aO _ o_ o_;have b6:(m:Int)+1<=cM:=by simp only[cM];omega
 simp[E,P,Q,F,cI,cJ,cK];refine⟨⟨o_,b6⟩,?_⟩;have au:0<V:=by rw[I];exact m0 K f0
 have U:V<bT^n:=by rw[aC];exact f2
 have a0:a<bT^c:=by rw[<-M,<-aF];exact cq bc a
 have bI:a*f% (V*bT^(m+1))=a*f:=by
  refine i0 ?_;rw[I,ln];refine kp ?_ f0;refine h7 a0 ?_;rw[show c=k+(m+1)by omega,j3];exact ip _ aw
 obtain⟨X,J⟩:∃X:Nat->Nat,∀j,X j=a*f% (V*bT^j):=⟨_,fun _=>rfl⟩
 have W:∀j,X j<V*bT^j:=fun j=>by rw[J];exact i6 _ (m0 au (i4 (by decide)))
 have bK:∀j,X (j+1)% (V*bT^j)=X j:=fun j=>by
  rw[J,J,lq];exact Nat.mul_dvd_mul_left _ (lv _ o_)
 have bJ:∀j,X (j+1)/bT^j/V=ae bT (a/b) j:=fun j=>by
  rw[J,<-(yH (B:=bT) (R:=a*f% (V*bT^(j+1))) (V:=V) (j:=j)).2,ix,<-i7,Nat.mod_mul_right_div_self,<-i2,I,Nat.mul_div_mul_right _ _ f0,ae]
 have a5:=fun j(h:j<=m)=>ayT (X (j+1)/bT^j) V (c+1) j n .grow l (ae bT (X (j+1))) o_ (by rw[ai];exact aV) (by rw[aC,j2];exact f4) (by rw[iz (i4 (by decide)),i7,h8 bT,<-ix];exact W (j+1)) o_ o_ (fun i hi=>(qZ (B:=bT) _ _ _).symm);simp only[eT,SN,ai]at a5;rw[show(gt (m+1) (AV.p (PV.int eb 0)))=dv (m+1) (qT (a/b) (m+1))from Od];rw[show(cX (c+1) fun k=>(ae bT (a*f) k:Nat))=cX (c+1) fun k=>(ae bT (X (m+1)) k:Nat)by rw[J,bI]];refine so (fun s'=>∃bn,aN s'.env 8=.sl 0 0 1 0 1/\aN s'.env 10=.p (.int .i64 n)/\aN s'.env 11=.sl 2 l 1 0 (c+1)/\aN s'.env 12=.sl 3 0 1 0 (m+1)/\s'.heap=[.arr .frozen 0 1 [.p (.int .i64 f)],bn,.arr .grow l 1 (cX (c+1) fun k=>(ae bT (X 0) k:Nat)),.arr .exact 0 1 (dv (m+1) (ae bT (a/b)))]) ?_ ?_
 ·refine lp (α:=Nat) (fun j=>⟨[(13,.p (.int .i64 ((j:Int)-1))),(12,.sl 3 0 1 0 (m+1)),(11,.sl 2 l 1 0 (c+1)),(10,.p (.int .i64 n)),(9,.p (.seq (s.map fun x:Nat=>.int .i64 x))),(8,.sl 0 0 1 0 1)],[.arr .frozen 0 1 [.p (.int .i64 f)],.hole,.arr .grow l 1 (cX (c+1) fun k=>(ae bT (X j) k:Nat)),.arr .exact 0 1 (dv (m+1) (qT (a/b) j))]⟩)
   (fun j=>j<=m+1) (fun j=>j) (m+1) (i1 _) ?_ (he:=by simp[E,P,Q,F])
  intro j cV;rcases j with _|j
  ·simp[Oc]
  ·obtain⟨t,aJ,am,an,bC⟩:=a5 j o_;have bW:¬(j:Int)<0:=by omega
   have bH:X (j+1)/bT^j<bT^(n+1):=by
    rw[iz (i4 (by decide)),<-j3];refine h7 (W (j+1)) ?_;rw[show n+1+j=n+(j+1)by omega,j3 bT n (j+1)];exact ip _ (l3 U)
   obtain⟨R,bE,bF⟩:=acH au U bH aJ am;have iu:=fun i(hi:i<=n)=>MB (i:=i) bE hi;have av:∀i,ae bT (X (j+1)/bT^j) i=ae bT (X (j+1)) (j+i):=fun i=>qZ _ _ _;have dh:((n:Nat):Int).toNat=n:=o_
   simp[-bu];rw[bu,bu];simp[-bu,bW];rw[bu,Mu,bu];simp[-bu];refine cf bC [2] ?_;simp[-bu,sig,aW];rw[bu];simp[-bu];rw[bu,bu];simp[-bu];have aU:∀i(h:i<s.length),s[i]=ae bT V i:=fun i h=>by
    have:=eH bc (n:=V) (i:=i) (by rw[ai];exact h);simp only[ai]at this;exact this
   have aS:X (j+1)/bT^j/V=ae bT (a/b) j:=bJ j;have cW:(j:Int)<=400000:=o_
   have c7:(n:Int)<=400001:=o_
   have a4:∀g:Nat->Int,(∀k,k<c+1->g k=if k=j+n then 0 else if j<=k/\k<j+n then(ae bT (X (j+1)/bT^j% V) (k-j):Nat)else(ae bT (X (j+1)) k:Nat))->cX (c+1) g=cX (c+1) fun k=>(ae bT (X j) k:Nat):=fun g ax=>by
    rw[Zm au U (W (j+1)) ax,bK]
   have cj:cX (c+1) (gC (X (j+1)) R j 0)=cX (c+1) fun k=>(ae bT (X (j+1)) k:Nat):=Ny fun k _=>win_zero;refine lp (α:=Nat) (fun i=>⟨[(16,.p (.int .i64 i)),(15,.p (.int .i64 (gK V R t i:Nat))),(14,.p (.int .i64 t)),(13,.p (.int .i64 j)),(12,.sl 3 0 1 0 (m+1)),(11,.sl 2 l 1 0 (c+1)),(10,.p (.int .i64 n)),(9,.p (.seq (s.map fun x:Nat=>.int .i64 x))),(8,.sl 0 0 1 0 1)],[.arr .frozen 0 1 [.p (.int .i64 f)],.hole,.arr .grow l 1 (cX (c+1) (gC (X (j+1)) R j i)),.arr .exact 0 1 (dv (m+1) (qT (a/b) (j+1)))]⟩)
    (fun i=>i<=n) (fun i=>n-i) 0 (j5 _) ?_ (he:=by simp[ZL]) (hh:=by simp[cj])
   intro i hi;have bt:eb.wrap ((i:Int)+j)=(i:Int)+j:=aO _ o_ o_;have br:((i:Int)+j).toNat=i+j:=o_
   have bm:¬((i:Int)+j<0):=o_
   have bs:eb.wrap ((i:Int)+1)=(i:Int)+1:=aO _ o_ o_
   by_cases ak:i<n
   ·have a7:(i:Int)<n:=by omega
    have aa:i<s.length:=o_
    have aE:=aU i aa;have aI:=iu i hi;rw[av]at aI;have bo:=ct bc (X (j+1)) (j+i);have cs:=ct bc R i;have pv:=ct bc V i;obtain⟨p,q,aj,s1,s2,bp,bq,df,dg,cw⟩:=aL9 (by rw[<-l2];exact aI) cs bo an pv abw;have bk:gC (X (j+1)) R j i (i+j)=(ae bT (X (j+1)) (j+i):Nat):=by rw[kc i j,D5]
    have a6:0<=(i:Int)+j:=o_
    have get:(cX (c+1) (gC (X (j+1)) R j i))[i+j]?=some (.p (.int .i64 (ae bT (X (j+1)) (j+i):Nat))):=by
     rw[aLK _ o_,kc i j,D5]
    have set:(cX (c+1) (gC (X (j+1)) R j i)).set (i+j) (.p (.int .i64 (ae bT R i:Nat)))=cX (c+1) (gC (X (j+1)) R j (i+1)):=by
     rw[kc i j];exact wj _ _ aMS fun k _ hk=>aMT hk
    have Z:i+j<c+1:=o_
    have bh:s[i]?=some (ae bT V i):=by rw[gi aa,aE]
    generalize ae bT (X (j+1)) (j+i)=w at*;generalize ae bT V i=v at*;generalize ae bT R i=r at*;generalize gK V R t i=cP at*;generalize a1:gK V R t (i+1)=cQ at*;have b9:¬(r:Int)<0:=o_
    have bx:eb.wrap ((w:Int)-aj)=(w:Int)-aj:=aO _ o_ o_;have bw:eb.wrap (q:Int)=q:=aO _ o_ o_;have aR:eb.wrap ((q:Int)+1)=(q:Int)+1:=aO _ o_ o_;rcases cw with⟨c1,c2,c3⟩|⟨c1,c2,c3⟩
    ·have wr:eb.wrap ((w:Int)-aj+1000000000)=r:=by rw[c2];exact aO _ o_ o_
     simp[a7,bt,br,bm,aa,aE,bh,s1,s2,bp,bq,Z,get,bk,a6,mf,bx,c1,wr,aR,set,bs,ad,aL,bG];exact rd (i+1) (show i+1<=n by omega) (he:=by simp[a1,c3,bw,aR])
    ·have wr:eb.wrap ((w:Int)-aj)=r:=by rw[bx,c2]
     simp[a7,bt,br,bm,aa,aE,bh,s1,s2,bp,bq,Z,get,bk,a6,mf,c1,wr,b9,set,bs,ad,aL,bG];exact rd (i+1) (show i+1<=n by omega) (he:=by simp[a1,c3,bw,aR])
   ·have bV:i=n:=by omega
    subst bV;have aQ:eb.wrap ((j:Int)+i)=(j:Int)+i:=aO _ o_ o_;have aK:((j:Int)+i).toNat=j+i:=o_
    have aG:0<=(j:Int)+i:=o_
    have ay:j+i<c+1:=o_
    have bj:gC (X (j+1)) R j i (j+i)=(ae bT (X (j+1)) (j+i):Nat):=D5;have bo:=ct bc (X (j+1)) (j+i);have aP:eb.wrap ((j:Int)-1)=(j:Int)-1:=aO _ o_ o_;rcases bF with⟨r1,r2,aH⟩|⟨r1,r2,aH,cv⟩
    ·rw[av]at r2;rw[r2];generalize ae bT (X (j+1)) (j+i)=w at*;have ao:eb.wrap 0=0:=rfl;have al:eb.wrap ((w:Int)-w)=0:=by rw[fm];rfl
     have aD:t=ae bT (a/b) j:=by rw[r1,aS]
     have qs:(dv (m+1) (qT (a/b) (j+1))).set j (.p (.int .i64 t))=dv (m+1) (qT (a/b) j):=by rw[aD];exact Ee
     have fs:(cX (c+1) (gC (X (j+1)) R j i)).set (j+i) (.p (.int .i64 0))=cX (c+1) fun k=>(ae bT (X j) k:Nat):=by
      rw[wj _ (fun k=>if k=j+i then 0 else gC (X (j+1)) R j i k) (if_pos rfl) (fun k _ hk=>if_neg hk)];refine a4 _ fun k _=>?_
      by_cases hk:k=j+i
      ·rw[if_pos hk,if_pos hk];rfl
      ·rw[if_neg hk,if_neg hk,gC]
       by_cases z:j<=k/\k<j+i
       ·rw[if_pos z,if_pos z,aH (k-j) o_]
       ·rw[if_neg z,if_neg z]
     have ab:j<m+1:=o_
     have b7:¬((ae bT (X j) (j+i):Nat):Int)<0:=o_
     simp[aQ,aK,aG,ay,bj,mf,vV,al,ao,aP,ab,b7,fs,qs,ad,aL,bG];exact rd j (show j<=m+1 by omega)
    ·rw[av]at r2;rw[r2];generalize ae bT (X (j+1)) (j+i)=w at*;have ao:eb.wrap 0=0:=rfl;have al:eb.wrap ((w:Int)-((w+1:Nat):Int))= -1:=by rw[show(w:Int)-((w+1:Nat):Int)= -1 by omega];rfl
     have cz:eb.wrap (-1)= -1:=rfl;have fs:(cX (c+1) (gC (X (j+1)) R j i)).set (j+i) (.p (.int .i64 (-1)))=cX (c+1) (gY (X (j+1)) R (R+V) j i 0):=by
      refine wj _ _ (by rw[gY,if_pos rfl]) fun k _ hk=>?_;rw[gY,if_neg hk,if_neg o_]
     have aD:(t:Int)-1=ae bT (a/b) j:=by rw[r1,aS];omega
     have cL:eb.wrap ((t:Int)-1)=ae bT (a/b) j:=by rw[aD];have:=ct bc (a/b) j;exact aO _ o_ o_
     have ab:j<m+1:=o_
     have ck:gY (X (j+1)) R (R+V) j i 0 (j+i)= -1:=by rw[gY,if_pos rfl]
     push_cast at al;simp[aQ,aK,aG,ay,bj,mf,vV,al,ao,cz,cL,aP,ab,fs,ck,ad,aL,bG];refine lp (α:=Nat) (fun k=>⟨[(20,.p (.int .i64 k)),(19,.p (.int .i64 (dt bT R V k:Nat))),(14,.p (.int .i64 (ae bT (a/b) j:Nat))),(13,.p (.int .i64 j)),(12,.sl 3 0 1 0 (m+1)),(11,.sl 2 l 1 0 (c+1)),(10,.p (.int .i64 i)),(9,.p (.seq (s.map fun x:Nat=>.int .i64 x))),(8,.sl 0 0 1 0 1)],[.arr .frozen 0 1 [.p (.int .i64 f)],.hole,.arr .grow l 1 (cX (c+1) (gY (X (j+1)) R (R+V) j i k)),.arr .exact 0 1 (dv (m+1) (qT (a/b) (j+1)))]⟩)
      (fun k=>k<=i) (fun k=>i-k) 0 (j5 _) ?_ (he:=by simp[yA])
     intro k hk;have cH:eb.wrap ((k:Int)+j)=(k:Int)+j:=aO _ o_ o_;have cy:((k:Int)+j).toNat=k+j:=o_
     have cr:0<=(k:Int)+j:=o_
     have cG:eb.wrap ((k:Int)+1)=(k:Int)+1:=aO _ o_ o_;obtain⟨q1,cu⟩:=qL bc R V k;have db:=me bc R V k;have q4:=me bc R V (k+1);have dc:=ct bc R k;have dd:=ct bc V k
     by_cases a8:k<i
     ·have xk:(k:Int)<i:=by omega
      have az:k<s.length:=o_
      have bi:=aU k az;have ci:s[k]?=some (ae bT V k):=by rw[gi az,bi]
      have b0:k+j<c+1:=o_
      have ax:gY (X (j+1)) R (R+V) j i k (k+j)=(ae bT R k:Nat):=by rw[kc k j,aMP a8]
      have aI:(cX (c+1) (gY (X (j+1)) R (R+V) j i k)).set (k+j) (.p (.int .i64 (ae bT (R+V) k:Nat)))=cX (c+1) (gY (X (j+1)) R (R+V) j i (k+1)):=by
       rw[kc k j];exact wj _ _ (aMQ a8) fun x _ hx=>aMR hx
      have aJ:((ae bT R k:Nat):Int)+(ae bT V k:Nat)+(dt bT R V k:Nat)=((ae bT R k+ae bT V k+dt bT R V k:Nat):Int):=o_
      have am:((ae bT R k+ae bT V k+dt bT R V k:Nat):Int).tmod 1000000000=(ae bT (R+V) k:Nat):=by
       rw[<-q1,ei (ee _),eq];rfl
      have an:((ae bT R k+ae bT V k+dt bT R V k:Nat):Int).tdiv 1000000000=(dt bT R V (k+1):Nat):=by
       rw[<-cu,ej (ee _),er];rfl
      rw[<-aJ]at am an;have cA:eb.wrap ((ae bT R k:Nat)+(ae bT V k:Nat))=(ae bT R k:Nat)+(ae bT V k:Nat):=aO _ o_ o_;have cB:eb.wrap ((ae bT R k:Nat)+(ae bT V k:Nat)+(dt bT R V k:Nat))=(ae bT R k:Nat)+(ae bT V k:Nat)+(dt bT R V k:Nat):=aO _ o_ o_;have cC:eb.wrap (ae bT (R+V) k:Nat)=(ae bT (R+V) k:Nat):=by have:=ct bc (R+V) k;exact aO _ o_ o_
      have cD:eb.wrap (dt bT R V (k+1):Nat)=(dt bT R V (k+1):Nat):=aO _ o_ o_;simp[xk,az,bi,ci,cH,cy,cr,b0,ax,aI,mf,cA,cB,cC,cD,am,an,cG,ad,aL,bG];exact rd (k+1) (show k+1<=i by omega)
     ·have bZ:k=i:=by omega
      subst bZ;have cl:gY (X (j+1)) R (R+V) j k k (j+k)= -1:=by rw[gY,if_pos rfl]
      have cx:eb.wrap (-1+1)=0:=rfl;have qs:(dv (m+1) (qT (a/b) (j+1))).set j (.p (.int .i64 (ae bT (a/b) j:Nat)))=dv (m+1) (qT (a/b) j):=Ee;have bA:(cX (c+1) (gY (X (j+1)) R (R+V) j k k)).set (j+k) (.p (.int .i64 0))=cX (c+1) fun k=>(ae bT (X j) k:Nat):=by
       rw[wj _ (fun x=>if x=j+k then 0 else gY (X (j+1)) R (R+V) j k k x) (if_pos rfl) (fun x _ hx=>if_neg hx)];refine a4 _ fun x _=>?_
       by_cases hk:x=j+k
       ·rw[if_pos hk,if_pos hk];rfl
       ·rw[if_neg hk,if_neg hk,gY,if_neg hk]
        by_cases z:j<=x/\x<j+k
        ·rw[if_pos z,if_pos z,cv (x-j) o_]
        ·rw[if_neg z,if_neg z,gC,if_neg z]
      rw[aH];simp[aQ,aK,aG,ay,cl,mf,vV,cx,ao,aP,ab,bA,qs,ad,aL,bG];exact rd j (show j<=m+1 by omega)
 rintro⟨bz,bR⟩ ⟨bn,E,P,Q,F,T⟩;dsimp only at E P Q F T;subst T;have aX:X 0=a% b*f:=by rw[J,jp,lu,I,Nat.mul_mod_mul_right]
 have bD:a/b<bT^(m+1):=by
  rw[iz K];refine h7 a0 ?_;rw[show c=m+1+k by omega,j3];exact lm _ aw
 obtain⟨da,a9,b4,aT⟩:=OR (m:=m+1) (N:=a/b) bD o_;have aY:X 0<bT^n:=h7 (by have:=W 0;rwa [jp,lu]at this) (l3 U);obtain⟨O,c5,ac,b5,aq⟩:∃O:List Nat,O=(gx (c+1)).map (ae bT (X 0))/\O.length=c+1/\dv (c+1) (ae bT (X 0))=O.map (AV.p∘fun x:Nat=>PV.int .i64 x)/\aA prog 337 [.seq (iP (O.take n))] (eT (X 0)):=by
  refine⟨_,rfl,s_,CW _ _,?_⟩;have e:((gx (c+1)).map (ae bT (X 0))).take n=(gx n).map (ae bT (X 0)):=NX o_ fun k hk=>rfl;rw[e];have H:=tW ((gx n).map (ae bT (X 0))) (by simp;omega);rw[show eB ((gx n).map (ae bT (X 0)))=ar bT (X 0)from jZ bc aY]at H;exact H
 have L:=Kw (X 0) f f0 f1 (by
  have:=dO bc n (X 0) aY;omega)
 rw[aX,Nat.mul_div_cancel _ f0]at L;rw[aX]at aq;rw[<-SN,b5,b4]at*;simp only[eT,cn,co,iP]at aT aq L⊢;have aB:¬O=[]:=by intro h;rw[h]at ac;simp at ac
 have ba:n<=c+1:=o_
 simp[E,P,Q,F,ac,aB,ba];refine ep aq (by simp[ac,ba,aB];first|exact⟨rfl,rfl⟩|rfl) (by simp[aB];first|exact⟨rfl,rfl⟩|rfl) ?_ (h1:=by simp[g9]);simp[E,ad,aL,bG];refine e2 L ?_;simp[F];refine⟨by repeat' first|rfl|apply And.intro,?_⟩;refine cp aT (by simp[a9];first|exact⟨rfl,rfl⟩|rfl) ?_ (h1:=by simp[gj,a9]);simp
theorem Xs(n:Nat):eB (ar bT n)=ar bT n:=by
 have h:=DE bc (l:=ar bT n) (fun d a=>by
  obtain⟨i,hi,rfl⟩:=hO a;rw[eH bc hi];exact ct bc _ _)
 rw[<-h,Md bc]
theorem qI(neg:Bool)(n:Nat)(h:(ar bT n).length<=1048576):aA prog 284 [.bool neg,eT n] (eG (if neg=true then -(n:Int)else n)):=C4 neg (ar bT n) n (Xs n) h
theorem Mw(a b:Nat)(g:(ar bT a).length<=400000)(h:(ar bT b).length<=400000):aA prog 230 [eT a,eT b] (eT (js a b)):=by
 refine aM nf (i_ func230) mix (by simp[f230]) ?_;simp[f230];refine lp (α:=Nat×Nat) (fun x=>⟨[(1,.p (eT x.2)),(0,.p (eT x.1))],[]⟩)
  (fun x=>(ar bT x.1).length<=400000/\(ar bT x.2).length<=400000/\js x.1 x.2=js a b) (fun x=>x.2) (a,b) ⟨g,h,rfl⟩ ?_
 rintro⟨x,y⟩ ⟨e,d,c⟩;dsimp only at e d c
 by_cases hy:y=0
 ·subst hy;rw[mo]at c;rw[<-c];simp[eT,As]
 ·have hl:0<(ar bT y).length:=by
   rw[gm,Ne,vJ];exact hy
  have f:=Et x y o_ e d;have i:=i6 x (show 0<y by omega);simp[eT,hl];refine c2 f ?_;simp;exact rd (y,x% y) ⟨d,by have:=dO bc _ _ (i9 i (cq bc y));dsimp only;omega,by rw[<-c,ls y,<-m2,ls]⟩ (by dsimp only;omega) (he:=by simp[eT])
theorem air(a b:Nat)(h:a<9223372036854775808)(i:b<9223372036854775808):aA prog 295 [.int .i64 a,.int .i64 b] (.int .i64 (js a b:Nat)):=by
 refine aM nf (i_ func295) mix (by simp[f295]) ?_;simp[f295];refine lp (α:=Nat×Nat) (fun x=>⟨[(1,.p (.int .i64 x.2)),(0,.p (.int .i64 x.1))],[]⟩)
  (fun x=>x.1<9223372036854775808/\x.2<9223372036854775808/\js x.1 x.2=js a b) (fun x=>x.2) (a,b) ⟨h,i,rfl⟩ ?_
 rintro⟨x,y⟩ ⟨g,d,c⟩;dsimp only at g d c
 by_cases f:y=0
 ·subst f;rw[mo]at c;rw[<-c];simp
 ·have hl:(0:Int)<y:=by omega
  have e:0<y:=o_
  have n:¬(y:Int)=0:=o_
  have m:=i6 x e;have k:(x:Int).tmod y=(x% y:Nat):=by rw[ei (ee _),eq]
  have l:eb.wrap ((x% y:Nat):Int)=(x% y:Nat):=aO _ o_ o_;generalize j:x% y=r at*;simp[e,f,k,l];exact rd (y,r) ⟨d,by dsimp only;omega,by rw[<-c,<-j,ls y,<-m2,ls]⟩ (by dsimp only;omega)
theorem Z7{B a b x y K:Nat}(c:2<=B)(d:a<B^x)(e:b<B^y)(f:B^x<=B^K)(g:B^y<=B^K):a+b<B^(K+1):=by
 rw[ix];have:=lm (B^K) c;omega
theorem Z6{a b K:Nat}(g:(ar bT a).length<=K)(h:(ar bT b).length<=K):(ar bT (a+b)).length<=K+1:=by
 have c:=cq bc a;have d:=cq bc b;have e:=h6 (show 0<bT by decide) g;have f:=h6 (show 0<bT by decide) h;exact dO bc (K+1) (a+b) (Z7 bc c d e f)
theorem ajN(a b:Int)(l:(ar bT a.natAbs).length<=400000)(o:(ar bT b.natAbs).length<=400000):aA prog 254 [eG a,eG b] (eG (a+b)):=by
 have m:=agt a.natAbs b.natAbs o_ o_;have k:=Kx a.natAbs b.natAbs o_ o_;have q:(ar bT (a.natAbs+b.natAbs)).length<=1048576:=by
  have r:=Z6 l o;omega
 refine aM nf (i_ func254) mix (by simp[f254]) ?_
 by_cases hs:(a<0↔b<0)
 ·have t:(decide (a<0)==decide (b<0))=true:=by simp[hs]
  have d:=qI (decide (a<0)) (a.natAbs+b.natAbs) q;have f:(if decide (a<0)=true then -((a.natAbs+b.natAbs:Nat):Int)else((a.natAbs+b.natAbs:Nat):Int))=a+b:=by
   by_cases h:a<0
   ·have:=hs.1 h;simp[h];omega
   ·have:¬b<0:=fun c=>h (hs.2 c);simp[h];omega
  rw[f]at d;generalize a+b=s at*;generalize a.natAbs+b.natAbs=n at*;have g:(a<0↔b<0)=True:=eq_true hs;simp only[eG]at d⊢;simp[f254,g,ad];refine e2 m ?_;simp[ad];refine e2 d ?_;simp[ad]
 ·have g:(a<0↔b<0)=False:=eq_false hs
  by_cases p:b.natAbs<=a.natAbs
  ·have i:0<=fY a.natAbs b.natAbs:=by
    have:=pL (a:=a.natAbs) (b:=b.natAbs);omega
   have j:=OS a.natAbs b.natAbs p o_;have d:=qI (decide (a<0)) (a.natAbs-b.natAbs) (by
    have:=dO bc _ _ (ih (l0 a.natAbs b.natAbs) (cq bc a.natAbs));omega)
   have f:(if decide (a<0)=true then -((a.natAbs-b.natAbs:Nat):Int)else((a.natAbs-b.natAbs:Nat):Int))=a+b:=by
    by_cases h:a<0
    ·have:¬b<0:=fun c=>hs ⟨fun _=>c,fun _=>h⟩;simp[h];omega
    ·have:b<0:=by
      rcases fv b 0 with c|c
      ·exact c
      ·exact(hs ⟨fun e=>(h e).elim,fun e=>by omega⟩).elim
     simp[h];omega
   rw[f]at d;generalize a+b=s at*;generalize a.natAbs-b.natAbs=n at*;simp only[eG]at d⊢;simp[f254,g,ad];refine c2 k ?_;simp[i,ad];refine e2 j ?_;simp[ad];refine e2 d ?_;simp[ad]
  ·have i:¬0<=fY a.natAbs b.natAbs:=by
    have:=pL (a:=a.natAbs) (b:=b.natAbs);omega
   have j:=OS b.natAbs a.natAbs o_ o_;have d:=qI (decide (b<0)) (b.natAbs-a.natAbs) (by
    have:=dO bc _ _ (ih (l0 b.natAbs a.natAbs) (cq bc b.natAbs));omega)
   have f:(if decide (b<0)=true then -((b.natAbs-a.natAbs:Nat):Int)else((b.natAbs-a.natAbs:Nat):Int))=a+b:=by
    by_cases h:b<0
    ·have:¬a<0:=fun c=>hs ⟨fun _=>h,fun _=>c⟩;simp[h];omega
    ·have:a<0:=by
      rcases fv a 0 with c|c
      ·exact c
      ·exact(hs ⟨fun e=>by omega,fun e=>(h e).elim⟩).elim
     simp[h];omega
   rw[f]at d;generalize a+b=s at*;generalize b.natAbs-a.natAbs=n at*;simp only[eG]at d⊢;simp[f254,g,ad];refine c2 k ?_;simp[i,ad];refine e2 j ?_;simp[ad];refine e2 d ?_;simp[ad]
theorem OT(a:Int)(d:(ar bT a.natAbs).length<=400000):aA prog 296 [eG a] (eG (-a)):=by
 have b:=qI (!decide (a<0)) a.natAbs o_;have c:(if(!decide (a<0))=true then -((a.natAbs:Nat):Int)else(a.natAbs:Nat))= -a:=by
  by_cases h:a<0
  ·simp[h];omega
  ·simp[h];omega
 rw[c]at b;refine aM nf (i_ func296) mix (by simp[f296]) ?_;generalize -a=s at*;simp only[eG]at b⊢;simp[f296,ad];refine c2 b ?_;simp[ad]
theorem wo(a b:Int)(g:(ar bT a.natAbs).length+(ar bT b.natAbs).length<=1000000):aA prog 255 [eG a,eG b] (eG (a*b)):=by
 have f:=Er a.natAbs b.natAbs g;have j:(ar bT (a.natAbs*b.natAbs)).length<=1000000:=by
  have c:=cq bc a.natAbs;have d:=cq bc b.natAbs;have i:=dO bc ((ar bT a.natAbs).length+(ar bT b.natAbs).length) (a.natAbs*b.natAbs) (by rw[j3];exact j9 c d);omega
 have e:=qI ((!(decide (a<0)==decide (b<0)))) (a.natAbs*b.natAbs) o_;have h:(if(!(decide (a<0)==decide (b<0)))=true then -((a.natAbs*b.natAbs:Nat):Int)else((a.natAbs*b.natAbs:Nat):Int))=a*b:=by
  by_cases c:a<0<;>by_cases d:b<0
  ·simp[c,d];rw[en (e6 c),en (e6 d),Int.neg_mul_neg]
  ·simp[c,d];rw[en (e6 c),et o_,ge,gc]
  ·simp[c,d];rw[en (e6 d),et o_,gg,gc]
  ·simp[c,d];rw[et o_,et o_]
 rw[h]at e;refine aM nf (i_ func255) mix (by simp[f255]) ?_;generalize a*b=s at*;generalize a.natAbs*b.natAbs=n at*;generalize hx:(!(decide (a<0)==decide (b<0)))=x at*;simp only[eG]at e⊢;simp[f255,ad];refine e2 f ?_;simp[hx,ad];refine e2 e ?_;simp[ad]
theorem Ya:∀d:Nat,d<10->hW d (g0 (d+1) [48,49,50,51,52,53,54,55,56,57])=[48+d]:=by decide
theorem yJ(n a:Nat)(E:n<9223372036854775808)(hl:a<=1000):aA prog 283 [.int .i64 n,.int .i64 a] (.str (low (max a (nd n)) n)):=by
 have K:nd n<=19:=rX (i9 E (by decide));refine aM nf (i_ func283) mix (by simp[f283]) ?_;obtain⟨L,e⟩:∃L,L=max a (nd n):=⟨_,rfl⟩
 rw[<-e];obtain⟨g,b⟩:∃g:Nat->Nat,∀i,n/10^i=g i:=⟨_,fun _=>rfl⟩
 have B:g 0=n:=by rw[<-b,jp,j4]
 simp[f283];refine lp (α:=Nat) (fun i=>⟨[(0,.p (.int .i64 (g i:Nat))),(5,.p (.str (low i n))),(1,.p (.int .i64 a))],[]⟩)
  (fun i=>i<=L) (fun i=>L-i) 0 (j5 _) ?_ (he:=by simp[low,B])
 intro i hi;have q:low (i+1) n=(48+g i% 10)::low i n:=by
  rw[kc,rp,b,tE];rfl
 have hq:g (i+1)=g i/10:=by rw[<-b,<-b,ix,i2]
 have M:g i<=n:=by rw[<-b];exact kk _ _
 have F:0<g i↔i<nd n:=by
  rw[<-b,ny,Nat.div_pos_iff];have:=i4 (n:=i) (show 0<10 by decide);omega
 have l:=rl n i;have j:=Ya (g i% 10) (i6 _ (by decide));have f:i<L↔0<g i\/i<a:=by rw[F,e];omega
 have G:=i6 (g i) (show 0<10 by decide);have r:(g i:Int).tmod 10=(g i% 10:Nat):=by rw[ei (ee _),eq];rfl
 have t:(g i:Int).tdiv 10=(g (i+1):Nat):=by rw[hq,ej (ee _),er (g i)];rfl
 have H:L<=1000:=by rw[e];omega
 generalize g i% 10=d at*;have m:hW d (48::g0 d [49,50,51,52,53,54,55,56,57])=[48+d]:=j;generalize N:g i=z at*;generalize y:g (i+1)=A at*;generalize hs:low i n=s at*;have x:eb.wrap (A:Int)=A:=aO _ o_ o_;have v:eb.wrap (d:Int)=d:=aO _ o_ o_;have w:eb.wrap ((d:Int)+1)=d+1:=aO _ o_ o_;have u:((d:Int)+1).toNat=d+1:=o_
 have J:min (d+1) 10-d+i<9223372036854775808:=o_
 have I:(0:Int)<=d+1/\(d:Int)+1<=10/\(d:Int)<=max (d+1) 0:=o_
 by_cases k:i<L
 ·by_cases c:0<z
  ·simp[c,r,t,x,v,w,u,j,l];refine⟨o_,o_,?_⟩;exact rd (i+1) (show i+1<=L by omega) (he:=by simp[y,q,m])
  ·have o:i<a:=by rcases f.1 k with h|h;exact(c h).elim;exact h
   simp[c,o,r,t,x,v,w,u,j,l];refine⟨o_,o_,?_⟩;exact rd (i+1) (show i+1<=L by omega) (he:=by simp[y,q,m])
 ·have c:¬0<z:=fun h=>k (f.2 (.inl h));have o:¬i<a:=fun h=>k (f.2 (.inr h));have C:s=low L n:=by rw[<-hs];congr 1;omega
  have D:¬L<a:=o_
  simp[c,D,l,C,rl]
theorem YE{n i:Nat}(h:bT^(i+1)<=n):bd (n/bT^i)=bd (n/bT^(i+1))++low 9 (ae bT n i):=by
 have c:0<bT^i:=i4 (by decide);have b:10^9<=n/bT^i:=by
  rw[l5 c,h8];rw[ix]at h;exact h
 have a:=Zb b;have e1:n/bT^i/10^9=n/bT^(i+1):=by rw[i2,ix];rfl
 have e2:n/bT^i% 10^9=ae bT n i:=rfl;rw[e1,e2]at a;have d:0<n/bT^i:=h7 (by decide) b;have e:0<n/bT^(i+1):=j8 h (i4 (by decide));rw[bd,bd,show max 1 (nd (n/bT^i))=nd (n/bT^i)by have:=wT d;omega,show max 1 (nd (n/bT^(i+1)))=nd (n/bT^(i+1))by have:=wT e;omega,a]
theorem DP(z:Int)(hl:(ar bT z.natAbs).length<=1000000):aA prog 232 [eG z] (.str (bn z)):=by
 refine aM nf (i_ func232) mix (by simp[f232]) ?_
 by_cases F:z=0
 ·subst F;have v:bn 0=[48]:=by rw[show(0:Int)=((0:Nat):Int)from rfl,tj,ou]
  simp[f232,eG,eT,As,ad,v]
 obtain⟨n,f⟩:∃n,z.natAbs=n:=⟨_,rfl⟩
 have M:0<n:=o_
 have L:0<(ar bT n).length:=by
  rw[gm,Ne,vJ];omega
 obtain⟨k,hk⟩:∃k,(ar bT n).length=k+1:=⟨(ar bT n).length-1,o_⟩
 have g:=cq bc n;rw[hk]at g;have q:bT^k<=n:=by
  rcases ik n (bT^k)with h|h
  ·have:=dO bc k n h;omega
  ·exact h
 have m:∀i(h:i<(ar bT n).length),(ar bT n)[i]=ae bT n i:=fun i h=>eH bc h;have r:n/bT^k=ae bT n k:=by
  rw[ae,i0];rw[iz (i4 (by decide)),h8,<-ix];exact g
 have O:0<ae bT n k:=by rw[<-r];exact j8 q (i4 (by decide))
 have c:=yJ (ae bT n k) 1 (i9 (ct bc n k) (by decide)) (by decide);rw[show low (max 1 (nd (ae bT n k))) (ae bT n k)=bd (n/bT^k)by rw[r];rfl]at c;have w:∀i,aA prog 283 [.int .i64 (ae bT n i:Nat),.int .i64 (9:Nat)] (.str (low 9 (ae bT n i))):=fun i=>by
  have h:=yJ (ae bT n i) 9 (i9 (ct bc n i) (by decide)) (by decide);have J:nd (ae bT n i)<=9:=rX (ct bc n i)
  rwa [show max 9 (nd (ae bT n i))=9 by omega]at h
 have a:bd (n/bT^0)=bd n:=by rw[jp,j4]
 have iu:∀i,i+1<=k->bd (n/bT^i)=bd (n/bT^(i+1))++low 9 (ae bT n i):=fun i hi=>YE (h9 (h6 (by decide) hi) q);have K:k<=1000000:=by rw[f]at hl;omega
 have C:bn z=if z<0 then 45::bd n else bd n:=by rw[bn,f]
 have N:ae bT n k<bT:=ct bc n k;have B:∀i,ae bT n i<bT:=fun i=>ct bc n i;obtain⟨T,j⟩:∃T:Nat->List Nat,∀i,bd (n/bT^i)=T i:=⟨_,fun _=>rfl⟩
 have l:∀i,(T i).length<=9000000+9:=fun i=>by
  rw[<-j];refine h9 (vy (k:=9*(k+1)) ?_ o_) o_;rw[lb];exact ih (kk _ _) g
 simp only[j]at c a iu;rw[C];simp only[eG,f,eT,<-a];generalize hx:ar bT n=x at*;have G:eb.wrap ((k:Int)+1-1)=k:=by rw[Int.add_sub_cancel];exact aO _ o_ o_
 have H:eb.wrap (k:Int)=k:=aO _ o_ o_;have u:eb.wrap ((k:Int)+1-2)=(k:Int)-1:=by rw[aO _ o_ o_];omega
 have A:¬(k:Int)+1=0:=o_
 have e:k<x.length:=o_
 have t:=m k e;have E:x[k]?=some (ae bT n k):=by rw[gi e,t]
 simp[f232,ad,hk,A,G,H,u,e,t,E];refine c2 c ?_;simp[ad,hk,u];refine lp (α:=Nat) (fun i=>⟨[(4,.p (.int .i64 ((i:Int)-1))),(3,.p (.str (T i))),(1,.ptr 0 [])],[.box false (.p (.st 290 [.bool (decide (z<0)),.seq (x.map fun x:Nat=>.int .i64 x)]))]⟩)
  (fun i=>i<=k) (fun i=>i) k (i1 _) ?_
 rintro i hi;have P:=B i;rcases i with _|i
 ·by_cases o:z<0
  ·have b:=ih (md (l 0) 1) (show 9000000+9+1<9223372036854775808 by decide);rw[a,kc]at b;simp[o,ad,a,b]
  ·simp[o,ad,a]
 ·have d:i<x.length:=by omega
  have s:=m i d;have D:x[i]?=some (ae bT n i):=by rw[gi d,s]
  have y:¬(i:Int)<0:=o_
  have I:eb.wrap ((i:Int)-1)=(i:Int)-1:=aO _ o_ o_;have b:=ih (md (l (i+1)) 9) (show 9000000+9+9<9223372036854775808 by decide);have aI:=iu i hi;simp[y,ad,d,s,D];refine c2 (w i) ?_;simp[I,rl];refine⟨b,?_⟩;exact rd i (show i<=k by omega) (he:=by simp[aI])
theorem XI{s:List Nat}{i:Nat}(h:i<s.length):aY (s.take (i+1))=aY (s.take i)*10+(s[i]-48):=by
 rw[g7 h,yN]
theorem vL{s:List Nat}{p:Nat->Bool}(h:s.all p=true)(i:Nat):(s.take i).all p=true:=by
 rw[gy]at h⊢;intro x hx;exact h x (List.mem_of_mem_take hx)
theorem Np{s:List Nat}{p:Nat->Bool}(h:s.all p=true)(i:Nat):(s.drop i).all p=true:=by
 rw[gy]at h⊢;intro x hx;exact h x (List.mem_of_mem_drop hx)
theorem zz{c:Nat}(h:b9 c=true):48<=c/\c<=57:=by
 simpa[b9]using h
theorem zn(s:List Nat)(e:s.all b9=true)(hl:s.length<=18):aA prog 294 [.str s] (.int .i64 (aY s:Nat)):=by
 refine aM nf (i_ func294) mix (by simp[f294]) ?_;obtain⟨L,g⟩:∃L,L=s.length:=⟨_,rfl⟩
 have k:aY (s.take L)=aY s:=by rw[g,hT]
 rw[<-k];obtain⟨v,b⟩:∃v:Nat->Nat,∀i,aY (s.take i)=v i:=⟨_,fun _=>rfl⟩
 have o:v 0=0:=by rw[<-b];rfl
 have q:∀i(h:i<s.length),v (i+1)=v i*10+(s[i]-48):=fun i h=>by rw[<-b,<-b,XI h]
 have f:∀i,i<=L->v i<10^i:=fun i hi=>by
  rw[<-b];exact jL i _ (by rw[g3];omega) (vL e i)
 rw[b];simp[f294];refine lp (α:=Nat) (fun i=>⟨[(4,.p (.int .i64 i)),(3,.p (.int .i64 (v i:Nat))),(0,.p (.str s))],[]⟩)
  (fun i=>i<=L) (fun i=>L-i) 0 (j5 _) ?_ (he:=by simp[o])
 intro i hi
 by_cases m:i<L
 ·have a:i<s.length:=by omega
  have j:=f i hi;have A:=f (i+1) m;have hc:=zz (gy.1 e s[i] (g4 a));have hs:=q i a;have n:10^i<=10^17:=h6 (by decide) o_;have z:v i<100000000000000000:=h7 j (by exact n);generalize d:s[i]=c at*;generalize B:v i=x at*;have r:eb.wrap (10*(x:Int))=10*(x:Int):=aO _ o_ o_;have t:eb.wrap (10*(x:Int)+c)=10*(x:Int)+c:=aO _ o_ o_;have u:eb.wrap (10*(x:Int)+c-48)=(v (i+1):Nat):=by rw[hs,aO _ o_ o_];omega
  have w:eb.wrap ((i:Int)+1)=(i:Int)+1:=aO _ o_ o_;have y:eb.wrap (c:Int)=c:=aO _ o_ o_;have l:s[i]?=some c:=by rw[gi a,d]
  simp[a,d,l,r,t,u,w,y];exact rd (i+1) (show i+1<=L by omega)
 ·have a:¬i<s.length:=by omega
  have:i=L:=o_
  subst this;simp[a]
theorem Oj(c:Nat):∀s:List Nat,c∉(bP c s).1
 |[]=>by simp[bP]
 |x::r=>by
  rw[bP]
  split
  ·simp
  ·rename_i h;simp only[ho,not_or];exact⟨fun e=>h e.symm,Oj c r⟩
theorem wu(s:List Nat)(hl:s.length<=1048576):aA prog 227 [.str s] (.int .i64 ((bP 47 s).1.length:Nat)):=by
 refine aM nf (i_ func227) mix (by simp[f227]) ?_;obtain⟨k,hk⟩:∃k,(bP 47 s).1.length=k:=⟨_,rfl⟩
 have t:=Oj 47 s;have w:k<=s.length:=by rw[<-hk];exact(tF 47 s).1
 have n:∀j(h:j<s.length),j<k->¬s[j]=47:=by
  intro j h v e;apply t;rcases mv 47 s with⟨_,b⟩|⟨_,b,_⟩
  ·have:s[j]=(bP 47 s).1[j]' o_:=by
    conv=>lhs;rw[hS b]
    rw[List.getElem_append_left]
   have d:(bP 47 s).1[j]' o_∈(bP 47 s).1:=g4 _;rw[<-this,e]at d;exact d
  ·rw[b];have d:s[j]∈s:=g4 _
   rwa [e]at d
 have b:∀(h:k<s.length),s[k]=47:=by
  intro h;rcases mv 47 s with⟨_,g⟩|⟨_,g,_⟩
  ·rw[hS g,List.getElem_append_right o_];simp[hk]
  ·rw[g]at hk;omega
 rw[hk];simp[f227];refine lp (α:=Nat) (fun i=>⟨[(3,.p (.int .i64 i)),(0,.p (.str s))],[]⟩)
  (fun i=>i<=k) (fun i=>k-i) 0 (j5 _) ?_
 intro i hi;have u:eb.wrap ((i:Int)+1)=(i:Int)+1:=aO _ o_ o_
 by_cases q:i<k
 ·have a:i<s.length:=by omega
  have f:=n i a q;generalize m:s[i]=c at*;have l:s[i]?=some c:=by rw[gi a,m]
  have o:¬(c:Int)=47:=o_
  simp[a,m,l,o,f,u];exact rd (i+1) (show i+1<=k by omega)
 ·have r:i=k:=by omega
  subst r
  by_cases a:i<s.length
  ·have f:=b a;have l:s[i]?=some 47:=by rw[gi a,f]
   simp[a,f,l]
  ·have:i=s.length:=by omega
   simp[a,this]
theorem OQ(n:Int)(M:-9223372036854775808<=n)(O:n<=9223372036854775807):aA prog 233 [.int .i64 n] (eG n):=by
 refine aM nf (i_ func233) mix (by simp[f233]) ?_;obtain⟨N,P⟩:∃N,n.natAbs=N:=⟨_,rfl⟩
 have D:N<bT^3:=by
  have:bT^3=1000000000000000000000000000:=by decide
  omega
 obtain⟨g,a⟩:∃g:Nat->Nat,∀i,N/bT^i=g i:=⟨_,fun _=>rfl⟩
 have F:g 0=N:=by rw[<-a,jp,j4]
 have H:∀i,g (i+1)=g i/bT:=fun i=>by rw[<-a,<-a,i2,ix]
 have A:∀i,ae bT N i=g i% bT:=fun i=>by rw[<-a];rfl
 have G:g 3=0:=by rw[<-a,i8 D]
 have k:∀i,g i<=N:=fun i=>by rw[<-a];exact kk _ _
 have y:∀i,i<=3->g i=0->aA prog 284 [.bool (decide (n<0)),.seq (iP (row bT i N))] (eG n):=fun i I hi=>by
  have h:=C4 (decide (n<0)) (row bT i N) N (jZ bc (by
   rw[<-a]at hi;rcases ik N (bT^i)with h|h
   ·exact h
   ·have:=j8 h (i4 (show 0<bT by decide));omega)) (by simp[row];omega)
  have e:(if decide (n<0)=true then -(N:Int)else N)=n:=by
   by_cases c:n<0
   ·simp[c];omega
   ·simp[c];omega
  rwa [e]at h
 obtain⟨m,f⟩:∃m:Nat->Int,∀i,(if n<0 then -(g i:Int)else g i)=m i:=⟨_,fun _=>rfl⟩
 have J:m 0=n:=by rw[<-f,F];split<;>omega
 simp only[eG]at y⊢;simp[f233];refine lp (α:=Nat) (fun i=>⟨[(0,.p (.int .i64 (m i))),(2,.ptr 0 []),(3,.sl 1 i 1 0 i),(4,.p (.bool (decide (n<0))))],[.box false (.p (.st 290 [.bool false,.aK])),.arr .grow i 1 (ey i N)]⟩)
  (fun i=>i<=3) (fun i=>3-i) 0 (j5 _) ?_ (he:=by simp[J,ey]) (hh:=by simp[ey])
 intro i hi;have Q:bT=1000000000:=rfl;have L:=i6 (g i) (show 0<bT by decide);have R:=k i;have E:=i5 (g i) bT;have u:g i% bT=ae bT N i:=(A i).symm
 by_cases d:g i=0
 ·have b:m i=0:=by rw[<-f,d];split<;>rfl
  have hs:=y i hi d;rcases i with _|i
  ·simp[b];refine cp hs (by simp[ey];first|exact⟨rfl,rfl⟩|rfl) ?_ (h1:=by simp[iP,row]);simp[ad]
  ·have j:¬ey (i+1) N=[]:=by intro h;have:=congrArg hB h;rw[iX]at this;simp at this
   simp[b];refine cp hs (by simp[iX,Nz,j];first|exact⟨rfl,rfl⟩|rfl) ?_ (h1:=by simp[iP,row,g9,gj]);simp[ad]
 ·have I:i<3:=by
   rcases ik i 3 with h|h
   ·exact h
   ·rw[show i=3 by omega]at d;exact(d G).elim
  have z:=H i;have K:=A i;have l:=qQ i N;have x:g0 i (ey i N)=ey i N:=gj (by rw[iX];exact i1 _);rw[K]at l;obtain⟨r,B⟩:∃r,g i% bT=r:=⟨_,rfl⟩
  rw[B]at l L E;have u:=B.symm
  by_cases c:n<0
  ·have b:m i= -(g i:Int):=by rw[<-f,if_pos c]
   have o:m (i+1)= -(g (i+1):Int):=by rw[<-f,if_pos c]
   have j:¬(g i:Int)=0:=o_
   have s:((g i:Nat):Int).tmod 1000000000=r:=by rw[u,ei (ee _),eq];rfl
   have q:((g i:Nat):Int).tdiv 1000000000=(g (i+1):Nat):=by rw[z,ej (ee _),er (g i)];rfl
   have wr:eb.wrap (r:Int)=r:=aO _ o_ o_;have C:eb.wrap (-(r:Int))= -r:=aO _ o_ o_;have t:eb.wrap (-(g (i+1):Int))= -(g (i+1):Nat):=aO _ (by have:=k (i+1);omega) (by have:=k (i+1);omega)
   by_cases v:r=0
   ·simp[b,d,j,s,q,wr,C,t,v,x,iX];refine⟨by simp only[cM];omega,?_⟩;exact rd (i+1) (show i+1<=3 by omega) (he:=by simp[o]) (hh:=by simp[l,v])
   ·have w:0<r:=by omega
    simp[b,d,j,s,q,wr,C,t,v,w,x,iX];refine⟨by simp only[cM];omega,?_⟩;exact rd (i+1) (show i+1<=3 by omega) (he:=by simp[o]) (hh:=by simp[l])
  ·have b:m i=(g i:Int):=by rw[<-f,if_neg c]
   have o:m (i+1)=(g (i+1):Int):=by rw[<-f,if_neg c]
   have j:¬(g i:Int)=0:=o_
   have s:((g i:Nat):Int).tmod 1000000000=r:=by rw[u,ei (ee _),eq];rfl
   have q:((g i:Nat):Int).tdiv 1000000000=(g (i+1):Nat):=by rw[z,ej (ee _),er (g i)];rfl
   have wr:eb.wrap (r:Int)=r:=aO _ o_ o_;have t:eb.wrap (g (i+1):Int)=(g (i+1):Nat):=aO _ (by have:=k (i+1);omega) (by have:=k (i+1);omega);have w:¬(r:Int)<0:=o_
   simp[b,d,j,s,q,wr,t,w,x,iX];refine⟨by simp only[cM];omega,?_⟩;exact rd (i+1) (show i+1<=3 by omega) (he:=by simp[o]) (hh:=by simp[l])
theorem KA{d:List Nat}(b:d.all b9=true){L i:Nat}(c:L=d.length)(h:9*(i+1)<=L):
 aY (d.take (L-9*(i+1)))=aY (d.take (L-9*i))/10^9/\aY ((d.take (L-9*i)).drop (L-9*(i+1)))=aY (d.take (L-9*i))% 10^9:=by
 have e:=hb (L-9*(i+1)) (d.take (L-9*i));rw[hE,lw o_]at e;have a:=Mb (d.take (L-9*(i+1))) ((d.take (L-9*i)).drop (L-9*(i+1)));rw[e]at a;have hl:((d.take (L-9*i)).drop (L-9*(i+1))).length=9:=by rw[hp,g3];omega
 rw[hl]at a;have f:=jL 9 _ hl (Np (vL b _) _);generalize aY ((d.take (L-9*i)).drop (L-9*(i+1)))=y at*;generalize aY (d.take (L-9*(i+1)))=x at*;rw[a];omega
theorem C5(s:List Nat)(k:(bS s).all b9=true)(hl:s.length<=1000000):aA prog 281 [.str s] (eG (if bQ s=true then -(aY (bS s):Int)else aY (bS s))):=by
 refine aM nf (i_ func281) mix (by simp[f281]) ?_;obtain⟨d,v⟩:∃d,bS s=d:=⟨_,rfl⟩
 obtain⟨neg,f⟩:∃neg,bQ s=neg:=⟨_,rfl⟩
 obtain⟨N,F⟩:∃N,aY d=N:=⟨_,rfl⟩
 have ag:d.length<=1000000:=by rw[<-v];exact h9 (py s).1 hl
 rw[v]at k⊢;rw[f,F];have ah:=hl;simp[f281,-bu];rw[bu];simp[-bu];refine join (fun st=>aN st.env 0=.p (.str s)/\aN st.env 2=.ptr 0 []/\aN st.env 3=.p (.bool neg)/\st.heap=[.box false (.p (.st 290 [.bool false,.aK]))]) ?_ ?_
 ·cases s with
  |nil=>simp[<-f,bQ]
  |cons c r=>
   by_cases hc:c=45
   ·simp[<-f,bQ,hc]
   ·have S:¬(c:Int)=45:=by omega
    simp[<-f,bQ,hc,S]
 rintro⟨R,T⟩ ⟨a,b,e,n⟩;dsimp only at a b e n;subst n;refine join (fun st=>aN st.env 0=.p (.str d)/\aN st.env 2=.ptr 0 []/\aN st.env 3=.p (.bool neg)/\st.heap=[.box false (.p (.st 290 [.bool false,.aK]))]) ?_ ?_
 ·cases neg with
  |false=>
   have D:s=d:=by rw[<-v,bS,f];rfl
   simp[a,b,e,D]
  |true=>
   cases s with
   |nil=>simp[bQ]at f
   |cons c r=>
    have D:r=d:=by rw[<-v,bS,f];rfl
    simp[a,b,e,D]
 clear a b e;rintro⟨R,T⟩ ⟨a,b,e,n⟩;dsimp only at a b e n;subst n;obtain⟨L,u⟩:∃L,L=d.length:=⟨_,rfl⟩
 obtain⟨g,l⟩:∃g:Nat->Nat,∀i,N/bT^i=g i:=⟨_,fun _=>rfl⟩
 have B:∀i,9*i<=L->aY (d.take (L-9*i))=g i:=by
  intro i
  induction i with
  |zero=>intro _;rw[ms,Nat.sub_zero,u,hT,F,<-l,jp,j4]
  |succ i ab=>
   intro h;rw[(KA k u h).1,ab o_,<-l,<-l,i2,ix];rfl
 have U:∀i,9*(i+1)<=L->aY ((d.take (L-9*i)).drop (L-9*(i+1)))=ae bT N i:=fun i h=>by
  rw[(KA k u h).2,B i o_,<-l];rfl
 have aa:∀i,9*(i+1)<=L->aA prog 294 [.str ((d.take (L-9*i)).drop (L-9*(i+1)))] (.int .i64 (ae bT N i:Nat)):=fun i h=>by
  rw[<-U i h];exact zn _ (Np (vL k _) _) (by rw[hp,g3];omega)
 have I:∀i,9*i<=L->L<=9*i+9->g i=ae bT N i/\N<bT^(i+1):=fun i j q=>by
  have H:=jL _ (d.take (L-9*i)) rfl (vL k _);rw[B i j]at H;have y:g i<bT:=h7 H (by
   rw[show bT=10^9 from rfl];exact h6 (by decide) (by rw[g3];omega))
  refine⟨by rw[ae,l,i0 y],?_⟩;rw[<-l,iz (i4 (by decide))]at y;rw[ix,h8];exact y
 have V:∀i,9*i<=L->L<=9*i+9->aA prog 294 [.str (d.take (L-9*i))] (.int .i64 (ae bT N i:Nat)):=fun i j q=>by
  rw[<-(I i j q).1,<-B i j];exact zn _ (vL k _) (by rw[g3];omega)
 have G:∀i,9*i<=L->L<=9*i+9->aA prog 284 [.bool neg,.seq (iP (row bT (i+1) N))] (eG (if neg=true then -(N:Int)else N)):=fun i j q=>
  C4 neg (row bT (i+1) N) N (jZ bc (I i j q).2) (by simp[row];omega)
 generalize (if neg=true then -(N:Int)else N)=z at*;simp only[eG]at G⊢;rw[bu];simp[a,b,e,-bu];rw[bu];simp[a,b,e];refine lp (α:=Nat) (fun i=>⟨[(0,.p (.str (d.take (L-9*i)))),(2,.ptr 0 []),(3,.p (.bool neg)),(4,.sl 1 i 1 0 i)],[.box false (.p (.st 290 [.bool false,.aK])),.arr .grow i 1 (ey i N)]⟩)
  (fun i=>9*i<=L) (fun i=>L-i) 0 (j5 _) ?_ (he:=by simp[a,b,e,ey,u]) (hh:=by simp[ey])
 intro i hi;have x:(d.take (L-9*i)).length=L-9*i:=by rw[g3];omega
 have o:=aa i;have w:=V i hi;have E:(d.take (L-9*i)).take (L-9*(i+1))=d.take (L-9*(i+1)):=by rw[hE,lw o_]
 rw[show L-9*(i+1)=L-9*i-9 by omega]at o E;obtain⟨m,C⟩:∃m,m=L-9*i:=⟨_,rfl⟩
 rw[<-C]at x o w E;have M:=qQ i N;have O:g0 i (ey i N)=ey i N:=gj (by rw[iX];exact i1 _);have J:i+1<=cM:=by simp only[cM];omega
 by_cases ac:9<m
 ·have o:=o o_;have P:eb.wrap ((m:Int)-9)=(m:Int)-9:=aO _ o_ o_;have Q:((m:Int)-9).toNat=m-9:=by omega
  have K:(9:Int)<=m:=o_
  have Y:9*(i+1)<=L:=o_
  rw[<-C];generalize af:g0 m d=t at*;have Z:g0 m t=t:=gj o_;have A:(9:Int)<m:=o_
  have W:m-9=L-9*(i+1):=o_
  simp[x,A,P,Q,K,Z];refine c1 o ?_;simp[O,iX,J,<-M,x,P,Q,K,E];exact rd (i+1) Y (he:=by simp[W])
 ·have w:=w o_;have hs:=G i hi o_;rw[<-C];generalize g0 m d=t at*;have A:¬(9:Int)<m:=by omega
  simp[x,A];refine c1 w ?_;simp[O,iX,J,<-M];have X:¬ey (i+1) N=[]:=by intro h;have:=congrArg hB h;rw[iX]at this;simp at this
  refine cp hs (by simp[iX,Nz,X];first|exact⟨rfl,rfl⟩|rfl) ?_ (h1:=by simp[iP,row,g9,gj]);simp[ad]
def kG(s:List Nat):Int:=if bQ s=true then -(aY (bF s):Int)else aY (bF s)
def iZ(s:List Nat):Nat:=if eh s=true then aY (bU s)else 1
theorem MS(s:List Nat)(q:(bF s).all b9=true)(l:(bU s).all b9=true)(hl:s.length<=1000000):aA prog 229 [.str s] (.aE [eG (kG s),eG (iZ s:Nat)]):=by
 refine aM nf (i_ func229) mix (by simp[f229]) ?_;have e:=wu s o_;obtain⟨K,f,h,D⟩:=LV s;have I:=tF 47 s;have C:=OQ 1 (by decide) (by decide);rcases mv 47 s with⟨q1,b⟩|⟨q1,b,M⟩
 ·have a:=C5 (bP 47 s).1 (by rw[f];exact q) o_;rw[K,f]at a;have d:=C5 (bP 47 s).2.1 (by
   rw[h];rw[gy]at l⊢;intro x hx;exact l x ((py _).2 x hx)) o_
  have J:bQ (bU s)=false:=by
   rw[bQ];cases g:bU s with
   |nil=>simp
   |cons c r=>
    have:=zz (gy.1 l c (by rw[g];simp));simp;omega
  rw[h,bS,J]at d;have m:eh s=true:=by rw[<-D];exact q1
  have oQ:kG s=if bQ s=true then -(aY (bF s):Int)else aY (bF s):=rfl
  have j:iZ s=aY (bU s):=by rw[iZ,if_pos m]
  rw[<-oQ]at a;simp only[dp,if_false]at d;rw[<-j]at d;generalize L:kG s=z at*;generalize iZ s=dn at*;obtain⟨i,o⟩:∃i,(bP 47 s).1=i:=⟨_,rfl⟩
  obtain⟨E,p⟩:∃E,(bP 47 s).2.1=E:=⟨_,rfl⟩
  rw[o,p]at b;rw[o]at e a;rw[p]at h;obtain⟨k,n⟩:∃k,i.length=k:=⟨_,rfl⟩
  rw[n]at e;have hk:k<s.length:=by rw[b];simp;omega
  have B:s.take k=i:=by rw[b,<-n];simp
  have g:s.drop (k+1)=bU s:=by
   rw[<-h]
   conv=>lhs;rw[b,<-n]
   simp
  clear I b o p;have G:eb.wrap ((k:Int)+1)=(k:Int)+1:=aO _ o_ o_;have F:((k:Int)+1).toNat=k+1:=o_
  have y:¬(k:Int)=s.length:=o_
  have u:k+1<=s.length:=hk;have w:k<=s.length:=o_
  have t:(0:Int)<=k+1:=o_
  have v:(k:Int)+1<=s.length:=o_
  simp only[eG]at a d⊢;simp[f229];refine c1 e ?_;simp[y,G,F,B,g,u,w,t,v];refine e1 a ?_;simp[y,G,F,B,g,u,w,t,v];refine e1 d ?_;simp[ad]
 ·have a:=C5 s (by
   have A:=f;rw[b]at A;rw[A];exact q) hl
  have m:eh s=false:=by rw[<-D];exact q1
  have H:bS s=bF s:=by rw[b]at f;exact f
  have oQ:kG s=if bQ s=true then -(aY (bF s):Int)else aY (bF s):=rfl
  have j:iZ s=1:=by rw[iZ,m];rfl
  rw[H,<-oQ]at a;rw[j];rw[b]at e;generalize kG s=z at*;simp only[eG]at a C⊢;simp[f229];refine c1 e ?_;simp;refine c1 a ?_;simp;refine c1 C ?_;simp[ad]
theorem KB(n:Nat):(bd n).length<=9*(ar bT n).length+1:=by
 rcases mp n with h|h
 ·subst h;rw[ou];simp
 ·have hl:0<(ar bT n).length:=by rw[gm,Ne,vJ];omega
  have a:=cq bc n;rw[show bT^(ar bT n).length=10^(9*(ar bT n).length)by rw[lb];rfl]at a;exact h9 (vy a o_) o_
def nE(n d:Int):Rat:=m6 n d
theorem Km(n g:Nat):(ar bT (n/g)).length<=(ar bT n).length:=
 dO bc _ _ (ih (kk n g) (cq bc n))
theorem W4(n d:Nat)(a:0<d):(ar bT (js n d)).length<=(ar bT d).length:=
 dO bc _ _ (ih (le n a) (cq bc d))
theorem JK(n d:Int)(L:d≠0)(s:(ar bT n.natAbs).length<=400000)(j:(ar bT d.natAbs).length<=400000):aA prog 253 [eG n,eG d] (.str (bC (nE n d))):=by
 refine aM nf (i_ func253) mix (by simp[f253]) ?_;simp[f253,-bu,ad];rw[bu];simp[-bu,ad];refine join (fun st=>∃(e:Int)(d':Nat),0<d'/\(ar bT e.natAbs).length<=400000/\(ar bT d').length<=400000/\nE e d'=nE n d/\aN st.env 2=.ptr 0 []/\aN st.env 3=.ptr 1 []/\st.heap=[.box false (.p (eG e)),.box false (.p (eG (d':Nat)))]) ?_ ?_
 ·have P:=OT n s;have O:=OT d j
  by_cases h:d<0
  ·simp[h,ad];refine e1 P ?_;simp[ad];refine e1 O ?_;simp[ad];refine⟨by repeat' first|rfl|apply And.intro,?_⟩;refine⟨-n,d.natAbs,o_,by rw[e7];exact s,j,?_,rfl,?_⟩
   ·rw[en o_];exact nk _ _
   ·rw[en o_]
  ·have A:((d.natAbs:Nat):Int)=d:=et o_;simp[h,ad];exact⟨n,d.natAbs,o_,s,j,by rw[A],rfl,by rw[A]⟩
 rintro⟨T,U⟩ ⟨e,d',k1,k2,k3,k4,l,m,D⟩;dsimp only at l m D;subst D;rw[<-k4,show nE e d'=m6 e d' from rfl];clear k4 s j L;obtain⟨u,v⟩:=mb (n:=e) (show d'≠0 by omega);obtain⟨g,k⟩:∃g,js e.natAbs d'=g:=⟨_,rfl⟩
 have r:0<g:=by rw[<-k];exact kd _ k1
 have B:(ar bT g).length<=400000:=by rw[<-k];exact h9 (W4 _ _ k1) k3
 rw[k]at u v;have y:=Mw e.natAbs d' k2 k3;rw[k]at y;have I:=Et e.natAbs g r k2 B;have J:=Et d' g r k3 B;have Y:(ar bT (e.natAbs/g)).length<=400000:=h9 (Km _ _) k2;have Z:(ar bT (d'/g)).length<=400000:=h9 (Km _ _) k3;have w:=qI (decide (e<0)) (e.natAbs/g) o_;have f:=qI false (d'/g) o_;have t:(if decide (e<0)=true then -((e.natAbs/g:Nat):Int)else((e.natAbs/g:Nat):Int))=(m6 e d').num:=by
  rw[u];have M:(g:Int)∣e:=by rw[<-k];exact eL.2 (li _ _)
  obtain⟨c,hc⟩:=M;have N:(g:Int)≠0:=o_
  rw[hc,ez _ N,ew,ed,Nat.mul_div_cancel_left _ r]
  by_cases K:c<0
  ·have:(g:Int)*c<0:=e9 o_ K;simp[this];omega
  ·have:¬(g:Int)*c<0:=by
    have:=e8 (a:=(g:Int)) (b:=c) o_ o_;omega
   simp[this];omega
 rw[t]at w;simp only[dp,if_false]at f;have z:=DP (m6 e d').num (by
  rw[<-t];split
  ·rw[e7,ed];omega
  ·rw[ed];omega)
 have i:=DP ((d'/g:Nat):Int) (by rw[ed];omega);rw[tj]at i;have Q:0<d'/g:=by
  refine j8 ?_ r;rw[<-k];exact le _ k1
 have V:(bn (m6 e d').num).length<=3600002:=by
  refine h9 (Dv _) ?_;have h:=KB (m6 e d').num.natAbs;have:(m6 e d').num.natAbs=e.natAbs/g:=by
   rw[<-t];split
   ·rw[e7,ed]
   ·rw[ed]
  rw[this]at h⊢;omega
 have W:(bd (d'/g)).length<=3600001:=by
  have h:=KB (d'/g);omega
 have F:bC (m6 e d')=if d'/g=1 then bn (m6 e d').num else bn (m6 e d').num++47::bd (d'/g):=by rw[bC,v]
 rw[F];clear F t u v;generalize (m6 e d').num=G at*;generalize aa:d'/g=q at*;simp only[eG,ed]at w f z i⊢;simp[l,m,ad];refine c2 y ?_;simp[l,m,ad];refine c2 I ?_;simp[l,m,ad];refine c2 J ?_;simp[l,m,ad];refine c2 w ?_;simp[l,m,ad];refine c1 z ?_;have R:∀h:q=1,ar bT q=[1]:=fun h=>by rw[h];exact n9 (by decide) (by decide)
 by_cases o:q=1
 ·have x:=R o;simp[o,eT,n9 (show 0<1 by decide) (show 1<bT by decide)]
 ·have C:(bn G).length+1<9223372036854775808:=by omega
  have X:(bn G).length+((bd q).length+1)<9223372036854775808:=o_
  by_cases E:q<bT
  ·have x:=n9 Q E;have S:¬(q:Int)=1:=by omega
   simp[o,eT,x,S];refine⟨C,?_⟩;simp only[eT,x,gD,hw]at f i;refine c2 f ?_;simp;refine c1 i ?_;simp;omega
  ·have j:¬((ar bT q).length:Int)=1:=by
    intro h;have H:(ar bT q).length=1:=o_
    have:=cq bc q;rw[H,la]at this;exact E this
   simp[o,eT,j];refine⟨C,?_⟩;simp only[eT]at f i;refine c2 f ?_;simp;refine c1 i ?_;simp;omega
theorem W8{n:Int}{g:Nat}(a:0<g)(h:g∣n.natAbs):n.tdiv g=n/g:=by
 obtain⟨c,hc⟩:=eL.2 h;subst hc;rw[Int.mul_tdiv_cancel_left _ o_,ez _ o_]
theorem QO(n d:Int)(O:d≠0)(U:n.natAbs<=4000000000000000000)(P:d.natAbs<=4000000000000000000):aA prog 252 [.int .i64 n,.int .i64 d] (.str (bC (nE n d))):=by
 refine aM nf (i_ func252) mix (by simp[f252]) ?_;have f:¬n< -4000000000000000000:=o_
 have i:¬4000000000000000000<n:=o_
 have j:¬d< -4000000000000000000:=o_
 have k:¬4000000000000000000<d:=o_
 simp[f252,f,i,j,k,-bu];rw[bu];simp[f,i,j,k,-bu];rw[bu,bu];simp[f,i,j,k,-bu];refine join (fun st=>∃(b:Int)(d':Nat),0<d'/\b.natAbs<=4000000000000000000/\d'<=4000000000000000000/\nE b d'=nE n d/\aN st.env 0=.p (.int .i64 b)/\aN st.env 1=.p (.int .i64 (d':Nat))/\st.heap=[]) ?_ ?_
 ·have H:eb.wrap (-n)= -n:=aO _ o_ o_;have o:eb.wrap (-d)= -d:=aO _ o_ o_
  by_cases h:d<0
  ·simp[h,H,o,f,i,j,k];refine⟨-n,d.natAbs,o_,o_,o_,?_,rfl,?_⟩
   ·rw[en o_];exact nk _ _
   ·rw[en o_]
  ·have J:((d.natAbs:Nat):Int)=d:=et o_;simp[h,f,i,j,k];exact⟨n,d.natAbs,o_,o_,o_,by rw[J],rfl,by rw[J]⟩
 rintro⟨W,X⟩ ⟨b,d',k1,k2,k3,k4,r,s,K⟩;dsimp only at r s K;subst K;rw[<-k4,show nE b d'=m6 b d' from rfl];clear k4 U P O f i j k;obtain⟨x,D⟩:=mb (n:=b) (show d'≠0 by omega);obtain⟨g,l⟩:∃g,js b.natAbs d'=g:=⟨_,rfl⟩
 have F:0<g:=by rw[<-l];exact kd _ k1
 rw[l]at x D;have I:=air b.natAbs d' o_ o_;rw[l]at I;have T:(if b< -b then -b else b)=(b.natAbs:Nat):=by split<;>omega
 have H:eb.wrap (-b)= -b:=aO _ o_ o_;have z:b.tdiv g=(m6 b d').num:=by rw[x,W8 F (by rw[<-l];exact li _ _)]
 have A:(d':Int).tdiv g=(d'/g:Nat):=by rw[ej (ee _),er]
 have V:(m6 b d').num.natAbs<=4000000000000000000:=by
  have R:(g:Int)∣b:=by rw[<-l];exact eL.2 (li _ _)
  obtain⟨c,hc⟩:=R;have S:(g:Int)≠0:=o_
  rw[x,hc,ez _ S];rw[hc,ew,ed]at k2;exact h9 (l4 _ F) k2
 have Q:d'/g<=4000000000000000000:=h9 (kk _ _) k3;have ac:0<d'/g:=by
  refine j8 ?_ F;rw[<-l];exact le _ k1
 have M:bC (m6 b d')=if d'/g=1 then bn (m6 b d').num else bn (m6 b d').num++47::bd (d'/g):=by rw[bC,D]
 rw[M];clear M x D;generalize (m6 b d').num=a at*;generalize ad:d'/g=q at*;have y:¬g=0:=o_
 have u:=yJ a.natAbs 1 o_ (by decide);have E:=yJ q 1 o_ (by decide);have Y:(bd a.natAbs).length<=19:=vy (ih V (by decide)) (by decide);have Z:(bd q).length<=19:=vy (ih Q (by decide)) (by decide);rw[show low (max 1 (nd a.natAbs)) a.natAbs=bd a.natAbs from rfl]at u;rw[show low (max 1 (nd q)) q=bd q from rfl]at E;have ab:(if a< -a then -a else a)=(a.natAbs:Nat):=by split<;>omega
 have o:eb.wrap (-a)= -a:=aO _ o_ o_;have B:eb.wrap a=a:=aO _ o_ o_;have C:eb.wrap (q:Int)=q:=aO _ o_ o_;simp[r,s,H,T];refine c2 I ?_;have L:(1:Int)<q↔¬q=1:=o_
 have N:eb.wrap 1=1:=rfl;have aa:(bd a.natAbs).length<9223372036854775808:=o_
 by_cases m:a<0
 ·have G:bn a=45::bd a.natAbs:=by rw[bn,if_pos m]
  rw[G];have w:a< -a:=o_
  have v:-a=(a.natAbs:Nat):=o_
  by_cases e:q=1
  ·simp[r,s,y,z,A,B,C,m,o,w,e];rw[v];refine c2 u ?_;simp[e,N];omega
  ·have t:=L.2 e;simp[r,s,y,z,A,B,C,m,o,w,e,t];rw[v];refine c2 u ?_;simp[e,t];refine⟨o_,o_,?_⟩;refine c2 E ?_;simp;omega
 ·have G:bn a=bd a.natAbs:=by rw[bn,if_neg m]
  rw[G];have v:a=(a.natAbs:Nat):=o_
  have w:¬a< -a:=o_
  by_cases e:q=1
  ·simp[r,s,y,z,A,B,C,m,o,w,e];rw[show PV.int .i64 a=.int .i64 (a.natAbs:Nat)by rw[<-v]];refine c2 u ?_;simp[e,N];omega
  ·have t:=L.2 e;simp[r,s,y,z,A,B,C,m,o,w,e,t];rw[show PV.int .i64 a=.int .i64 (a.natAbs:Nat)by rw[<-v]];refine c2 u ?_;simp[e,t];refine⟨o_,o_,?_⟩;refine c2 E ?_;simp;omega
theorem DY(n:Int)(a:-9223372036854775808<=n)(b:n<=9223372036854775807):aA prog 158 [.int .i64 n] (.str (bC (n:Rat))):=by
 have e:=OQ n a b;have d:=DP n (by
  have c:n.natAbs<bT^3:=by
   have:bT^3=1000000000000000000000000000:=by decide
   omega
  have:=dO bc 3 _ c;omega)
 have hq:bC (n:Rat)=bn n:=by rw[bC,if_pos (nn n),nl]
 rw[hq];refine aM nf (i_ func158) mix (by simp[f158]) ?_;simp[f158];refine c1 e ?_;simp;refine c1 d ?_;simp
theorem ajY(s:List Nat)(C:(bF s).all b9=true)(J:(bU s).all b9=true)(hl:s.length<=1000000):
 ∃(n d:Int)(b:Bool),aA prog 251 [.str s] (.aE [.int .i64 n,.int .i64 d,.bool b])/\(b=true->n=kG s/\d=(iZ s:Nat)/\n.natAbs<1000000000/\iZ s<1000000000):=by
 by_cases K:20<s.length
 ·refine⟨0,0,false,?_,fun h=>by cases h⟩;refine aM nf (i_ func251) mix (by simp[f251]) ?_;have m:(20:Int)<s.length:=by omega
  simp[f251,m]
 obtain⟨d,l⟩:∃d,bS s=d:=⟨_,rfl⟩
 obtain⟨neg,g⟩:∃neg,bQ s=neg:=⟨_,rfl⟩
 have ai:d.length<=s.length:=by rw[<-l];exact(py s).1
 have i:=wu d o_;have A:(bP 47 d).1=bF s:=by rw[<-l];rfl
 have N:(bP 47 d).2.1=bU s:=by rw[<-l];rfl
 have P:(bP 47 d).2.2=eh s:=by rw[<-l];rfl
 have q:=mv 47 d;rw[A,N,P]at q;rw[A]at i;obtain⟨k,hk⟩:∃k,(bF s).length=k:=⟨_,rfl⟩
 rw[hk]at i;have Q:k<=d.length:=by rw[<-hk,<-A];exact(tF 47 d).1
 have m:¬(20:Int)<s.length:=o_
 obtain⟨b,o⟩:∃b:Bool,b=(decide (k<=9)&&decide (d.length-k<=10)):=⟨_,rfl⟩
 have M:b=true->(kG s).natAbs<1000000000/\iZ s<1000000000:=fun h=>by
  rw[o]at h;simp only[dk,decide_eq_true_eq]at h;have v:=jL _ (bF s) rfl C;rw[hk]at v;have ad:aY (bF s)<1000000000:=h7 v (h6 (n:=10) (by decide) h.1);refine⟨by rw[kG];split<;>omega,?_⟩;rcases q with⟨q1,f⟩|⟨q1,f,af⟩
  ·have W:(bU s).length<=9:=by
    have:=congrArg hB f;simp at this;omega
   have X:=jL _ (bU s) rfl J;rw[iZ,if_pos q1];exact h7 X (h6 (n:=10) (by decide) W)
  ·rw[iZ,q1,if_neg (by decide)];decide
 refine⟨if b=true then kG s else 0,if b=true then(iZ s:Nat)else 0,b,?_,fun h=>⟨if_pos h,if_pos h,by rw[if_pos h];exact(M h).1,(M h).2⟩⟩;refine aM nf (i_ func251) mix (by simp[f251]) ?_;simp[f251,-bu];rw[bu];simp[-bu];rw[bu];simp[-bu];rw[bu,bu];simp[m,-bu];refine join (fun st=>aN st.env 5=.p (.str s)/\aN st.env 6=.p (.bool neg)/\st.heap=[]) ?_ ?_
 ·clear K m;cases s with
  |nil=>simp[<-g,bQ]
  |cons c r=>
   by_cases hc:c=45
   ·simp[<-g,bQ,hc]
   ·have aa:¬(c:Int)=45:=by omega
    simp[<-g,bQ,hc,aa]
 rintro⟨U,ab⟩ ⟨e,a,u⟩;dsimp only at e a u;subst u;refine join (fun st=>aN st.env 5=.p (.str d)/\aN st.env 6=.p (.bool neg)/\st.heap=[]) ?_ ?_
 ·cases t:neg with
  |false=>
   have F:s=d:=by rw[<-l,bS,g,t];rfl
   simp[e,a,t,F]
  |true=>
   clear i q hk N A P K m o;cases s with
   |nil=>simp[bQ]at g;rw[t]at g;cases g
   |cons c r=>
    have F:r=d:=by rw[<-l,bS,g,t];rfl
    simp[e,a,t,F]
 clear e a;rintro⟨U,ab⟩ ⟨e,a,u⟩;dsimp only at e a u;subst u;have ah:eb.wrap ((k:Int)+1)=(k:Int)+1:=aO _ o_ o_;have G:eb.wrap ((d.length:Int)-k)=(d.length:Int)-k:=aO _ o_ o_;have ag:((k:Int)+1).toNat=k+1:=o_
 have ae:kG s=if neg=true then -(aY (bF s):Int)else aY (bF s):=by rw[kG,g]
 rw[ae];rcases ik 9 k with D|D
 ·have Y:¬k<=9:=by omega
  have j:(9:Int)<k:=o_
  have E:b=false:=by rw[o];simp[Y]
  simp[e,a];refine c1 i ?_;simp[e,a,j,E]
 rcases ik 10 (d.length-k)with I|I
 ·have V:¬d.length-k<=10:=by omega
  have j:¬(9:Int)<k:=o_
  have x:(10:Int)<(d.length:Int)-k:=o_
  have E:b=false:=by rw[o];simp[V]
  simp[e,a];refine c1 i ?_;simp[e,a,j,x,G,E]
 have j:¬(9:Int)<k:=o_
 have x:¬(10:Int)<(d.length:Int)-k:=o_
 have y:b=true:=by rw[o];simp[D,I]
 have R:d.take k=bF s:=by
  rcases q with⟨_,f⟩|⟨_,f,_⟩
  ·rw[f,<-hk];simp
  ·rw[<-f,<-hk];simp
 have L:=zn (bF s) C o_;have v:=jL _ (bF s) rfl C;rw[hk]at v;have ad:aY (bF s)<1000000000:=h7 v (h6 (n:=10) (by decide) D);rcases q with⟨q1,f⟩|⟨q1,f,af⟩
 ·have z:k<d.length:=by rw[f];simp;omega
  have O:d.drop (k+1)=bU s:=by
   conv=>lhs;rw[f,<-hk]
   simp
  have aj:(bU s).length<=9:=by rw[<-O,hp];omega
  have Z:=zn (bU s) J o_;have B:iZ s=aY (bU s):=by rw[iZ,if_pos q1]
  rw[B];generalize aY (bU s)=ak at*;generalize aY (bF s)=w at*;have H:eb.wrap (-(w:Int))= -(w:Int):=aO _ o_ o_;clear f;simp[e,a];refine c1 i ?_;have S:(0:Int)<=k+1:=o_
  have ac:k+1<=d.length:=z;have T:(k:Int)+1<=d.length:=o_
  simp[e,a,j,x,G,y,Q,R];refine c1 L ?_;cases neg<;>
  ·simp[e,a,z,ac,ah,ag,O,S,T];refine c1 Z ?_;simp[a,H,y]
 ·have z:¬k<d.length:=by rw[<-f,hk];omega
  have B:iZ s=1:=by rw[iZ,q1];rfl
  rw[B];generalize aY (bF s)=w at*;have H:eb.wrap (-(w:Int))= -(w:Int):=aO _ o_ o_;simp[e,a];refine c1 i ?_;simp[e,a,j,x,G,y,Q,R];refine c1 L ?_;cases neg<;>simp[e,a,z,H,y]
theorem CC{n k:Nat}(h:n<2^k):(ar bT n).length<=k/29+1:=by
 refine dO bc _ _ (h7 h ?_);have a:2^29<=bT:=by decide
 refine h9 ?_ (ll a _);rw[<-lb];exact h6 (by decide) o_
theorem N6(q:Rat):kG (bC q)=q.num:=by
 obtain⟨a,b,_,_⟩:=vM q;rw[kG,a,b,pT]
 by_cases h:q.num<0
 ·rw[if_pos (by simpa using h)];omega
 ·rw[if_neg (by simpa using h)];omega
theorem On(q:Rat):iZ (bC q)=q.den:=by
 obtain⟨_,_,a,b⟩:=vM q;rw[iZ,a,b]
 by_cases h:q.den=1
 ·rw[if_neg (by simpa using h),h]
 ·rw[if_pos (by simpa using h),if_neg h,pT]
theorem A5(q:Rat):(bF (bC q)).all b9=true/\(bU (bC q)).all b9=true:=by
 obtain⟨_,a,_,b⟩:=vM q;refine⟨by rw[a];exact qc _,?_⟩;rw[b];split
 ·rfl
 ·exact qc _
theorem qU{q:Rat}(h:cj kB q):(bC q).length<=1000000:=by
 have a:(bd q.num.natAbs).length<=33334:=ED (K:=kB) (k:=33334) h.1 (by decide) (by decide);have b:(bd q.den).length<=33334:=ED (K:=kB) (k:=33334) h.2 (by decide) (by decide);have:=aMm q;omega
theorem zb(q:Rat)(h:cj kB q):∃(n d:Int)(b:Bool),aA prog 251 [.str (bC q)] (.aE [.int .i64 n,.int .i64 d,.bool b])/\(b=true->n=q.num/\d=(q.den:Nat)/\n.natAbs<1000000000/\q.den<1000000000):=by
 have:=ajY (bC q) (A5 q).1 (A5 q).2 (qU h)
 rwa [N6,On]at this
theorem yI(q:Rat)(h:cj kB q):aA prog 229 [.str (bC q)] (.aE [eG q.num,eG (q.den:Nat)]):=by
 have:=MS (bC q) (A5 q).1 (A5 q).2 (qU h)
 rwa [N6,On]at this
theorem axB(a b:Rat):nE (a.num*b.den+b.num*a.den) (a.den*b.den)=a+b:=by
 rw[Rat.add_def'];rfl
theorem axC(a b:Rat):nE (a.num*b.num) (a.den*b.den)=a*b:=by
 rw[Rat.mul_def,Rat.normalize_eq_mkRat];rfl
theorem Qe(a b:Rat):((a.den:Nat):Int)*(b.den:Nat)≠0:=by
 have c:=a.den_pos;have d:=b.den_pos;exact Int.ne_of_gt (Int.mul_pos o_ o_)
theorem wV{x y:Int}(hx:x.natAbs<1000000000)(a:y.natAbs<1000000000):(x*y).natAbs<=999999998000000001:=by
 rw[ew];exact kt (show x.natAbs<=999999999 by omega) (show y.natAbs<=999999999 by omega)
theorem vG{x y:Int}(hx:x.natAbs<2^kB)(a:y.natAbs<2^kB):(ar bT (x*y).natAbs).length<=10000:=by
 have h:=CC (n:=(x*y).natAbs) (k:=kB+kB) (by rw[ew,j3];exact j9 hx a);exact h9 h (by decide)
theorem mZ{x:Nat}(hx:x<2^kB):(ar bT x).length<=10000:=h9 (CC hx) (by decide)
theorem QF(a b:Rat)(h:cj kB a)(i:cj kB b):aA prog 188 [.str (bC a),.str (bC b)] (.str (bC (a+b))):=by
 obtain⟨n,d,p,A,E⟩:=zb a h;obtain⟨m,e,r,B,F⟩:=zb b i;have t:=yI a h;have u:=yI b i;refine aM nf (i_ func188) mix (by simp[f188]) ?_;rw[<-axB];have z:=Qe a b
 by_cases j:p=true/\r=true
 ·obtain⟨rfl,rfl,k1,k2⟩:=E j.1;obtain⟨rfl,rfl,k3,k4⟩:=F j.2;have O:=wV k1 (show((b.den:Nat):Int).natAbs<1000000000 by rw[ed];exact k4);have P:=wV k3 (show((a.den:Nat):Int).natAbs<1000000000 by rw[ed];exact k2);have Q:=wV (show((a.den:Nat):Int).natAbs<1000000000 by rw[ed];exact k2) (show((b.den:Nat):Int).natAbs<1000000000 by rw[ed];exact k4);have C:=QO (a.num*b.den+b.num*a.den) (a.den*b.den) z o_ o_;have H:eb.wrap (a.num*(b.den:Nat))=a.num*(b.den:Nat):=aO _ o_ o_;have I:eb.wrap (b.num*(a.den:Nat))=b.num*(a.den:Nat):=aO _ o_ o_;have J:eb.wrap (a.num*(b.den:Nat)+b.num*(a.den:Nat))=a.num*(b.den:Nat)+b.num*(a.den:Nat):=aO _ o_ o_;have K:eb.wrap (((a.den:Nat):Int)*(b.den:Nat))=((a.den:Nat):Int)*(b.den:Nat):=aO _ o_ o_;have g:p=true:=j.1;have q:r=true:=j.2;simp[f188];refine c1 A ?_;simp;refine c1 B ?_;simp[g,q,H,I,J,K];refine c2 C ?_;simp
 ·have l:a.num.natAbs<2^kB:=h.1;have o:b.num.natAbs<2^kB:=i.1;have c:((a.den:Nat):Int).natAbs<2^kB:=by rw[ed];exact h.2
  have f:((b.den:Nat):Int).natAbs<2^kB:=by rw[ed];exact i.2
  have w:=wo a.num (b.den:Nat) (by have:=mZ l;have:=mZ f;omega);have x:=wo b.num (a.den:Nat) (by have:=mZ o;have:=mZ c;omega);have y:=wo (a.den:Nat) (b.den:Nat) (by have:=mZ c;have:=mZ f;omega);have L:=vG l f;have M:=vG o c;have N:=vG c f;have v:=ajN (a.num*(b.den:Nat)) (b.num*(a.den:Nat)) o_ o_;have G:(ar bT (a.num*(b.den:Nat)+b.num*(a.den:Nat)).natAbs).length<=400000:=by
   refine h9 (CC (k:=kB+kB+1) ?_) (by decide);have q1:(a.num*(b.den:Nat)).natAbs<2^(kB+kB):=by rw[ew,j3];exact j9 l f
   have R:(b.num*(a.den:Nat)).natAbs<2^(kB+kB):=by rw[ew,j3];exact j9 o c
   rw[ix];omega
  have s:=JK (a.num*(b.den:Nat)+b.num*(a.den:Nat)) ((a.den:Nat)*(b.den:Nat)) z G o_;simp[f188];refine c1 A ?_;simp;refine c1 B ?_;have D:(p=false)\/(p=true/\r=false):=by cases p<;>cases r<;>simp_all
  rcases D with g|⟨g,q⟩
  ·simp[g];refine c1 t ?_;simp[ad];refine c1 u ?_;simp[ad];refine e2 w ?_;simp[ad];refine e2 x ?_;simp[ad];refine e2 v ?_;simp[ad];refine e2 y ?_;simp[ad];refine e2 s ?_;simp
  ·simp[g,q];refine c1 t ?_;simp[ad];refine c1 u ?_;simp[ad];refine e2 w ?_;simp[ad];refine e2 x ?_;simp[ad];refine e2 v ?_;simp[ad];refine e2 y ?_;simp[ad];refine e2 s ?_;simp
theorem zF(a b:Rat)(f:cj kB a)(g:cj kB b):aA prog 189 [.str (bC a),.str (bC b)] (.str (bC (a*b))):=by
 obtain⟨n,d,p,x,B⟩:=zb a f;obtain⟨m,e,r,y,C⟩:=zb b g;have s:=yI a f;have t:=yI b g;refine aM nf (i_ func189) mix (by simp[f189]) ?_;rw[<-axC];have w:=Qe a b
 by_cases h:p=true/\r=true
 ·obtain⟨rfl,rfl,k1,k2⟩:=B h.1;obtain⟨rfl,rfl,k3,k4⟩:=C h.2;have H:=wV k1 k3;have I:=wV (show((a.den:Nat):Int).natAbs<1000000000 by rw[ed];exact k2) (show((b.den:Nat):Int).natAbs<1000000000 by rw[ed];exact k4);have z:=QO (a.num*b.num) (a.den*b.den) w o_ o_;have D:eb.wrap (a.num*b.num)=a.num*b.num:=aO _ o_ o_;have E:eb.wrap (((a.den:Nat):Int)*(b.den:Nat))=((a.den:Nat):Int)*(b.den:Nat):=aO _ o_ o_;have c:p=true:=h.1;have i:r=true:=h.2;simp[f189];refine c1 x ?_;simp;refine c1 y ?_;simp[c,i,D,E];refine c2 z ?_;simp
 ·have j:a.num.natAbs<2^kB:=f.1;have l:b.num.natAbs<2^kB:=g.1;have k:((a.den:Nat):Int).natAbs<2^kB:=by rw[ed];exact f.2
  have o:((b.den:Nat):Int).natAbs<2^kB:=by rw[ed];exact g.2
  have u:=wo a.num b.num (by have:=mZ j;have:=mZ l;omega);have v:=wo (a.den:Nat) (b.den:Nat) (by have:=mZ k;have:=mZ o;omega);have F:=vG j l;have G:=vG k o;have q:=JK (a.num*b.num) ((a.den:Nat)*(b.den:Nat)) w o_ o_;simp[f189];refine c1 x ?_;simp;refine c1 y ?_;have A:(p=false)\/(p=true/\r=false):=by cases p<;>cases r<;>simp_all
  rcases A with c|⟨c,i⟩
  ·simp[c];refine c1 s ?_;simp[ad];refine c1 t ?_;simp[ad];refine e2 u ?_;simp[ad];refine e2 v ?_;simp[ad];refine e2 q ?_;simp
  ·simp[c,i];refine c1 s ?_;simp[ad];refine c1 t ?_;simp[ad];refine e2 u ?_;simp[ad];refine e2 v ?_;simp[ad];refine e2 q ?_;simp
theorem aKv{a:Rat}(h:a≠0):a.num≠0:=fun e=>h (Rat.num_eq_zero.1 e)
theorem OW(s:List Nat)(hl:s.length<=1048576):aA prog 194 [.str s] (.int .i64 (if s=[48]then 0 else if bQ s=true then -1 else 1)):=by
 refine aM nf (i_ func194) mix (by simp[f194]) ?_
 by_cases b:s=[48]
 ·simp[f194,b]
 ·cases s with
  |nil=>simp[f194,bQ]
  |cons c r=>
   by_cases hc:c=45
   ·simp[f194,bQ,hc]
   ·have e:¬(c:Int)=45:=by omega
    have d:¬(c=48/\r=[]):=fun h=>b (by rw[h.1,h.2])
    by_cases a:c=48
    ·have f:¬r=[]:=fun h=>d ⟨a,h⟩;simp[f194,bQ,a,f]
    ·simp[f194,bQ,hc,e,a]
theorem yT(q:Rat):q.num<0↔q<0:=by
 have h:=Ea q
 by_cases b:q<0
 ·rw[if_pos b]at h;refine⟨fun _=>b,fun _=>?_⟩
  by_cases a:q.num<0
  ·exact a
  ·rw[if_neg a]at h;split at h<;>omega
 ·refine⟨fun a=>?_,fun a=>(b a).elim⟩;rw[if_neg b,if_pos a]at h
  split at h<;>omega
def iF(q:Rat):Int:=if q<0 then -1 else if q=0 then 0 else 1
theorem aMr:bC 0=[48]:=by
 have h:bn 0=[48]:=by rw[show(0:Int)=((0:Nat):Int)from rfl,tj,ou]
 rw[bC,if_pos (show(0:Rat).den=1 from rfl)];exact h
theorem J1(q:Rat):bC q=[48]↔q=0:=by
 rw[<-aMr];exact⟨fun h=>aMl h,fun h=>by rw[h]⟩
theorem aLQ(q:Rat):(if bC q=[48]then(0:Int)else if bQ (bC q)=true then -1 else 1)=iF q:=by
 have e:=(vM q).1;have c:=J1 q;have d:q<0↔q.num<0:=(yT q).symm;rw[e,iF]
 by_cases b:q=0
 ·subst b;rw[if_pos (c.2 rfl),if_neg (by decide),if_pos rfl]
 ·rw[if_neg (fun h=>b (c.1 h))]
  by_cases a:q<0
  ·rw[if_pos (by simpa using d.1 a),if_pos a]
  ·rw[if_neg (by simpa using fun h=>a (d.2 h)),if_neg a,if_neg b]
theorem zp(q:Rat)(h:cj kB q):aA prog 194 [.str (bC q)] (.int .i64 (iF q)):=by
 have:=OW (bC q) (by have:=qU h;omega)
 rwa [aLQ]at this
theorem OZ{q:Rat}(h:q<0):bC q=45::bC (-q):=by
 have a:q.num<0:=(yT q).2 h;have e1:bn q.num=45::bd q.num.natAbs:=by rw[bn,if_pos a]
 have e2:bn (-q).num=bd q.num.natAbs:=by rw[n0,bn,if_neg o_,e7]
 rw[bC,bC,Rat.neg_den,e1,e2]
 split<;>rfl
theorem aeT(q:Rat)(h:cj kB q):aA prog 111 [.str (bC q)] (.str (bC (-q))):=by
 have a:=zp q h;have f:=qU h;refine aM nf (i_ func111) mix (by simp[f111]) ?_
 by_cases b:q<0
 ·have hs:iF q= -1:=by rw[iF,if_pos b]
  rw[hs]at a;have c:=OZ b;rw[c]at a f⊢;simp[f111];refine c1 a ?_;simp
 ·by_cases d:q=0
  ·have hs:iF q=0:=by rw[iF,if_neg b,if_pos d]
   rw[hs]at a;have hq:-q=q:=by rw[d];rfl
   rw[hq];simp[f111];refine c1 a ?_;simp;refine c1 a ?_;simp
  ·have hs:iF q=1:=by rw[iF,if_neg b,if_neg d]
   rw[hs]at a;have e:-q<0:=by
    rw[<-yT,n0];have g:¬q.num<0:=fun h=>b ((yT q).1 h);have i:=aKv d;omega
   have c:=OZ e;rw[Rat.neg_neg]at c;rw[c];have j:(bC q).length+1<9223372036854775808:=o_
   simp[f111];refine c1 a ?_;simp;refine c1 a ?_;simp;omega
theorem zE(a b:Rat)(f:cj kB a)(d:cj kB b):aA prog 104 [.str (bC a),.str (bC b)] (.str (bC (a-b))):=by
 have e:=aeT b d;have c:=QF a (-b) f (CH d);rw[<-Rat.sub_eq_add_neg]at c;refine aM nf (i_ func104) mix (by simp[f104]) ?_;simp[f104];refine c1 e ?_;simp;refine c2 c ?_;simp
theorem aLP(a b:Rat):iF (a-b)=eU a b:=by
 have d:a-b<0↔a<b:=by
  rw[<-n1,<-n1,<-Rat.le_iff_sub_nonneg]
 have e:a-b=0↔a=b:=by
  constructor
  ·intro h;have f:a-b+b=0+b:=by rw[h]
   rwa [m7,m9]at f
  ·rintro rfl;exact nz
 rw[iF,eU]
 by_cases h:a<b
 ·rw[if_pos (d.2 h),if_pos h]
 ·rw[if_neg (fun x=>h (d.1 x)),if_neg h]
  by_cases c:a=b
  ·rw[if_pos (e.2 c),if_pos c]
  ·rw[if_neg (fun x=>c (e.1 x)),if_neg c]
theorem uY(a b:Rat)(d:cj (kB/3) a)(e:cj (kB/3) b):aA prog 155 [.str (bC a),.str (bC b)] (.int .i64 (eU a b)):=by
 have f:=zE a b (d.mono (by decide)) (e.mono (by decide));have c:=zp (a-b) ((yw d e).mono (by decide));rw[aLP]at c;refine aM nf (i_ func155) mix (by simp[f155]) ?_;simp[f155];refine c2 f ?_;simp;refine c1 c ?_;simp
theorem QI{a b:Nat}(h:a<=b):10^a<=10^b:=h6 (by decide) h
theorem QH{s:List Nat}{k:Nat}(h:s.length<=k)(a:s.all b9=true):aY s<10^k:=h7 (jL _ s rfl a) (QI h)
theorem aKM{x a b:Nat}(hx:x<10^a)(h:a<=9*b):(ar bT x).length<=b:=dO bc b x (h7 hx (by
 rw[show bT^b=10^(9*b)by rw[lb];rfl];exact QI h))
theorem ZJ(s:List Nat)(hl:s.length<=1048576):aA prog 280 [.str s] (.bool (s.all b9)):=by
 refine aM nf (i_ func280) mix (by simp[f280]) ?_;obtain⟨k,hk,n,o⟩:=CS (fun j=>b9 (s[j]?.getD 0)) s.length;have e:∀j(h:j<s.length),s[j]?.getD 0=s[j]:=fun j h=>by rw[gi h];rfl
 have B:s.all b9=decide (k=s.length):=by
  rcases o with h|⟨a,b⟩
  ·rw[h,decide_eq_true rfl,gy];intro x hx;obtain⟨j,A,rfl⟩:=hO hx;have:=n j o_
   rwa [e j A]at this
  ·rw[decide_eq_false o_];rw[e k a]at b
   by_cases m:s.all b9=true
   ·have:=gy.1 m _ (g4 a);rw[this]at b;cases b
   ·simpa using m
 rw[B];simp[f280];refine lp (α:=Nat) (fun i=>⟨[(3,.p (.int .i64 i)),(0,.p (.str s))],[]⟩)
  (fun i=>i<=k) (fun i=>k-i) 0 (j5 _) ?_
 intro i hi;have C:eb.wrap ((i:Int)+1)=(i:Int)+1:=aO _ o_ o_
 by_cases y:i<k
 ·have l:i<s.length:=by omega
  have q:=n i y;rw[e i l]at q;have D:=zz q;generalize d:s[i]=c at*;have f:s[i]?=some c:=by rw[gi l,d]
  have a:¬(c:Int)<48:=o_
  have b:¬(57:Int)<c:=o_
  have t:¬c<48:=o_
  have u:¬57<c:=o_
  simp[l,d,f,a,b,t,u,C];exact rd (i+1) (show i+1<=k by omega)
 ·have z:i=k:=by omega
  subst z;rcases o with h|⟨a,b⟩
  ·simp[h]
  ·rw[e i a]at b;have r:¬i=s.length:=by omega
   generalize d:s[i]=c at*;have f:s[i]?=some c:=by rw[gi a,d]
   by_cases hc:c<48
   ·have g:(c:Int)<48:=by omega
    simp[a,d,f,hc,g,r]
   ·have v:57<c:=by
     simp only[b9,Bool.and_eq_false_iff,decide_eq_false_iff_not]at b;omega
    have g:¬(c:Int)<48:=o_
    have w:(57:Int)<c:=o_
    simp[a,d,f,hc,g,v,w,r]
theorem LG(s:List Nat)(hl:s.length<=1048576):aA prog 228 [.str s] (.bool (dx s)):=by
 have b:=ZJ s hl;refine aM nf (i_ func228) mix (by simp[f228]) ?_;cases s with
 |nil=>simp[f228,dx]
 |cons c r=>
  have j:(c:Int)=48↔c=48:=o_
  by_cases a:r=[]
  ·subst a;have e:dx [c]=[c].all b9:=by
    rw[dx]
    by_cases h:c=48
    ·subst h;rfl
    ·simp[h]
   rw[e];simp[f228];refine c1 b ?_;simp
  ·have d:0<r.length:=gm.2 a;have f:¬(r.length:Int)+1=0:=by omega
   have g:(1:Int)<r.length+1:=o_
   by_cases hc:c=48
   ·have e:dx (c::r)=false:=by rw[dx,hc];simp[a]
    rw[e];simp[f228,a,hc,d,f,g]
   ·have i:¬(c:Int)=48:=by omega
    have e:dx (c::r)=(c::r).all b9:=by rw[dx];simp[hc]
    rw[e];simp[f228,a,hc,i,d,f,g];refine c1 b ?_;simp
theorem wS(s:List Nat)(hs:jF s):aA prog 153 [.str s] (.int .i64 (bM s)):=by
 refine aM nf (i_ func153) mix (by simp[f153]) ?_;obtain⟨hl,aL⟩:=hs;obtain⟨d,S⟩:∃d,bS s=d:=⟨_,rfl⟩
 obtain⟨neg,A⟩:∃neg,bQ s=neg:=⟨_,rfl⟩
 have aS:d.length<=s.length:=by rw[<-S];exact(py s).1
 have T:=wu d o_;have Y:(bP 47 d).1=bF s:=by rw[<-S];rfl
 have W:(bP 47 d).2.1=bU s:=by rw[<-S];rfl
 have ah:(bP 47 d).2.2=eh s:=by rw[<-S];rfl
 have z:=mv 47 d;have F:=tF 47 d;rw[Y,W,ah]at z;rw[Y]at T F;rw[W]at F;obtain⟨k,hk⟩:∃k,(bF s).length=k:=⟨_,rfl⟩
 rw[hk]at T;have J:k<=d.length:=by rw[<-hk];exact F.1
 have aw:d.take k=bF s:=by
  rcases z with⟨_,G⟩|⟨_,G,_⟩
  ·rw[G,<-hk];simp
  ·rw[<-G,<-hk];simp
 have M:=LG (bF s) o_;have l:=LG (bU s) o_;simp[f153,-bu];rw[bu];simp[-bu];rw[bu];simp[-bu];refine join (fun st=>aN st.env 0=.p (.str s)/\aN st.env 3=.p (.str d)/\st.heap=[]) ?_ ?_
 ·cases aj:neg with
  |false=>
   have av:s=d:=by rw[<-S,bS,A,aj];rfl
   clear T z hk W Y ah aw M l F J;subst av;cases s with
   |nil=>simp
   |cons c r=>
    rw[aj]at A;have hc:¬c=45:=fun h=>by rw[h]at A;simp[bQ]at A
    have an:¬(c:Int)=45:=o_
    simp[hc,an]
  |true=>
   clear T z hk W Y ah aw M l F J;cases s with
   |nil=>simp[bQ]at A;rw[aj]at A;cases A
   |cons c r=>
    have av:r=d:=by rw[<-S,bS,A,aj];rfl
    rw[aj]at A;have hc:c=45:=by simpa[bQ]using A
    simp[hc,av]
 rintro⟨aH,aV⟩ ⟨w,e,ak⟩;dsimp only at w e ak;subst ak;have ag:nu s=(dx (bF s)&&!(neg&&decide (bF s=[48]))&&(!eh s||(dx (bU s)&&decide (bU s≠[48])&&decide (bU s≠[49])))):=by rw[nu,A]
 have a6:d.length<=1048576:=o_
 have V:(bF s).all b9=true->(bU s).all b9=true->eh s=true->0<k->d.length<=1000000->aA prog 229 [.str d] (.aE [eG (aY (bF s):Nat),eG (aY (bU s):Nat)]):=fun y O ax aD aZ=>by
  have al:bQ d=false/\bS d=d:=by
   have aG:bQ d=false:=by
    rcases z with⟨_,G⟩|⟨q1,_⟩
    ·cases X:bF s with
     |nil=>rw[X]at hk;simp at hk;omega
     |cons c r=>
      rw[X]at G y;have:=zz (gy.1 y c s_);rw[G,bQ];simp;omega
    ·rw[ax]at q1;cases q1
   exact⟨aG,by rw[bS,aG];rfl⟩
  have e1:bF d=bF s:=by rw[bF,al.2,Y]
  have e2:bU d=bU s:=by rw[bU,al.2,W]
  have e3:eh d=true:=by rw[eh,al.2,ah];exact ax
  have:=MS d (by rw[e1];exact y) (by rw[e2];exact O) aZ;rw[kG,iZ,e1,e2,al.1,if_pos e3]at this;exact this
 rw[bM];generalize nu s=N at*;generalize bF s=v at*;generalize bU s=f at*;generalize eh s=fr at*;have U:g0 k d=v:=aw
 by_cases K:dx v=true
 ·have aD:0<k:=by
   rw[<-hk,gm];intro h;rw[h]at K;cases K
  obtain⟨c,r,hs⟩:∃c r,s=c::r:=by
   cases s with
   |nil=>
    have:d.length<=0:=by simpa using aS
    omega
   |cons c r=>exact⟨c,r,rfl⟩
  have ao:c=45↔neg=true:=by rw[<-A,hs];simp[bQ]
  have an:(c:Int)=45↔c=45:=o_
  rw[K]at M;clear aL hl S A Y W ah
  by_cases P:neg=true/\v=[48]
  ·have hf:N=false:=by rw[ag,P.1,P.2];simp
   have aR:=ao.2 P.1;rw[if_pos hf];clear z F l V ao an;subst hs aR;have X:=P.2;simp[w,e];refine c1 T ?_;simp[w,e,J,U];refine c1 M ?_;simp[w,e,J,U,X]
  ·subst hs;rw[bu];simp[w,e,-bu];refine c1 T ?_;simp[w,e,-bu];refine join (fun st=>aN st.env 3=.p (.str d)/\aN st.env 4=.p (.int .i64 k)/\st.heap=[]) ?_ ?_
   ·by_cases y:c=45
    ·have X:¬v=[48]:=fun h=>P ⟨ao.1 y,h⟩;subst y;clear z F l V;simp[w,e,J,U];refine c1 M ?_;simp[w,e,J,U,X]
    ·have aI:¬(c:Int)=45:=by omega
     clear z F l V;simp[w,e,J,U];refine c1 M ?_;simp[w,e,J,U,y,aI]
   clear w e;rintro⟨aH,aV⟩ ⟨e,j,ak⟩;dsimp only at e j ak;subst ak;cases ai:fr with
   |false=>
    have i:k=d.length:=by
     rcases z with⟨q1,_⟩|⟨_,G,_⟩
     ·rw[ai]at q1;cases q1
     ·rw[<-hk,G]
    have aE:¬k<d.length:=o_
    have aT:f=[]:=by
     rcases z with⟨q1,_⟩|⟨_,_,a3⟩
     ·rw[ai]at q1;cases q1
     ·exact a3
    have hf:N=true:=by
     rw[ag,K,ai];simp
     by_cases y:neg=true
     ·exact .inr fun O=>P ⟨y,O⟩
     ·exact .inl (by simpa using y)
    have Z:eb.wrap ((d.length:Int)-k)=0:=by rw[i,fm];rfl
    have aa:eb.wrap (-1)= -1:=rfl;rw[hf,hk,aT];clear z F l V
    by_cases I:600<k
    ·have B:¬(k:Int)<=600:=by omega
     have C:¬k<=600:=o_
     have D:(600:Int)<k:=o_
     simp[e,j,aE,I,B,C,D]
    ·have B:(k:Int)<=600:=by omega
     have C:k<=600:=o_
     have D:¬(600:Int)<k:=o_
     simp[e,j,aE,I,B,C,D,Z,aa]
   |true=>
    rw[ai]at ag V;have au:d=v++47::f:=by
     rcases z with⟨_,G⟩|⟨q1,_⟩
     ·exact G
     ·rw[ai]at q1;cases q1
    have i:k<d.length:=by rw[au];simp;omega
    have q:d.drop (k+1)=f:=by
     conv=>lhs;rw[au,<-hk]
     simp
    have a7:d.length=k+1+f.length:=by rw[au];simp;omega
    have u:eb.wrap ((k:Int)+1)=(k:Int)+1:=aO _ o_ o_;have t:((k:Int)+1).toNat=k+1:=o_
    have m:(0:Int)<=k+1:=o_
    have n:(k:Int)+1<=d.length:=o_
    have o:k+1<=d.length:=i;clear z F;have af:N=(dx f&&decide (f≠[48])&&decide (f≠[49])):=by
     rw[ag,K];have:(neg&&decide (v=[48]))=false:=by
      by_cases y:neg=true
      ·have:¬v=[48]:=fun O=>P ⟨y,O⟩;simp[this]
      ·have:neg=false:=by simpa using y
       rw[this];rfl
     rw[this];simp
    by_cases ap:N=true
    ·rw[ap]at af;have aW:¬N=false:=by rw[ap];decide
     rw[if_neg aW];have aK:dx f=true/\¬f=[48]/\¬f=[49]:=by
      have:=af.symm;simp only[dk,decide_eq_true_eq]at this;exact⟨this.1.1,this.1.2,this.2⟩
     obtain⟨L,H,E⟩:=aK;rw[L]at l;rw[hk];have Z:eb.wrap ((d.length:Int)-k)=(d.length:Int)-k:=aO _ o_ o_;have aa:eb.wrap ((d.length:Int)-k-1)=f.length:=by rw[aO _ o_ o_];omega
     by_cases I:600<k
     ·have B:¬(k:Int)<=600:=by omega
      have C:¬k<=600:=o_
      have D:(600:Int)<k:=o_
      simp[e,j,i,u,t,m,n,o,q];refine c1 l ?_;simp[e,j,i,u,t,m,n,o,q,H,E,I,B,C,D]
     by_cases ab:600<f.length
     ·have B:(k:Int)<=600:=by omega
      have C:k<=600:=o_
      have D:¬(600:Int)<k:=o_
      have ac:(600:Int)<f.length:=o_
      simp[e,j,i,u,t,m,n,o,q];refine c1 l ?_;simp[e,j,i,u,t,m,n,o,q,H,E,I,B,C,D,Z,aa,ab,ac]
     have B:(k:Int)<=600:=o_
     have C:k<=600:=o_
     have D:¬(600:Int)<k:=o_
     have ac:¬(600:Int)<f.length:=o_
     have R:=V (jk K) (jk L) rfl aD o_;have aU:=vT L H;have a1:v.length<=700:=o_
     have a2:f.length<=700:=o_
     have aP:aY v<10^700:=QH (s:=v) (k:=700) a1 (jk K);have aQ:aY f<10^700:=QH (s:=f) (k:=700) a2 (jk L);have aF:∀x:Nat,x<10^700->(ar bT x).length<=400000:=fun x hx=>h9 (aKM (a:=700) (b:=78) hx (by decide)) (by decide);have Q:=Mw (aY v) (aY f) (aF _ aP) (aF _ aQ);have aB:0<js (aY v) (aY f):=kd _ aU;generalize aY v=a5 at*;generalize aY f=a4 at*;obtain⟨g,am⟩:∃g,js a5 a4=g:=⟨_,rfl⟩
     simp only[am]at Q aB⊢;have a0:¬(600<k\/600<f.length):=fun h=>by rcases h with h|h;exact I h;exact ab h
     rw[if_neg a0];simp only[eG,ed]at R
     by_cases aq:g=1
     ·subst aq;have ae:ar bT 1=[1]:=n9 (by decide) (by decide);simp only[eT,ae]at Q R;simp[e,j,i,u,t,m,n,o,q];refine c1 l ?_;simp[e,j,i,u,t,m,n,o,q,H,E,I,B,C,D,Z,aa,ab,ac];refine c1 R ?_;simp[ad];refine c2 Q ?_;simp[am]
     ·by_cases aC:g<bT
      ·have ae:ar bT g=[g]:=n9 aB aC;have aX:¬(g:Int)=1:=by omega
       simp only[eT,ae]at Q R;simp[e,j,i,u,t,m,n,o,q];refine c1 l ?_;simp[e,j,i,u,t,m,n,o,q,H,E,I,B,C,D,Z,aa,ab,ac];refine c1 R ?_;simp[ad];refine c2 Q ?_;simp[aq,aX,am]
      ·have ae:¬((ar bT g).length:Int)=1:=by
        intro h;have O:(ar bT g).length=1:=o_
        have:=cq bc g;rw[O,la]at this;exact aC this
       simp only[eT]at Q R;simp[e,j,i,u,t,m,n,o,q];refine c1 l ?_;simp[e,j,i,u,t,m,n,o,q,H,E,I,B,C,D,Z,aa,ab,ac];refine c1 R ?_;simp[ad];refine c2 Q ?_;simp[aq,ae,am]
    ·have az:N=false:=by simpa using ap
     rw[if_pos az]
     by_cases L:dx f=true
     ·rw[L]at l
      by_cases H:f=[48]
      ·simp[e,j,i,u,t,m,n,o,q];refine c1 l ?_;simp[e,j,i,u,t,m,n,o,q,H]
      ·have E:f=[49]:=by
        rw[L]at af
        by_cases E:f=[49]
        ·exact E
        ·rw[az]at af;simp[H,E]at af
       simp[e,j,i,u,t,m,n,o,q];refine c1 l ?_;simp[e,j,i,u,t,m,n,o,q,E]
     ·have aJ:dx f=false:=by simpa using L
      rw[aJ]at l;simp[e,j,i,u,t,m,n,o,q];refine c1 l ?_;simp[e,j,i,u,t,m,n,o,q]
 ·have ay:dx v=false:=by simpa using K
  have hf:N=false:=by rw[ag,ay];rfl
  rw[if_pos hf];rw[ay]at M;simp[w,e];refine c1 T ?_;simp[w,e,J,U];refine c1 M ?_;simp[w,e]
theorem Wy(l:List (List Nat))(hl:l.length<=1000000)(hs:∀s∈l,jF s):aA prog 156 [.seq (l.map .str)] (.int .i64 (bI (l.map bM))):=by
 refine aM nf (i_ func156) mix (by simp[f156]) ?_;simp[f156];refine lp (α:=Nat) (fun i=>⟨[(3,.p (.int .i64 i)),(0,.p (.seq (l.map .str)))],[]⟩) (fun i=>i<=l.length/\bI ((l.drop i).map bM)=bI (l.map bM)) (fun i=>l.length-i) 0 s_ ?_;rintro i ⟨e,a⟩
 by_cases hi:i<l.length
 ·rw[g8 hi]at a;have d:=bY (i:=i) o_;have hc:=wS l[i] (hs _ (g4 hi));obtain⟨s,b⟩:∃s,l[i]=s:=⟨_,rfl⟩
  have c:l[i]?=some s:=by rw[gi hi,b]
  rw[b]at hc a;simp[hi,c,b];refine c1 hc ?_
  by_cases he:bM s=0
  ·simp[bI,he]at a;simp[he,d];exact rd (i+1) ⟨hi,by simpa using a⟩
  ·simp[bI,he]at a;simp[he,<-a]
 ·have:i=l.length:=by omega
  subst this;simp[bI]at a;simp[<-a]
theorem Jw(p:gZ)(a:qt p):aA prog 66 [fE p] (.int .i64 (dV p)):=by
 have hc:=Wy [p.x,p.y] s_ (by intro s hs;simp at hs;rcases hs with rfl|rfl;exact a.1;exact a.2);refine aM nf (i_ func66) mix (by simp[f66]) ?_;simp[f66,ad];refine cp hc (by simp;exact⟨rfl,rfl⟩) ?_;simp[dV]
theorem J2(z:Int):47∉bn z:=by
 rw[bn];split
 ·simp only[ho,not_or];exact⟨by decide,Bc (qc _) rfl⟩
 ·exact Bc (qc _) rfl
theorem Bp(q:Rat):(bP 47 (bC q)).1=bn q.num/\(q.den≠1->bC q=bn q.num++47::bd q.den)/\(q.den=1->bC q=bn q.num):=by
 by_cases h:q.den=1
 ·have e:bC q=bn q.num:=by rw[bC,if_pos h]
  refine⟨?_,fun a=>(a h).elim,fun _=>e⟩;rw[e,CN 47 _ (J2 _)]
 ·have e:bC q=bn q.num++47::bd q.den:=by rw[bC,if_neg h]
  refine⟨?_,fun _=>e,fun a=>(h a).elim⟩;rw[e,C3 47 _ _ (J2 _)]
theorem ae9(q:Rat)(h:cj kB q):aA prog 169 [.str (bC q)] (.str (bn q.num)):=by
 have i:=qU h;obtain⟨e,c,d⟩:=Bp q;have hs:=wu (bC q) o_;rw[e]at hs;have g:(bC q).take (bn q.num).length=bn q.num:=by
  by_cases b:q.den=1
  ·rw[d b];simp
  ·rw[c b];simp
 have f:(bn q.num).length<=(bC q).length:=by
  by_cases b:q.den=1
  ·rw[d b];exact i1 _
  ·rw[c b];simp
 refine aM nf (i_ func169) mix (by simp[f169]) ?_;generalize bn q.num=a at*;generalize bC q=s at*;simp[f169];refine c1 hs ?_;simp[g,f]
theorem aea(q:Rat)(h:cj kB q):aA prog 170 [.str (bC q)] (.str (bd q.den)):=by
 have d:=qU h;obtain⟨i,j,k⟩:=Bp q;have hs:=wu (bC q) o_;rw[i]at hs;refine aM nf (i_ func170) mix (by simp[f170]) ?_
 by_cases c:q.den=1
 ·have e:=k c;rw[c,aMk];rw[e]at hs⊢;generalize bn q.num=a at*;simp[f170];refine c1 hs ?_;simp
 ·have e:=j c;rw[e]at hs d⊢;generalize bn q.num=a at*;generalize bd q.den=b at*;simp only[g5,hA]at d;have m:¬(a.length:Int)=(a.length:Int)+(b.length+1):=by omega
  have p:eb.wrap ((a.length:Int)+1)=(a.length:Int)+1:=aO _ o_ o_;have o:((a.length:Int)+1).toNat=a.length+1:=o_
  have f:(0:Int)<=(a.length:Int)+1:=o_
  have g:(a.length:Int)+1<=(a.length:Int)+(b.length+1):=o_
  have l:hW (a.length+1) (a++47::b)=b:=s_
  have n:g0 (a.length+(b.length+1)) (a++47::b)=a++47::b:=gj s_;simp[f170];refine c1 hs ?_;simp[m,p,o,f,g,l,n]
theorem adY(z:Int)(h:(bn z).length<=1000000):aA prog 168 [.str (bn z)] (.str (bd z.natAbs)):=by
 have a:=OW (bn z) o_;have g:bQ (bn z)=decide (z<0):=by
  have:=(yO z []).1;rwa [hg]at this
 have f:bn z=[48]↔z=0:=by
  have e:bn z=bC (z:Rat):=by rw[bC,if_pos (nn z),nl]
  rw[e,J1]
  exact_mod_cast Iff.rfl
 refine aM nf (i_ func168) mix (by simp[f168]) ?_;rw[g]at a
 by_cases c:z<0
 ·have e:bn z=45::bd z.natAbs:=by rw[bn,if_pos c]
  rw[if_neg (fun x=>by have:=f.1 x;omega),if_pos (by simpa using c)]at a;rw[e]at a⊢;simp[f168];refine c1 a ?_;simp
 ·have e:bn z=bd z.natAbs:=by rw[bn,if_neg c]
  have b:∃v:Int,¬v<0/\aA prog 194 [.str (bn z)] (.int .i64 v):=by
   by_cases d:bn z=[48]
   ·rw[if_pos d]at a;exact⟨0,o_,a⟩
   ·rw[if_neg d,if_neg (by simpa using c)]at a;exact⟨1,o_,a⟩
  obtain⟨v,i,b⟩:=b;rw[e]at b⊢;simp[f168];refine c1 b ?_;simp[i]
def fK(s:List Nat)(D:Nat):Bool:=decide (s.length<=2*D+2)&&decide (bM s=0)&&decide ((bd (aZ s).num.natAbs).length<=D)&&decide ((bd (aZ s).den).length<=D)
theorem arE{s:List Nat}(h:bM s=0):cj kB (aZ s):=by
 obtain⟨b,c⟩:=GU h;have a:(10:Nat)^mD<=2^kB:=h9 (NG mD) (h6 (by decide) (by decide));exact⟨h7 b a,h7 c a⟩
theorem Ay(s:List Nat)(D:Nat)(hs:jF s)(v:D<=100000):aA prog 75 [.str s,.int .i64 D] (.bool (fK s D)):=by
 have g:=wS s hs;have hl:=hs.1;refine aM nf (i_ func75) mix (by simp[f75]) ?_;have h:eb.wrap (2*(D:Int))=2*(D:Int):=aO _ o_ o_;have i:eb.wrap (2*(D:Int)+2)=2*(D:Int)+2:=aO _ o_ o_
 by_cases n:s.length<=2*D+2
 ·have f:(s.length:Int)<=2*(D:Int)+2:=by omega
  by_cases d:bM s=0
  ·have m:=arE d;have e:=(kC d).1;rw[d]at g;have l:=ae9 (aZ s) m;have p:=aea (aZ s) m;have r:(bn (aZ s).num).length<=1000000:=by
    have:=qU m;obtain⟨_,t,u⟩:=Bp (aZ s)
    by_cases q:(aZ s).den=1
    ·rw[u q]at this;exact this
    ·rw[t q]at this;simp at this;omega
   have o:=adY (aZ s).num r;rw[e]at l p;have hf:fK s D=(decide ((bd (aZ s).num.natAbs).length<=D)&&decide ((bd (aZ s).den).length<=D)):=by
    rw[fK,decide_eq_true n,decide_eq_true d];simp
   rw[hf];generalize bd (aZ s).num.natAbs=a at*;generalize bd (aZ s).den=b at*;generalize bn (aZ s).num=c at*
   by_cases j:a.length<=D
   ·have k:(a.length:Int)<=D:=by omega
    simp[f75,h,i,f];refine c1 g ?_;simp;refine c1 l ?_;simp;refine c1 o ?_;simp[j,k];refine c1 p ?_;simp[j]
   ·have k:¬(a.length:Int)<=D:=by omega
    simp[f75,h,i,f];refine c1 g ?_;simp;refine c1 l ?_;simp;refine c1 o ?_;simp[j,k]
  ·have hf:fK s D=false:=by rw[fK,decide_eq_false d];simp
   rw[hf];simp[f75,h,i,f];refine c1 g ?_;simp[d]
 ·have f:¬(s.length:Int)<=2*(D:Int)+2:=by omega
  have hf:fK s D=false:=by rw[fK,decide_eq_false n];simp
  rw[hf];simp[f75,h,i,f]
structure V2 where
 x:Rat
 y:Rat
def eV(v:V2):PV:=fE ⟨bC v.x,bC v.y⟩
@[simp] theorem aPu(v:V2):aL (eV v)=.agg 81:=rfl
@[simp] theorem aOd(v:V2):cH (eV v)=[.str (bC v.x),.str (bC v.y)]:=rfl
theorem Rd(x y:Rat):eV ⟨x,y⟩=.st 81 [.str (bC x),.str (bC y)]:=rfl
def dG(k:Nat)(v:V2):Prop:=cj k v.x/\cj k v.y
theorem dG.mono{k l:Nat}{v:V2}(h:dG k v)(hl:k<=l):dG l v:=⟨h.1.mono hl,h.2.mono hl⟩
def V2.sub(v w:V2):V2:=⟨v.x-w.x,v.y-w.y⟩
def V2.add(v w:V2):V2:=⟨v.x+w.x,v.y+w.y⟩
def V2.mul(v:V2)(k:Rat):V2:=⟨v.x*k,v.y*k⟩
def V2.dot(v w:V2):Rat:=v.x*w.x+v.y*w.y
def V2.iI(v w:V2):Rat:=v.x*w.y-v.y*w.x
theorem rT{k l:Nat}{v w:V2}(h:dG k v)(a:dG l w):dG (k+l+1) (v.sub w):=⟨yw h.1 a.1,yw h.2 a.2⟩
theorem Jv{k l:Nat}{v w:V2}(h:dG k v)(a:dG l w):cj (k+l+(k+l)+1) (v.dot w):=N5 (lQ h.1 a.1) (lQ h.2 a.2)
theorem Tl{k l:Nat}{v w:V2}(h:dG k v)(a:dG l w):cj (k+l+(k+l)+1) (v.iI w):=yw (lQ h.1 a.2) (lQ h.2 a.1)
def kQ:Nat:=20000
theorem gw{q:Rat}(h:cj kQ q):cj kB q:=h.mono (by decide)
theorem EC(v w:V2)(a:dG kQ v)(b:dG kQ w):aA prog 35 [eV v,eV w] (eV (v.sub w)):=by
 have c:=zE v.x w.x (gw a.1) (gw b.1);have d:=zE v.y w.y (gw a.2) (gw b.2);refine aM nf (i_ func35) mix (by simp[f35]) ?_;rw[V2.sub,Rd];simp[f35,ad];refine e2 c ?_;simp[ad];refine e2 d ?_;simp[ad]
theorem aej(v w:V2)(a:dG kQ v)(b:dG kQ w):aA prog 103 [eV v,eV w] (.str (bC (v.dot w))):=by
 have c:=zF v.x w.x (gw a.1) (gw b.1);have d:=zF v.y w.y (gw a.2) (gw b.2);have e:=QF (v.x*w.x) (v.y*w.y) ((lQ a.1 b.1).mono (by decide)) ((lQ a.2 b.2).mono (by decide));refine aM nf (i_ func103) mix (by simp[f103]) ?_;rw[V2.dot];simp[f103,ad];refine e2 c ?_;simp[ad];refine e2 d ?_;simp[ad];refine e2 e ?_;simp
theorem Tn(v w:V2)(a:dG kQ v)(b:dG kQ w):aA prog 231 [eV v,eV w] (.str (bC (v.iI w))):=by
 have c:=zF v.x w.y (gw a.1) (gw b.2);have d:=zF v.y w.x (gw a.2) (gw b.1);have e:=zE (v.x*w.y) (v.y*w.x) ((lQ a.1 b.2).mono (by decide)) ((lQ a.2 b.1).mono (by decide));refine aM nf (i_ func231) mix (by simp[f231]) ?_;rw[V2.iI];simp[f231,ad];refine e2 c ?_;simp[ad];refine e2 d ?_;simp[ad];refine e2 e ?_;simp
theorem U1(v:V2)(a:dG kQ v):aA prog 34 [eV v] (.str (bC (v.dot v))):=by
 refine aM nf (i_ func34) mix (by simp[f34]) ?_;simp[f34,ad];refine c2 (aej v v a a) ?_;simp
def vI(r:Int):Rat:=((4*r*r:Int):Rat)
theorem Di{r:Int}(a:0<=r)(b:r<=1000000):0<=4*r*r/\4*r*r<=4000000000000:=by
 have c:=e8 a a;have d:=Int.mul_le_mul b b a (by decide);rw[Int.mul_assoc];omega
theorem Jx{r:Int}(a:0<=r)(b:r<=1000000):cj 42 (vI r):=by
 have:=Di a b;exact Da o_ (by decide)
structure S3 where
 a:Rat
 b:Rat
 d:Rat
theorem Yq:prog.stoodInHeld 82=false:=k_
theorem Mr(p:gZ)(D:Nat)(d:qt p)(c:D<=100000):aA prog 76 [fE p,.int .i64 D] (.bool (fK p.x D&&fK p.y D)):=by
 have a:=Ay p.x D d.1 c;have b:=Ay p.y D d.2 c;refine aM nf (i_ func76) mix (by simp[f76]) ?_;obtain⟨x,y⟩:=p;dsimp only at a b⊢;simp only[fE];cases hx:fK x D
 ·rw[hx]at a;simp[f76,ad];refine c2 a ?_;simp
 ·rw[hx]at a;simp[f76,ad];refine c2 a ?_;simp[ad];refine c2 b ?_;simp
def xt(k:Nat)(s:S3):Prop:=cj k s.a/\cj k s.b/\cj k s.d
theorem xt.mono{k l:Nat}{s:S3}(h:xt k s)(hl:k<=l):xt l s:=⟨h.1.mono hl,h.2.1.mono hl,h.2.2.mono hl⟩
def S3.add(s t:S3):S3:=⟨s.a+t.a,s.b+t.b,s.d⟩
def S3.mul(s t:S3):S3:=⟨s.a*t.a+s.b*t.b*s.d,s.a*t.b+t.a*s.b,s.d⟩
def S3.times(x:Rat)(s:S3):S3:=⟨x*s.a,x*s.b,s.d⟩
structure P4 where
 x:S3
 y:S3
def FF(k:Nat)(p:P4):Prop:=xt k p.x/\xt k p.y
theorem FF.mono{k l:Nat}{p:P4}(h:FF k p)(hl:k<=l):FF l p:=⟨h.1.mono hl,h.2.mono hl⟩
def P4.dot(v:V2)(p:P4):S3:=(S3.times v.x p.x).add (S3.times v.y p.y)
def sg3(a b o:Int):Int:=if 0<=a*b then(if a=0 then b else a)else a*o
def sgS(s:S3):Int:=sg3 (iF s.a) (iF s.b*iF s.d) (eU (s.a*s.a) (s.b*s.b*s.d))
namespace Hk
def lh:Nat:=9223372036854775808
def zL:Nat:=1606938044258990275541962092341162602522202993782792835301376
def qm{α:Type}(n:Nat)(f:Nat->α):α:=match n with
 |0=>f 0
 |k+1=>f (k+1)
theorem wD{α:Type}(n:Nat)(f:Nat->α):qm n f=f n:=by cases n<;>rfl
def AG{α:Type}(z:Int)(f:Int->α):α:=match z with
 | .ofNat n=>qm n fun n=>f (.ofNat n)
 | .negSucc n=>qm n fun n=>f (.negSucc n)
theorem Ok{α:Type}(z:Int)(f:Int->α):AG z f=f z:=by cases z<;>simp[AG,wD]
def oX:Int->Bool
 | .ofNat n=>km n lh
 | .negSucc n=>km (n+1) lh
theorem zG{z:Int}:oX z=true↔z.natAbs<9223372036854775808:=by
 cases z with
 |ofNat n=>simp only[oX,kv,lh];exact Iff.rfl
 |negSucc n=>simp only[oX,kv,lh];exact Iff.rfl
def oR:Int->Int->Bool
 | .ofNat a,.ofNat b=>i3 a b
 | .negSucc a,.negSucc b=>i3 a b
 |_,_=>false
theorem zX:∀{a b:Int},oR a b=true->a=b
 | .ofNat a,.ofNat b,h=>by simp only[oR]at h;rw[ii h]
 | .negSucc a,.negSucc b,h=>by simp only[oR]at h;rw[ii h]
 | .ofNat a,.negSucc b,h=>by simp[oR]at h
 | .negSucc a,.ofNat b,h=>by simp[oR]at h
def ux(z:Int):Option PV:=bif oX z then some (ft z)else bif i3 z.natAbs lh then none else some (lg z)
theorem zl{z:Int}{p:PV}(h:ux z=some p)(m:Bool):eI ⟨z,m⟩=p:=by
 unfold ux at h;rw[jN];rcases hs:oX z with _|_
 ·simp only[hs,cond_false]at h;rcases a:i3 z.natAbs lh with _|_
  case true=>rw[a]at h;cases h
  ·have c:¬i3 z.natAbs lh=true:=by rw[a];decide
   rw[a,cond_false]at h;simp only[m4]at h;have b:¬z.natAbs<9223372036854775808:=fun h=>by rw[zG.2 h]at hs;cases hs
   have d:z.natAbs≠9223372036854775808:=fun e=>c (by rw[e];rfl);rw[if_neg,h];simp only[NI.sm,dq,decide_eq_true_eq,dk,not_or,not_and];exact⟨o_,fun h=>by omega⟩
 ·simp only[hs,cond_true,m4]at h;have b:=zG.1 hs;rw[if_pos,h];simp only[NI.sm,dq,decide_eq_true_eq,dk];exact .inl o_
def xC:List PV->Option (List Nat)
 |[]=>some []
 | .int .u64 (.ofNat x)::r=>match xC r with
  |some l=>some (x::l)
  |none=>none
 |_=>none
theorem O8:∀{l:List PV}{a:List Nat},xC l=some a->l=a.map fun x:Nat=>PV.int .u64 x
 |[],a,h=>by simp only[xC,m4]at h;subst h;rfl
 |v::r,a,h=>by
  unfold xC at h
  split at h
  ·rename_i e;cases e
  ·rename_i x b e;cases e
   split at h
   ·rename_i l hl;simp only[m4]at h;subst h;rw[O8 hl];rfl
   ·cases h
  ·cases h
def sD:List Nat->List Nat->Bool
 |[],[]=>true
 |x::a,y::b=>bif i3 x y then sD a b else false
 |_,_=>false
theorem Dr:∀{a b:List Nat},sD a b=true->a=b
 |[],[],_=>rfl
 |[],_::_,h=>by simp[sD]at h
 |_::_,[],h=>by simp[sD]at h
 |x::a,y::b,h=>by
  simp only[sD,dl]at h
  split at h
  ·rename_i hx;rw[ii hx,Dr h]
  ·cases h
def AD:PV->Option Int
 | .st u [.int .i64 z,.aK]=>bif i3 u 162 then(bif oX z then some z else none)else none
 | .st u [.int .i64 s,.seq l]=>match xC l with
  |some a=>qm (jq wB a) fun n=>bif i3 u 162&&(km lh n&&sD (ar wB n) a)then
   (bif oR s 1 then some (.ofNat n)else bif oR s (-1)then some (.negSucc (n-1))else none)else none
  |none=>none
 |_=>none
theorem Oo{p:PV}{z:Int}(h:AD p=some z):p=eI ⟨z,false⟩:=by
 unfold AD at h
 split at h
 ·rename_i u y;simp only[dl]at h
  split at h
  ·rename_i f
   split at h
   ·rename_i hs;simp only[m4]at h;subst h;rw[ii f];exact(zl (by rw[ux,hs];rfl) false).symm
   ·cases h
  ·cases h
 ·rename_i u s l
  split at h
  ·rename_i g e;rw[wD]at h;have hl:=O8 e;generalize jq wB g=n at h;simp only[dl]at h
   split at h
   ·rename_i hc;simp only[dk,kv]at hc;obtain⟨b,i,c⟩:=hc;have d:=Dr c;have j:lh=9223372036854775808:=rfl;rw[ii b,hl,<-d];have key:∀z:Int,z.natAbs=n->eI ⟨z,false⟩=lg z:=fun z k=>by
     refine zl ?_ false;have e1:oX z=false:=by
      rcases a:oX z with _|_
      ·rfl
      ·have:=zG.1 a;omega
     have e2:i3 z.natAbs lh=false:=by
      rcases a:i3 z.natAbs lh with _|_
      ·rfl
      ·have:=ii a;omega
     rw[ux,e1,e2];rfl
    split at h
    ·rename_i hs;simp only[m4]at h;subst h;rw[zX hs,key _ rfl,lg,if_neg (by show¬((n:Int)<0);omega)];rfl
    ·split at h
     ·rename_i hs;simp only[m4]at h;subst h;rw[zX hs,key _ (by show n-1+1=n;omega),lg,if_pos o_];have:(fb (n-1)).natAbs=n:=by show n-1+1=n;omega
      rw[this];rfl
     ·cases h
   ·cases h
  ·cases h
 ·cases h
def FH(n:Int)(d:Nat):Bool:=km 0 d&&(km n.natAbs zL&&(km d zL&&i3 (js n.natAbs d) 1))
def qh:PV->Option (Int×Nat)
 | .st u [a,b]=>match AD a,AD b with
  |some n,some (.ofNat d)=>bif i3 u 164&&FH n d then some (n,d)else none
  |_,_=>none
 |_=>none
def fr(n:Int)(d:Nat):NF:=⟨m6 n d,false⟩
theorem Xr:zL=2^200:=by decide
theorem Dw{p:PV}{n:Int}{d:Nat}(h:qh p=some (n,d)):p=eF (fr n d)/\d≠0/\cj kB (fr n d).q:=by
 unfold qh at h
 split at h
 case h_2=>cases h
 rename_i u a b
 split at h
 case h_2=>cases h
 rename_i c d' j k;simp only[dl]at h
 split at h
 case isFalse=>cases h
 rename_i hc;simp only[m4,Prod.mk.injEq]at h;obtain⟨rfl,rfl⟩:=h;simp only[FH,dk,kv]at hc;obtain⟨c1,c2,c3,c4,c5⟩:=hc;have f:=ii c5;have e:d'≠0:=o_
 obtain⟨e1,e2⟩:=mb (n:=c) e;rw[f]at e1 e2;simp only[fd,gb,j4]at e1 e2;rw[Xr]at c3 c4;refine⟨?_,e,(Db e c3 c4).mono (by decide)⟩;rw[ii c1,Oo j,Oo k,eF];have g:(fr c d').num=⟨c,false⟩:=by rw[NF.num,fr,e1]
 have i:(fr c d').den=⟨(d':Int),false⟩:=by rw[NF.den,fr,e2];rfl
 rw[g,i];rfl
def nF(n:Int)(d:Nat):Option PV:=
 qm (js n.natAbs d) fun g=>AG (n/g) fun n=>qm (d/g) fun d=>match ux n,ux (.ofNat d)with
  |some a,some b=>some (.st 164 [a,b])
  |_,_=>none
theorem pK{n:Int}{d:Nat}{p:PV}(i:d≠0)(h:nF n d=some p)(m:Bool):p=eF ⟨m6 n d,m⟩:=by
 obtain⟨e1,e2⟩:=mb (n:=n) i;simp only[nF,wD,Ok]at h
 split at h
 case h_2=>cases h
 rename_i a b f g;simp only[m4]at h;subst h;rw[eF];have c:(NF.num ⟨m6 n d,m⟩)=⟨n/(js n.natAbs d:Nat),m⟩:=by rw[NF.num,e1]
 have e:(NF.den ⟨m6 n d,m⟩)=⟨((d/js n.natAbs d:Nat):Int),false⟩:=by rw[NF.den,e2];rfl
 rw[c,e,zl f,<-zl g false];rfl
def two(op:Int->Nat->Int->Nat->Option PV)(a b:PV):Option PV:=match qh a,qh b with
 |some (n,d),some (m,e)=>op n d m e
 |_,_=>none
theorem wG{op:Int->Nat->Int->Nat->Option PV}{a b p:PV}(h:two op a b=some p):
 ∃n d m e,a=eF (fr n d)/\b=eF (fr m e)/\d≠0/\e≠0/\cj kB (fr n d).q/\cj kB (fr m e).q/\op n d m e=some p:=by
 unfold two at h
 split at h
 case h_2=>cases h
 rename_i n d m e j k;obtain⟨c,a2,a3⟩:=Dw j;obtain⟨f,g,i⟩:=Dw k;exact⟨n,d,m,e,c,f,a2,g,a3,i,h⟩
def Sn(n:Int)(d:Nat)(m:Int)(e:Nat):Option PV:=nF (n*e+m*d) (d*e)
def Sp(n:Int)(d:Nat)(m:Int)(e:Nat):Option PV:=nF (n*e-m*d) (d*e)
def So(n:Int)(d:Nat)(m:Int)(e:Nat):Option PV:=nF (n*m) (d*e)
def A3:Int->Int
 | .ofNat n=>bif i3 n 0 then 0 else 1
 | .negSucc _=>-1
theorem Nw(z:Int):A3 z=if z<0 then -1 else if z=0 then 0 else 1:=by
 cases z with
 |ofNat n=>
  rw[if_neg s_];cases n with
  |zero=>rfl
  |succ n=>rw[if_neg (by simp;omega)];rfl
 |negSucc n=>rw[if_pos o_];rfl
def FE(n:Int)(d:Nat)(m:Int)(e:Nat):Option PV:=some (.int .i64 (A3 (n*e-m*d)))
def AR(n:Int)(d:Nat)(m:Int)(e:Nat):Option PV:=match m with
 | .ofNat k=>bif i3 k 0 then none else nF (n*e) (d*k)
 | .negSucc k=>nF (-(n*e)) (d*(k+1))
theorem uv{d:Nat}(h:d≠0):(d:Int)≠0:=o_
theorem aiN{n m:Int}{d e:Nat}{p:PV}(a:d≠0)(b:e≠0)(h:Sn n d m e=some p):p=eF ((fr n d).add (fr m e)):=by
 rw[NF.add,fr,fr];dsimp only;rw[nb _ _ (uv a) (uv b)];have:=pK (kh a b) h;rw[eo]at this;exact this _
theorem aja{n m:Int}{d e:Nat}{p:PV}(a:d≠0)(b:e≠0)(h:Sp n d m e=some p):p=eF ((fr n d).sub (fr m e)):=by
 rw[NF.sub,NF.add,NF.neg,fr,fr];dsimp only;rw[np,nb _ _ (uv a) (uv b)];have:=pK (kh a b) h;rw[eo]at this;rw[ge,<-Int.sub_eq_add_neg];exact this _
theorem ai6{n m:Int}{d e:Nat}{p:PV}(a:d≠0)(b:e≠0)(h:So n d m e=some p):p=eF ((fr n d).mul (fr m e)):=by
 rw[NF.mul,fr,fr];dsimp only;rw[m8];have:=pK (kh a b) h;rw[eo]at this;exact this _
theorem ZF(x y:Rat):eU x y=if x-y<0 then -1 else if x-y=0 then 0 else 1:=by
 have b:x-y<0↔x<y:=by
  constructor
  ·intro h;have a:=(nc (c:=y)).2 h
   rwa [m7,m9]at a
  ·intro h;refine(nc (c:=y)).1 ?_
   rwa [m7,m9]
 have a:x-y=0↔x=y:=by
  constructor
  ·intro h;have d:=congrArg (·+y) h
   simpa[m7,m9]using d
  ·intro h;rw[h,nz]
 simp only[eU,b,a]
theorem CL(n:Int){d:Nat}(i:d≠0):(if m6 n d<0 then(-1:Int)else if m6 n d=0 then 0 else 1)=A3 n:=by
 rw[Ea,Nw];obtain⟨e1,-⟩:=mb (n:=n) i;have k:0<js n.natAbs d:=kd _ o_;have j:((js n.natAbs d:Nat):Int)∣n:=by
  rw[eL];exact li _ _
 obtain⟨c,hc⟩:=j;rw[e1];generalize js n.natAbs d=g at*;have a:(0:Int)<g:=o_
 subst hc;rw[ez _ o_];have b:(g:Int)*c<0↔c<0:=by
  constructor
  ·intro h;refine Int.not_le.1 fun f=>?_;have:=e8 (e6 a) f;omega
  ·intro h;exact e9 a h
 have e:(g:Int)*c=0↔c=0:=by
  rw[Int.mul_eq_zero];constructor
  ·rintro(h|h)
   ·omega
   ·exact h
  ·exact fun h=>.inr h
 simp only[b,e]
theorem ai0{n m:Int}{d e:Nat}{p:PV}(a:d≠0)(b:e≠0)(h:FE n d m e=some p):p=.int .i64 (eU (fr n d).q (fr m e).q):=by
 simp only[FE,m4]at h;rw[<-h,ZF,fr,fr];dsimp only;rw[Rat.divInt_sub_divInt _ _ (uv a) (uv b),<-eo,CL _ (kh a b)]
theorem PW{n m:Int}{d e:Nat}{p:PV}(a:d≠0)(c:e≠0)(h:AR n d m e=some p):p=eF ((fr n d).div (fr m e))/\(fr m e).q≠0:=by
 have b:m≠0->(fr m e).q≠0:=fun g hq=>by
  rw[fr]at hq;dsimp only at hq;have:=CL m c;rw[hq,if_neg (by decide),if_pos rfl,Nw]at this
  split at this
  ·omega
  ·first
     |omega
     |(rw[if_neg g]at this;omega)
 rw[NF.div,fr,fr];dsimp only;unfold AR at h;cases m with
 |ofNat k=>
  simp only[dl]at h
  split at h
  ·cases h
  ·rename_i hk;have f:k≠0:=fun e=>hk (by rw[e];rfl);have:=pK (kh a f) h;refine⟨?_,b (by show(k:Int)≠0;omega)⟩;have e:(m6 n d:Rat)/m6 (Int.ofNat k) e=m6 (n*e) (d*k):=by
    rw[na,ns,m8];rfl
   rw[e];rw[eo]at this;exact this _
 |negSucc k=>
  dsimp only at h;have:=pK (kh a (Nat.succ_ne_zero k)) h;refine⟨?_,b o_⟩;have e:(m6 n d:Rat)/m6 (fb k) e=m6 (-(n*e)) ((d:Int)*((k+1:Nat):Int)):=by
   rw[na,ns,m8];rw[show fb k= -((k+1:Nat):Int)from rfl,gg];rw[Rat.divInt_neg']
  rw[e];rw[eo]at this;exact this _
def AQ:Nat->Nat->Nat
 |0,_=>0
 |f+1,n=>bif i3 n 0 then 0 else AQ f (n/10)+1
theorem abv{a b:Nat}(h:a<b):km a b=true:=by rw[kv];exact h
theorem AA{a b:Nat}(h:km a b=true):a<b:=by rw[kv]at h;exact h
theorem PJ:∀(f n:Nat),n<10^f->AQ f n=nd n
 |0,n,h=>by
  have:n=0:=by simpa using h
  subst this;rw[nd];rfl
 |f+1,n,h=>by
  rw[AQ,nd]
  by_cases a:n=0
  ·subst a;rfl
  ·have b:i3 n 0=false:=by
    rcases c:i3 n 0 with _|_
    ·rfl
    ·exact(a (ii c)).elim
   rw[b,cond_false,dif_neg a,PJ f (n/10) (by rw[iz o_];rw[ix]at h;exact h)]
def uQ(n:Nat):List Nat:=qm (AQ 80 n) fun k=>bif km 1 k then low k n else low 1 n
theorem z8{n:Nat}(h:n<10^80):uQ n=bd n:=by
 rw[uQ,wD,PJ _ _ h,bd];rcases a:km 1 (nd n)with _|_
 ·have:¬1<nd n:=fun b=>by rw[abv b]at a;cases a
  rw[cond_false,Nat.max_eq_left o_]
 ·have:1<nd n:=AA a;rw[cond_true,Nat.max_eq_right o_]
def FZ:Int->List Nat
 | .ofNat n=>uQ n
 | .negSucc n=>45::uQ (n+1)
theorem aMo{z:Int}(h:z.natAbs<10^80):FZ z=bn z:=by
 cases z with
 |ofNat n=>rw[bn,if_neg (by show¬((n:Int)<0);omega)];exact z8 h
 |negSucc n=>rw[bn,if_pos o_];exact congrArg (45::·) (z8 h)
def FY(n:Int)(d:Nat):List Nat:=bif i3 d 1 then FZ n else FZ n++47::uQ d
theorem MF{n:Int}{d:Nat}(a:d≠0)(b:js n.natAbs d=1):(fr n d).q.num=n/\(fr n d).q.den=d:=by
 obtain⟨e1,e2⟩:=mb (n:=n) a;rw[b]at e1 e2;simp only[fd,gb,j4]at e1 e2;exact⟨e1,e2⟩
theorem MK{p:PV}{n:Int}{d:Nat}(h:qh p=some (n,d)):js n.natAbs d=1/\n.natAbs<10^80/\d<10^80:=by
 unfold qh at h
 split at h
 case h_2=>cases h
 split at h
 case h_2=>cases h
 simp only[dl]at h
 split at h
 case isFalse=>cases h
 rename_i hc;simp only[m4,Prod.mk.injEq]at h;obtain⟨rfl,rfl⟩:=h;simp only[FH,dk,kv]at hc;obtain⟨c1,c2,c3,c4,c5⟩:=hc;have a:zL<10^80:=by decide
 exact⟨ii c5,o_,o_⟩
theorem aMn{p:PV}{n:Int}{d:Nat}(h:qh p=some (n,d))(f:d≠0):FY n d=bC (fr n d).q:=by
 obtain⟨g,b,c⟩:=MK h;obtain⟨e1,e2⟩:=MF f g;rw[FY,bC,e1,e2,aMo b,z8 c];rcases a:i3 d 1 with _|_
 ·rw[cond_false,if_neg (fun e=>by rw[e]at a;cases a)]
 ·rw[cond_true,if_pos (ii a)]
def qg:List Nat->Nat->Bool
 |[],_=>true
 |c::r,f=>match f with
  |0=>false
  |f+1=>bif km c 256 then qg r f else false
theorem wN:∀{s:List Nat}{f:Nat},qg s f=true->s.length<=f/\∀c∈s,c<256
 |[],_,_=>⟨j5 _,fun c hc=>by cases hc⟩
 |c::r,0,h=>by simp[qg]at h
 |c::r,f+1,h=>by
  simp only[qg,dl]at h
  split at h
  ·rename_i hc;obtain⟨b,a⟩:=wN h;refine⟨by simp;omega,fun x hx=>?_⟩;rcases ho.1 hx with rfl|hx
   ·exact AA hc
   ·exact a x hx
  ·cases h
def Sg(z:Int):Bool:=match z with
 | .ofNat n=>i3 n 0
 |_=>false
theorem aJ0{z:Int}(h:Sg z=true):z=0:=by
 cases z with
 |ofNat n=>rw[ii (show i3 n 0=true from h)];rfl
 |negSucc n=>cases h
def EN(n:Int)(d:Nat):Option PV:=bif i3 d 0 then none else nF n d
theorem axH{n:Int}{d:Nat}{p:PV}(h:EN n d=some p)(m:Bool):p=eF ⟨m6 n d,m⟩:=by
 unfold EN at h;rcases a:i3 d 0 with _|_
 ·rw[a]at h;exact pK (fun e=>by rw[e]at a;cases a) h m
 ·rw[a]at h;cases h
def EO(s:List Nat):Option PV:=bif Sg (bM s)&&qg s 1000 then
 AG (if bQ s=true then -(aY (bF s):Int)else aY (bF s)) fun n=>qm (if eh s=true then aY (bU s)else 1) fun d=>EN n d else none
theorem axI{s:List Nat}{p:PV}(h:EO s=some p):p=eF ⟨aZ s,false⟩/\bM s=0/\s.length<=1048576:=by
 unfold EO at h;simp only[dl,Ok,wD]at h
 split at h
 case isFalse=>cases h
 rename_i hc;rw[dk]at hc;obtain⟨c1,c2⟩:=hc;obtain⟨a,b⟩:=wN c2;refine⟨?_,aJ0 c1,o_⟩;rw[aZ];exact axH h false
def Rs:Int->Bool
 | .ofNat n=>km n lh
 | .negSucc n=>km n lh
theorem azy{z:Int}(h:Rs z=true):-9223372036854775808<=z/\z<=9223372036854775807:=by
 cases z with
 |ofNat n=>have:n<9223372036854775808:=AA h;refine⟨?_,?_⟩<;>show _<=_<;>simp only[Int.ofNat_eq_natCast]<;>omega
 |negSucc n=>have:n<9223372036854775808:=AA h;omega
def FJ(f:Nat)(a:PV):Option PV:=match a with
 | .int .i64 z=>bif i3 f 94&&Rs z then nF z 1 else none
 | .str s=>bif i3 f 110 then EO s else bif i3 f 190&&qg s 1000 then some (.int .i64 (bM s))else none
 | .st u [.str x,.str y]=>bif i3 f 120&&(i3 u 81&&(qg x 1000&&qg y 1000))then some (.int .i64 (dV ⟨x,y⟩))else none
 | .st u [c,e]=>match qh (.st u [c,e])with
  |some (n,d)=>bif i3 f 173 then nF (-n) d else
   bif i3 f 122 then some (.int .i64 (A3 n))else
   bif i3 f 185 then AR 1 1 n d else
   bif i3 f 176 then some (.str (FY n d))else
   bif i3 f 175 then some (.bool false)else none
  |none=>none
 |_=>none
def uP(f:Nat)(a b:PV):Option PV:=
 bif i3 f 96 then two Sn a b else
 bif i3 f 172 then two Sp a b else
 bif i3 f 184 then two So a b else
 bif i3 f 99 then two AR a b else
 bif i3 f 101 then two FE a b else none
def hk(f:Nat):List PV->Option PV
 |[a]=>FJ f a
 |[a,b]=>uP f a b
 |_=>none
theorem Q9(z:Int):m6 z ((1:Nat):Int)=(z:Rat):=by
 rw[show((1:Nat):Int)=1 from rfl,Rat.divInt_eq_div];rw[show((1:Int):Rat)=1 from rfl,na,show(1:Rat)⁻¹=1 from by decide+kernel,Rat.mul_one]
theorem bq{a b:Nat}(h:i3 a b=true):a=b:=ii h
theorem aKz{f:Nat}{a v:PV}(h:FJ f a=some v):aA prog f [a] v:=by
 unfold FJ at h
 split at h
 ·rename_i z;simp only[dl]at h
  split at h
  ·rename_i hc;rw[dk]at hc;obtain⟨r1,r2⟩:=azy hc.2;rw[bq hc.1,pK (by decide) h true];have:=xc z r1 r2;rw[NF.int]at this;rw[Q9];exact this
  ·cases h
 ·rename_i s;simp only[dl]at h
  split at h
  ·rename_i hf;obtain⟨e1,e2,e3⟩:=axI h;rw[bq hf,e1];exact nB s e2 e3
  ·split at h
   ·rename_i hc;rw[dk]at hc;obtain⟨j,b⟩:=wN hc.2;simp only[m4]at h;subst h;rw[bq hc.1];exact Ad s o_ b
   ·cases h
 ·rename_i u x y;simp only[dl]at h
  split at h
  ·rename_i hc;simp only[dk]at hc;obtain⟨c1,c2,c3,c4⟩:=hc;obtain⟨j,b⟩:=wN c3;obtain⟨t,o⟩:=wN c4;simp only[m4]at h;subst h;rw[bq c1,bq c2];exact B4 ⟨x,y⟩ ⟨⟨by show x.length<=_;omega,b⟩,⟨by show y.length<=_;omega,o⟩⟩
  ·cases h
 ·rename_i u c e _
  split at h
  case h_2=>cases h
  rename_i n d l;obtain⟨r,g,i⟩:=Dw l;rw[r];simp only[dl]at h
  split at h
  ·rename_i hf;rw[bq hf,pK g h false,<-np];exact MT _ i
  split at h
  ·rename_i hf;simp only[m4]at h;subst h;rw[bq hf,<-CL n g];exact DQ _
  split at h
  ·rename_i hf;obtain⟨e1,e2⟩:=PW (by decide) g h;have e3:(fr 1 1).div (fr n d)=(fr n d).inv:=by
    rw[NF.div,NF.inv,fr,fr];dsimp only;rw[Q9,na];rw[show((1:Int):Rat)=1 from rfl,Rat.one_mul]
   rw[bq hf,e1,e3];exact MU _ i e2
  split at h
  ·rename_i hf;simp only[m4]at h;subst h;rw[bq hf,aMn l g];exact agh _ i
  split at h
  ·rename_i hf;simp only[m4]at h;subst h;rw[bq hf];have hl:=aeQ _ i;obtain⟨p,j,b⟩:=MK l;obtain⟨e1,e2⟩:=MF g p;have m:∀k,k<10^80->mJ k=false:=fun k hk=>by
    rw[mJ,decide_eq_false_iff_not];have w:nd k<=80:=Nat.not_lt.1 fun q=>by have:=(ny _ _).1 q;omega
    rw[rh];omega
   rw[FB,e1,e2,m _ j,m _ b]at hl;exact hl
  ·cases h
 ·cases h
theorem aMi{f:Nat}{a b v:PV}(h:uP f a b=some v):aA prog f [a,b] v:=by
 unfold uP at h;simp only[dl]at h
 split at h
 ·rename_i hf;obtain⟨n,d,m,e,rfl,rfl,c,g,j,k,i⟩:=wG h;rw[bq hf,aiN c g i];exact Es _ _ j k
 split at h
 ·rename_i hf;obtain⟨n,d,m,e,rfl,rfl,c,g,j,k,i⟩:=wG h;rw[bq hf,aja c g i];exact zD _ _ j k
 split at h
 ·rename_i hf;obtain⟨n,d,m,e,rfl,rfl,c,g,j,k,i⟩:=wG h;rw[bq hf,ai6 c g i];exact tP _ _ j k
 split at h
 ·rename_i hf;obtain⟨n,d,m,e,rfl,rfl,c,g,j,k,i⟩:=wG h;obtain⟨e1,e2⟩:=PW c g i;rw[bq hf,e1];exact aht _ _ j k e2
 split at h
 ·rename_i hf;obtain⟨n,d,m,e,rfl,rfl,c,g,j,k,i⟩:=wG h;rw[bq hf,ai0 c g i];exact uq _ _ j k
 ·cases h
theorem azu{f:Nat}{vs:List PV}{v:PV}(h:hk f vs=some v):aA prog f vs v:=by
 unfold hk at h
 split at h
 ·exact aKz h
 ·exact aMi h
 ·cases h
end Hk
theorem aMq{n:Nat}(h:n<10^80):bC ((n:Nat):Rat)=Hk.uQ n:=by
 rw[Hk.z8 h,bC,if_pos (by rfl),bn,if_neg (by show¬((n:Int)<0);omega)];rfl
structure dm where
 x:Int
 y:Int
 deriving DecidableEq
structure dy where
 name:List Nat
 dh:Int
 a:List Nat
 b:List Nat
structure bD where
 name:List Nat
 pt:gZ
structure az where
 cs:List dm
 aX:Int
 aF:List dy
 aj:List bD
def bN(p:dm):PV:=.st 63 [.int .i64 p.x,.int .i64 p.y]
def cG(p:dy):PV:=.st 87 [.str p.name,.int .i64 p.dh,.str p.a,.str p.b]
def aP(p:bD):PV:=.st 84 [.str p.name,fE p.pt]
def cd(t:az):PV:=.st 25 [.seq (t.cs.map bN),.int .i64 t.aX,.seq (t.aF.map cG),.seq (t.aj.map aP)]
@[simp] theorem aPn(p:dm):aL (bN p)=.agg 63:=rfl
@[simp] theorem aN7(p:dm):cH (bN p)=[.int .i64 p.x,.int .i64 p.y]:=rfl
@[simp] theorem aPj(p:dy):aL (cG p)=.agg 87:=rfl
@[simp] theorem aN4(p:dy):cH (cG p)=[.str p.name,.int .i64 p.dh,.str p.a,.str p.b]:=rfl
@[simp] theorem aPo(p:bD):aL (aP p)=.agg 84:=rfl
@[simp] theorem aN8(p:bD):cH (aP p)=[.str p.name,fE p.pt]:=rfl
@[simp] theorem aPt(t:az):aL (cd t)=.agg 25:=rfl
@[simp] theorem aOc(t:az):cH (cd t)=[.seq (t.cs.map bN),.int .i64 t.aX,.seq (t.aF.map cG),.seq (t.aj.map aP)]:=rfl
@[simp] theorem aNl:prog.cellsOf 63=2:=k_
@[simp] theorem aNk:prog.cellsOf 87=4:=k_
@[simp] theorem aNm:prog.cellsOf 84=3:=k_
def fA(p:dm):Bool:=decide (10000<max p.x p.y)||decide (min p.x p.y< -10000)
theorem ahU(p:dm):aA prog 61 [bN p] (.bool (fA p)):=by
 obtain⟨x,y⟩:=p;refine aM nf (i_ func61) mix (by simp[f61]) ?_;have e1:max x y=if x<y then y else x:=by split<;>omega
 have e2:min x y=if y<x then y else x:=by split<;>omega
 rw[fA,e1,e2]
 by_cases h:(if x<y then y else x)<=10000
 ·have a:¬10000<(if x<y then y else x):=by omega
  by_cases b:(if y<x then y else x)< -10000
  ·simp[f61,ad,h,a,b]
  ·simp[f61,ad,h,a,b]
 ·have a:10000<(if x<y then y else x):=by omega
  simp[f61,ad,h,a]
def fe(p:dm):Prop:=-10000<=p.x/\p.x<=10000/\-10000<=p.y/\p.y<=10000
theorem Bj{p:dm}(h:fA p=false):fe p:=by
 simp only[fA,Bool.or_eq_false_iff,decide_eq_false_iff_not]at h;unfold fe;omega
def l6(a b c:dm):Int:=(b.x-a.x)*(c.y-a.y)-(b.y-a.y)*(c.x-a.x)
theorem xI{a b:Int}{A B:Int}(c:-A<=a)(d:a<=A)(e:-B<=b)(f:b<=B):-(A*B)<=a*b/\a*b<=A*B:=by
 have k1:a.natAbs<=A.natAbs:=o_
 have k2:b.natAbs<=B.natAbs:=o_
 have k3:=kt k1 k2;rw[<-ew,<-ew]at k3;have k4:0<=A*B:=e8 o_ o_;omega
theorem TK(a b c:dm)(i:fe a)(j:fe b)(hc:fe c):aA prog 151 [bN a,bN b,bN c] (.int .i64 (l6 a b c)):=by
 obtain⟨d,e⟩:=a;obtain⟨bx,f⟩:=b;obtain⟨g,h⟩:=c;simp only[fe]at i j hc;have k:eb.wrap (bx-d)=bx-d:=aO _ o_ o_;have l:eb.wrap (h-e)=h-e:=aO _ o_ o_;have m:eb.wrap (f-e)=f-e:=aO _ o_ o_
 have n:eb.wrap (g-d)=g-d:=aO _ o_ o_;have r:=xI (a:=bx-d) (b:=h-e) (A:=20000) (B:=20000) o_ o_ o_ o_;have s:=xI (a:=f-e) (b:=g-d) (A:=20000) (B:=20000) o_ o_ o_ o_;have o:eb.wrap ((bx-d)*(h-e))=(bx-d)*(h-e):=aO _ o_ o_;have p:eb.wrap ((f-e)*(g-d))=(f-e)*(g-d):=aO _ o_ o_;have q:eb.wrap ((bx-d)*(h-e)-(f-e)*(g-d))=(bx-d)*(h-e)-(f-e)*(g-d):=aO _ o_ o_;refine aM nf (i_ func151) mix (by simp[f151]) ?_;rw[l6];simp[f151,ad,k,l,m,n,o,p,q]
def az.nx(t:az)(i:Nat):Nat:=(i+1)% t.cs.length
def az.at(t:az)(i:Nat):dm:=t.cs.getD i ⟨0,0⟩
theorem az.get{t:az}{i:Nat}(h:i<t.cs.length):t.cs[i]?=some (t.at i):=by
 rw[az.at,hF,gi h];rfl
@[simp] theorem az.aN{t:az}{i:Nat}(h:i<t.cs.length):t.cs[i]'h=t.at i:=by
 rw[az.at,hF,gi h];rfl
theorem az.oY{t:az}(h:0<t.cs.length)(i:Nat):t.nx i<t.cs.length:=i6 _ h
theorem GL(t:az)(i:Nat)(h:i<t.cs.length)(hl:t.cs.length<=1000000):aA prog 152 [cd t,.int .i64 i] (bN (t.at (t.nx i))):=by
 have f:eb.wrap ((i:Int)+1)=(i:Int)+1:=aO _ o_ o_;have c:=t.oY o_ i;have e1:((i:Int)+1).tmod (t.cs.length:Int)=((t.nx i:Nat):Int):=by
  rw[az.nx,eq,ei o_];rfl
 have b:=az.get c;have d:¬t.cs.length=0:=o_
 have a:¬t.cs=[]:=by intro e;rw[e]at h;simp at h
 refine aM nf (i_ func152) mix (by simp[f152]) ?_;simp[f152,ad,f,e1,b,d,a]
end Go.au
