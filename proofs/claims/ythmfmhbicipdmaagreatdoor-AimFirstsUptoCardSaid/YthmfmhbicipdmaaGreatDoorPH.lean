import Derived.Test.YthmfmhbicipdmaaGreatDoorPG
import Derived.Test.YthmfmhbicipdmaaGreatDoorThE
import Derived.Test.YthmfmhbicipdmaaGreatDoorPE
import Derived.Lib.AtoiAll
import Derived.Test.YthmfmhbicipdmaaGreatDoorThD
import Derived.Test.YthmfmhbicipdmaaGreatDoorPC
/- Parts of a proof. -/
set_option linter.unusedSimpArgs false
set_option linter.unusedVariables false
set_option linter.unusedSectionVars false
open Go.Proofs.Tryz
open Bool renaming and_eq_true->aT, false_eq_true->a0
open Go renaming FuncId->a1, DataW->a2
open Go.IntKind renaming i64->a3
open Int renaming natAbs_natCast->a4
open List renaming length_pos_iff->a5, take_of_length_le->a6, length_singleton->a7, getElem?_eq_getElem->a8, replicate->a9, length_append->bb, map_cons->be, drop_eq_getElem_cons->bf, take_succ_eq_append_getElem->bi, append_nil->bl, take_append_drop->bo, map_take->bv, mem_map->bw, getElem?_map->b0, take->b1, reverse_nil->b2, getElem_mem->b3, length_map->b4, foldl_cons->b5, range->cb, all_cons->cc, dropWhile_sublist->cd, getElem?_range->ce, flatten_append->ck, dropWhile_cons->cv, mem_singleton->cx, length_take->cy, length_cons->c6, flatten_nil->c9, ext_getElem->da, nil_append->db, mem_append->dg, map->dl, mem_cons->dp, map_nil->dq, map_map->dx
open Nat renaming pow_le_pow_right->dy, lt_of_lt_of_le->dz, lt_of_le_of_lt->ea, le_refl->eb, le_trans->ec, div_add_mod->ed, add_sub_cancel->ee, lt_or_ge->ei, div_div_eq_div_mul->ej, div_eq_of_lt->em, pow_succ->en, mul_assoc->eo, lt_trans->eq, mod_eq_of_lt->er, pow_zero->ew, mul_comm->eP, pow_pos->e6, mul_le_mul_right->e7, div_one->e8, pow_le_pow_left->e9, div_mul_le_self->fa, div_lt_self->fb, add_assoc->fd, gcd->fl, pow_one->fm, pow_mul->fv, add_mul->fw, mod_lt->gb, mod_le->gc
open Option.some renaming injEq->ge
open UInt8 renaming ofNat->gg
namespace Go.ak
open Go.Proofs
set_option linter.unusedSectionVars false
theorem Cd:dv prog 353=some [1,1]:=by kernel_rfl
section
variable{w:World}{ad ah:Nat->Prop}{β:Bd}{H:aj}
theorem U5{aq:Nat}{c0 c1 v:Value}{T:TypeId}(h:w.heap[aq]?=some (.cells #[c0,c1] T (0,0))):w.setCell ⟨aq,0,none⟩ v=w.setRow aq #[v,c1]:=by
 obtain⟨d,a⟩:=Array.getElem?_eq_some_iff.1 h;unfold World.setCell World.setRow;congr 1;apply Array.ext
 ·simp
 ·intro i b c;simp only[Array.getElem_modify]
  by_cases hi:aq=i
  ·subst hi;simp[a]
  ·simp[hi]
theorem Ux{t x:AV}{cs:Array Value}(g:t=iK 353 [.p .dR,x]\/t=.st 353 [.p .dR,x])(h:bu prog w ad β H t cs.toList):∃y,cs=#[.pointer none,y]/\bu prog w ad β H x [y]:=by
 have a:bu prog w ad β H (.st 353 [.p .dR,x]) cs.toList:=by
  rcases g with rfl|rfl
  ·exact MV.1 h
  ·exact h
 simp only[bu,Cd,ge]at a;obtain⟨l,k,rfl,b,d⟩:=a;simp only[bM,bu,aU]at b;obtain⟨c,i,rfl,rfl,_,c2,j,rfl,e,f,rfl⟩:=b
 match c2,f with
 |[y],_=>exact⟨y,Array.ext' (by simpa using d),e⟩
theorem Uq{b:Nat}{x:AV}{cs:Array Value}(h:bu prog w ad β H (.st 353 [.ptr b [],x]) cs.toList):∃v y,cs=#[v,y]/\bO prog β H (.ptr b []) v:=by
 simp only[bu,Cd,ge]at h;obtain⟨l,j,rfl,a,d⟩:=h;simp only[bM,bu]at a;obtain⟨c,g,rfl,⟨v,rfl,f⟩,_,c2,i,rfl,k,e,rfl⟩:=a
 match c2,e with
 |[y],_=>exact⟨v,y,Array.ext' (by simpa using d),f⟩
end
theorem aAk{H:aj}{b:Nat}{t x:AV}(f:H[b]?=some (.box false t))(i:t=iK 353 [.p .dR,x]\/t= .st 353 [.p .dR,x]):
 cS prog 338 H [.ptr b []] (H.set b (.box false (.st 353 [.ptr b [],x]))) (.p (.aC [])):=by
 refine⟨kV func338 (by kernel_rfl),fun w ad ah β J g j K=>?_⟩;simp only[bI,aB]at j;obtain⟨v,vs,rfl,⟨_,I,L,M,rfl,m,B⟩,rfl⟩:=j;simp only[gI,ge]at m;subst m;obtain⟨rfl,rfl⟩:=B (.inl ⟨false,t,f⟩);obtain⟨cs,T,k1,k2,k3,_,k5⟩:=g.cM b _ f;have F:aa t=.agg 353:=by
  rcases i with rfl|rfl
  ·exact CW _ _
  ·rfl
 have q:T=354:=by
  rw[F]at k5;exact dE (by simpa[jM,Gl.bx,aAv]using k5)
 subst q;obtain⟨y,rfl,G⟩:=Ux i k2;have o:¬ad (β.aq b)/\¬ah (β.aq b):=by simpa[cJ]using k3
 refine(Uk (β.aq b) w (by simp[World.cell?,k1]) (by simp[World.shape?,k1]) (by simp[World.frozen?,k1])).mono ?_;rintro e w' ⟨rfl,rfl⟩;rw[U5 k1];have aM:cz β H β (H.set b (.box false (.st 353 [.ptr b [],x]))):=pP f (.inl ⟨_,_,_,_,rfl,rfl⟩);have al:∀z,aJ H z->aJ (H.set b (.box false (.st 353 [.ptr b [],x]))) z:=mF f (fun _ h=>h);have r:b<H.length:=(List.getElem?_eq_some_iff.1 f).1;have u:(H.set b (.box false (.st 353 [.ptr b [],x])))[b]?=some (.box false (.st 353 [.ptr b [],x])):=List.getElem?_set_self r;have n:aE (aJ H) x:=by
  have:=g.refs b _ f;rcases i with rfl|rfl
  ·simp only[Obj.refs]at this;unfold iK at this
   split at this
   ·rename_i l d;have d:=mC d
    match l,d with
    |[a,c],d=>simp at d;rw[d.2];simp[aE]
    |[],d=>simp at d
    |[_],d=>simp at d
    |_::_::_::_,d=>simp at d
   ·simp only[aE,aS]at this;exact this.2.1
  ·simp only[Obj.refs,aE,aS]at this;exact this.2.1
 have E:∀k,ad k->(w.setRow (β.aq b) #[.pointer (some ⟨β.aq b,0,none⟩),y]).heap[k]?=w.heap[k]?:=fun k A=>setRow_other w _ k _ (fun s=>o.1 (s▸A));have D:Obj.refs (aJ (H.set b (.box false (.st 353 [.ptr b [],x])))) (.box false (.st 353 [.ptr b [],x])):=by
  simp only[Obj.refs,aE,aS,and_true];exact⟨⟨_,u,trivial⟩,aE.mono al _ n⟩
 have C:=ri g f trivial (o':=.box false (.st 353 [.ptr b [],x])) trivial (fun _ h=>h) k1 (new:=#[.pointer (some ⟨β.aq b,0,none⟩),y]) o aM
  ⟨_,354,setRow_heap w _ _ _ 354 _ k1,by
   simp only[bu,Cd,ge];refine⟨_,[[.pointer (some ⟨β.aq b,0,none⟩)],[y]],rfl,?_,rfl⟩;simp only[bM,bu];exact⟨_,_,rfl,⟨_,rfl,⟨rfl,_,_,0,rfl,rfl,fun _=>⟨rfl,rfl⟩⟩⟩,rfl,_,_,rfl,bu.mono (fun _ x=>x) E aM _ _ n G,rfl,rfl⟩,k3,by simp,by simp[aa,jM,Gl.bx]⟩ D
 exact⟨_,β,ad,rfl,C,by simp[aB,aD,bK],by simp[aE]⟩
theorem aAl{H:aj}{b:Nat}{x:AV}(c:H[b]?=some (.box false (.st 353 [.ptr b [],x]))):cS prog 338 H [.ptr b []] H (.p (.aC [])):=by
 refine⟨kV func338 (by kernel_rfl),fun w ad ah β l g f m=>?_⟩;simp only[bI,aB]at f;obtain⟨v,vs,rfl,⟨_,j,n,i,rfl,a,d⟩,rfl⟩:=f;simp only[gI,ge]at a;subst a;obtain⟨rfl,rfl⟩:=d (.inl ⟨false,_,c⟩);obtain⟨cs,T,k1,k2,k3,_,k5⟩:=g.cM b _ c;obtain⟨v,y,rfl,h⟩:=Uq k2;simp only[bO,bS]at h;obtain⟨_,k,o,i,rfl,a,d⟩:=h;simp only[gI,ge]at a;subst a;obtain⟨rfl,rfl⟩:=d (.inl ⟨false,_,c⟩);refine(Uj (β.aq b) w (by simp[World.cell?,k1])).mono ?_;rintro e w' ⟨rfl,rfl⟩;exact⟨_,β,ad,rfl,bZ.refl g,by simp[aB,aD,bK],by simp[aE]⟩
set_option maxHeartbeats 4000000
set_option maxRecDepth 100000
@[simp] theorem gu8:(Gl.u8:TypeId)=5:=(rfl)
def dQ(t:List Nat):List AV:=t.map fun(c:Nat)=>AV.p (.int .u8 (c:Int))
theorem wR(t:List Nat):(dQ t).length=t.length:=by simp[dQ]
theorem aLN(a t:List Nat):dQ (a++t)=dQ a++dQ t:=by simp[dQ]
theorem DJ:∀t:List Nat,fq prog 1 (dQ t)
 |[]=>by simp[dQ,fq]
 |c::t=>by
  have:=DJ t;simp only[dQ,be]at this⊢;simp[fq];exact this
theorem Kr:∀(t:List Nat),(∀c∈t,c<256)->bytesOf (dQ t)=some t
 |[],_=>rfl
 |c::t,a=>by
  have b:=a c (by simp);have:=Kr t fun c hc=>a c (by simp[hc]);show bytesOf (.p (.int .u8 (c:Int))::dQ t)=some (c::t);rw[bytesOf,if_pos ⟨by omega,by omega⟩,this];simp
theorem QR(t:List Nat)(a:t≠[])(h:t.length<=1048576):cS prog 299 [.box false (.p (.st 353 [.dR,.aH]))] [.ptr 0 [],.p (.str t)]
 [.box false (.st 353 [.ptr 0 [],.sl 1 0 1 0 t.length]),.arr .bytes 0 1 (dQ t)] (.p (.aC [.int .i64 t.length,.gO])):=by
 refine gM nf EK mix (by simp[f299]) ?_;simp[f299];refine ci (aAk (b:=0) (t:=.p (.st 353 [.dR,.aH])) (x:=.p .aH) rfl (.inl rfl)) ?_;simp;refine⟨⟨DJ t,by simp only[c8];omega⟩,?_⟩;simp[a,dQ]
theorem QS(a t:List Nat)(v n:Nat)(f:n=a.length)(c:t≠[])(h:t.length<=1048576)(e:a.length<=1048576):cS prog 299 [.box false (.st 353 [.ptr 0 [],.sl 1 v 1 0 n]),.arr .bytes v 1 (dQ a)] [.ptr 0 [],.p (.str t)]
 [.box false (.st 353 [.ptr 0 [],.sl 1 (v+1) 1 0 (n+t.length)]),.arr .bytes (v+1) 1 (dQ (a++t))] (.p (.aC [.int .i64 t.length,.gO])):=by
 refine gM nf EK mix (by simp[f299]) ?_;simp[f299];refine ci (aAl (b:=0) (x:=.sl 1 v 1 0 n) rfl) ?_;simp;refine⟨⟨DJ t,by rw[wR];omega,by rw[wR];simp only[c8];omega⟩,?_⟩;have d:b1 n (dQ a)=dQ a:=a6 (by rw[wR];omega);simp[c,d,aLN];exact .inl rfl
theorem aAs(a:List Nat)(v n:Nat)(b:n=a.length)(d:a≠[])(g:a.length<=1048576)(e:∀c∈a,c<256):cS prog 300 [.box false (.st 353 [.ptr 0 [],.sl 1 v 1 0 n]),.arr .bytes v 1 (dQ a)] [.ptr 0 []]
 [.box false (.st 353 [.ptr 0 [],.sl 1 v 1 0 n]),.dead] (.p (.str a)):=by
 refine gM nf OZ mix (by simp[f300]) ?_;have f:0<a.length:=a5.2 d;simp[f300];refine azB (aA:=v) (es:=dQ a) rfl rfl (by rw[b];exact f) (by simp[dQ,b]) ?_;simp;refine azF (aA:=v) (es:=dQ a) (l:=a) rfl rfl rfl (by omega) (by simp[wR,b]) (by omega) rfl ?_ ?_ ?_ ?_
 ·kernel_rfl
 ·kernel_rfl
 ·rw[a6 (by rw[wR];simp[b])];exact Kr a e
 simp
 repeat' with_reducible refine And.intro ?_ ?_
 all_goals rfl
theorem Dc{σ:Nat->Nat}:∀{a b:List AV},cU σ (a++b)=cU σ a++cU σ b
 |[],b=>by simp[cU]
 |x::a,b=>by simp[cU,Dc (a:=a)]
theorem Ax:az wB tB=[tB]:=uz (by decide) (by decide)
theorem Yl(a:NI)(hs:a.sm=true):au prog 240 [eI a] (.str (bN a.v)):=by
 refine aG nf EJ mix (by simp[f240]) ?_;have b:=NI.qh hs;simp[f240,aa,mK hs,nI hs,dI,cV];refine c1 (ai0 a.v b.1 b.2) ?_;simp
theorem NY{m k A L:Nat}(e:0<m)(h:m*tB^k<=A)(a:A<wB^L):k<64*L:=by
 have b:2^k<=tB^k:=e9 (by decide) k;have c:tB^k<=m*tB^k:=Nat.le_mul_of_pos_left _ e;rw[show wB=2^64 from rfl,<-fv]at a;have d:2^k<2^(64*L):=ea (ec b (ec c h)) a
 rwa [Nat.pow_lt_pow_iff_right (by decide)]at d
theorem Yk(a:NI)(hs:a.sm=false)(W:okW a.v)(ar:(bd a.v.natAbs).length<=1000000):au prog 240 [eI a] (.str (bN a.v)):=by
 have L:=oF (eI a) a.v (mN a);have aF:=NI.Am (a:=a) (by rw[hs];decide);have ag:=dz (cj bp a.v.natAbs) (dy (show 0<wB by decide) (oB W));obtain⟨c,cs,w1⟩:=oO hs;refine aG nf EJ mix (by simp[f240]) ?_;simp[f240,aa,w1,dI,cV];refine c1 L ?_;simp;refine tg (fun s'=>∃b:List (List Nat),kj 0 b=kj a.v.natAbs []/\(∀p∈b,p≠[]/\p.length<=18)/\b≠[]/\b.length<=57600000/\aN s'.env 3=.p (.bool (decide (a.v<0)))/\aN s'.env 6=.sl 2 b.length 1 0 b.length/\∃o,s'.heap=[.hole,o,.arr .grow b.length 1 (b.map fun p=>.p (.str p))]) ?_ ?_
 ·refine lp (α:=Nat×List (List Nat)×Bool) (fun x=>⟨[(6,.sl 2 x.2.1.length 1 0 x.2.1.length),(5,.sl 1 0 1 0 1),(4,.p (eN x.1)),(3,.p (.bool (decide (a.v<0))))],[.hole,.arr (if x.2.2=true then .frozen else .exact) 0 1 [.p (.int .u64 1000000000000000000)],.arr .grow x.2.1.length 1 (x.2.1.map fun p=>.p (.str p))]⟩)
   (fun x=>x.1<=a.v.natAbs/\kj x.1 x.2.1=kj a.v.natAbs []/\(∀p∈x.2.1,p≠[]/\p.length<=18)/\x.2.1.length<=57600000/\x.1*tB^x.2.1.length<=a.v.natAbs) (fun x=>x.1) (a.v.natAbs,[],false) ⟨eb _,rfl,by simp,by simp,by simp⟩ ?_
  rintro⟨m,b,f⟩ ⟨k1,k2,k3,k5,k4⟩;dsimp only at k1 k2 k3 k5 k4;rcases f with _|_
  ·simp only[a0,if_false];have av:(az wB m).length<=900000:=by
    have:=dT bp _ _ (ea k1 (cj bp a.v.natAbs));have:=oB W;omega
   by_cases hm:m=0
   ·subst hm;have Y:b≠[]:=by
     rintro rfl;rw[kj,kj,if_pos rfl,if_neg (by omega)]at k2;have:=zR a.v.natAbs;rw[b2,c9,bl,bl]at k2;rw[<-k2]at this;simp at this
    simp[eN,l6];refine⟨b,k2,k3,Y,k5,?_⟩;simp
   ·have d:=Dn m tB (by decide) (by omega) (by rw[Ax];decide);have X:az wB m≠[]:=mt tR.1 hm;have C:0<(az wB m).length:=a5.2 X;have aM:=LG hm b;have B:∀p∈b++[eQ m],p≠[]/\p.length<=18:=by
     intro p L;rcases dg.1 L with h|h
     ·exact k3 p h
     ·rw[cx.1 h];exact⟨KE m,KF m⟩
    have A:m/tB<m:=fb (by omega) (by decide);have ax:=NY (show 0<m by omega) k4 ag;have w:m/tB*tB^(b++[eQ m]).length<=a.v.natAbs:=by
     rw[bb,a7,en,eP (tB^b.length),<-eo];exact ec (e7 _ (fa _ _)) k4
    have y:(b++[eQ m]).length<=57600000:=by rw[bb,a7];omega
    have r:m% tB<tB:=gb _ (by decide);have O:m/tB=0->m% tB=m:=fun h=>by have:=ed m tB;rw[h]at this;omega
    simp only[eN]at d⊢;rw[Ax]at d;have N:=tR (n:=m/tB);have J:=Qw (m% tB) (eq r (by decide));have q:=Qx [48] (18-(bd (m% tB)).length) (by omega) (by simp;omega);have ay:=DX r;have Z:=R7 r;rw[Db]at q;have l:eQ m=if m/tB=0 then bd (m% tB)else a9 (18-(bd (m% tB)).length) 48++bd (m% tB):=by
     rw[eQ,Z];split
     ·rename_i h;rw[O h]
     ·rfl
    have s:a3.wrap (18-((bd (m% tB)).length:Int))=(18-(bd (m% tB)).length:Nat):=by rw[aO _ (by omega) (by omega)];omega
    have aC:((18-(bd (m% tB)).length:Nat):Int)=18-((bd (m% tB)).length:Int):=by omega
    have u:∀t,t=eQ m->(b.map fun p=>AV.p (.str p))++[AV.p (.str t)]=(b++[eQ m]).map fun p=>AV.p (.str p):=fun t e=>by rw[e];simp
    by_cases F:m% tB=0
    ·have j:¬m/tB=0:=fun h=>hm (by rw[<-O h];exact F);have E:0<(az wB (m/tB)).length:=a5.2 (mt N.1 j);have e:a9 (18-(bd (m% tB)).length) 48++bd (m% tB)=eQ m:=by rw[l,if_neg j]
     rw[F,rD]at e q s;rw[F,l6]at d;simp only[a7]at e q s;have hf:=u _ e;generalize D:az wB (m/tB)=af at*;simp[C];refine cp d (by simp;exact⟨rfl,rfl⟩) ?_ (h1:=by simp[tB]);simp[E,s];refine c2 q ?_;simp;refine⟨by simp only[c8];omega,?_⟩;refine rd (m/tB,b++[eQ m],true) ⟨by omega,by rw[aM];exact k2,by simpa using B,y,w⟩ A (he:=by simp[D]) (hh:=by simp only[<-hf];simp) (hr2:=by simp only[<-hf];simp)
    ·have ac:az wB (m% tB)=[m% tB]:=uz (by omega) (eq r (by decide));rw[ac]at d
     by_cases j:m/tB=0
     ·have e:bd (m% tB)=eQ m:=by rw[l,if_pos j]
      have hf:=u _ e;rw[j,l6]at d;simp[C];refine cp d (by simp;exact⟨rfl,rfl⟩) ?_ (h1:=by simp[tB]);simp;refine c2 J ?_;simp;refine⟨by simp only[c8];omega,?_⟩;refine rd (m/tB,b++[eQ m],true) ⟨by omega,by rw[aM];exact k2,by simpa using B,y,w⟩ A (he:=by simp[j,l6]) (hh:=by simp only[<-hf];simp) (hr2:=by simp only[<-hf];simp)
     ·have E:0<(az wB (m/tB)).length:=a5.2 (mt N.1 j);have e:a9 (18-(bd (m% tB)).length) 48++bd (m% tB)=eQ m:=by rw[l,if_neg j]
      have hf:=u _ e;generalize D:az wB (m/tB)=af at*;simp[C];refine cp d (by simp;exact⟨rfl,rfl⟩) ?_ (h1:=by simp[tB]);simp;refine c2 J ?_;simp[E,s];refine c2 q ?_;simp;refine⟨by omega,by simp only[c8];omega,?_⟩;refine rd (m/tB,b++[eQ m],true) ⟨by omega,by rw[aM];exact k2,by simpa using B,y,w⟩ A (he:=by simp[D]) (hh:=by simp only[<-hf];simp) (hr2:=by simp only[<-hf];simp)
  ·simp only[if_true];have av:(az wB m).length<=900000:=by
    have:=dT bp _ _ (ea k1 (cj bp a.v.natAbs));have:=oB W;omega
   by_cases hm:m=0
   ·subst hm;have Y:b≠[]:=by
     rintro rfl;rw[kj,kj,if_pos rfl,if_neg (by omega)]at k2;have:=zR a.v.natAbs;rw[b2,c9,bl,bl]at k2;rw[<-k2]at this;simp at this
    simp[eN,l6];refine⟨b,k2,k3,Y,k5,?_⟩;simp
   ·have d:=Dn m tB (by decide) (by omega) (by rw[Ax];decide);have X:az wB m≠[]:=mt tR.1 hm;have C:0<(az wB m).length:=a5.2 X;have aM:=LG hm b;have B:∀p∈b++[eQ m],p≠[]/\p.length<=18:=by
     intro p L;rcases dg.1 L with h|h
     ·exact k3 p h
     ·rw[cx.1 h];exact⟨KE m,KF m⟩
    have A:m/tB<m:=fb (by omega) (by decide);have ax:=NY (show 0<m by omega) k4 ag;have w:m/tB*tB^(b++[eQ m]).length<=a.v.natAbs:=by
     rw[bb,a7,en,eP (tB^b.length),<-eo];exact ec (e7 _ (fa _ _)) k4
    have y:(b++[eQ m]).length<=57600000:=by rw[bb,a7];omega
    have r:m% tB<tB:=gb _ (by decide);have O:m/tB=0->m% tB=m:=fun h=>by have:=ed m tB;rw[h]at this;omega
    simp only[eN]at d⊢;rw[Ax]at d;have N:=tR (n:=m/tB);have J:=Qw (m% tB) (eq r (by decide));have q:=Qx [48] (18-(bd (m% tB)).length) (by omega) (by simp;omega);have ay:=DX r;have Z:=R7 r;rw[Db]at q;have l:eQ m=if m/tB=0 then bd (m% tB)else a9 (18-(bd (m% tB)).length) 48++bd (m% tB):=by
     rw[eQ,Z];split
     ·rename_i h;rw[O h]
     ·rfl
    have s:a3.wrap (18-((bd (m% tB)).length:Int))=(18-(bd (m% tB)).length:Nat):=by rw[aO _ (by omega) (by omega)];omega
    have aC:((18-(bd (m% tB)).length:Nat):Int)=18-((bd (m% tB)).length:Int):=by omega
    have u:∀t,t=eQ m->(b.map fun p=>AV.p (.str p))++[AV.p (.str t)]=(b++[eQ m]).map fun p=>AV.p (.str p):=fun t e=>by rw[e];simp
    by_cases F:m% tB=0
    ·have j:¬m/tB=0:=fun h=>hm (by rw[<-O h];exact F);have E:0<(az wB (m/tB)).length:=a5.2 (mt N.1 j);have e:a9 (18-(bd (m% tB)).length) 48++bd (m% tB)=eQ m:=by rw[l,if_neg j]
     rw[F,rD]at e q s;rw[F,l6]at d;simp only[a7]at e q s;have hf:=u _ e;generalize D:az wB (m/tB)=af at*;simp[C];refine cp d (by simp;exact⟨rfl,rfl⟩) ?_ (h1:=by simp[tB]);simp[E,s];refine c2 q ?_;simp;refine⟨by simp only[c8];omega,?_⟩;refine rd (m/tB,b++[eQ m],true) ⟨by omega,by rw[aM];exact k2,by simpa using B,y,w⟩ A (he:=by simp[D]) (hh:=by simp only[<-hf];simp) (hr2:=by simp only[<-hf];simp)
    ·have ac:az wB (m% tB)=[m% tB]:=uz (by omega) (eq r (by decide));rw[ac]at d
     by_cases j:m/tB=0
     ·have e:bd (m% tB)=eQ m:=by rw[l,if_pos j]
      have hf:=u _ e;rw[j,l6]at d;simp[C];refine cp d (by simp;exact⟨rfl,rfl⟩) ?_ (h1:=by simp[tB]);simp;refine c2 J ?_;simp;refine⟨by simp only[c8];omega,?_⟩;refine rd (m/tB,b++[eQ m],true) ⟨by omega,by rw[aM];exact k2,by simpa using B,y,w⟩ A (he:=by simp[j,l6]) (hh:=by simp only[<-hf];simp) (hr2:=by simp only[<-hf];simp)
     ·have E:0<(az wB (m/tB)).length:=a5.2 (mt N.1 j);have e:a9 (18-(bd (m% tB)).length) 48++bd (m% tB)=eQ m:=by rw[l,if_neg j]
      have hf:=u _ e;generalize D:az wB (m/tB)=af at*;simp[C];refine cp d (by simp;exact⟨rfl,rfl⟩) ?_ (h1:=by simp[tB]);simp;refine c2 J ?_;simp[E,s];refine c2 q ?_;simp;refine⟨by omega,by simp only[c8];omega,?_⟩;refine rd (m/tB,b++[eQ m],true) ⟨by omega,by rw[aM];exact k2,by simpa using B,y,w⟩ A (he:=by simp[D]) (hh:=by simp only[<-hf];simp) (hr2:=by simp only[<-hf];simp)
 ·rintro⟨aE,aH⟩ ⟨b,q1,aD,T,q4,ao,R,o,ai⟩;dsimp only at ao R ai;subst ai;have aA:0<b.length:=a5.2 T;have ab:bd a.v.natAbs=b.reverse.flatten:=by rw[<-Ya,q1,kj,if_neg (by omega)];simp
  obtain⟨neg,K⟩:∃neg:Bool,neg=decide (a.v<0):=⟨_,rfl⟩
  obtain⟨Q,M⟩:∃Q:List Nat,Q=if neg=true then[45]else[]:=⟨_,rfl⟩
  have aj:bN a.v=Q++b.reverse.flatten:=by
   rw[bN,<-ab,M,K]
   by_cases h:a.v<0
   ·simp[h]
   ·simp[h]
  obtain⟨g,H⟩:∃g:Nat->List Nat,g=fun k=>Q++(b.reverse.take k).flatten:=⟨_,rfl⟩
  have I:g b.length=bN a.v:=by rw[H,aj];dsimp only;rw[a6 (by simp)]
  have aB:∀k,(b.reverse.take k).flatten.length<=1000000:=fun k=>by
   have ap:b.reverse.flatten=(b.reverse.take k).flatten++(b.reverse.drop k).flatten:=by rw[<-ck,bo]
   rw[ab,ap,bb]at ar;omega
  have aI:Q.length<=1:=by rw[M];split<;>simp
  have U:∀k,(g k).length<=1000001:=fun k=>by rw[H];dsimp only;rw[bb];have:=aB k;omega
  have l:∀k(h:k<b.length),g (k+1)=g k++b[b.length-1-k]'(by omega):=fun k h=>by
   rw[H];dsimp only;rw[bi (by simpa using h),ck,List.getElem_reverse,<-List.append_assoc];simp
  have aq:∀c∈bN a.v,c<256:=by
   intro c hc;rw[bN]at hc;have d:=sC a.v.natAbs;rw[List.all_eq_true]at d
   split at hc
   ·rcases dp.1 hc with h|h
    ·omega
    ·exact MI (d c h)
   ·exact MI (d c hc)
  have ad:a3.wrap ((b.length:Int)-1)=b.length-1:=aO _ (by omega) (by omega);have al:∀i(h:i<b.length),b[i]≠[]/\b[i].length<=18:=fun i h=>aD _ (b3 h);have G:=aAs (g b.length) (if neg=true then b.length else b.length-1) (g b.length).length rfl (by rw[I,aj];intro h;rw[List.append_eq_nil_iff,<-ab]at h;have:=zR a.v.natAbs;rw[h.2]at this;simp at this) (by have:=U b.length;omega) (by rw[I];exact aq);simp[ao,R,ad]
  by_cases S:a.v<0
  ·rw[decide_eq_true S]at K;subst K;have aw:g 0=[45]:=by rw[H,M];simp
   simp only[if_true]at G;simp[S];refine cf (QR [45] (by simp) (by simp)) [3] ?_;simp[bm,sig,R,ad];refine lp (α:=Nat) (fun k=>⟨[(11,.p (.int .i64 ((b.length:Int)-1-k))),(10,.ptr 3 []),(6,.sl 2 b.length 1 0 b.length)],[.hole,.hole,.arr .grow b.length 1 (b.map fun p=>.p (.str p)),.box false (.st 353 [.ptr 3 [],.sl 4 k 1 0 (g k).length]),.arr .bytes k 1 (dQ (g k))]⟩)
    (fun k=>k<=b.length) (fun k=>b.length-k) 0 (by simp) ?_ (he:=by simp[R]) (hh:=by simp[aw,dQ]) (hr2:=by simp[dQ])
   intro k hk
   by_cases z:k<b.length
   ·have w1:a3.wrap ((b.length:Int)-1-k-1)=b.length-1-(k+1:Nat):=by rw[aO _ (by omega) (by omega)];omega
    have e1:((b.length:Int)-1-k).toNat=b.length-1-k:=by omega
    have g1:(k:Int)<=(b.length:Int)-1:=by omega
    have P:b.length-1-k<b.length:=by omega
    have hx:=al _ P;have ae:=QS (g k) (b[b.length-1-k]) k (g k).length rfl hx.1 (by omega) (by have:=U k;omega);simp[g1,e1,P,T];refine cf ae [3,4] ?_ (al:=by simp[sig,dQ]) (aL:=by simp[sig]) (hr:=by simp[dQ]);simp[sig,dQ,bm,w1,Dc];refine rd (k+1) z (he:=by simp[l k z]) (hh:=by simp[l k z,dQ]) (hr2:=by simp[dQ])
   ·have V:k=b.length:=by omega
    subst V;have g2:¬(b.length:Int)<=(b.length:Int)-1:=by omega
    simp[g2];refine cf G [3,4] ?_ (al:=by simp[sig,dQ]) (aL:=by simp[sig]) (hr:=by simp[dQ]);simp[sig,bm,I]
  ·rw[decide_eq_false S]at K;subst K;simp only[a0,if_false]at G M;have ah:g 1=b[b.length-1]:=by rw[l 0 aA,H];simp[M]
   have an:b.length-1<b.length:=by omega
   have am:=al _ an;have ak:=QR (b[b.length-1]) am.1 (by omega);rw[<-ah]at ak am;simp[S,ad]
   refine lp (α:=Option Nat) (fun st=>match st with
     |none=>⟨[(11,.p (.int .i64 ((b.length:Int)-1))),(10,.ptr 3 []),(6,.sl 2 b.length 1 0 b.length)],[.hole,.hole,.arr .grow b.length 1 (b.map fun p=>.p (.str p)),.box false (.p (.st 353 [.dR,.aH]))]⟩
     |some k=>⟨[(11,.p (.int .i64 ((b.length:Int)-1-(k+1)))),(10,.ptr 3 []),(6,.sl 2 b.length 1 0 b.length)],[.hole,.hole,.arr .grow b.length 1 (b.map fun p=>.p (.str p)),.box false (.st 353 [.ptr 3 [],.sl 4 k 1 0 (g (k+1)).length]),.arr .bytes k 1 (dQ (g (k+1)))]⟩)
    (fun st=>match st with
     |none=>True
     |some k=>k+1<=b.length) (fun st=>match st with
     |none=>b.length+1
     |some k=>b.length-(k+1)) none trivial ?_ (he:=by simp[R])
   intro st hk;cases st with
   |none=>
    have w1:a3.wrap ((b.length:Int)-1-1)=b.length-1-(0+1):=by rw[aO _ (by omega) (by omega)];omega
    have e1:((b.length:Int)-1).toNat=b.length-1:=by omega
    have g1:(1:Int)<=(b.length:Int):=by omega
    simp[g1,e1,an,T,<-ah];refine cf ak [3] ?_;simp[bm,sig,w1];refine rd (some 0) (by show 0+1<=b.length;omega) (by show b.length-(0+1)<b.length+1;omega) (he:=by simp) (hh:=by simp[dQ]) (hr2:=by simp[dQ])
   |some k=>
    have hk:k+1<=b.length:=hk
    by_cases z:k+1<b.length
    ·have w1:a3.wrap ((b.length:Int)-1-(k+1)-1)=b.length-1-(k+1+1):=by rw[aO _ (by omega) (by omega)];omega
     have e1:((b.length:Int)-1-(k+1)).toNat=b.length-1-(k+1):=by omega
     have g1:(k:Int)+1<=(b.length:Int)-1:=by omega
     have P:b.length-1-(k+1)<b.length:=by omega
     have hx:=al _ P;have ae:=QS (g (k+1)) (b[b.length-1-(k+1)]) k (g (k+1)).length rfl hx.1 (by omega) (by have:=U (k+1);omega);simp[g1,e1,P,T];refine cf ae [3,4] ?_ (al:=by simp[sig,dQ]) (aL:=by simp[sig]) (hr:=by simp[dQ]);simp[sig,dQ,bm,w1,Dc];refine rd (some (k+1)) z (by show b.length-(k+1+1)<b.length-(k+1);omega) (he:=by simp[l (k+1) z]) (hh:=by simp[l (k+1) z,dQ]) (hr2:=by simp[dQ])
    ·have V:b.length=k+1:=by omega
     have g2:¬(k:Int)+1<=(b.length:Int)-1:=by omega
     rw[V]at G I;rw[ee]at G;simp[g2];refine cf G [3,4] ?_ (al:=by simp[sig,dQ]) (aL:=by simp[sig]) (hr:=by simp[dQ]);simp[sig,bm,I]
theorem Dp(a:NI)(c:okW a.v)(b:(bd a.v.natAbs).length<=1000000):au prog 240 [eI a] (.str (bN a.v)):=by
 rcases h:a.sm with _|_
 ·exact Yk a h c b
 ·exact Yl a h
open Go
theorem Lm:∀(r:List Nat)(a:Nat),a<=r.foldl (fun n c=>n*10+(c-48)) a
 |[],a=>eb _
 |x::r,a=>ec (show a<=a*10+(x-48)by omega) (Lm r _)
theorem K7:∀(d:List Nat)(a:Nat),d.all cq=true->d.foldl (fun n c=>n*10+(c-48)) a<1000000000000000000->Lib.parseUint10 a (d.map gg)=.ok (d.foldl (fun n c=>n*10+(c-48)) a)
 |[],a,_,_=>rfl
 |c::r,a,h,b=>by
  simp only[cc,aT]at h;have hc:=h.1;simp only[cq,aT,decide_eq_true_eq]at hc;have f:=Lm r (a*10+(c-48));rw[b5]at b⊢;have e:(gg c).toNat=c:=by simp;omega
  rw[be,Lib.parseUint10,e,if_pos hc,if_neg (by omega),if_neg (by omega)];exact K7 r _ h.2 b
theorem Zk{d:List Nat}(h:d.all cq=true)(b:d≠[])(f:d.length<=18):Lib.atoiAll (d.map gg)=.ok (aX d):=by
 have i:=jR _ d rfl h;have j:10^d.length<=10^18:=dy (by omega) f;cases d with
 |nil=>exact(b rfl).elim
 |cons c r=>
  have hc:=(aT ..▸(cc▸h):cq c=true/\r.all cq=true).1;simp only[cq,aT,decide_eq_true_eq]at hc;have e:(gg c).toNat=c:=by simp;omega
  have g:aX (c::r)<1000000000000000000:=by omega
  have a:=K7 (c::r) 0 h g;rw[<-aX]at a;rw[be]at a;rw[be,Lib.atoiAll];simp only[e];rw[if_neg (by omega),Lib.parseMag,if_neg (by simp),a];dsimp only;rw[if_neg (by omega),if_neg (by omega),if_neg (by omega)]
theorem CU:∀(b:List Nat)(x:Nat),b.foldl (fun n c=>n*10+(c-48)) x=x*10^b.length+aX b
 |[],x=>by simp[aX]
 |c::b,x=>by
  rw[aX,b5,b5,CU b,CU b (0*10+(c-48)),c6,en,fw,eo,eP 10];simp[fd]
theorem LB(a b:List Nat):aX (a++b)=aX a*10^b.length+aX b:=by
 rw[aX,List.foldl_append,CU];rfl
theorem M6(k:Nat):10^k<=2^(4*k):=by
 rw[fv];exact e9 (by decide) k
theorem LK{a K:Nat}(h:4*a<=K):10^a<=2^K:=ec (M6 a) (dy (by decide) h)
theorem xi{n k:Nat}(h:n<2^k)(hk:k<=3*1000000):(bd n).length<=1000000:=
 xP h hk (by decide)
theorem zP(a:NF)(h:br kB a.q):au prog 146 [eF a] (.str (bc a.q)):=by
 have f:kB=100000:=rfl;have w:=CZ a;have c:=Dp a.num (iM h.1 qL) (xi h.1 (by omega));have d:=Dp a.den (iM (by rw[kT];exact h.2) qL) (xi (by rw[kT];exact h.2) (by omega));rw[lY]at c;rw[jX,vW]at d;have g:=xi h.1 (show kB<=3*1000000 by omega);have i:=xi h.2 (show kB<=3*1000000 by omega);have j:=DK a.q.num;refine aG nf PE mix (by simp[f146]) ?_;rw[bc]
 by_cases b:a.q.den=1
 ·have e:a.fR=true:=by simp[NF.fR,b]
  rw[e]at w;rw[if_pos b];simp[f146];refine c1 w ?_;simp[aa];refine c1 c ?_;simp
 ·have e:a.fR=false:=by simp[NF.fR,b]
  rw[e]at w;rw[if_neg b];simp[f146];refine c1 w ?_;simp[aa];refine e1 c ?_;simp[aa];refine⟨by omega,?_⟩;refine e1 d ?_;simp;omega
def kR:Nat:=2800
theorem Ap(s:List Nat)(i:(df s).all cq=true)(E:(df s).length<=700):au prog 242 [.str s] (eI (.mk' (if bY s=true then -(aX (df s):Int)else aX (df s)))):=by
 refine aG nf HM mix (by simp[f242]) ?_;simp[f242];refine c2 (ZG s) ?_;simp;refine c2 (K9 s) ?_;simp;generalize df s=d at*;generalize bY s=neg at*;have w:fA 0=eI (.mk' 0):=(oV (by decide) (by decide)).symm;rw[show PV.st 124 [.int .i64 0,.aH]=eI (.mk' 0)from w];refine lp (α:=List Nat×NI) (fun x=>⟨[(4,.ptr 1 []),(3,.p (.bool neg)),(2,.ptr 0 []),(0,.p (.str x.1))],[.box false (.p (eI (.mk' 0))),.box false (.p (eI x.2))]⟩)
  (fun x=>∃m:Nat,x.2.v=m/\m*10^x.1.length+aX x.1=aX d/\x.1.all cq=true/\x.1.length<=700/\m<2^kR) (fun x=>x.1.length) (d,.mk' 0) ⟨0,rfl,by simp,i,E,e6 (by decide)⟩ ?_
 rintro⟨r,o⟩ ⟨m,k1,k2,k3,k4,k5⟩;dsimp only at k1 k2 k3 k4 k5;have S:kR=2800:=rfl;have c:o.v.natAbs<2^kR:=by rw[k1,a4];exact k5
 have I:okW o.v:=iM c (by have:kB=100000:=rfl;omega)
 by_cases f:r=[]
 ·subst f;have u:o.v=aX d:=by rw[k1];simp[aX]at k2⊢;omega
  cases neg
  ·have e:eI (.mk' (aX d:Nat))=eI o:=nM (by rw[NI.jg,u]) (fun h=>by rw[NI.jg]at h;omega);simp;rw[e];simp[aa]
  ·have e:eI (.mk' (-(aX d:Nat)))=eI o.neg:=by rw[NI.neg,u]
   simp;rw[e];refine c1 (uN o I) ?_;simp[aa]
 ·have L:0<r.length:=a5.2 f;obtain⟨n,U⟩:∃n,n=min 18 r.length:=⟨_,rfl⟩
  have j:n<=r.length:=by omega
  have V:0<n:=by omega
  have G:n<=18:=by omega
  have H:(if(r.length:Int)<18 then(r.length:Int)else 18)=n:=by split<;>omega
  have g:(r.take n).length=n:=by rw[cy];omega
  have a:=k3;rw[<-bo n r,List.all_append,aT]at a;have N:=jR _ (r.take n) rfl a.1;have C:=Z6 (r.take n) (aX (r.take n)) (Zk a.1 (by intro e;rw[e]at g;simp at g;omega) (by omega)) (by omega);rw[g]at N;have q:10^n<=10^18:=dy (by decide) G;have z:10^n<wB^1:=by rw[fm];exact ea q (by decide)
  have A:((10^n:Nat):Int).natAbs<2^64:=by rw[a4];exact ea q (by decide)
  have O:=dT bp 1 _ z;have W:=zA c;have P:kB=100000:=rfl;have X:=jR _ d rfl i;have Q:10^d.length<=2^kR:=LK (by have:kR=2800:=rfl;omega);have J:=Z0 (.of 10) n (10^n) (by decide) rfl (by omega) (by decide) (by omega);have F:=AR o (.mk' (10^n:Nat)) (by rw[NI.jg,a4];omega);have B:=xJ (o.mul (.mk' (10^n:Nat))) (.of (aX (r.take n):Nat)) (iM (pM (x:=o.v) (y:=((10^n:Nat):Int)) c A) (by omega)) (iM (k:=64) (show((aX (r.take n):Nat):Int).natAbs<2^64 by rw[a4];omega) (by omega));have l:=s9 (aX (r.take n):Nat);rw[<-uQ (by omega) (by omega)]at l;have t:=s9 10;rw[<-uQ (by decide) (by decide)]at t;have M:aX r=aX (r.take n)*10^(r.drop n).length+aX (r.drop n):=by rw[<-LB,bo]
  have K:r.length=n+(r.drop n).length:=by rw[List.length_drop];omega
  have D:(m*10^n+aX (r.take n))*10^(r.drop n).length+aX (r.drop n)=aX d:=by
   rw[<-k2,M,K,Nat.pow_add,fw,eo,fd]
  generalize 10^n=T at*;generalize Y:aX (r.take n)=b at*;have R:m*T+b<=aX d:=by
   have:=Nat.le_mul_of_pos_right (m*T+b) (show 0<10^(r.drop n).length from e6 (by decide));omega
  simp[f,L,H];refine⟨j,?_⟩;refine c1 C ?_;simp;refine e1 t ?_;simp;refine e2 J ?_;simp[aa];refine e2 F ?_;simp;refine e1 l ?_;simp;refine e2 B ?_;simp[aa];refine⟨rfl,j,?_⟩;refine rd (r.drop n,(o.mul (.mk' T)).add (.of b)) ⟨m*T+b,by rw[NI.sT,NI.mJ,NI.jg,k1];rfl,D,a.2,by dsimp only;omega,by omega⟩ (by dsimp only;omega)
theorem Di{s:List Nat}(h:dO s=true):bY s=false/\df s=s:=by
 have b:=ks h;have:bY s=false:=by
  rw[bY,decide_eq_false_iff_not];intro a;cases s with
  |nil=>simp at a
  |cons c r=>
   simp at a;subst a;rw[cc,aT]at b;simp[cq]at b
 exact⟨this,by rw[df,this];rfl⟩
theorem Lp(s:List Nat):bY (b8 47 s).1=bY s/\df (b8 47 s).1=bH s/\(b8 47 s).2.1=bP s/\(b8 47 s).2.2=eL s:=by
 cases s with
 |nil=>exact⟨rfl,rfl,rfl,rfl⟩
 |cons c r=>
  by_cases h:c=45
  ·subst h;have e:b8 47 (45::r)=(45::(b8 47 r).1,(b8 47 r).2.1,(b8 47 r).2.2):=by rw[b8,if_neg (by decide)]
   rw[e];exact⟨rfl,rfl,rfl,rfl⟩
  ·have b:bY (c::r)=false:=by rw[bY,decide_eq_false_iff_not];simpa using h
   have a:df (c::r)=c::r:=by rw[df,b];rfl
   have d:bY (b8 47 (c::r)).1=false:=by
    rw[bY,decide_eq_false_iff_not,b8]
    split
    ·simp
    ·simpa using h
   refine⟨by rw[b,d],?_,?_,?_⟩
   ·rw[df,d,bH,a];rfl
   ·rw[bP,a]
   ·rw[eL,a]
theorem Zy{s:List Nat}(h:b6 s=0):dO (bH s)=true/\(bH s).length<=600/\(bP s).length<=600/\(eL s=true->dO (bP s)=true):=by
 unfold b6 at h
 split at h
 ·cases h
 rename_i a
 split at h
 ·cases h
 rename_i d;have a:nL s=true:=by simpa using a
 simp only[nL,aT,Bool.or_eq_true,Bool.not_eq_true']at a;refine⟨a.1.1,by omega,by omega,fun c=>?_⟩;rcases a.2 with b|b
 ·rw[c]at b;cases b
 ·exact b.1.1
theorem T9(z:Int):df (bN z)=bd z.natAbs:=by
 have:=(zk z []).2;simpa using this
theorem ue(c:Nat):∀s:List Nat,(b8 c s).1.length<=s.length/\(b8 c s).2.1.length<=s.length/\(∀x∈(b8 c s).1,x∈s)/\(∀x∈(b8 c s).2.1,x∈s)
 |[]=>by simp[b8]
 |y::r=>by
  have a:=ue c r;rw[b8]
  split
  ·simp;intro x hx;exact .inr hx
  ·simp only[c6,dp];refine⟨by omega,by omega,?_,fun x hx=>.inr (a.2.2.2 x hx)⟩;rintro x (rfl|hx)
   ·exact .inl rfl
   ·exact .inr (a.2.2.1 x hx)
theorem pN(s:List Nat):(df s).length<=s.length/\∀x∈df s,x∈s:=by
 rw[df]
 split
 ·exact⟨by simp,fun x hx=>List.mem_of_mem_tail hx⟩
 ·exact⟨eb _,fun _ h=>h⟩
theorem l9(s:List Nat)(h:b6 s=0)(n:s.length<=1048576):au prog 147 [.str s] (eF ⟨bg s,false⟩):=by
 obtain⟨l,t,u,m⟩:=Zy h;obtain⟨o,f,p,q⟩:=Lp s;obtain⟨q1,r,a⟩:=jm h;have b:=Qv s 47 n;rw[p,q]at b;have c:=Ap (b8 47 s).1 (by rw[f];exact ks l) (by rw[f];omega);rw[o,f]at c;have j:eI (NF.mk (bg s) false).num=eI (.mk' (if bY s=true then -(aX (bH s):Int)else aX (bH s))):=by
  show eI ⟨(bg s).num,false⟩=_;rw[r];rfl
 rw[<-j]at c;refine aG nf N5 mix (by simp[f147]) ?_;cases hf:eL s
 ·rw[hf]at b a;simp only[a0,if_false]at a;have e:(NF.mk (bg s) false).den=.mk' 1:=by
   show NI.mk' ((bg s).den:Int)=_;rw[a];rfl
  have i:=D5 (NF.mk (bg s) false).num;have k:eF (.whole (NF.mk (bg s) false).num)=eF ⟨bg s,false⟩:=by
   rw[eF,eF,e];rfl
  rw[k]at i;simp[f147];refine c2 b ?_;simp;refine c1 c ?_;simp;refine c1 i ?_;simp[aa]
 ·rw[hf]at b a;simp only[if_true]at a;have g:=m hf;obtain⟨d1,d2⟩:=Di g;have d:=Ap (bP s) (by rw[d2];exact ks g) (by rw[d2];omega);rw[d1,d2]at d;simp only[a0,if_false]at d;have e:eI (NF.mk (bg s) false).den=eI (.mk' (aX (bP s):Nat)):=by
   show eI (NI.mk' ((bg s).den:Int))=_;rw[a]
  rw[<-e]at d;rw[eF];simp[f147];refine c2 b ?_;simp;refine c1 c ?_;simp;refine c1 d ?_;simp[aa]
def lC(n:Nat):Bool:=decide (600<(bd n).length)
theorem Py(a:NI)(h:a.v.natAbs<2^kB):au prog 224 [eI a] (.bool (lC a.v.natAbs)):=by
 have l:kB=100000:=rfl;have d:=iM h qL;have g:=ZT a d;have i:=Dp a d (xi h (by omega));have c:=K9 (bN a.v);rw[T9]at c;refine aG nf HR mix (by simp[f224]) ?_;simp[f224];refine c1 g ?_
 by_cases j:1800<oX a.v.natAbs
 ·have b:(1800:Int)<(oX a.v.natAbs:Nat):=by omega
  have e:decide ((600:Int)<((bd a.v.natAbs).length:Nat))=lC a.v.natAbs:=by rw[lC,decide_eq_decide];omega
  simp[b];refine c1 i ?_;simp;refine c2 c ?_;simp[lC];omega
 ·have f:=dz (L8 a.v.natAbs) (dy (show 0<2 by decide) (show oX a.v.natAbs<=3*600 by omega));have k:=Ka f (by decide);have e:lC a.v.natAbs=false:=by rw[lC,decide_eq_false_iff_not];omega
  have b:¬(1800:Int)<(oX a.v.natAbs:Nat):=by omega
  simp[b,e]
def mW(q:Rat):Bool:=lC q.num.natAbs||lC q.den
theorem zX(a:NF)(h:br kB a.q):au prog 131 [eF a] (.bool (mW a.q)):=by
 have b:=Py a.num h.1;have c:=Py a.den (by rw[kT];exact h.2);rw[lY]at b;rw[kT]at c;refine aG nf IK mix (by simp[f131]) ?_;rw[mW];cases hc:lC a.q.num.natAbs
 ·rw[hc]at b;simp[f131,aa];refine c1 b ?_;simp[aa];refine c1 c ?_;simp
 ·rw[hc]at b;simp[f131,aa];refine c1 b ?_;simp
def xI:List (Nat×Func)->a1->Option Func
 |[],_=>none
 |(i,g)::r,f=>bif Nat.beq i f then some g else xI r f
def BH(P:Program):List (Nat×Func)->Prop
 |[]=>True
 |p::r=>ar P p.1 p.2/\BH P r
theorem MD{P:Program}:∀{l:List (Nat×Func)},BH P l->∀{f:Nat}{fn:Func},xI l f=some fn->ar P f fn
 |[],_,f,fn,h=>by simp[xI]at h
 |(i,g)::r,a,f,fn,h=>by
  simp only[xI,Bool.cond_eq_ite]at h
  split at h
  ·rename_i hf;simp only[ge]at h;subst h;rw[<-Nat.eq_of_beq_eq_true hf];exact a.1
  ·exact MD a.2 h
noncomputable def So:List (Nat×Func):=[(2,f2),(3,f3),(4,f4),(5,f5),(6,f6),(7,f7),(8,f8),(9,f9),(10,f10),(11,f11),(12,f12),(13,f13),(14,f14),(15,f15),(16,f16),(17,f17),(18,f18),(19,f19),(20,f20),(21,f21),(22,f22),(23,f23),(24,f24),(25,f25),(26,f26),(27,f27),(28,f28),(29,f29),(30,f30),(31,f31),(32,f32),(33,f33),(34,f34),(35,f35),(36,f36),(37,f37),(38,f38),(39,f39),(40,f40),(41,f41),(42,f42),(43,f43),(44,f44),(45,f45),(46,f46),(47,f47),(48,f48),(49,f49),(50,f50),(51,f51),(52,f52),(53,f53),(54,f54),(55,f55),(56,f56),(57,f57),(58,f58),(59,f59),(60,f60),(61,f61),(62,f62),(63,f63),(64,f64),(65,f65),(66,f66),(67,f67),(68,f68),(69,f69),(70,f70),(71,f71),(72,f72),(73,f73),(74,f74),(75,f75),(76,f76),(77,f77),(78,f78),(79,f79),(80,f80),(81,f81),(82,f82),(83,f83),(84,f84),(85,f85),(86,f86),(87,f87),(88,f88),(89,f89),(90,f90),(91,f91),(92,f92),(93,f93),(94,f94),(95,f95),(96,f96),(97,f97),(98,f98),(99,f99),(100,f100),(101,f101),(102,f102),(103,f103),(104,f104),(105,f105),(106,f106),(107,f107),(108,f108),(109,f109),(110,f110),(111,f111),(112,f112),(113,f113),(114,f114),(115,f115),(116,f116),(117,f117),(118,f118),(119,f119),(120,f120),(121,f121),(122,f122),(123,f123),(124,f124),(125,f125),(126,f126),(127,f127),(128,f128),(129,f129),(130,f130),(131,f131),(132,f132),(133,f133),(134,f134),(135,f135),(136,f136),(137,f137),(138,f138),(139,f139),(140,f140),(141,f141),(142,f142),(143,f143),(144,f144),(145,f145),(146,f146),(147,f147),(148,f148),(149,f149),(150,f150),(151,f151),(152,f152),(153,f153),(154,f154),(155,f155),(156,f156),(157,f157),(158,f158),(159,f159),(160,f160),(161,f161),(162,f162),(163,f163),(164,f164),(165,f165),(166,f166),(167,f167),(168,f168),(169,f169),(170,f170),(171,f171),(172,f172),(173,f173),(174,f174),(175,f175),(176,f176),(177,f177),(178,f178),(179,f179),(180,f180),(181,f181),(182,f182),(183,f183),(184,f184),(185,f185),(186,f186),(187,f187),(188,f188),(189,f189),(190,f190),(191,f191),(192,f192),(193,f193),(194,f194),(195,f195),(196,f196),(197,f197),(198,f198),(199,f199),(200,f200),(201,f201),(202,f202),(203,f203),(204,f204),(205,f205),(206,f206),(207,f207),(208,f208),(209,f209),(210,f210),(211,f211),(212,f212),(213,f213),(214,f214),(215,f215),(216,f216),(217,f217),(218,f218),(219,f219),(220,f220),(221,f221),(222,f222),(223,f223),(224,f224),(225,f225),(226,f226),(227,f227),(228,f228),(229,f229),(230,f230),(231,f231),(232,f232),(233,f233),(234,f234),(235,f235),(236,f236),(237,f237),(238,f238),(239,f239),(240,f240),(241,f241),(242,f242),(243,f243),(244,f244),(245,f245),(246,f246),(247,f247),(248,f248),(249,f249),(250,f250),(251,f251),(252,f252),(253,f253),(254,f254),(255,f255),(256,f256),(257,f257),(258,f258),(259,f259),(260,f260),(261,f261),(262,f262),(263,f263),(264,f264),(265,f265),(266,f266),(267,f267),(268,f268),(269,f269),(270,f270),(271,f271),(272,f272),(273,f273),(274,f274),(275,f275),(276,f276),(277,f277),(278,f278),(279,f279),(280,f280),(281,f281),(282,f282),(283,f283),(284,f284),(285,f285),(286,f286),(287,f287),(288,f288),(289,f289),(290,f290),(291,f291),(292,f292),(293,f293),(294,f294),(295,f295),(296,f296),(297,f297),(298,f298),(299,f299),(300,f300),(301,f301),(302,f302),(303,f303),(304,f304),(305,f305),(306,f306),(307,f307),(308,f308),(309,f309),(310,f310),(311,f311),(312,f312),(313,f313),(315,f315),(316,f316),(317,f317),(318,f318),(319,f319),(320,f320),(321,f321),(322,f322),(323,f323),(324,f324),(325,f325),(326,f326),(327,f327),(328,f328),(329,f329),(330,f330),(331,f331),(332,f332),(333,f333),(334,f334),(335,f335),(336,f336),(337,f337),(338,f338),(339,f339),(340,f340),(341,f341),(342,f342),(344,f344),(345,f345),(346,f346),(347,f347),(348,f348),(349,f349),(350,f350),(351,f351),(352,f352),(353,f353),(354,f354),(356,f356),(358,f358),(359,f359),(360,f360),(361,f361),(362,f362),(363,f363),(364,f364),(365,f365),(366,f366),(367,f367),(368,f368),(369,f369),(370,f370),(371,f371),(372,f372),(373,f373),(374,f374),(375,f375),(378,f378),(379,f379),(380,f380),(381,f381),(382,f382),(383,f383),(384,f384),(385,f385),(386,f386),(387,f387),(388,f388),(389,f389),(390,f390),(391,f391),(392,f392),(393,f393),(394,f394),(428,f428)]
theorem aLy:BH prog So:=⟨aEB,vg,aII,aIO,aIZ,Rp,Rx,aJb,E9,Q2,Q3,Fa,Fb,Q5,Q6,Q7,Q8,aEj,aEC,aEF,aEG,aHp,aHr,aHs,aHu,aHx,aHy,aHA,aHE,aHH,Q9,aHM,aHU,aH1,aIa,aIj,aIs,aIC,Ra,Rb,Rc,Rd,Re,Rf,aIK,aIL,aIM,aIN,aIP,aIQ,aIR,aIS,aIT,aIU,aIV,aIW,aIX,aIY,Fc,Rg,Rh,Ri,Rj,Rk,Rl,Rm,Rn,Ro,Rq,Rr,Rs,Rt,Ru,Rv,Rw,aI0,aI1,aI2,aI3,aI4,aI5,aI6,aI7,aI8,Ry,Rz,aI9,aJa,RA,RC,RD,RE,aJc,aJd,RF,aJe,RG,aJf,aAN,aAO,GS,aAP,aAQ,aAR,PI,aAS,aAT,aAU,aAV,aBn,Hc,G9,G8,PH,PG,aBV,aCl,aCs,Qi,Qh,IX,IW,IV,IU,IQ,IP,aCu,IM,IL,IK,IJ,II,IH,HJ,aCw,aCW,aDn,aDp,HI,HG,aDy,HF,HE,PF,PE,N5,PD,PC,PB,PA,Pz,FM,FL,FK,Qg,B9,HC,HB,HA,Hz,Qc,aDJ,EN,aDL,Qb,aDO,Qa,aDY,P9,P8,P7,P6,P5,G7,G6,aD5,G5,G4,G3,aEa,aEb,G2,aEd,aEe,G1,G0,aEf,aEg,aEk,aEm,aEn,aEr,GZ,aEx,aEy,P3,aEz,aEA,aED,Hy,Ie,Ic,Ib,Ia,H9,H8,H7,Gy,Gx,Gw,H6,H5,H4,F9,H3,HZ,HY,HX,HW,HV,HU,HT,HR,HQ,HP,HO,HN,EM,P2,P1,P0,PZ,PY,aHq,PX,PW,A5,OQ,EJ,Gv,HM,B8,HL,OP,MH,OO,N4,ON,OM,OL,HK,OK,OJ,Kv,O8,O7,O6,aHt,aHv,F8,Gu,O5,Gt,Gs,Gr,Gq,GK,aHw,GJ,N3,vG,O4,IG,IF,B7,GI,GH,GG,GF,IE,ID,IC,aHz,B6,IB,IA,Iz,Iy,Ix,Iw,aHB,O3,O2,aHC,O1,O0,aHD,EK,OZ,Iv,aHF,aHG,Iu,N2,OY,OX,OW,It,Is,OV,Ir,OU,Iq,aHI,OT,OS,GD,OR,aHJ,aHK,Ip,Io,Im,GC,GB,Il,aHL,Pp,aHN,Po,Ik,aHO,aHP,aHQ,aHR,aHS,aHT,aHV,aHW,aHX,Ij,aHY,Ii,Ih,aHZ,aH0,aH2,aH3,aH4,aH5,aH6,aH7,aH8,aH9,aIb,aIc,aId,aIe,aIf,aIg,aIh,aIi,Ig,Hi,aIk,aIl,aIm,aIn,aIo,aIp,aIq,aIr,aIt,aIu,Hh,aIv,aIw,aIx,aIy,aIz,aIA,aIB,aID,aIE,aIF,aIG,aIH,aIJ,trivial⟩
noncomputable def yc(a:a1->List PV->Option PV)(mh:a1->a1->Nat):nX:=⟨xI So,a,fun _ _ _=>none,mh,fun _ _ _=>none⟩
theorem aKC{a:a1->List PV->Option PV}{mh:a1->a1->Nat}(h:∀f vs v,a f vs=some v->au prog f vs v):oN prog (yc a mh):=by
 refine⟨mix,fun f fn hf=>MD aLy hf,fun f vs v hk=>h f vs v hk,fun f args H v H' hk=>?_,fun f args H al v hk=>?_⟩
 ·simp only[yc]at hk;cases hk
 ·simp only[yc]at hk;cases hk
noncomputable def Sg(a:a1->List PV->Option PV)(mh:a1->a1->Nat)(f:a1)(vs:List PV):Option PV:=qP prog nf (yc a mh) (kY prog nf (yc a mh) 20) f vs
theorem Nt{facts:a1->List PV->Option PV}{mh:a1->a1->Nat}(h:∀f vs v,facts f vs=some v->au prog f vs v){f:a1}{vs:List PV}{v:PV}(a:Sg facts mh f vs=some v):au prog f vs v:=reckon 20 (aKC h) a
def noF:a1->List PV->Option PV:=fun _ _=>none
def qQ:PV:=.st 408 ((cb 256).map fun i=>.bool (cq i))
theorem Mp(c:Nat)(hc:c<256):au prog 382 [.cm qQ,.int .u8 c] (.bool (cq c)):=by
 refine aG nf Hh mix (by simp[f382]) ?_;have a:(cb 256)[c]?=some c:=ce hc;simp[f382,qQ,a,hc]
theorem Vv(s:List Nat)(h:s.length<=1048576)(g:∀c∈s,c<256):au prog 368 [.str s,.cm qQ] (.str (lX s)):=by
 refine aG nf Ig mix (by simp[f368]) ?_;simp[f368];refine lp (α:=List Nat) (fun r=>⟨[(1,.p (.cm qQ)),(0,.p (.str r))],[]⟩) (fun r=>lX r=lX s/\r.length<=s.length/\∀c∈r,c<256) (fun r=>r.length) s (by exact⟨rfl,eb _,g⟩) ?_;rintro r ⟨a,f,b⟩;cases r with
 |nil=>
  have e:lX s=[]:=by rw[<-a];rfl
  simp[e]
 |cons x r=>
  have hx:=b x (by simp);have i:lX (x::r)=if cq x=true then lX r else x::r:=by
   rw[lX,cv];split<;>rfl
  rw[i]at a;have j:(0:Int)<(r.length:Int)+1:=by omega
  simp[j];refine c2 (Mp x hx) ?_;cases d:cq x
  ·rw[d]at a;simp[<-a]
  ·rw[d]at a;simp;exact rd r ⟨by simpa using a,by simp at f;omega,fun c hc=>b c (by simp[hc])⟩ (h1:=by simp)
theorem U8(s:List Nat)(h:s.length<=1048576)(g:∀c∈s,c<256):au prog 369 [.str s,.cm qQ] (.str (jx s)):=by
 refine aG nf Hi mix (by simp[f369]) ?_;simp[f369];refine lp (α:=List Nat) (fun r=>⟨[(1,.p (.cm qQ)),(0,.p (.str r))],[]⟩) (fun r=>jx r=jx s/\r.length<=s.length/\∀c∈r,c<256) (fun r=>r.length) s (by exact⟨rfl,eb _,g⟩) ?_;rintro r ⟨a,b,d⟩;rcases List.eq_nil_or_concat r with rfl|⟨t,x,rfl⟩
 ·have e:jx s=[]:=by rw[<-a];rfl
  simp[e]
 ·simp only[List.concat_eq_append]at a b d⊢;have hx:=d x (by simp);have i:jx (t++[x])=if cq x=true then jx t else t++[x]:=by
   rw[jx,List.reverse_append,List.reverse_cons,b2,db,List.singleton_append,cv]
   split
   ·rfl
   ·simp
  rw[i]at a;have j:(0:Int)<(t.length:Int)+1:=by omega
  have w1:a3.wrap (t.length:Int)=t.length:=aO _ (by omega) (by simp at b;omega);simp[j,w1];refine c2 (Mp x hx) ?_;cases f:cq x
  ·rw[f]at a;simp[<-a]
  ·rw[f]at a;simp[w1];exact rd t ⟨by simpa using a,by simp at b;omega,fun c hc=>d c (by simp[hc])⟩ (h1:=by simp)
def xR:List Nat:=[48,49,50,51,52,53,54,55,56,57]
theorem Yj:au prog 367 [.str xR] (.aC [qQ,.bool true]):=Nt (facts:=noF) (mh:=fun _ _=>0) (fun _ _ _ h=>by cases h) (by kernel_rfl)
theorem aLM:b9 prog 409=some (.st 408 (a9 256 (.bool false))):=by kernel_rfl
theorem ZE(s:List Nat)(h:s.length<=1048576)(d:∀c∈s,c<256):au prog 346 [.str s,.str xR] (.str (lX (jx s))):=by
 refine aG nf Ii mix (by simp[f346]) ?_
 by_cases b:s=[]
 ·subst b;simp[f346,xR,lX,jx]
 simp[f346,xR,b];refine c1 Yj ?_;have g:(jx s).length<=s.length:=by
  rw[jx,List.length_reverse];have:=(cd cq (l:=s.reverse)).length_le;simpa using this
 have f:∀c∈jx s,c<256:=by
  intro c hc;rw[jx,List.mem_reverse]at hc;exact d c (by simpa using(cd cq (l:=s.reverse)).subset hc)
 simp[aLM];have a:aI qQ=.agg 408:=rfl;refine⟨⟨⟨a.symm,by rw[a];intro e;cases e⟩,a.symm⟩,?_⟩;refine cp (U8 s h d) (by simp;exact⟨rfl,rfl⟩) ?_;simp;refine cp (Vv (jx s) (by omega) f) (by simp;exact⟨rfl,rfl⟩) ?_;simp
def bF:List Int->Int
 |[]=>0
 |e::r=>if e=0 then bF r else e
def aY(b:Bool)(e:Int):Int:=if b=true then e else 0
theorem ZF(a:List Int)(h:a.length<=1048576):au prog 318 [.seq (a.map (.int .i64))] (.int .i64 (bF a)):=by
 refine aG nf OS mix (by simp[f318]) ?_;simp[f318];refine lp (α:=Nat) (fun i=>⟨[(7,.p (.int .i64 i)),(6,.p (.int .i64 a.length)),(5,.p (.seq (a.map (.int .i64))))],[]⟩) (fun i=>i<=a.length/\bF (a.drop i)=bF a) (fun i=>a.length-i) 0 (by simp) ?_;rintro i ⟨d,b⟩;simp
 by_cases hi:i<a.length
 ·rw[bf hi]at b;have c:=ct (i:=i) (by omega);simp[hi]
  by_cases he:a[i]=0
  ·simp[bF,he]at b;simp[he,c];exact rd (i+1) ⟨hi,b⟩
  ·simp[bF,he]at b;simp[he,<-b]
 ·have:i=a.length:=by omega
  subst this;simp[bF]at b;simp[<-b]
theorem za(a:List Int)(h:a.length<=1048576):au prog 86 [.seq (a.map (.int .i64))] (.int .i64 (bF a)):=by
 refine aG nf Ry mix (by simp[f86]) ?_;simp[f86];refine lp (α:=Nat) (fun i=>⟨[(7,.p (.int .i64 i)),(6,.p (.int .i64 a.length)),(5,.p (.seq (a.map (.int .i64))))],[]⟩) (fun i=>i<=a.length/\bF (a.drop i)=bF a) (fun i=>a.length-i) 0 (by simp) ?_;rintro i ⟨d,b⟩;simp
 by_cases hi:i<a.length
 ·rw[bf hi]at b;have c:=ct (i:=i) (by omega);simp[hi]
  by_cases he:a[i]=0
  ·simp[bF,he]at b;simp[he,c];exact rd (i+1) ⟨hi,b⟩
  ·simp[bF,he]at b;simp[he,<-b]
 ·have:i=a.length:=by omega
  subst this;simp[bF]at b;simp[<-b]
theorem qW(a:List Int)(h:a.length<=1048576):au prog 214 [.seq (a.map (.int .i64))] (.int .i64 (bF a)):=by
 refine aG nf H4 mix (by simp[f214]) ?_;simp[f214];refine lp (α:=Nat) (fun i=>⟨[(7,.p (.int .i64 i)),(6,.p (.int .i64 a.length)),(5,.p (.seq (a.map (.int .i64))))],[]⟩) (fun i=>i<=a.length/\bF (a.drop i)=bF a) (fun i=>a.length-i) 0 (by simp) ?_;rintro i ⟨d,b⟩;simp
 by_cases hi:i<a.length
 ·rw[bf hi]at b;have c:=ct (i:=i) (by omega);simp[hi]
  by_cases he:a[i]=0
  ·simp[bF,he]at b;simp[he,c];exact rd (i+1) ⟨hi,b⟩
  ·simp[bF,he]at b;simp[he,<-b]
 ·have:i=a.length:=by omega
  subst this;simp[bF]at b;simp[<-b]
theorem w8(b:Bool)(e:Int):au prog 319 [.bool b,.int .i64 e] (.int .i64 (aY b e)):=by
 refine aG nf GD mix (by simp[f319]) ?_;cases b<;>simp[f319,aY]
theorem vT(b:Bool)(e:Int):au prog 106 [.bool b,.int .i64 e] (.int .i64 (aY b e)):=by
 refine aG nf PI mix (by simp[f106]) ?_;cases b<;>simp[f106,aY]
theorem ji(b:Bool)(e:Int):au prog 215 [.bool b,.int .i64 e] (.int .i64 (aY b e)):=by
 refine aG nf F9 mix (by simp[f215]) ?_;cases b<;>simp[f215,aY]
theorem Ol(s:List Nat)(h:s.length<=1048576)(i:∀c∈s,c<256):au prog 317 [.str s] (.bool (dO s)):=by
 have f:=ZE s h i;have g:=Wq s;rw[show xR=[48,49,50,51,52,53,54,55,56,57]from rfl]at f;refine aG nf OT mix (by simp[f317]) ?_;generalize lX (jx s)=t at*;cases s with
 |nil=>simp[f317,dO]
 |cons c r=>
  have hc:=i c (by simp)
  by_cases b:t=[]
  ·have d:=g.1 b;have e:dO (c::r)=(decide (¬c=48)||decide (r=[])):=by
    rw[dO,d]
    by_cases a:c=48
    ·subst a;simp
    ·simp[a]
   rw[e];clear e d g
   by_cases a:c=48
   ·cases r with
    |nil=>
     simp[f317];refine c2 f ?_;simp[b,a]
    |cons x r=>
     simp[f317];refine c2 f ?_;simp[b,a]
   ·have j:¬(c:Int)=48:=by omega
    simp[f317];refine c2 f ?_;simp[b,a,j]
  ·have d:¬(c::r).all cq=true:=mt g.2 b;have a:(c::r).all cq=false:=by simpa using d
   have e:dO (c::r)=false:=by rw[dO,a];simp
   rw[e];clear e d a g;simp[f317];refine c2 f ?_;simp[b]
theorem aAt{a b:Nat}:(decide (kG (fc a b) 1≠0))=decide (fl a b≠1):=by
 rw[decide_eq_decide,kG,fc,a4,a4]
 split
 ·simp;omega
 ·split
  ·simp;omega
  ·simp;omega
theorem Fp{s:List Nat}(h:s.all cq=true)(c:s.length<=700):okW (aX s:Nat):=by
 have a:=jR _ s rfl h;have b:aX s<2^kR:=dz a (LK (by have:kR=2800:=rfl;omega));exact iM (k:=kR) (by rw[a4];exact b) (by have:kB=100000:=rfl;have:kR=2800:=rfl;omega)
theorem AH(s:List Nat)(h:s.length<=1048576)(K:∀c∈s,c<256):au prog 278 [.str s] (.int .i64 (b6 s)):=by
 have X:=Zf s;have A:=Qv (df s) 47 (ec (pN s).1 h);rw[show(b8 47 (df s)).1=bH s from rfl,show(b8 47 (df s)).2.1=bP s from rfl,show(b8 47 (df s)).2.2=eL s from rfl]at A;refine aG nf GH mix (by simp[f278]) ?_;simp[f278,-aW];rw[aW];simp[-aW];rw[aW];simp[-aW];refine c2 X ?_;simp[-aW];rw[aW];simp[-aW];refine c2 A ?_;simp[-aW];have ab:=(pN s).1;have q:=ue 47 (df s);have ad:(bH s).length<=1048576:=by have:=q.1;rw[bH];omega
 have ac:(bP s).length<=1048576:=by have:=q.2.1;rw[bP];omega
 have W:∀c∈bH s,c<256:=fun c hc=>K c ((pN s).2 c (q.2.2.1 c hc));have V:∀c∈bP s,c<256:=fun c hc=>K c ((pN s).2 c (q.2.2.2 c hc));clear q ab;have Z:=Ol (bH s) ad W;have Y:=Ol (bP s) ac V;obtain⟨m,B⟩:∃m,m=(dO (bH s)&&!(bY s&&decide (bH s=[48]))):=⟨_,rfl⟩
 obtain⟨f2,k⟩:∃f2,f2=(m&&(!eL s||(dO (bP s)&&decide (bP s≠[48])&&decide (bP s≠[49])))):=⟨_,rfl⟩
 have L:b6 s=if f2=false then 1 else if 600<(bH s).length\/600<(bP s).length then 4 else if eL s=true/\fl (aX (bH s)) (aX (bP s))≠1 then 1 else 0:=by rw[k,B];rfl
 rw[L];clear L A;generalize eL s=fr at*;refine join (fun s'=>aN s'.env 8=.p (.bool m)/\aN s'.env 7=.p (.bool fr)/\aN s'.env 6=.p (.str (bP s))/\aN s'.env 5=.p (.str (bH s))/\s'.heap=[]) ?_ ?_
 ·simp;refine c1 Z ?_;rw[B];cases dO (bH s)
  ·simp
  ·cases bY s
   ·simp
   ·by_cases r:bH s=[48]
    ·simp[r]
    ·simp[r]
 rintro⟨I,aa⟩ ⟨d,f,g,i,t⟩;dsimp only at d f g i t;subst t;refine join (fun s'=>aN s'.env 8=.p (.bool f2)/\aN s'.env 7=.p (.bool fr)/\aN s'.env 6=.p (.str (bP s))/\aN s'.env 5=.p (.str (bH s))/\s'.heap=[]) ?_ ?_
 ·rw[k];cases fr
  ·simp[d,f,g,i]
  ·cases m
   ·simp[d,f,g,i]
   ·simp[d,f,g,i];refine c1 Y ?_;cases dO (bP s)
    ·simp[d,f,g,i]
    ·by_cases r:bP s=[48]
     ·simp[d,f,g,i,r]
     ·by_cases N:bP s=[49]
      ·simp[d,f,g,i,N]
      ·simp[d,f,g,i,r,N]
 clear d f g i I;rintro⟨I,aa⟩ ⟨d,f,g,i,t⟩;dsimp only at d f g i t;subst t;have head:∀(n v:Bool),au prog 318 [.seq [.int .i64 (aY n 1),.int .i64 (aY v 4)]] (.int .i64 (if n=true then 1 else if v=true then 4 else 0)):=fun n v=>by
  have:=ZF [aY n 1,aY v 4] (by simp);cases n<;>cases v<;>exact this
 have w0:=w8 (!f2) 1;have R:=w8 true 4;have wf:=w8 false 4;have J:=head (!f2) true;have U:=head (!f2) false;have O:(600<(bH s).length)↔(600:Int)<((bH s).length:Nat):=by omega
 have P:(600<(bP s).length)↔(600:Int)<((bP s).length:Nat):=by omega
 by_cases u:(600:Int)<((bH s).length:Nat)
 ·simp[d,f,g,i];refine c2 w0 ?_;simp[d,f,g,i,u];refine c2 R ?_;simp;refine cp J (by simp;exact⟨rfl,rfl⟩) ?_;cases f2
  ·simp
  ·simp[O.2 u]
 by_cases x:(600:Int)<((bP s).length:Nat)
 ·simp[d,f,g,i];refine c2 w0 ?_;simp[d,f,g,i,u,x];refine c2 R ?_;simp;refine cp J (by simp;exact⟨rfl,rfl⟩) ?_;cases f2
  ·simp
  ·simp[P.2 x]
 have E:¬600<(bH s).length:=mt O.1 u;have F:¬600<(bP s).length:=mt P.1 x;have Q:=w8 false 1;have ag:=w8 true 1;simp[d,f,g,i];refine c2 w0 ?_;simp[d,f,g,i,u,x];refine c2 wf ?_;simp;refine cp U (by simp;exact⟨rfl,rfl⟩) ?_;cases f2
 ·simp
 cases fr
 ·simp[d,f,g,i,E,F];refine c2 Q ?_;simp[aY];exact⟨by omega,by omega⟩
 have j:dO (bH s)=true/\dO (bP s)=true:=by
  cases S:dO (bH s)
  ·rw[B,S]at k;simp at k
  cases T:dO (bP s)
  ·rw[T]at k;simp at k
  exact⟨rfl,rfl⟩
 obtain⟨ae,G⟩:=Di j.1;obtain⟨af,H⟩:=Di j.2;have y:=Ap (bH s) (by rw[G];exact ks j.1) (by rw[G];omega);have z:=Ap (bP s) (by rw[H];exact ks j.2) (by rw[H];omega);rw[ae,G]at y;rw[af,H]at z;simp only[a0,if_false]at y z;have C:=Qr (.mk' (aX (bH s):Nat)) (.mk' (aX (bP s):Nat)) (Fp (ks j.1) (by omega)) (Fp (ks j.2) (by omega));rw[NI.jg,NI.jg]at C;have D:=s9 1;rw[M8]at D;have hc:=Qq (.mk' (fc (aX (bH s):Nat) (aX (bP s):Nat))) (.mk' 1) (rO (Fp (ks j.2) (by omega)) (by rw[NI.jg,fc,a4,a4,a4];exact Nat.gcd_le_right _ (zD j.2 (fun e=>by rw[e]at k;simp at k)))) (by rw[okW];decide);rw[NI.jg,NI.jg]at hc;have M:=aAt (a:=aX (bH s)) (b:=aX (bP s));generalize kG (fc (aX (bH s):Nat) (aX (bP s):Nat)) 1=o at*
 by_cases l:fl (aX (bH s)) (aX (bP s))=1
 ·have w:o=0:=by simpa[l]using M
  simp[d,f,g,i,E,F,l];refine c1 y ?_;simp[d,f,g,i];refine c1 z ?_;simp;refine c2 C ?_;simp;refine c1 D ?_;simp;refine c2 hc ?_;simp[w];refine c2 Q ?_;simp[aY];rw[if_neg (by omega),if_pos l]
 ·have w:¬o=0:=by simpa[l]using M
  simp[d,f,g,i,E,F,l];refine c1 y ?_;simp[d,f,g,i];refine c1 z ?_;simp;refine c2 C ?_;simp;refine c1 D ?_;simp;refine c2 hc ?_;simp[w];refine c2 ag ?_ (h1:=by simp[w]);simp[aY];rw[if_neg (by omega),if_neg l]
def jB(s:List Nat):Prop:=s.length<=1048576/\∀c∈s,c<256
theorem Ze(l:List (List Nat)):au prog 313 [.seq (l.map .str)] (.func 344 [] [.cm (.seq (l.map .str))]):=by
 refine aG nf OU mix (by simp[f313]) ?_;simp[f313];exact bE.refl _
def Ff(s:List Nat):List PV:=[.int .i64 (b6 s)]
theorem YR(l:List (List Nat))(q:l.length<=1000000)(hs:∀s∈l,jB s):Stream prog 344 [] [.cm (.seq (l.map .str))] (l.map Ff):=by
 intro b k c H' hk d o f;refine gM nf Ij mix (by simp[f344]) ?_;rw[b4]at hk;have g:∀i(h:i<l.length),(l.map Ff)[i]?=some (Ff l[i]):=fun i h=>by rw[b0,a8 h];rfl
 simp[f344];refine lp (α:=Nat) (fun i=>⟨[(7,.p (.int .i64 i)),(6,.p (.int .i64 l.length)),(5,.p (.seq (l.map .str))),(0,.map b)],c i⟩) (fun i=>i<=k) (fun i=>l.length-i) 0 (by simp) ?_ (hr:=by simp;exact(d 0 (by omega)).2) (hr2:=(d 0 (by omega)).1);intro i hi;have n:=ct (i:=i) (by omega)
 by_cases a:i<l.length
 ·have hc:=AH l[i] (hs _ (b3 a)).1 (hs _ (b3 a)).2;have iD:(i<k/\fJ prog b (c i) [.p (.int .i64 (b6 l[i]))] (c (i+1)) (.p (.bool true)))\/fJ prog b (c i) [.p (.int .i64 (b6 l[i]))] H' (.p (.bool false)):=by
   by_cases e:i<k
   ·exact .inl ⟨e,o i _ e (g i a)⟩
   ·have:i=k:=by omega
    subst this;rcases f with⟨e1,_⟩|⟨y,e1,e2⟩
    ·rw[b4]at e1;omega
    ·rw[g i a]at e1;injection e1 with e1;subst e1;exact .inr e2
  simp[a];refine c1 hc ?_;simp;rcases iD with⟨e,hY⟩|hY
  ·refine⟨c (i+1),_,hY,?_⟩;simp[n];exact rd (i+1) e (h1:=by omega) (hr:=by simp;exact(d (i+1) (by omega)).2) (hr2:=(d (i+1) (by omega)).1)
  ·refine⟨H',_,hY,?_⟩;simp
 ·have m:i=l.length:=by omega
  have j:k=l.length:=by omega
  rcases f with⟨e1,e2⟩|⟨y,e1,e2⟩
  ·simp[a,e2,m,j]
  ·rw[j,List.getElem?_eq_none (by simp)]at e1;cases e1
theorem C5(p:Nat->Bool):∀n,∃k,k<=n/\(∀j,j<k->p j=true)/\(k=n\/(k<n/\p k=false))
 |0=>⟨0,eb _,fun j h=>by omega,.inl rfl⟩
 |n+1=>by
  obtain⟨k,f,b,a⟩:=C5 p n;rcases a with a|⟨a,d⟩
  ·subst a;cases c:p k
   ·exact⟨k,by omega,b,.inr ⟨by omega,c⟩⟩
   ·refine⟨k+1,eb _,fun j g=>?_,.inl rfl⟩
    by_cases e:j=k
    ·subst e;exact c
    ·exact b j (by omega)
  ·exact⟨k,by omega,b,.inr ⟨by omega,d⟩⟩
def mM(l:List (List Nat))(i:Nat):Int:=match l[i]? with
 |some s=>b6 s
 |none=>0
theorem Ko:∀(l:List (List Nat))(k:Nat),(∀j,j<k->mM l j=0)->bF (l.map b6)=bF ((l.drop k).map b6)
 |[],k,_=>by simp
 |s::l,0,_=>rfl
 |s::l,k+1,h=>by
  have a:=h 0 (by omega);have b:b6 s=0:=a;rw[be,bF,if_pos b,List.drop_succ_cons];exact Ko l k fun j c=>h (j+1) (by omega)
theorem VZ(l:List (List Nat))(c:l.length<=1000000)(hs:∀s∈l,jB s):au prog 268 [.seq (l.map .str)] (.int .i64 (bF (l.map b6))):=by
 refine aG nf GK mix (by simp[f268]) ?_;simp[f268];refine c1 (Ze l) ?_;simp;have aM:=YR l c hs;obtain⟨k,hk,g,d⟩:=C5 (fun i=>decide (mM l i=0)) l.length;have r:∀j,j<k->mM l j=0:=fun j q=>by simpa using g j q
 have f:=Ko l k r;refine rf2 aM rfl (by simp) (fun L _=>[.box false (.p (.int .i64 0)),.loop L]) (fun L i=>[.box false (.p (.int .i64 (mM l (i-1)))),.loop (L.dn .ret)]) (fun i=>decide (mM l i=0)) .ret k (by simpa using hk) g (by simpa using d) (fun L=>rfl) ?_ ?_ (fun L=>rfl) ?_ ?_
 ·intro L b i hi;clear b;refine⟨rfl,by simp,fun _ c=>?_⟩;simp at c⊢;exact c
 ·intro L b i x hi hx;have t:x=[.int .i64 (mM l i)]:=by
   rw[b0]at hx;unfold mM;cases h:l[i]? with
   |none=>rw[h]at hx;cases hx
   |some s=>rw[h]at hx;injection hx with hx;rw[<-hx];rfl
  subst t;rw[ee];refine tF nf mix b rfl rfl (by kernel_rfl) ?_;have m:=congrArg ek.env b;dsimp only at m;clear b;generalize mM l i=e
  by_cases he:e=0
  ·subst he;simp;exact .inl rfl
  ·simp[he];exact .inl rfl
 ·intro a L;have a:k=l.length:=by simpa using a
  rw[f,a];simp[bF]
 ·intro a L;have a:k<l.length:=by simpa using a
  have o:¬mM l k=0:=by
   rcases d with u|⟨_,n⟩
   ·omega
   ·simpa using n
  have e1:mM l k=b6 l[k]:=by unfold mM;rw[a8 a]
  rw[f,bf a,be,bF,<-e1,if_neg o];simp[jY]
structure cw where
 x:List Nat
 y:List Nat
def dm(p:cw):PV:=.st 31 [.str p.x,.str p.y]
def iV(p:cw):Prop:=jB p.x/\jB p.y
def dL(p:cw):Int:=bF [b6 p.x,b6 p.y]
@[simp] theorem aPv(p:cw):aI (dm p)=.agg 31:=rfl
@[simp] theorem aNW(p:cw):bW (dm p)=[.str p.x,.str p.y]:=rfl
@[simp] theorem aMV:prog.cellsOf 31=2:=by kernel_rfl
theorem Up(p:cw)(a:iV p):au prog 211 [.seq [dm p]] (.int .i64 (dL p)):=by
 have hc:=VZ [p.x,p.y] (by simp) (by intro s hs;simp at hs;rcases hs with rfl|rfl;exact a.1;exact a.2);refine aG nf Gw mix (by simp[f211]) ?_;simp[f211];refine lp (α:=Nat) (fun i=>⟨[(8,.p (.int .i64 i)),(7,.p (.int .i64 1)),(6,.p (.seq [dm p])),(0,.p (.seq [dm p]))],[]⟩) (fun i=>i=0\/(i=1/\dL p=0)) (fun i=>1-i) 0 (.inl rfl) ?_;rintro i h;rcases h with rfl|⟨rfl,h⟩
 ·simp[aa];refine cp hc (by simp;exact⟨rfl,rfl⟩) ?_;have b:a3.wrap 1=1:=rfl;rw[show bF (dl b6 [p.x,p.y])=dL p from rfl]
  by_cases h:dL p=0
  ·simp[h,b];exact rd 1 (.inr ⟨rfl,h⟩)
  ·simp[h]
 ·simp[h]
theorem yG(p:cw)(a:iV p):au prog 120 [dm p] (.int .i64 (dL p)):=by
 refine aG nf Qi mix (by simp[f120]) ?_;simp[f120,aa];refine cp (Up p a) (by simp;exact⟨rfl,rfl⟩) ?_;simp
open Go.Proofs Go.Proofs.YthmfmhbicipdmaaGreatDoor
section
variable{H:Type}{W:World}{ad:Nat->Prop}
theorem AQ{n:Nat}{d:a2 H}(h:∃cs,aU prog W ad (bJ prog (n+1) 30 d) cs)(a:Rows.uptoBulk d<=1048576):∃s:List Nat,bJ prog (n+1) 30 d=.str s/\jB s:=by
 obtain⟨cs,h⟩:=h;cases d with
 |lit l=>
  cases l with
  |string bytes=>
   refine⟨bytes.map (·.toNat),by simp only[bJ,FD],?_,?_⟩
   ·rw[Rows.uptoBulk]at a;rw[b4];omega
   ·intro c hc;obtain⟨u,_,rfl⟩:=bw.1 hc;exact u.toNat_lt
  |_=>simp only[bJ,FD,aU]at h
 |_=>simp only[bJ,FD,aU]at h
theorem aLU:∃a b:Field,prog.underlying 32=some (.struct #[a,b])/\a.type=30/\b.type=30:=⟨_,_,underlying32,rfl,rfl⟩
theorem Ss:prog.underlyingId 32=31:=by kernel_rfl
theorem Xu{m n:Nat}(q:m=n+1){d:a2 H}(h:∃cs,aU prog W ad (bJ prog (m+1) 32 d) cs)(e:Rows.uptoBulk d<=1048576):∃p:cw,bJ prog (m+1) 32 d=dm p/\iV p:=by
 obtain⟨cs,h⟩:=h;obtain⟨f0,f1,i,t0,t1⟩:=aLU;cases d with
 |agg l=>
  have g:∀x∈l,Rows.uptoBulk x<=1048576:=fun x hx=>by
   have:=qE.uT hx;rw[Rows.uptoBulk]at e;omega
  simp only[bJ,i,aU]at h⊢;obtain⟨t,s,f,c,_⟩:=h;rw[Ss,aLv]at f;cases f
  match l,c with
  |[],c=>simp[bk]at c
  |[x],c=>simp[bk]at c
  |x::y::r,c=>
   simp only[List.zip_cons_cons,be,bk,List.zip_nil_left,dq,t0,t1]at c⊢;obtain⟨c0,_,_,g1,_,c1,_,_,g2,_⟩:=c;subst q;obtain⟨a,j,o⟩:=AQ ⟨c0,g1⟩ (g x (by simp));obtain⟨b,k,e⟩:=AQ ⟨c1,g2⟩ (g y (by simp));exact⟨⟨a,b⟩,by rw[j,k,Ss];rfl,o,e⟩
 |_=>simp only[bJ,i,aU]at h
theorem Dr{n:Nat}{d:a2 H}(h:∃cs,aU prog W ad (bJ prog (n+2) 32 d) cs)(a:Rows.uptoBulk d<=1048576):∃p:cw,bJ prog (n+2) 32 d=dm p/\iV p:=Xu rfl h a
theorem ZH{d:a2 H}(h:∃cs,aU prog W ad (bJ prog 8 32 d) cs)(b:Rows.uptoBulk d<=1048576):∃p:cw,bJ prog 8 32 d=dm p/\True/\iV p:=by
 obtain⟨p,e,a⟩:=Dr (n:=6) h b;exact⟨p,e,trivial,a⟩
end
def bT:Nat:=1000000000
theorem aZ:2<=bT:=by decide
def iP(l:List Nat):List PV:=l.map fun x:Nat=>.int .i64 x
theorem Sk(w:List Nat):fq prog 1 (w.map (AV.p∘fun x:Nat=>PV.int .i64 x)):=by
 rw[v7];intro v a;obtain⟨x,_,rfl⟩:=bw.1 a;simp[aa,aI,bG]
def eT(n:Nat):PV:=.seq ((az bT n).map fun x:Nat=>.int .i64 x)
theorem A1:az bT 0=[]:=by simp[az,nO]
theorem ov{n:Nat}(b:0<n)(h:n<bT):az bT n=[n]:=by
 have a:=jU aZ (m:=1) (n:=n) (by rw[fm];exact h);rw[<-a,row,List.range_one,be,dq,ae,ew,e8,er h];have:=vX [] n (by omega)
 rwa [db]at this
theorem wy{n:Nat}:az bT n=[]↔n=0:=by
 constructor
 ·intro h;have:=cj aZ n;rw[h,List.length_nil,ew]at this;omega
 ·rintro rfl;exact A1
theorem uD(w:List Nat)(h:w.length<=1048576):au prog 309 [.seq (iP w)] (.seq (iP (eJ w))):=by
 refine aG nf It mix (by simp[f309]) ?_;simp only[iP];simp[f309];refine lp (α:=Nat) (fun i=>⟨[(0,.p (.seq ((w.take i).map fun x:Nat=>.int .i64 x)))],[]⟩) (fun i=>i<=w.length/\eJ w=eJ (w.take i)) (fun i=>i) w.length (by simp) ?_;rintro i ⟨k1,k2⟩;have k:(w.take i).length=i:=by rw[cy];omega
 by_cases hi:0<i
 ·obtain⟨j,rfl⟩:∃j,i=j+1:=⟨i-1,by omega⟩
  have f:a3.wrap (j:Int)=j:=aO _ (by omega) (by omega);have a:j<w.length:=by omega
  have e:(0:Int)<(j:Int)+1:=by omega
  have k3:=k2;rw[bi a]at k2;have c:min (j+1) w.length=j+1:=by omega
  have d:min ((j:Int)+1) (w.length:Int)=j+1:=by omega
  have g:¬w=[]:=by rintro rfl;simp at a
  by_cases b:w[j]=0
  ·rw[b,Cs]at k2;simp[e,f,a,b,c,d,g];refine⟨by rw[<-bv];exact Sk _,?_⟩;refine rd j ⟨by omega,k2⟩ (he:=?_);rw[<-bv,<-bv,List.take_take,Nat.min_eq_left (by omega)];simp
  ·rw[vX _ _ b,<-bi a]at k2;simp[e,f,a,b,c,d,g];rw[k2,bv];exact bE.refl _
 ·obtain rfl:i=0:=by omega
  simp[eJ]at k2;simp[k2]
def eG(z:Int):PV:=.st 235 [.bool (decide (z<0)),eT z.natAbs]
@[simp] theorem aPn(z:Int):aI (eG z)=.agg 235:=rfl
@[simp] theorem aNO(z:Int):bW (eG z)=[.bool (decide (z<0)),eT z.natAbs]:=rfl
@[simp] theorem aPC(n:Nat):aI (eT n)=.leaf:=rfl
theorem Dl(neg:Bool)(w:List Nat)(n:Nat)(c:eJ w=az bT n)(h:w.length<=1048576):au prog 254 [.bool neg,.seq (iP w)] (eG (if neg=true then -(n:Int)else n)):=by
 have a:=uD w h;rw[c]at a;refine aG nf OJ mix (by simp[f254]) ?_;have b:(if neg=true then -(n:Int)else n).natAbs=n:=by cases neg<;>simp
 rw[eG,b,eT];have d:=wy (n:=n);have e:decide ((if neg=true then -(n:Int)else n)<0)=(neg&&decide (0<(az bT n).length)):=by
  cases neg
  ·simp
  ·simp;rw[a5,Ne,d];omega
 rw[e];simp only[iP]at a⊢;generalize az bT n=x at*;cases neg
 ·simp[f254];refine c1 a ?_;simp[aa]
 ·simp[f254];refine c1 a ?_;simp[aa]
  done
theorem JQ{a b:Nat}(h:(az bT a).length<(az bT b).length):a<b:=by
 have d:=cj aZ a;rcases ei a b with c|c
 ·exact c
 ·have:=dT aZ (az bT a).length b (ea c d);omega
theorem JZ{a b i:Nat}(h:a/bT^(i+1)=b/bT^(i+1))(e:ae bT a i<ae bT b i):a<b:=by
 rw[en,<-ej,<-ej]at h;have e1:=ed (a/bT^i) bT;have e2:=ed (b/bT^i) bT;rw[ae,ae]at e;rw[h]at e1;rcases ei a b with d|d
 ·exact d
 ·have:=Nat.div_le_div_right (c:=bT^i) d;omega
theorem Yf{a b i:Nat}(h:a/bT^(i+1)=b/bT^(i+1))(c:ae bT a i=ae bT b i):a/bT^i=b/bT^i:=by
 rw[en,<-ej,<-ej]at h;have e1:=ed (a/bT^i) bT;have e2:=ed (b/bT^i) bT;rw[ae,ae]at c;rw[h]at e1;omega
theorem J5(a b:Nat)(E:(az bT a).length<=1048576)(F:(az bT b).length<=1048576):au prog 256 [eT a,eT b] (.int .i64 (gf a b)):=by
 refine aG nf O8 mix (by simp[f256]) ?_
 by_cases l:(az bT a).length=(az bT b).length
 case neg=>
  have q:¬((az bT a).length:Int)=(az bT b).length:=by omega
  by_cases A:(az bT a).length<(az bT b).length
  ·have m:((az bT a).length:Int)<(az bT b).length:=by omega
   have:=JQ A;have hc:gf a b= -1:=if_pos this;simp[f256,eT,q,m,hc]
  ·have m:¬((az bT a).length:Int)<(az bT b).length:=by omega
   have:=JQ (a:=b) (b:=a) (by omega);have hc:gf a b=1:=by rw[gf,if_neg (by omega),if_pos this]
   simp[f256,eT,q,m,hc]
 have t:∀i(h:i<(az bT a).length),(az bT a)[i]?=some (ae bT a i):=fun i h=>by rw[a8 h,eO aZ h]
 have v:∀i(h:i<(az bT b).length),(az bT b)[i]?=some (ae bT b i):=fun i h=>by rw[a8 h,eO aZ h]
 have u:∀i(h:i<(az bT a).length),(az bT a)[i]=ae bT a i:=fun i h=>eO aZ h;have w:∀i(h:i<(az bT b).length),(az bT b)[i]=ae bT b i:=fun i h=>eO aZ h;have s:=cj aZ a;have o:=cj aZ b;rw[<-l]at o;have z:a/bT^(az bT a).length=b/bT^(az bT a).length:=by rw[em s,em o]
 simp only[eT];generalize az bT a=x at*;generalize az bT b=y at*;have D:a3.wrap ((y.length:Int)-1)=y.length-1:=aO _ (by omega) (by omega);simp[f256,l,D];refine lp (α:=Nat) (fun i=>⟨[(5,.p (.int .i64 ((i:Int)-1))),(1,.p (.seq (y.map fun x:Nat=>.int .i64 x))),(0,.p (.seq (x.map fun x:Nat=>.int .i64 x)))],[]⟩) (fun i=>i<=y.length/\a/bT^i=b/bT^i) (fun i=>i) y.length ⟨eb _,by rw[<-l];exact z⟩ ?_;rintro i ⟨k1,k2⟩
 by_cases hi:0<i
 ·obtain⟨j,rfl⟩:∃j,i=j+1:=⟨i-1,by omega⟩
  have c:j<x.length:=by omega
  have d:j<y.length:=by omega
  have C:a3.wrap ((j:Int)-1)=j-1:=aO _ (by omega) (by omega);have e:=t j c;have g:=v j d;have f:=u j c;have k:=w j d
  by_cases hq:ae bT a j=ae bT b j
  ·simp[c,d,e,g,f,k,hq,C];exact rd j ⟨by omega,Yf k2 hq⟩
  ·have r:¬(ae bT a j:Int)=ae bT b j:=by omega
   by_cases n:ae bT a j<ae bT b j
   ·have:=JZ k2 n;have hc:gf a b= -1:=if_pos this;simp[c,d,e,g,f,k,r,n,hc]
   ·have:=JZ k2.symm (show ae bT b j<ae bT a j by omega);have B:ae bT b j<ae bT a j:=by omega
    have hc:gf a b=1:=by rw[gf,if_neg (by omega),if_pos this]
    simp[c,d,e,g,f,k,r,n,B,hc]
 ·obtain rfl:i=0:=by omega
  rw[ew,e8,e8]at k2;have hc:gf a b=0:=by rw[gf,if_neg (by omega),if_neg (by omega)]
  simp[hc]
theorem Y3{n i:Nat}(h:(az bT n).length<=i):ae bT n i=0:=jT (dz (cj aZ n) (dy (by decide) h))
theorem D4(a i:Nat):au prog 311 [eT a,.int .i64 i] (.int .i64 (ae bT a i:Nat)):=by
 refine aG nf OV mix (by simp[f311]) ?_
 by_cases h:i<(az bT a).length
 ·have g1:(az bT a)[i]=ae bT a i:=eO aZ h;rw[eT,<-g1];generalize az bT a=x at*;simp[f311,h]
 ·rw[Y3 (by omega),eT];generalize az bT a=x at*;simp[f311,h]
def eD(i n:Nat):List AV:=(cb i).map fun j=>.p (.int .i64 (ae bT n j:Nat))
theorem rG(i n:Nat):eD (i+1) n=eD i n++[.p (.int .i64 (ae bT n i:Nat))]:=by
 rw[eD,List.range_succ,List.map_append];rfl
theorem jb(i n:Nat):(eD i n).length=i:=by simp[eD]
@[simp] theorem aPa{N:Nat×Nat->Prop}{n i:Nat}:aS N (eD i n)=True:=by
 rw[c7,eq_iff_iff,iff_true];intro v a;simp only[eD,bw]at a;obtain⟨x,_,rfl⟩:=a;trivial
theorem MZ(i n:Nat):eA (eD i n)=some ((row bT i n).map fun x:Nat=>.int .i64 x):=by
 have:eD i n=(row bT i n).map (AV.p∘fun x:Nat=>PV.int .i64 x):=by
  rw[eD,row,dx];rfl
 rw[this];exact Le
theorem Ox(i n:Nat):eD i n=(row bT i n).map (AV.p∘fun x:Nat=>PV.int .i64 x):=by
 rw[eD,row,dx];rfl
theorem Zp{n i:Nat}(h:n<bT^i)(a:i=0\/bT^(i-1)<=n):row bT i n=az bT n:=by
 have b:(az bT n).length=i:=by
  have c:=dT aZ i n h;rcases a with rfl|a
  ·omega
  ·have:=Kp aZ a;omega
 have:=azP aZ n;rw[b]at this;exact this.symm
theorem Z5(a b:Nat)(I:(az bT a).length<=1000000)(J:(az bT b).length<=1000000):au prog 255 [eT a,eT b] (eT (a+b)):=by
 refine aG nf Kv mix (by simp[f255]) ?_;have v:=cj aZ a;have w:=cj aZ b;have C:∀i,i<(az bT a).length->bT^i<=a:=fun i h=>by
  rcases ei a (bT^i)with c|c
  ·have:=dT aZ i a c;omega
  ·exact c
 have D:∀i,i<(az bT b).length->bT^i<=b:=fun i h=>by
  rcases ei b (bT^i)with c|c
  ·have:=dT aZ i b c;omega
  ·exact c
 have A:∀i,0<dj bT a b i->bT^i<=a+b:=fun i h=>by
  rw[dj]at h;have c:bT^i<=a% bT^i+b% bT^i:=by
   rcases ei (a% bT^i+b% bT^i) (bT^i)with d|d
   ·rw[em d]at h;omega
   ·exact d
  have:=gc a (bT^i);have:=gc b (bT^i);omega
 have f:=fun i=>D4 a i;have g:=fun i=>D4 b i;have B:∀i,(az bT a).length<=i->(az bT b).length<=i->dj bT a b i=0->a+b<bT^i:=fun i c d s=>by
  have g1:=dz v (dy (show 0<bT by decide) c);have g2:=dz w (dy (show 0<bT by decide) d);rw[dj,er g1,er g2]at s;rcases ei (a+b) (bT^i)with e|e
  ·exact e
  ·have:=Nat.div_pos e (e6 (show 0<bT by decide));omega
 have E:∃M,M=max (az bT a).length (az bT b).length:=⟨_,rfl⟩
 obtain⟨M,H⟩:=E;simp only[eT]at f g⊢;have F:=fun i h d=>Zp (n:=a+b) (i:=i) h d;generalize az bT (a+b)=z at*;generalize az bT a=x at*;generalize az bT b=y at*;simp[f255];refine lp (α:=Nat) (fun i=>⟨[(7,.p (.int .i64 i)),(6,.p (.int .i64 (dj bT a b i:Nat))),(5,.sl 0 i 1 0 i),(1,.p (.seq (y.map fun x:Nat=>.int .i64 x))),(0,.p (.seq (x.map fun x:Nat=>.int .i64 x)))],[.arr .grow i 1 (eD i (a+b))]⟩)
  (fun i=>i<=M+1/\(i=0\/bT^(i-1)<=a+b)) (fun i=>M+1-i) 0 ⟨by omega,.inl rfl⟩ ?_ (he:=by simp[yW,eD]) (hh:=by simp[eD])
 rintro i ⟨k1,k2⟩;have q:=ct (i:=i) (by omega);have K:=my aZ a b i;obtain⟨g1,g2⟩:=rz aZ a b i;have N:=cr aZ a i;have O:=cr aZ b i;have t:bT=1000000000:=rfl;have w1:a3.wrap ((ae bT a i:Int)+ae bT b i)=ae bT a i+ae bT b i:=aO _ (by omega) (by omega);have r:a3.wrap ((ae bT a i:Int)+ae bT b i+dj bT a b i)=ae bT a i+ae bT b i+dj bT a b i:=aO _ (by omega) (by omega);have l:((ae bT a i:Int)+ae bT b i+dj bT a b i).tmod 1000000000=(ae bT (a+b) i:Nat):=by
  rw[Int.tmod_eq_emod_of_nonneg (by omega),<-g1,t];omega
 have m:((ae bT a i:Int)+ae bT b i+dj bT a b i).tdiv 1000000000=(dj bT a b (i+1):Nat):=by
  rw[Int.tdiv_eq_ediv_of_nonneg (by omega),<-g2,t];omega
 have o:a3.wrap (dj bT a b (i+1):Nat)=(dj bT a b (i+1):Nat):=by have:=my aZ a b (i+1);exact aO _ (by omega) (by omega)
 have j:b1 i (eD i (a+b))=eD i (a+b):=a6 (by rw[jb];exact eb _)
 by_cases hx:i<x.length
 ·simp[hx];refine c2 (f i) ?_;simp;refine c2 (g i) ?_;simp[w1,r,l,m,o,jb,j,<-rG];refine⟨by simp only[c8];omega,?_⟩;refine rd (i+1) ⟨by omega,.inr (by rw[ee];exact ec (C i hx) (by omega))⟩ (by omega) (he:=by simp[q])
 by_cases k:i<y.length
 ·simp[hx,k];refine c2 (f i) ?_;simp;refine c2 (g i) ?_;simp[w1,r,l,m,o,jb,j,<-rG];refine⟨by simp only[c8];omega,?_⟩;refine rd (i+1) ⟨by omega,.inr (by rw[ee];exact ec (D i k) (by omega))⟩ (by omega) (he:=by simp[q])
 by_cases hc:0<dj bT a b i
 ·have L:i=M:=by
   rcases ei M i with h|h
   ·have e0:=rz aZ a b M;have c:ae bT a M=0:=jT (dz v (dy (by decide) (by omega)));have d:ae bT b M=0:=jT (dz w (dy (by decide) (by omega)));have s:=my aZ a b M;have e:i=M+1:=by omega
    subst e;rw[c,d]at e0;rw[<-e0.2,em (by omega)]at hc;omega
   ·omega
  simp[hx,k,hc];refine c2 (f i) ?_;simp;refine c2 (g i) ?_;simp[w1,r,l,m,o,jb,j,<-rG];refine⟨by simp only[c8];omega,?_⟩;refine rd (i+1) ⟨by omega,.inr (by rw[ee];exact A i hc)⟩ (by omega) (he:=by simp[q])
 ·have u:dj bT a b i=0:=by omega
  have G:=F i (B i (by omega) (by omega) u) k2;rw[<-G];simp[hx,k,u];refine⟨by rw[jb];exact eb _,?_⟩;rw[j,Ox];simp
theorem Oj(a b:Nat)(w:b<=a)(E:(az bT a).length<=1000000):au prog 257 [eT a,eT b] (eT (a-b)):=by
 refine aG nf O7 mix (by simp[f257]) ?_;have C:=cj aZ a;have j:=fun i=>D4 b i;have A:∀i(h:i<(az bT a).length),(az bT a)[i]?=some (ae bT a i):=fun i h=>by rw[a8 h,eO aZ h]
 have B:∀i(h:i<(az bT a).length),(az bT a)[i]=ae bT a i:=fun i h=>eO aZ h;have D:eJ (row bT (az bT a).length (a-b))=az bT (a-b):=jU aZ (ea (Nat.sub_le a b) C);have e:=uD (row bT (az bT a).length (a-b)) (by rw[Nv];omega);rw[D]at e;simp only[eT]at j⊢;simp only[iP]at e;generalize az bT (a-b)=z at*;generalize az bT a=x at*;generalize az bT b=y at*;simp[f257];refine lp (α:=Nat) (fun i=>⟨[(7,.p (.int .i64 i)),(6,.p (.int .i64 (fB bT a b i:Nat))),(5,.sl 0 i 1 0 i),(1,.p (.seq (y.map fun x:Nat=>.int .i64 x))),(0,.p (.seq (x.map fun x:Nat=>.int .i64 x)))],[.arr .grow i 1 (eD i (a-b))]⟩)
  (fun i=>i<=x.length) (fun i=>x.length-i) 0 (by simp) ?_ (he:=by simp[Cq,eD]) (hh:=by simp[eD])
 intro i k1;have s:=ct (i:=i) (by omega);have r:b1 i (eD i (a-b))=eD i (a-b):=a6 (by rw[jb];exact eb _);have F:bT=1000000000:=rfl;have I:=cr aZ a i;have J:=cr aZ b i;have K:=cr aZ (a-b) i;have L:fB bT a b i<=1:=by rw[fB];split<;>omega
 have w1:a3.wrap ((ae bT a i:Int)-ae bT b i)=ae bT a i-ae bT b i:=aO _ (by omega) (by omega);have n:a3.wrap ((ae bT a i:Int)-ae bT b i-fB bT a b i)=ae bT a i-ae bT b i-fB bT a b i:=aO _ (by omega) (by omega)
 by_cases hx:i<x.length
 ·have o:=A i hx;have q:=B i hx;rcases LL aZ w i with⟨u,g,v⟩|⟨u,g,v⟩
  ·have m:(ae bT a i:Int)-ae bT b i-fB bT a b i<0:=by omega
   have f:a3.wrap ((ae bT a i:Int)-ae bT b i-fB bT a b i+1000000000)=(ae bT (a-b) i:Nat):=by rw[aO _ (by omega) (by omega)];omega
   simp[hx,o,q];refine e2 (j i) ?_;simp[w1,n,m,f,jb,r,<-rG];refine⟨by simp only[c8];omega,?_⟩;refine rd (i+1) hx (he:=by simp[s,g])
  ·have m:¬(ae bT a i:Int)-ae bT b i-fB bT a b i<0:=by omega
   have f:(ae bT a i:Int)-ae bT b i-fB bT a b i=(ae bT (a-b) i:Nat):=by omega
   rw[f]at m n;simp[hx,o,q];refine e2 (j i) ?_;simp[w1,n,f,jb,r,<-rG];refine⟨by simp only[c8];omega,?_⟩;refine rd (i+1) hx (he:=by simp[s,g])
 ·have:i=x.length:=by omega
  subst this;have k:=Ox x.length (a-b);have d:(row bT x.length (a-b)).length=x.length:=Nv;generalize row bT x.length (a-b)=l at e k d;have G:b1 x.length l=l:=a6 (by omega);rcases l with _|⟨c,t⟩
  ·simp at d;simp[k];refine cp e (by simp[<-d];exact⟨rfl,rfl⟩) ?_;simp
  ·have H:b1 x.length (PV.int .i64 c::dl (fun x:Nat=>PV.int .i64 x) t)=PV.int .i64 c::dl (fun x:Nat=>PV.int .i64 x) t:=a6 (by simp at d⊢;omega);simp at d;simp[k];refine cp e (by simp[<-d];exact⟨rfl,rfl⟩) ?_;simp
def du(n:Nat)(f:Nat->Nat):List AV:=(cb n).map fun j=>.p (.int .i64 (f j:Nat))
theorem wO(n:Nat)(f:Nat->Nat):(du n f).length=n:=by simp[du]
theorem LR(n:Nat):a9 n (AV.p (.int .i64 0))=du n fun _=>0:=by
 apply da (by simp[du]);intro i a b;simp[du]
theorem um{n j:Nat}(f:Nat->Nat)(h:j<n):(du n f)[j]?=some (.p (.int .i64 (f j:Nat))):=by
 rw[du,b0,ce h];rfl
theorem DI{n i:Nat}(f g:Nat->Nat)(h:∀j,j<n->j≠i->g j=f j):(du n f).set i (.p (.int .i64 (g i:Nat)))=du n g:=by
 apply da (by simp[du]);intro j c b;rw[wO]at b;rw[List.getElem_set];simp only[du,List.getElem_map,List.getElem_range]
 by_cases a:i=j
 ·subst a;rw[if_pos rfl]
 ·rw[if_neg a,h j b (fun e=>a e.symm)]
@[simp] theorem aO9{N:Nat×Nat->Prop}{n:Nat}{f:Nat->Nat}:aS N (du n f)=True:=by
 rw[c7,eq_iff_iff,iff_true];intro v a;simp only[du,bw]at a;obtain⟨x,_,rfl⟩:=a;trivial
theorem zN{n:Nat}{f g:Nat->Nat}(h:∀j,j<n->f j=g j):du n f=du n g:=by
 rw[du,du];apply List.map_congr_left;intro j a;rw[h j (List.mem_range.1 a)]
end Go.ak
