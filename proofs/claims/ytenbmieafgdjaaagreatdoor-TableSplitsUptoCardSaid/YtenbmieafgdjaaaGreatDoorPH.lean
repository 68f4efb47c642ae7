import Derived.Test.YtenbmieafgdjaaaGreatDoorPG
import Derived.Test.YtenbmieafgdjaaaGreatDoorThE
import Derived.Test.YtenbmieafgdjaaaGreatDoorPE
import Derived.Lib.AtoiAll
import Derived.Test.YtenbmieafgdjaaaGreatDoorPC
/- Parts of a proof. -/
set_option linter.unusedSimpArgs false
set_option linter.unusedVariables false
set_option linter.unusedSectionVars false
open Go.Proofs.Tryz
open Bool renaming and_eq_true->aT, false_eq_true->a0
open Go renaming FuncId->a1, DataW->a2
open Go.IntKind renaming i64->a3
open Int renaming natAbs_natCast->a4
open List renaming length_pos_iff->a5, take_of_length_le->a6, length_singleton->a7, getElem?_eq_getElem->a8, replicate->a9, length_append->bb, map_cons->be, take_succ_eq_append_getElem->bi, drop_eq_getElem_cons->bk, append_nil->bl, take_append_drop->bo, map_take->bv, mem_map->b0, getElem?_map->b1, take->b2, reverse_nil->b3, getElem_mem->b4, length_map->b5, foldl_cons->cb, range->cc, all_cons->ce, dropWhile_sublist->ck, getElem?_range->cv, flatten_append->cx, dropWhile_cons->cy, mem_singleton->cA, length_take->cB, length_cons->cC, flatten_nil->cN, ext_getElem->c6, nil_append->c9, mem_append->da, map->db, mem_cons->dg, map_nil->dk, map_map->dl
open Nat renaming pow_le_pow_right->dp, lt_of_lt_of_le->dq, lt_of_le_of_lt->dz, le_refl->ea, le_trans->eb, div_add_mod->ec, add_sub_cancel->ed, lt_or_ge->ee, div_div_eq_div_mul->ei, div_eq_of_lt->ej, pow_succ->em, mul_assoc->en, lt_trans->eo, mod_eq_of_lt->eq, pow_zero->ew, mul_comm->e6, pow_pos->e7, mul_le_mul_right->e8, div_one->e9, pow_le_pow_left->fb, div_mul_le_self->fd, div_lt_self->fl, add_assoc->fm, gcd->fv, pow_one->fN, pow_mul->gb, add_mul->gc, mod_lt->ge, mod_le->gg
open Option.some renaming injEq->gi
open UInt8 renaming ofNat->gj
namespace Go.au
open Go.Proofs
set_option linter.unusedSectionVars false
theorem BL:dR prog 226=some [1,1]:=by kernel_rfl
section
variable{w:World}{aa ah:Nat->Prop}{β:Bd}{H:Heap}
theorem UK{al:Nat}{c0 c1 v:Value}{T:TypeId}(h:w.heap[al]?=some (.cells #[c0,c1] T (0,0))):w.setCell ⟨al,0,none⟩ v=w.setRow al #[v,c1]:=by
 obtain⟨d,a⟩:=Array.getElem?_eq_some_iff.1 h;unfold World.setCell World.setRow;congr 1;apply Array.ext
 ·simp
 ·intro i b c;simp only[Array.getElem_modify]
  by_cases hi:al=i
  ·subst hi;simp[a]
  ·simp[hi]
theorem Uf{t x:AV}{cs:Array Value}(g:t=ib 226 [.p .dM,x]\/t=.st 226 [.p .dM,x])(h:br prog w aa β H t cs.toList):∃y,cs=#[.pointer none,y]/\br prog w aa β H x [y]:=by
 have a:br prog w aa β H (.st 226 [.p .dM,x]) cs.toList:=by
  rcases g with rfl|rfl
  ·exact MM.1 h
  ·exact h
 simp only[br,BL,gi]at a;obtain⟨l,k,rfl,b,d⟩:=a;simp only[bM,br,aR]at b;obtain⟨c,i,rfl,rfl,_,c2,j,rfl,e,f,rfl⟩:=b
 match c2,f with
 |[y],_=>exact⟨y,Array.ext' (by simpa using d),e⟩
theorem T8{b:Nat}{x:AV}{cs:Array Value}(h:br prog w aa β H (.st 226 [.ptr b [],x]) cs.toList):∃v y,cs=#[v,y]/\bO prog β H (.ptr b []) v:=by
 simp only[br,BL,gi]at h;obtain⟨l,j,rfl,a,d⟩:=h;simp only[bM,br]at a;obtain⟨c,g,rfl,⟨v,rfl,f⟩,_,c2,i,rfl,k,e,rfl⟩:=a
 match c2,e with
 |[y],_=>exact⟨v,y,Array.ext' (by simpa using d),f⟩
end
theorem EG{H:Heap}{b:Nat}{t x:AV}(f:H[b]?=some (.box false t))(i:t=ib 226 [.p .dM,x]\/t= .st 226 [.p .dM,x]):
 cw prog 226 H [.ptr b []] (H.set b (.box false (.st 226 [.ptr b [],x]))) (.p (.aG [])):=by
 refine⟨iX func226 (by kernel_rfl),fun w aa ah β J g j K=>?_⟩;simp only[bB,aB]at j;obtain⟨v,vs,rfl,⟨_,I,L,M,rfl,m,B⟩,rfl⟩:=j;simp only[gn,gi]at m;subst m;obtain⟨rfl,rfl⟩:=B (.inl ⟨false,t,f⟩);obtain⟨cs,T,k1,k2,k3,_,k5⟩:=g.cF b _ f;have F:ad t=.agg 226:=by
  rcases i with rfl|rfl
  ·exact Cz _ _
  ·rfl
 have q:T=227:=by
  rw[F]at k5;exact dA (by simpa[jo,Gl.bx,auo]using k5)
 subst q;obtain⟨y,rfl,G⟩:=Uf i k2;have o:¬aa (β.al b)/\¬ah (β.al b):=by simpa[cG]using k3
 refine(T4 (β.al b) w (by simp[World.cell?,k1]) (by simp[World.shape?,k1]) (by simp[World.frozen?,k1])).mono ?_;rintro e w' ⟨rfl,rfl⟩;rw[UK k1];have aH:cd β H β (H.set b (.box false (.st 226 [.ptr b [],x]))):=pB f (.inl ⟨_,_,_,_,rfl,rfl⟩);have ak:∀z,aI H z->aI (H.set b (.box false (.st 226 [.ptr b [],x]))) z:=ma f (fun _ h=>h);have r:b<H.length:=(List.getElem?_eq_some_iff.1 f).1;have u:(H.set b (.box false (.st 226 [.ptr b [],x])))[b]?=some (.box false (.st 226 [.ptr b [],x])):=List.getElem?_set_self r;have n:aE (aI H) x:=by
  have:=g.refs b _ f;rcases i with rfl|rfl
  ·simp only[Obj.refs]at this;unfold ib at this
   split at this
   ·rename_i l d;have d:=lC d
    match l,d with
    |[a,c],d=>simp at d;rw[d.2];simp[aE]
    |[],d=>simp at d
    |[_],d=>simp at d
    |_::_::_::_,d=>simp at d
   ·simp only[aE,aS]at this;exact this.2.1
  ·simp only[Obj.refs,aE,aS]at this;exact this.2.1
 have E:∀k,aa k->(w.setRow (β.al b) #[.pointer (some ⟨β.al b,0,none⟩),y]).heap[k]?=w.heap[k]?:=fun k A=>setRow_other w _ k _ (fun s=>o.1 (s▸A));have D:Obj.refs (aI (H.set b (.box false (.st 226 [.ptr b [],x])))) (.box false (.st 226 [.ptr b [],x])):=by
  simp only[Obj.refs,aE,aS,and_true];exact⟨⟨_,u,trivial⟩,aE.mono ak _ n⟩
 have C:=qI g f trivial (o':=.box false (.st 226 [.ptr b [],x])) trivial (fun _ h=>h) k1 (new:=#[.pointer (some ⟨β.al b,0,none⟩),y]) o aH
  ⟨_,227,setRow_heap w _ _ _ 227 _ k1,by
   simp only[br,BL,gi];refine⟨_,[[.pointer (some ⟨β.al b,0,none⟩)],[y]],rfl,?_,rfl⟩;simp only[bM,br];exact⟨_,_,rfl,⟨_,rfl,⟨rfl,_,_,0,rfl,rfl,fun _=>⟨rfl,rfl⟩⟩⟩,rfl,_,_,rfl,br.mono (fun _ x=>x) E aH _ _ n G,rfl,rfl⟩,k3,by simp,by simp[ad,jo,Gl.bx]⟩ D
 exact⟨_,β,aa,rfl,C,by simp[aB,aD,bt],by simp[aE]⟩
theorem Qf{H:Heap}{b:Nat}{x:AV}(c:H[b]?=some (.box false (.st 226 [.ptr b [],x]))):cw prog 226 H [.ptr b []] H (.p (.aG [])):=by
 refine⟨iX func226 (by kernel_rfl),fun w aa ah β l g f m=>?_⟩;simp only[bB,aB]at f;obtain⟨v,vs,rfl,⟨_,j,n,i,rfl,a,d⟩,rfl⟩:=f;simp only[gn,gi]at a;subst a;obtain⟨rfl,rfl⟩:=d (.inl ⟨false,_,c⟩);obtain⟨cs,T,k1,k2,k3,_,k5⟩:=g.cF b _ c;obtain⟨v,y,rfl,h⟩:=T8 k2;simp only[bO,bU]at h;obtain⟨_,k,o,i,rfl,a,d⟩:=h;simp only[gn,gi]at a;subst a;obtain⟨rfl,rfl⟩:=d (.inl ⟨false,_,c⟩);refine(T3 (β.al b) w (by simp[World.cell?,k1])).mono ?_;rintro e w' ⟨rfl,rfl⟩;exact⟨_,β,aa,rfl,bY.refl g,by simp[aB,aD,bt],by simp[aE]⟩
set_option maxHeartbeats 4000000
set_option maxRecDepth 100000
@[simp] theorem gu8:(Gl.u8:TypeId)=5:=(rfl)
def dQ(t:List Nat):List AV:=t.map fun(c:Nat)=>AV.p (.int .u8 (c:Int))
theorem wA(t:List Nat):(dQ t).length=t.length:=by simp[dQ]
theorem aKl(a t:List Nat):dQ (a++t)=dQ a++dQ t:=by simp[dQ]
theorem Dj:∀t:List Nat,fg prog 1 (dQ t)
 |[]=>by simp[dQ,fg]
 |c::t=>by
  have:=Dj t;simp only[dQ,be]at this⊢;simp[fg];exact this
theorem Kk:∀(t:List Nat),(∀c∈t,c<256)->bytesOf (dQ t)=some t
 |[],_=>rfl
 |c::t,a=>by
  have b:=a c (by simp);have:=Kk t fun c hc=>a c (by simp[hc]);show bytesOf (.p (.int .u8 (c:Int))::dQ t)=some (c::t);rw[bytesOf,if_pos ⟨by omega,by omega⟩,this];simp
theorem Qg(t:List Nat)(a:t≠[])(h:t.length<=1048576):cw prog 150 [.box false (.p (.st 226 [.dM,.aP]))] [.ptr 0 [],.p (.str t)]
 [.box false (.st 226 [.ptr 0 [],.sl 1 0 1 0 t.length]),.arr .bytes 0 1 (dQ t)] (.p (.aG [.int .i64 t.length,.ga])):=by
 refine fV nf Eo mix (by simp[f150]) ?_;simp[f150];refine ci (EG (b:=0) (t:=.p (.st 226 [.dM,.aP])) (x:=.p .aP) rfl (.inl rfl)) ?_;simp;refine⟨⟨Dj t,by simp only[cZ];omega⟩,?_⟩;simp[a,dQ]
theorem Qh(a t:List Nat)(v n:Nat)(f:n=a.length)(c:t≠[])(h:t.length<=1048576)(e:a.length<=1048576):cw prog 150 [.box false (.st 226 [.ptr 0 [],.sl 1 v 1 0 n]),.arr .bytes v 1 (dQ a)] [.ptr 0 [],.p (.str t)]
 [.box false (.st 226 [.ptr 0 [],.sl 1 (v+1) 1 0 (n+t.length)]),.arr .bytes (v+1) 1 (dQ (a++t))] (.p (.aG [.int .i64 t.length,.ga])):=by
 refine fV nf Eo mix (by simp[f150]) ?_;simp[f150];refine ci (Qf (b:=0) (x:=.sl 1 v 1 0 n) rfl) ?_;simp;refine⟨⟨Dj t,by rw[wA];omega,by rw[wA];simp only[cZ];omega⟩,?_⟩;have d:b2 n (dQ a)=dQ a:=a6 (by rw[wA];omega);simp[c,d,aKl];exact .inl rfl
theorem ato(a:List Nat)(v n:Nat)(b:n=a.length)(d:a≠[])(g:a.length<=1048576)(e:∀c∈a,c<256):cw prog 230 [.box false (.st 226 [.ptr 0 [],.sl 1 v 1 0 n]),.arr .bytes v 1 (dQ a)] [.ptr 0 []]
 [.box false (.st 226 [.ptr 0 [],.sl 1 v 1 0 n]),.dead] (.p (.str a)):=by
 refine fV nf Pu mix (by simp[f230]) ?_;have f:0<a.length:=a5.2 d;simp[f230];refine aht (aA:=v) (es:=dQ a) rfl rfl (by rw[b];exact f) (by simp[dQ,b]) ?_;simp;refine air (aA:=v) (es:=dQ a) (l:=a) rfl rfl rfl (by omega) (by simp[wA,b]) (by omega) rfl ?_ ?_ ?_ ?_
 ·kernel_rfl
 ·kernel_rfl
 ·rw[a6 (by rw[wA];simp[b])];exact Kk a e
 simp
 repeat' with_reducible refine And.intro ?_ ?_
 all_goals rfl
theorem CO{σ:Nat->Nat}:∀{a b:List AV},cJ σ (a++b)=cJ σ a++cJ σ b
 |[],b=>by simp[cJ]
 |x::a,b=>by simp[cJ,CO (a:=a)]
theorem Ab:az wB tB=[tB]:=ud (by decide) (by decide)
theorem XN(a:NI)(hs:a.sm=true):aC prog 247 [eI a] (.str (bL a.v)):=by
 refine aM nf Em mix (by simp[f247]) ?_;have b:=NI.pR hs;simp[f247,ad,mi hs,mZ hs,dD,cX];refine c1 (Ie a.v b.1 b.2) ?_;simp
theorem NQ{m k A L:Nat}(e:0<m)(h:m*tB^k<=A)(a:A<wB^L):k<64*L:=by
 have b:2^k<=tB^k:=fb (by decide) k;have c:tB^k<=m*tB^k:=Nat.le_mul_of_pos_left _ e;rw[show wB=2^64 from rfl,<-gb]at a;have d:2^k<2^(64*L):=dz (eb b (eb c h)) a
 rwa [Nat.pow_lt_pow_iff_right (by decide)]at d
theorem XM(a:NI)(hs:a.sm=false)(Z:okW a.v)(aw:(aZ a.v.natAbs).length<=1000000):aC prog 247 [eI a] (.str (bL a.v)):=by
 have N:=nV (eI a) a.v (mq a);have aJ:=NI.zV (a:=a) (by rw[hs];decide);have aj:=dq (cm bp a.v.natAbs) (dp (show 0<wB by decide) (nT Z));obtain⟨c,cs,G⟩:=oc hs;refine aM nf Em mix (by simp[f247]) ?_;simp[f247,ad,G,dD,cX];refine c1 N ?_;simp;refine sq (fun s'=>∃b:List (List Nat),jI 0 b=jI a.v.natAbs []/\(∀p∈b,p≠[]/\p.length<=18)/\b≠[]/\b.length<=57600000/\aN s'.env 3=.p (.bool (decide (a.v<0)))/\aN s'.env 6=.sl 2 b.length 1 0 b.length/\∃o,s'.heap=[.hole,o,.arr .grow b.length 1 (b.map fun p=>.p (.str p))]) ?_ ?_
 ·refine lp (α:=Nat×List (List Nat)×Bool) (fun x=>⟨[(6,.sl 2 x.2.1.length 1 0 x.2.1.length),(5,.sl 1 0 1 0 1),(4,.p (eN x.1)),(3,.p (.bool (decide (a.v<0))))],[.hole,.arr (if x.2.2=true then .frozen else .exact) 0 1 [.p (.int .u64 1000000000000000000)],.arr .grow x.2.1.length 1 (x.2.1.map fun p=>.p (.str p))]⟩)
   (fun x=>x.1<=a.v.natAbs/\jI x.1 x.2.1=jI a.v.natAbs []/\(∀p∈x.2.1,p≠[]/\p.length<=18)/\x.2.1.length<=57600000/\x.1*tB^x.2.1.length<=a.v.natAbs) (fun x=>x.1) (a.v.natAbs,[],false) ⟨ea _,rfl,by simp,by simp,by simp⟩ ?_
  rintro⟨m,b,f⟩ ⟨k1,k2,k3,k5,k4⟩;dsimp only at k1 k2 k3 k5 k4;rcases f with _|_
  ·simp only[a0,if_false];have ax:(az wB m).length<=900000:=by
    have:=dT bp _ _ (dz k1 (cm bp a.v.natAbs));have:=nT Z;omega
   by_cases hm:m=0
   ·subst hm;have ab:b≠[]:=by
     rintro rfl;rw[jI,jI,if_pos rfl,if_neg (by omega)]at k2;have:=zt a.v.natAbs;rw[b3,cN,bl,bl]at k2;rw[<-k2]at this;simp at this
    simp[eN,lG];refine⟨b,k2,k3,ab,k5,?_⟩;simp
   ·have d:=CY m tB (by decide) (by omega) (by rw[Ab];decide);have aa:az wB m≠[]:=mt tA.1 hm;have C:0<(az wB m).length:=a5.2 aa;have aH:=Lz hm b;have B:∀p∈b++[eK m],p≠[]/\p.length<=18:=by
     intro p N;rcases da.1 N with h|h
     ·exact k3 p h
     ·rw[cA.1 h];exact⟨Kx m,Ky m⟩
    have A:m/tB<m:=fl (by omega) (by decide);have aA:=NQ (show 0<m by omega) k4 aj;have w:m/tB*tB^(b++[eK m]).length<=a.v.natAbs:=by
     rw[bb,a7,em,e6 (tB^b.length),<-en];exact eb (e8 _ (fd _ _)) k4
    have y:(b++[eK m]).length<=57600000:=by rw[bb,a7];omega
    have r:m% tB<tB:=ge _ (by decide);have Q:m/tB=0->m% tB=m:=fun h=>by have:=ec m tB;rw[h]at this;omega
    simp only[eN]at d⊢;rw[Ab]at d;have P:=tA (n:=m/tB);have L:=PW (m% tB) (eo r (by decide));have q:=PX [48] (18-(aZ (m% tB)).length) (by omega) (by simp;omega);have aB:=Dx r;have ac:=RC r;rw[CN]at q;have l:eK m=if m/tB=0 then aZ (m% tB)else a9 (18-(aZ (m% tB)).length) 48++aZ (m% tB):=by
     rw[eK,ac];split
     ·rename_i h;rw[Q h]
     ·rfl
    have s:a3.wrap (18-((aZ (m% tB)).length:Int))=(18-(aZ (m% tB)).length:Nat):=by rw[aO _ (by omega) (by omega)];omega
    have aF:((18-(aZ (m% tB)).length:Nat):Int)=18-((aZ (m% tB)).length:Int):=by omega
    have u:∀t,t=eK m->(b.map fun p=>AV.p (.str p))++[AV.p (.str t)]=(b++[eK m]).map fun p=>AV.p (.str p):=fun t e=>by rw[e];simp
    by_cases F:m% tB=0
    ·have j:¬m/tB=0:=fun h=>hm (by rw[<-Q h];exact F);have E:0<(az wB (m/tB)).length:=a5.2 (mt P.1 j);have e:a9 (18-(aZ (m% tB)).length) 48++aZ (m% tB)=eK m:=by rw[l,if_neg j]
     rw[F,mP]at e q s;rw[F,lG]at d;simp only[a7]at e q s;have hf:=u _ e;generalize D:az wB (m/tB)=ai at*;simp[C];refine cp d (by simp;exact⟨rfl,rfl⟩) ?_ (h1:=by simp[tB]);simp[E,s];refine c2 q ?_;simp;refine⟨by simp only[cZ];omega,?_⟩;refine rd (m/tB,b++[eK m],true) ⟨by omega,by rw[aH];exact k2,by simpa using B,y,w⟩ A (he:=by simp[D]) (hh:=by simp only[<-hf];simp) (hr2:=by simp only[<-hf];simp)
    ·have af:az wB (m% tB)=[m% tB]:=ud (by omega) (eo r (by decide));rw[af]at d
     by_cases j:m/tB=0
     ·have e:aZ (m% tB)=eK m:=by rw[l,if_pos j]
      have hf:=u _ e;rw[j,lG]at d;simp[C];refine cp d (by simp;exact⟨rfl,rfl⟩) ?_ (h1:=by simp[tB]);simp;refine c2 L ?_;simp;refine⟨by simp only[cZ];omega,?_⟩;refine rd (m/tB,b++[eK m],true) ⟨by omega,by rw[aH];exact k2,by simpa using B,y,w⟩ A (he:=by simp[j,lG]) (hh:=by simp only[<-hf];simp) (hr2:=by simp only[<-hf];simp)
     ·have E:0<(az wB (m/tB)).length:=a5.2 (mt P.1 j);have e:a9 (18-(aZ (m% tB)).length) 48++aZ (m% tB)=eK m:=by rw[l,if_neg j]
      have hf:=u _ e;generalize D:az wB (m/tB)=ai at*;simp[C];refine cp d (by simp;exact⟨rfl,rfl⟩) ?_ (h1:=by simp[tB]);simp;refine c2 L ?_;simp[E,s];refine c2 q ?_;simp;refine⟨by omega,by simp only[cZ];omega,?_⟩;refine rd (m/tB,b++[eK m],true) ⟨by omega,by rw[aH];exact k2,by simpa using B,y,w⟩ A (he:=by simp[D]) (hh:=by simp only[<-hf];simp) (hr2:=by simp only[<-hf];simp)
  ·simp only[if_true];have ax:(az wB m).length<=900000:=by
    have:=dT bp _ _ (dz k1 (cm bp a.v.natAbs));have:=nT Z;omega
   by_cases hm:m=0
   ·subst hm;have ab:b≠[]:=by
     rintro rfl;rw[jI,jI,if_pos rfl,if_neg (by omega)]at k2;have:=zt a.v.natAbs;rw[b3,cN,bl,bl]at k2;rw[<-k2]at this;simp at this
    simp[eN,lG];refine⟨b,k2,k3,ab,k5,?_⟩;simp
   ·have d:=CY m tB (by decide) (by omega) (by rw[Ab];decide);have aa:az wB m≠[]:=mt tA.1 hm;have C:0<(az wB m).length:=a5.2 aa;have aH:=Lz hm b;have B:∀p∈b++[eK m],p≠[]/\p.length<=18:=by
     intro p N;rcases da.1 N with h|h
     ·exact k3 p h
     ·rw[cA.1 h];exact⟨Kx m,Ky m⟩
    have A:m/tB<m:=fl (by omega) (by decide);have aA:=NQ (show 0<m by omega) k4 aj;have w:m/tB*tB^(b++[eK m]).length<=a.v.natAbs:=by
     rw[bb,a7,em,e6 (tB^b.length),<-en];exact eb (e8 _ (fd _ _)) k4
    have y:(b++[eK m]).length<=57600000:=by rw[bb,a7];omega
    have r:m% tB<tB:=ge _ (by decide);have Q:m/tB=0->m% tB=m:=fun h=>by have:=ec m tB;rw[h]at this;omega
    simp only[eN]at d⊢;rw[Ab]at d;have P:=tA (n:=m/tB);have L:=PW (m% tB) (eo r (by decide));have q:=PX [48] (18-(aZ (m% tB)).length) (by omega) (by simp;omega);have aB:=Dx r;have ac:=RC r;rw[CN]at q;have l:eK m=if m/tB=0 then aZ (m% tB)else a9 (18-(aZ (m% tB)).length) 48++aZ (m% tB):=by
     rw[eK,ac];split
     ·rename_i h;rw[Q h]
     ·rfl
    have s:a3.wrap (18-((aZ (m% tB)).length:Int))=(18-(aZ (m% tB)).length:Nat):=by rw[aO _ (by omega) (by omega)];omega
    have aF:((18-(aZ (m% tB)).length:Nat):Int)=18-((aZ (m% tB)).length:Int):=by omega
    have u:∀t,t=eK m->(b.map fun p=>AV.p (.str p))++[AV.p (.str t)]=(b++[eK m]).map fun p=>AV.p (.str p):=fun t e=>by rw[e];simp
    by_cases F:m% tB=0
    ·have j:¬m/tB=0:=fun h=>hm (by rw[<-Q h];exact F);have E:0<(az wB (m/tB)).length:=a5.2 (mt P.1 j);have e:a9 (18-(aZ (m% tB)).length) 48++aZ (m% tB)=eK m:=by rw[l,if_neg j]
     rw[F,mP]at e q s;rw[F,lG]at d;simp only[a7]at e q s;have hf:=u _ e;generalize D:az wB (m/tB)=ai at*;simp[C];refine cp d (by simp;exact⟨rfl,rfl⟩) ?_ (h1:=by simp[tB]);simp[E,s];refine c2 q ?_;simp;refine⟨by simp only[cZ];omega,?_⟩;refine rd (m/tB,b++[eK m],true) ⟨by omega,by rw[aH];exact k2,by simpa using B,y,w⟩ A (he:=by simp[D]) (hh:=by simp only[<-hf];simp) (hr2:=by simp only[<-hf];simp)
    ·have af:az wB (m% tB)=[m% tB]:=ud (by omega) (eo r (by decide));rw[af]at d
     by_cases j:m/tB=0
     ·have e:aZ (m% tB)=eK m:=by rw[l,if_pos j]
      have hf:=u _ e;rw[j,lG]at d;simp[C];refine cp d (by simp;exact⟨rfl,rfl⟩) ?_ (h1:=by simp[tB]);simp;refine c2 L ?_;simp;refine⟨by simp only[cZ];omega,?_⟩;refine rd (m/tB,b++[eK m],true) ⟨by omega,by rw[aH];exact k2,by simpa using B,y,w⟩ A (he:=by simp[j,lG]) (hh:=by simp only[<-hf];simp) (hr2:=by simp only[<-hf];simp)
     ·have E:0<(az wB (m/tB)).length:=a5.2 (mt P.1 j);have e:a9 (18-(aZ (m% tB)).length) 48++aZ (m% tB)=eK m:=by rw[l,if_neg j]
      have hf:=u _ e;generalize D:az wB (m/tB)=ai at*;simp[C];refine cp d (by simp;exact⟨rfl,rfl⟩) ?_ (h1:=by simp[tB]);simp;refine c2 L ?_;simp[E,s];refine c2 q ?_;simp;refine⟨by omega,by simp only[cZ];omega,?_⟩;refine rd (m/tB,b++[eK m],true) ⟨by omega,by rw[aH];exact k2,by simpa using B,y,w⟩ A (he:=by simp[D]) (hh:=by simp only[<-hf];simp) (hr2:=by simp only[<-hf];simp)
 ·rintro⟨aI,aL⟩ ⟨b,q1,aG,V,q4,ar,T,o,am⟩;dsimp only at ar T am;subst am;have aD:0<b.length:=a5.2 V;have ae:aZ a.v.natAbs=b.reverse.flatten:=by rw[<-XC,q1,jI,if_neg (by omega)];simp
  obtain⟨neg,M⟩:∃neg:Bool,neg=decide (a.v<0):=⟨_,rfl⟩
  obtain⟨S,O⟩:∃S:List Nat,S=if neg=true then[45]else[]:=⟨_,rfl⟩
  have an:bL a.v=S++b.reverse.flatten:=by
   rw[bL,<-ae,O,M]
   by_cases h:a.v<0
   ·simp[h]
   ·simp[h]
  obtain⟨g,J⟩:∃g:Nat->List Nat,g=fun k=>S++(b.reverse.take k).flatten:=⟨_,rfl⟩
  have K:g b.length=bL a.v:=by rw[J,an];dsimp only;rw[a6 (by simp)]
  have aE:∀k,(b.reverse.take k).flatten.length<=1000000:=fun k=>by
   have au:b.reverse.flatten=(b.reverse.take k).flatten++(b.reverse.drop k).flatten:=by rw[<-cx,bo]
   rw[ae,au,bb]at aw;omega
  have aP:S.length<=1:=by rw[O];split<;>simp
  have X:∀k,(g k).length<=1000001:=fun k=>by rw[J];dsimp only;rw[bb];have:=aE k;omega
  have l:∀k(h:k<b.length),g (k+1)=g k++b[b.length-1-k]'(by omega):=fun k h=>by
   rw[J];dsimp only;rw[bi (by simpa using h),cx,List.getElem_reverse,<-List.append_assoc];simp
  have av:∀c∈bL a.v,c<256:=by
   intro c hc;rw[bL]at hc;have d:=ov a.v.natAbs;rw[List.all_eq_true]at d
   split at hc
   ·rcases dg.1 hc with h|h
    ·omega
    ·exact My (d c h)
   ·exact My (d c hc)
  have ag:a3.wrap ((b.length:Int)-1)=b.length-1:=aO _ (by omega) (by omega);have ak:∀i(h:i<b.length),b[i]≠[]/\b[i].length<=18:=fun i h=>aG _ (b4 h);have H:=ato (g b.length) (if neg=true then b.length else b.length-1) (g b.length).length rfl (by rw[K,an];intro h;rw[List.append_eq_nil_iff,<-ae]at h;have:=zt a.v.natAbs;rw[h.2]at this;simp at this) (by have:=X b.length;omega) (by rw[K];exact av);simp[ar,T,ag]
  by_cases U:a.v<0
  ·rw[decide_eq_true U]at M;subst M;have ay:g 0=[45]:=by rw[J,O];simp
   simp only[if_true]at H;simp[U];refine cf (Qg [45] (by simp) (by simp)) [3] ?_;simp[bd,sig,T,ag];refine lp (α:=Nat) (fun k=>⟨[(11,.p (.int .i64 ((b.length:Int)-1-k))),(10,.ptr 3 []),(6,.sl 2 b.length 1 0 b.length)],[.hole,.hole,.arr .grow b.length 1 (b.map fun p=>.p (.str p)),.box false (.st 226 [.ptr 3 [],.sl 4 k 1 0 (g k).length]),.arr .bytes k 1 (dQ (g k))]⟩)
    (fun k=>k<=b.length) (fun k=>b.length-k) 0 (by simp) ?_ (he:=by simp[T]) (hh:=by simp[ay,dQ]) (hr2:=by simp[dQ])
   intro k hk
   by_cases z:k<b.length
   ·have G:a3.wrap ((b.length:Int)-1-k-1)=b.length-1-(k+1:Nat):=by rw[aO _ (by omega) (by omega)];omega
    have e1:((b.length:Int)-1-k).toNat=b.length-1-k:=by omega
    have I:(k:Int)<=(b.length:Int)-1:=by omega
    have R:b.length-1-k<b.length:=by omega
    have hx:=ak _ R;have ah:=Qh (g k) (b[b.length-1-k]) k (g k).length rfl hx.1 (by omega) (by have:=X k;omega);simp[I,e1,R,V];refine cf ah [3,4] ?_ (ak:=by simp[sig,dQ]) (aK:=by simp[sig]) (hr:=by simp[dQ]);simp[sig,dQ,bd,G,CO];refine rd (k+1) z (he:=by simp[l k z]) (hh:=by simp[l k z,dQ]) (hr2:=by simp[dQ])
   ·have Y:k=b.length:=by omega
    subst Y;have W:¬(b.length:Int)<=(b.length:Int)-1:=by omega
    simp[W];refine cf H [3,4] ?_ (ak:=by simp[sig,dQ]) (aK:=by simp[sig]) (hr:=by simp[dQ]);simp[sig,bd,K]
  ·rw[decide_eq_false U]at M;subst M;simp only[a0,if_false]at H O;have al:g 1=b[b.length-1]:=by rw[l 0 aD,J];simp[O]
   have aq:b.length-1<b.length:=by omega
   have ap:=ak _ aq;have ao:=Qg (b[b.length-1]) ap.1 (by omega);rw[<-al]at ao ap;simp[U,ag]
   refine lp (α:=Option Nat) (fun st=>match st with
     |none=>⟨[(11,.p (.int .i64 ((b.length:Int)-1))),(10,.ptr 3 []),(6,.sl 2 b.length 1 0 b.length)],[.hole,.hole,.arr .grow b.length 1 (b.map fun p=>.p (.str p)),.box false (.p (.st 226 [.dM,.aP]))]⟩
     |some k=>⟨[(11,.p (.int .i64 ((b.length:Int)-1-(k+1)))),(10,.ptr 3 []),(6,.sl 2 b.length 1 0 b.length)],[.hole,.hole,.arr .grow b.length 1 (b.map fun p=>.p (.str p)),.box false (.st 226 [.ptr 3 [],.sl 4 k 1 0 (g (k+1)).length]),.arr .bytes k 1 (dQ (g (k+1)))]⟩)
    (fun st=>match st with
     |none=>True
     |some k=>k+1<=b.length) (fun st=>match st with
     |none=>b.length+1
     |some k=>b.length-(k+1)) none trivial ?_ (he:=by simp[T])
   intro st hk;cases st with
   |none=>
    have G:a3.wrap ((b.length:Int)-1-1)=b.length-1-(0+1):=by rw[aO _ (by omega) (by omega)];omega
    have e1:((b.length:Int)-1).toNat=b.length-1:=by omega
    have I:(1:Int)<=(b.length:Int):=by omega
    simp[I,e1,aq,V,<-al];refine cf ao [3] ?_;simp[bd,sig,G];refine rd (some 0) (by show 0+1<=b.length;omega) (by show b.length-(0+1)<b.length+1;omega) (he:=by simp) (hh:=by simp[dQ]) (hr2:=by simp[dQ])
   |some k=>
    have hk:k+1<=b.length:=hk
    by_cases z:k+1<b.length
    ·have G:a3.wrap ((b.length:Int)-1-(k+1)-1)=b.length-1-(k+1+1):=by rw[aO _ (by omega) (by omega)];omega
     have e1:((b.length:Int)-1-(k+1)).toNat=b.length-1-(k+1):=by omega
     have I:(k:Int)+1<=(b.length:Int)-1:=by omega
     have R:b.length-1-(k+1)<b.length:=by omega
     have hx:=ak _ R;have ah:=Qh (g (k+1)) (b[b.length-1-(k+1)]) k (g (k+1)).length rfl hx.1 (by omega) (by have:=X (k+1);omega);simp[I,e1,R,V];refine cf ah [3,4] ?_ (ak:=by simp[sig,dQ]) (aK:=by simp[sig]) (hr:=by simp[dQ]);simp[sig,dQ,bd,G,CO];refine rd (some (k+1)) z (by show b.length-(k+1+1)<b.length-(k+1);omega) (he:=by simp[l (k+1) z]) (hh:=by simp[l (k+1) z,dQ]) (hr2:=by simp[dQ])
    ·have Y:b.length=k+1:=by omega
     have W:¬(k:Int)+1<=(b.length:Int)-1:=by omega
     rw[Y]at H K;rw[ed]at H;simp[W];refine cf H [3,4] ?_ (ak:=by simp[sig,dQ]) (aK:=by simp[sig]) (hr:=by simp[dQ]);simp[sig,bd,K]
theorem CZ(a:NI)(c:okW a.v)(b:(aZ a.v.natAbs).length<=1000000):aC prog 247 [eI a] (.str (bL a.v)):=by
 rcases h:a.sm with _|_
 ·exact XM a h c b
 ·exact XN a h
open Go
theorem Lf:∀(r:List Nat)(a:Nat),a<=r.foldl (fun n c=>n*10+(c-48)) a
 |[],a=>ea _
 |x::r,a=>eb (show a<=a*10+(x-48)by omega) (Lf r _)
theorem K0:∀(d:List Nat)(a:Nat),d.all cj=true->d.foldl (fun n c=>n*10+(c-48)) a<1000000000000000000->Lib.parseUint10 a (d.map gj)=.ok (d.foldl (fun n c=>n*10+(c-48)) a)
 |[],a,_,_=>rfl
 |c::r,a,h,b=>by
  simp only[ce,aT]at h;have hc:=h.1;simp only[cj,aT,decide_eq_true_eq]at hc;have f:=Lf r (a*10+(c-48));rw[cb]at b⊢;have e:(gj c).toNat=c:=by simp;omega
  rw[be,Lib.parseUint10,e,if_pos hc,if_neg (by omega),if_neg (by omega)];exact K0 r _ h.2 b
theorem YK{d:List Nat}(h:d.all cj=true)(b:d≠[])(f:d.length<=18):Lib.atoiAll (d.map gj)=.ok (aX d):=by
 have i:=ju _ d rfl h;have j:10^d.length<=10^18:=dp (by omega) f;cases d with
 |nil=>exact(b rfl).elim
 |cons c r=>
  have hc:=(aT ..▸(ce▸h):cj c=true/\r.all cj=true).1;simp only[cj,aT,decide_eq_true_eq]at hc;have e:(gj c).toNat=c:=by simp;omega
  have g:aX (c::r)<1000000000000000000:=by omega
  have a:=K0 (c::r) 0 h g;rw[<-aX]at a;rw[be]at a;rw[be,Lib.atoiAll];simp only[e];rw[if_neg (by omega),Lib.parseMag,if_neg (by simp),a];dsimp only;rw[if_neg (by omega),if_neg (by omega),if_neg (by omega)]
theorem Cy:∀(b:List Nat)(x:Nat),b.foldl (fun n c=>n*10+(c-48)) x=x*10^b.length+aX b
 |[],x=>by simp[aX]
 |c::b,x=>by
  rw[aX,cb,cb,Cy b,Cy b (0*10+(c-48)),cC,em,gc,en,e6 10];simp[fm]
theorem Lw(a b:List Nat):aX (a++b)=aX a*10^b.length+aX b:=by
 rw[aX,List.foldl_append,Cy];rfl
theorem MV(k:Nat):10^k<=2^(4*k):=by
 rw[gb];exact fb (by decide) k
theorem LD{a K:Nat}(h:4*a<=K):10^a<=2^K:=eb (MV a) (dp (by decide) h)
theorem wT{n k:Nat}(h:n<2^k)(hk:k<=3*1000000):(aZ n).length<=1000000:=
 se h hk (by decide)
theorem zo(a:NF)(h:bK kB a.q):aC prog 176 [eF a] (.str (bc a.q)):=by
 have f:kB=100000:=rfl;have w:=CD a;have c:=CZ a.num (il h.1 qu) (wT h.1 (by omega));have d:=CZ a.den (il (by rw[kf];exact h.2) qu) (wT (by rw[kf];exact h.2) (by omega));rw[lF]at c;rw[jB,vJ]at d;have g:=wT h.1 (show kB<=3*1000000 by omega);have i:=wT h.2 (show kB<=3*1000000 by omega);have j:=Dk a.q.num;refine aM nf G2 mix (by simp[f176]) ?_;rw[bc]
 by_cases b:a.q.den=1
 ·have e:a.fE=true:=by simp[NF.fE,b]
  rw[e]at w;rw[if_pos b];simp[f176];refine c1 w ?_;simp[ad];refine c1 c ?_;simp
 ·have e:a.fE=false:=by simp[NF.fE,b]
  rw[e]at w;rw[if_neg b];simp[f176];refine c1 w ?_;simp[ad];refine e1 c ?_;simp[ad];refine⟨by omega,?_⟩;refine e1 d ?_;simp;omega
def kR:Nat:=2800
theorem yk(s:List Nat)(i:(cW s).all cj=true)(E:(cW s).length<=700):aC prog 224 [.str s] (eI (.mk' (if bZ s=true then -(aX (cW s):Int)else aX (cW s)))):=by
 refine aM nf Iq mix (by simp[f224]) ?_;simp[f224];refine c2 (Y5 s) ?_;simp;refine c2 (K3 s) ?_;simp;generalize cW s=d at*;generalize bZ s=neg at*;have w:fq 0=eI (.mk' 0):=(ot (by decide) (by decide)).symm;rw[show PV.st 129 [.int .i64 0,.aP]=eI (.mk' 0)from w];refine lp (α:=List Nat×NI) (fun x=>⟨[(4,.ptr 1 []),(3,.p (.bool neg)),(2,.ptr 0 []),(0,.p (.str x.1))],[.box false (.p (eI (.mk' 0))),.box false (.p (eI x.2))]⟩)
  (fun x=>∃m:Nat,x.2.v=m/\m*10^x.1.length+aX x.1=aX d/\x.1.all cj=true/\x.1.length<=700/\m<2^kR) (fun x=>x.1.length) (d,.mk' 0) ⟨0,rfl,by simp,i,E,e7 (by decide)⟩ ?_
 rintro⟨r,o⟩ ⟨m,k1,k2,k3,k4,k5⟩;dsimp only at k1 k2 k3 k4 k5;have S:kR=2800:=rfl;have c:o.v.natAbs<2^kR:=by rw[k1,a4];exact k5
 have I:okW o.v:=il c (by have:kB=100000:=rfl;omega)
 by_cases f:r=[]
 ·subst f;have u:o.v=aX d:=by rw[k1];simp[aX]at k2⊢;omega
  cases neg
  ·have e:eI (.mk' (aX d:Nat))=eI o:=ni (by rw[NI.iH,u]) (fun h=>by rw[NI.iH]at h;omega);simp;rw[e];simp[ad]
  ·have e:eI (.mk' (-(aX d:Nat)))=eI o.neg:=by rw[NI.neg,u]
   simp;rw[e];refine c1 (ux o I) ?_;simp[ad]
 ·have L:0<r.length:=a5.2 f;obtain⟨n,U⟩:∃n,n=min 18 r.length:=⟨_,rfl⟩
  have j:n<=r.length:=by omega
  have V:0<n:=by omega
  have G:n<=18:=by omega
  have H:(if(r.length:Int)<18 then(r.length:Int)else 18)=n:=by split<;>omega
  have g:(r.take n).length=n:=by rw[cB];omega
  have a:=k3;rw[<-bo n r,List.all_append,aT]at a;have N:=ju _ (r.take n) rfl a.1;have C:=Ih (r.take n) (aX (r.take n)) (YK a.1 (by intro e;rw[e]at g;simp at g;omega) (by omega)) (by omega);rw[g]at N;have q:10^n<=10^18:=dp (by decide) G;have z:10^n<wB^1:=by rw[fN];exact dz q (by decide)
  have A:((10^n:Nat):Int).natAbs<2^64:=by rw[a4];exact dz q (by decide)
  have O:=dT bp 1 _ z;have W:=y5 c;have P:kB=100000:=rfl;have X:=ju _ d rfl i;have Q:10^d.length<=2^kR:=LD (by have:kR=2800:=rfl;omega);have J:=Zm (.of 10) n (10^n) (by decide) rfl (by omega) (by decide) (by omega);have F:=Aq o (.mk' (10^n:Nat)) (by rw[NI.iH,a4];omega);have B:=xn (o.mul (.mk' (10^n:Nat))) (.of (aX (r.take n):Nat)) (il (po (x:=o.v) (y:=((10^n:Nat):Int)) c A) (by omega)) (il (k:=64) (show((aX (r.take n):Nat):Int).natAbs<2^64 by rw[a4];omega) (by omega));have l:=sj (aX (r.take n):Nat);rw[<-uC (by omega) (by omega)]at l;have t:=sj 10;rw[<-uC (by decide) (by decide)]at t;have M:aX r=aX (r.take n)*10^(r.drop n).length+aX (r.drop n):=by rw[<-Lw,bo]
  have K:r.length=n+(r.drop n).length:=by rw[List.length_drop];omega
  have D:(m*10^n+aX (r.take n))*10^(r.drop n).length+aX (r.drop n)=aX d:=by
   rw[<-k2,M,K,Nat.pow_add,gc,en,fm]
  generalize 10^n=T at*;generalize Y:aX (r.take n)=b at*;have R:m*T+b<=aX d:=by
   have:=Nat.le_mul_of_pos_right (m*T+b) (show 0<10^(r.drop n).length from e7 (by decide));omega
  simp[f,L,H];refine⟨j,?_⟩;refine c1 C ?_;simp;refine e1 t ?_;simp;refine e2 J ?_;simp[ad];refine e2 F ?_;simp;refine e1 l ?_;simp;refine e2 B ?_;simp[ad];refine⟨rfl,j,?_⟩;refine rd (r.drop n,(o.mul (.mk' T)).add (.of b)) ⟨m*T+b,by rw[NI.rW,NI.mh,NI.iH,k1];rfl,D,a.2,by dsimp only;omega,by omega⟩ (by dsimp only;omega)
theorem CU{s:List Nat}(h:dI s=true):bZ s=false/\cW s=s:=by
 have b:=jm h;have:bZ s=false:=by
  rw[bZ,decide_eq_false_iff_not];intro a;cases s with
  |nil=>simp at a
  |cons c r=>
   simp at a;subst a;rw[ce,aT]at b;simp[cj]at b
 exact⟨this,by rw[cW,this];rfl⟩
theorem Li(s:List Nat):bZ (b7 47 s).1=bZ s/\cW (b7 47 s).1=bH s/\(b7 47 s).2.1=bQ s/\(b7 47 s).2.2=ek s:=by
 cases s with
 |nil=>exact⟨rfl,rfl,rfl,rfl⟩
 |cons c r=>
  by_cases h:c=45
  ·subst h;have e:b7 47 (45::r)=(45::(b7 47 r).1,(b7 47 r).2.1,(b7 47 r).2.2):=by rw[b7,if_neg (by decide)]
   rw[e];exact⟨rfl,rfl,rfl,rfl⟩
  ·have b:bZ (c::r)=false:=by rw[bZ,decide_eq_false_iff_not];simpa using h
   have a:cW (c::r)=c::r:=by rw[cW,b];rfl
   have d:bZ (b7 47 (c::r)).1=false:=by
    rw[bZ,decide_eq_false_iff_not,b7]
    split
    ·simp
    ·simpa using h
   refine⟨by rw[b,d],?_,?_,?_⟩
   ·rw[cW,d,bH,a];rfl
   ·rw[bQ,a]
   ·rw[ek,a]
theorem YY{s:List Nat}(h:bX s=0):dI (bH s)=true/\(bH s).length<=600/\(bQ s).length<=600/\(ek s=true->dI (bQ s)=true):=by
 unfold bX at h
 split at h
 ·cases h
 rename_i a
 split at h
 ·cases h
 rename_i d;have a:jR s=true:=by simpa using a
 simp only[jR,aT,Bool.or_eq_true,Bool.not_eq_true']at a;refine⟨a.1.1,by omega,by omega,fun c=>?_⟩;rcases a.2 with b|b
 ·rw[c]at b;cases b
 ·exact b.1.1
theorem TQ(z:Int):cW (bL z)=aZ z.natAbs:=by
 have:=(yR z []).2;simpa using this
theorem pE(c:Nat):∀s:List Nat,(b7 c s).1.length<=s.length/\(b7 c s).2.1.length<=s.length/\(∀x∈(b7 c s).1,x∈s)/\(∀x∈(b7 c s).2.1,x∈s)
 |[]=>by simp[b7]
 |y::r=>by
  have a:=pE c r;rw[b7]
  split
  ·simp;intro x hx;exact .inr hx
  ·simp only[cC,dg];refine⟨by omega,by omega,?_,fun x hx=>.inr (a.2.2.2 x hx)⟩;rintro x (rfl|hx)
   ·exact .inl rfl
   ·exact .inr (a.2.2.1 x hx)
theorem pq(s:List Nat):(cW s).length<=s.length/\∀x∈cW s,x∈s:=by
 rw[cW]
 split
 ·exact⟨by simp,fun x hx=>List.mem_of_mem_tail hx⟩
 ·exact⟨ea _,fun _ h=>h⟩
theorem nt(s:List Nat)(h:bX s=0)(n:s.length<=1048576):aC prog 142 [.str s] (eF ⟨bh s,false⟩):=by
 obtain⟨l,t,u,m⟩:=YY h;obtain⟨o,f,p,q⟩:=Li s;obtain⟨q1,r,a⟩:=jA h;have b:=PU s 47 n;rw[p,q]at b;have c:=yk (b7 47 s).1 (by rw[f];exact jm l) (by rw[f];omega);rw[o,f]at c;have j:eI (NF.mk (bh s) false).num=eI (.mk' (if bZ s=true then -(aX (bH s):Int)else aX (bH s))):=by
  show eI ⟨(bh s).num,false⟩=_;rw[r];rfl
 rw[<-j]at c;refine aM nf IK mix (by simp[f142]) ?_;cases hf:ek s
 ·rw[hf]at b a;simp only[a0,if_false]at a;have e:(NF.mk (bh s) false).den=.mk' 1:=by
   show NI.mk' ((bh s).den:Int)=_;rw[a];rfl
  have i:=DJ (NF.mk (bh s) false).num;have k:eF (.whole (NF.mk (bh s) false).num)=eF ⟨bh s,false⟩:=by
   rw[eF,eF,e];rfl
  rw[k]at i;simp[f142];refine c2 b ?_;simp;refine c1 c ?_;simp;refine c1 i ?_;simp[ad]
 ·rw[hf]at b a;simp only[if_true]at a;have g:=m hf;obtain⟨d1,d2⟩:=CU g;have d:=yk (bQ s) (by rw[d2];exact jm g) (by rw[d2];omega);rw[d1,d2]at d;simp only[a0,if_false]at d;have e:eI (NF.mk (bh s) false).den=eI (.mk' (aX (bQ s):Nat)):=by
   show eI (NI.mk' ((bh s).den:Int))=_;rw[a]
  rw[<-e]at d;rw[eF];simp[f142];refine c2 b ?_;simp;refine c1 c ?_;simp;refine c1 d ?_;simp[ad]
def kJ(n:Nat):Bool:=decide (600<(aZ n).length)
theorem Pd(a:NI)(h:a.v.natAbs<2^kB):aC prog 246 [eI a] (.bool (kJ a.v.natAbs)):=by
 have l:kB=100000:=rfl;have d:=il h qu;have g:=Zh a d;have i:=CZ a d (wT h (by omega));have c:=K3 (bL a.v);rw[TQ]at c;refine aM nf Mx mix (by simp[f246]) ?_;simp[f246];refine c1 g ?_
 by_cases j:1800<ou a.v.natAbs
 ·have b:(1800:Int)<(ou a.v.natAbs:Nat):=by omega
  have e:decide ((600:Int)<((aZ a.v.natAbs).length:Nat))=kJ a.v.natAbs:=by rw[kJ,decide_eq_decide];omega
  simp[b];refine c1 i ?_;simp;refine c2 c ?_;simp[kJ];omega
 ·have f:=dq (LX a.v.natAbs) (dp (show 0<2 by decide) (show ou a.v.natAbs<=3*600 by omega));have k:=J3 f (by decide);have e:kJ a.v.natAbs=false:=by rw[kJ,decide_eq_false_iff_not];omega
  have b:¬(1800:Int)<(ou a.v.natAbs:Nat):=by omega
  simp[b,e]
def xE(q:Rat):Bool:=kJ q.num.natAbs||kJ q.den
theorem zz(a:NF)(h:bK kB a.q):aC prog 175 [eF a] (.bool (xE a.q)):=by
 have b:=Pd a.num h.1;have c:=Pd a.den (by rw[kf];exact h.2);rw[lF]at b;rw[kf]at c;refine aM nf G3 mix (by simp[f175]) ?_;rw[xE];cases hc:kJ a.q.num.natAbs
 ·rw[hc]at b;simp[f175,ad];refine c1 b ?_;simp[ad];refine c1 c ?_;simp
 ·rw[hc]at b;simp[f175,ad];refine c1 b ?_;simp
def uG:List (Nat×Func)->a1->Option Func
 |[],_=>none
 |(i,g)::r,f=>bif Nat.beq i f then some g else uG r f
def Bf(P:Program):List (Nat×Func)->Prop
 |[]=>True
 |p::r=>aw P p.1 p.2/\Bf P r
theorem DO{P:Program}:∀{l:List (Nat×Func)},Bf P l->∀{f:Nat}{fn:Func},uG l f=some fn->aw P f fn
 |[],_,f,fn,h=>by simp[uG]at h
 |(i,g)::r,a,f,fn,h=>by
  simp only[uG,Bool.cond_eq_ite]at h
  split at h
  ·rename_i hf;simp only[gi]at h;subst h;rw[<-Nat.eq_of_beq_eq_true hf];exact a.1
  ·exact DO a.2 h
noncomputable def FF:List (Nat×Func):=[(2,f2),(3,f3),(4,f4),(5,f5),(6,f6),(7,f7),(8,f8),(9,f9),(10,f10),(11,f11),(12,f12),(13,f13),(14,f14),(15,f15),(16,f16),(17,f17),(18,f18),(19,f19),(20,f20),(21,f21),(22,f22),(23,f23),(24,f24),(25,f25),(26,f26),(27,f27),(28,f28),(29,f29),(30,f30),(31,f31),(32,f32),(33,f33),(34,f34),(35,f35),(36,f36),(37,f37),(38,f38),(39,f39),(40,f40),(41,f41),(42,f42),(43,f43),(44,f44),(45,f45),(46,f46),(47,f47),(48,f48),(49,f49),(50,f50),(51,f51),(52,f52),(53,f53),(54,f54),(55,f55),(56,f56),(57,f57),(58,f58),(59,f59),(60,f60),(61,f61),(62,f62),(63,f63),(64,f64),(65,f65),(66,f66),(67,f67),(68,f68),(69,f69),(70,f70),(71,f71),(72,f72),(73,f73),(74,f74),(75,f75),(76,f76),(77,f77),(78,f78),(79,f79),(80,f80),(81,f81),(82,f82),(83,f83),(84,f84),(85,f85),(86,f86),(87,f87),(88,f88),(89,f89),(90,f90),(91,f91),(92,f92),(93,f93),(94,f94),(95,f95),(96,f96),(97,f97),(98,f98),(99,f99),(100,f100),(101,f101),(102,f102),(103,f103),(104,f104),(105,f105),(106,f106),(107,f107),(108,f108),(109,f109),(110,f110),(111,f111),(112,f112),(113,f113),(114,f114),(115,f115),(116,f116),(117,f117),(118,f118),(119,f119),(120,f120),(121,f121),(122,f122),(123,f123),(124,f124),(125,f125),(126,f126),(127,f127),(128,f128),(129,f129),(130,f130),(131,f131),(132,f132),(133,f133),(134,f134),(135,f135),(136,f136),(137,f137),(138,f138),(139,f139),(140,f140),(141,f141),(142,f142),(143,f143),(144,f144),(145,f145),(146,f146),(147,f147),(148,f148),(149,f149),(150,f150),(151,f151),(152,f152),(153,f153),(154,f154),(155,f155),(156,f156),(157,f157),(158,f158),(159,f159),(160,f160),(161,f161),(162,f162),(163,f163),(164,f164),(165,f165),(166,f166),(167,f167),(168,f168),(169,f169),(170,f170),(171,f171),(172,f172),(173,f173),(174,f174),(175,f175),(176,f176),(177,f177),(178,f178),(179,f179),(180,f180),(181,f181),(182,f182),(183,f183),(184,f184),(185,f185),(186,f186),(187,f187),(188,f188),(189,f189),(190,f190),(191,f191),(192,f192),(193,f193),(194,f194),(195,f195),(196,f196),(197,f197),(198,f198),(199,f199),(200,f200),(201,f201),(202,f202),(203,f203),(204,f204),(205,f205),(206,f206),(207,f207),(208,f208),(209,f209),(210,f210),(211,f211),(212,f212),(213,f213),(214,f214),(215,f215),(216,f216),(217,f217),(218,f218),(219,f219),(220,f220),(221,f221),(222,f222),(223,f223),(224,f224),(225,f225),(226,f226),(227,f227),(228,f228),(229,f229),(230,f230),(231,f231),(232,f232),(233,f233),(234,f234),(235,f235),(236,f236),(237,f237),(238,f238),(239,f239),(240,f240),(241,f241),(242,f242),(243,f243),(244,f244),(245,f245),(246,f246),(247,f247),(248,f248),(249,f249),(250,f250),(251,f251),(252,f252),(253,f253),(254,f254),(255,f255),(256,f256),(257,f257),(258,f258),(259,f259),(260,f260),(261,f261),(262,f262),(263,f263),(264,f264),(265,f265),(266,f266),(267,f267),(268,f268),(269,f269),(270,f270),(271,f271),(272,f272),(273,f273),(274,f274),(275,f275),(276,f276),(277,f277),(278,f278),(280,f280),(281,f281),(282,f282),(283,f283),(284,f284),(285,f285),(286,f286),(287,f287),(288,f288),(289,f289),(291,f291),(293,f293),(294,f294),(295,f295),(296,f296),(297,f297),(298,f298),(299,f299),(300,f300),(301,f301),(302,f302),(303,f303),(304,f304),(305,f305),(306,f306),(307,f307),(308,f308),(309,f309),(310,f310),(311,f311),(312,f312),(313,f313),(315,f315),(316,f316),(317,f317),(318,f318),(319,f319),(320,f320),(321,f321),(322,f322),(323,f323),(324,f324),(325,f325),(326,f326),(327,f327),(328,f328),(329,f329),(330,f330),(331,f331),(332,f332),(333,f333),(334,f334),(335,f335),(336,f336),(337,f337),(338,f338),(339,f339),(340,f340),(341,f341),(342,f342),(343,f343),(344,f344),(345,f345),(346,f346),(347,f347),(348,f348),(349,f349),(350,f350),(351,f351),(352,f352),(354,f354),(355,f355),(356,f356),(357,f357),(358,f358),(359,f359),(360,f360),(362,f362),(363,f363),(364,f364),(365,f365),(366,f366),(367,f367),(369,f369),(370,f370),(371,f371),(372,f372),(373,f373),(374,f374),(376,f376),(377,f377),(378,f378),(379,f379),(380,f380),(381,f381),(382,f382),(383,f383),(384,f384),(385,f385),(386,f386),(387,f387),(388,f388),(419,f419)]
theorem HX:Bf prog FF:=⟨ayD,azY,uR,ny,aDJ,aDT,aDZ,aD2,Qq,axn,axz,Qr,Qs,Qt,ayi,ayA,ayB,Qu,ayE,Qv,Qw,vo,yn,Qx,Qy,Qz,QA,ym,EM,QB,QC,QD,QE,QF,QG,QH,QI,QJ,aC2,QK,aC4,aC7,QL,aC8,aDb,aDc,aDl,aDn,aDo,aDp,aDs,aDt,aDv,aDw,QM,aDE,aDH,QN,aDK,aDL,aDM,aDO,aDP,aDQ,aDR,aDS,QO,QP,aDV,QQ,QR,QS,QT,QU,aDX,QV,QW,QX,QY,QZ,Q0,aD0,Q1,aD1,Q2,Q3,Q5,Q6,Q7,Q8,Q9,Ra,Rb,Rc,Rd,Re,EN,Rf,GG,GF,GD,GC,Ph,GB,Pg,Bv,GA,G8,G7,G6,G5,G4,axo,axr,axs,axu,axw,axy,axA,axB,axC,axE,axF,axG,axH,axI,axJ,axK,axL,axM,axN,axO,Ib,axP,Ia,H9,axT,H8,IL,axV,IK,IJ,II,Pf,Pe,Ea,ax9,aya,Eo,ayb,ayc,ayd,aye,ayf,ayg,IH,IG,IF,IE,ID,PG,PF,Ep,PE,ays,ayt,ayu,ayv,PD,PC,PB,PA,Pz,G3,G2,G1,G0,GZ,GY,GX,GW,GV,GU,GS,GR,GQ,Bx,GP,Py,GO,Px,GN,GM,GL,GK,Pw,Pv,IC,IB,IA,Iz,Iy,Ix,Iw,BQ,Iv,ayH,Gs,ayI,ayJ,ayK,ayT,ayU,ayV,ay5,azk,azl,azm,Iu,It,Is,Ir,Iq,Ip,azo,azp,azq,azr,Pu,azs,azt,azu,azv,azw,azx,azy,azz,OD,En,Gr,Io,Im,Il,AD,Mx,Em,NU,xo,OC,OB,HT,OA,Oz,azA,ON,OM,OL,OK,Gq,Ge,Gp,azB,azC,azD,azE,azF,azG,Gx,azH,NT,Gw,OJ,HR,azI,azJ,azK,Gv,azL,azM,azO,azP,azQ,azR,HQ,HP,HO,azS,HN,OI,OH,OG,azT,azU,azV,azX,azZ,az0,az1,az2,az3,az4,az5,az8,az9,aAc,aAd,aAe,aAf,aAg,aAh,OE,aAi,aAm,aAo,aAp,aAr,aAs,aAt,aAu,aAv,aAw,aAx,aAy,aAB,O4,aAC,O3,HM,aAD,aAE,O2,aAF,aAG,aAH,aAI,aAJ,aAO,aAV,aAW,aA1,aBg,aBh,HL,O1,aBz,aBF,aBL,aBP,aBT,aBV,aBX,aBY,aB7,aB9,aCa,aCk,aCl,aCn,aCp,aCq,aCr,aCs,aCu,O0,aCv,aCB,aCD,aCE,aCG,aCK,aCO,aCP,aCR,aCS,aCV,aCW,aCX,aC0,aC1,aC3,trivial⟩
noncomputable def xJ(facts:a1->List PV->Option PV)(jW:a1->a1->Nat):mC:=⟨uG FF,facts,fun _ _ _=>none,jW,fun _ _ _=>none⟩
theorem aJe{facts:a1->List PV->Option PV}{jW:a1->a1->Nat}(h:∀f vs v,facts f vs=some v->aC prog f vs v):mV prog (xJ facts jW):=by
 refine⟨mix,fun f fn hf=>DO HX hf,fun f vs v hk=>h f vs v hk,fun f args H v H' hk=>?_,fun f args H ak v hk=>?_⟩
 ·simp only[xJ]at hk;cases hk
 ·simp only[xJ]at hk;cases hk
noncomputable def RO(facts:a1->List PV->Option PV)(jW:a1->a1->Nat)(f:a1)(vs:List PV):Option PV:=oO prog nf (xJ facts jW) (jQ prog nf (xJ facts jW) 20) f vs
theorem Nk{facts:a1->List PV->Option PV}{jW:a1->a1->Nat}(h:∀f vs v,facts f vs=some v->aC prog f vs v){f:a1}{vs:List PV}{v:PV}(a:RO facts jW f vs=some v):aC prog f vs v:=reckon 20 (aJe h) a
def noF:a1->List PV->Option PV:=fun _ _=>none
def qA:PV:=.st 381 ((cc 256).map fun i=>.bool (cj i))
theorem Mf(c:Nat)(hc:c<256):aC prog 372 [.cE qA,.int .u8 c] (.bool (cj c)):=by
 refine aM nf O0 mix (by simp[f372]) ?_;have a:(cc 256)[c]?=some c:=cv hc;simp[f372,qA,a,hc]
theorem Vb(s:List Nat)(h:s.length<=1048576)(g:∀c∈s,c<256):aC prog 348 [.str s,.cE qA] (.str (lE s)):=by
 refine aM nf HL mix (by simp[f348]) ?_;simp[f348];refine lp (α:=List Nat) (fun r=>⟨[(1,.p (.cE qA)),(0,.p (.str r))],[]⟩) (fun r=>lE r=lE s/\r.length<=s.length/\∀c∈r,c<256) (fun r=>r.length) s (by exact⟨rfl,ea _,g⟩) ?_;rintro r ⟨a,f,b⟩;cases r with
 |nil=>
  have e:lE s=[]:=by rw[<-a];rfl
  simp[e]
 |cons x r=>
  have hx:=b x (by simp);have i:lE (x::r)=if cj x=true then lE r else x::r:=by
   rw[lE,cy];split<;>rfl
  rw[i]at a;have j:(0:Int)<(r.length:Int)+1:=by omega
  simp[j];refine c2 (Mf x hx) ?_;cases d:cj x
  ·rw[d]at a;simp[<-a]
  ·rw[d]at a;simp;exact rd r ⟨by simpa using a,by simp at f;omega,fun c hc=>b c (by simp[hc])⟩ (h1:=by simp)
theorem UN(s:List Nat)(h:s.length<=1048576)(i:∀c∈s,c<256):aC prog 349 [.str s,.cE qA] (.str (jb s)):=by
 refine aM nf O1 mix (by simp[f349]) ?_;simp[f349];refine lp (α:=List Nat) (fun r=>⟨[(1,.p (.cE qA)),(0,.p (.str r))],[]⟩) (fun r=>jb r=jb s/\r.length<=s.length/\∀c∈r,c<256) (fun r=>r.length) s (by exact⟨rfl,ea _,i⟩) ?_;rintro r ⟨a,b,d⟩;rcases List.eq_nil_or_concat r with rfl|⟨t,x,rfl⟩
 ·have e:jb s=[]:=by rw[<-a];rfl
  simp[e]
 ·simp only[List.concat_eq_append]at a b d⊢;have hx:=d x (by simp);have j:jb (t++[x])=if cj x=true then jb t else t++[x]:=by
   rw[jb,List.reverse_append,List.reverse_cons,b3,c9,List.singleton_append,cy]
   split
   ·rfl
   ·simp
  rw[j]at a;have k:(0:Int)<(t.length:Int)+1:=by omega
  have g:a3.wrap (t.length:Int)=t.length:=aO _ (by omega) (by simp at b;omega);simp[k,g];refine c2 (Mf x hx) ?_;cases f:cj x
  ·rw[f]at a;simp[<-a]
  ·rw[f]at a;simp[g];exact rd t ⟨by simpa using a,by simp at b;omega,fun c hc=>d c (by simp[hc])⟩ (h1:=by simp)
def xt:List Nat:=[48,49,50,51,52,53,54,55,56,57]
theorem XL:aC prog 347 [.str xt] (.aG [qA,.bool true]):=Nk (facts:=noF) (jW:=fun _ _=>0) (fun _ _ _ h=>by cases h) (by kernel_rfl)
theorem aKi:cT prog 382=some (.st 381 (a9 256 (.bool false))):=by kernel_rfl
theorem Y3(s:List Nat)(h:s.length<=1048576)(d:∀c∈s,c<256):aC prog 316 [.str s,.str xt] (.str (lE (jb s))):=by
 refine aM nf OE mix (by simp[f316]) ?_
 by_cases b:s=[]
 ·subst b;simp[f316,xt,lE,jb]
 simp[f316,xt,b];refine c1 XL ?_;have g:(jb s).length<=s.length:=by
  rw[jb,List.length_reverse];have:=(ck cj (l:=s.reverse)).length_le;simpa using this
 have f:∀c∈jb s,c<256:=by
  intro c hc;rw[jb,List.mem_reverse]at hc;exact d c (by simpa using(ck cj (l:=s.reverse)).subset hc)
 simp[aKi];have a:aL qA=.agg 381:=rfl;refine⟨⟨⟨a.symm,by rw[a];intro e;cases e⟩,a.symm⟩,?_⟩;refine cp (UN s h d) (by simp;exact⟨rfl,rfl⟩) ?_;simp;refine cp (Vb (jb s) (by omega) f) (by simp;exact⟨rfl,rfl⟩) ?_;simp
def bJ:List Int->Int
 |[]=>0
 |e::r=>if e=0 then bJ r else e
def aY(b:Bool)(e:Int):Int:=if b=true then e else 0
theorem Y4(a:List Int)(h:a.length<=1048576):aC prog 272 [.seq (a.map (.int .i64))] (.int .i64 (bJ a)):=by
 refine aM nf Gw mix (by simp[f272]) ?_;simp[f272];refine lp (α:=Nat) (fun i=>⟨[(7,.p (.int .i64 i)),(6,.p (.int .i64 a.length)),(5,.p (.seq (a.map (.int .i64))))],[]⟩) (fun i=>i<=a.length/\bJ (a.drop i)=bJ a) (fun i=>a.length-i) 0 (by simp) ?_;rintro i ⟨d,b⟩;simp
 by_cases hi:i<a.length
 ·rw[bk hi]at b;have c:=cr (i:=i) (by omega);simp[hi]
  by_cases he:a[i]=0
  ·simp[bJ,he]at b;simp[he,c];exact rd (i+1) ⟨hi,b⟩
  ·simp[bJ,he]at b;simp[he,<-b]
 ·have:i=a.length:=by omega
  subst this;simp[bJ]at b;simp[<-b]
theorem mH(a:List Int)(h:a.length<=1048576):aC prog 71 [.seq (a.map (.int .i64))] (.int .i64 (bJ a)):=by
 refine aM nf QQ mix (by simp[f71]) ?_;simp[f71];refine lp (α:=Nat) (fun i=>⟨[(7,.p (.int .i64 i)),(6,.p (.int .i64 a.length)),(5,.p (.seq (a.map (.int .i64))))],[]⟩) (fun i=>i<=a.length/\bJ (a.drop i)=bJ a) (fun i=>a.length-i) 0 (by simp) ?_;rintro i ⟨d,b⟩;simp
 by_cases hi:i<a.length
 ·rw[bk hi]at b;have c:=cr (i:=i) (by omega);simp[hi]
  by_cases he:a[i]=0
  ·simp[bJ,he]at b;simp[he,c];exact rd (i+1) ⟨hi,b⟩
  ·simp[bJ,he]at b;simp[he,<-b]
 ·have:i=a.length:=by omega
  subst this;simp[bJ]at b;simp[<-b]
theorem wK(b:Bool)(e:Int):aC prog 273 [.bool b,.int .i64 e] (.int .i64 (aY b e)):=by
 refine aM nf OJ mix (by simp[f273]) ?_;cases b<;>simp[f273,aY]
theorem ic(b:Bool)(e:Int):aC prog 72 [.bool b,.int .i64 e] (.int .i64 (aY b e)):=by
 refine aM nf QR mix (by simp[f72]) ?_;cases b<;>simp[f72,aY]
theorem Oc(s:List Nat)(h:s.length<=1048576)(i:∀c∈s,c<256):aC prog 271 [.str s] (.bool (dI s)):=by
 have f:=Y3 s h i;have g:=VZ s;rw[show xt=[48,49,50,51,52,53,54,55,56,57]from rfl]at f;refine aM nf NT mix (by simp[f271]) ?_;generalize lE (jb s)=t at*;cases s with
 |nil=>simp[f271,dI]
 |cons c r=>
  have hc:=i c (by simp)
  by_cases b:t=[]
  ·have d:=g.1 b;have e:dI (c::r)=(decide (¬c=48)||decide (r=[])):=by
    rw[dI,d]
    by_cases a:c=48
    ·subst a;simp
    ·simp[a]
   rw[e];clear e d g
   by_cases a:c=48
   ·cases r with
    |nil=>
     simp[f271];refine c2 f ?_;simp[b,a]
    |cons x r=>
     simp[f271];refine c2 f ?_;simp[b,a]
   ·have j:¬(c:Int)=48:=by omega
    simp[f271];refine c2 f ?_;simp[b,a,j]
  ·have d:¬(c::r).all cj=true:=mt g.2 b;have a:(c::r).all cj=false:=by simpa using d
   have e:dI (c::r)=false:=by rw[dI,a];simp
   rw[e];clear e d a g;simp[f271];refine c2 f ?_;simp[b]
theorem at2{a b:Nat}:(decide (jV (eP a b) 1≠0))=decide (fv a b≠1):=by
 rw[decide_eq_decide,jV,eP,a4,a4]
 split
 ·simp;omega
 ·split
  ·simp;omega
  ·simp;omega
theorem Ft{s:List Nat}(h:s.all cj=true)(c:s.length<=700):okW (aX s:Nat):=by
 have a:=ju _ s rfl h;have b:aX s<2^kR:=dq a (LD (by have:kR=2800:=rfl;omega));exact il (k:=kR) (by rw[a4];exact b) (by have:kB=100000:=rfl;have:kR=2800:=rfl;omega)
theorem Ai(s:List Nat)(h:s.length<=1048576)(K:∀c∈s,c<256):aC prog 221 [.str s] (.int .i64 (bX s)):=by
 have X:=YG s;have A:=PU (cW s) 47 (eb (pq s).1 h);rw[show(b7 47 (cW s)).1=bH s from rfl,show(b7 47 (cW s)).2.1=bQ s from rfl,show(b7 47 (cW s)).2.2=ek s from rfl]at A;refine aM nf It mix (by simp[f221]) ?_;simp[f221,-bA];rw[bA];simp[-bA];rw[bA];simp[-bA];refine c2 X ?_;simp[-bA];rw[bA];simp[-bA];refine c2 A ?_;simp[-bA];have ab:=(pq s).1;have q:=pE 47 (cW s);have ad:(bH s).length<=1048576:=by have:=q.1;rw[bH];omega
 have ac:(bQ s).length<=1048576:=by have:=q.2.1;rw[bQ];omega
 have W:∀c∈bH s,c<256:=fun c hc=>K c ((pq s).2 c (q.2.2.1 c hc));have V:∀c∈bQ s,c<256:=fun c hc=>K c ((pq s).2 c (q.2.2.2 c hc));clear q ab;have Z:=Oc (bH s) ad W;have Y:=Oc (bQ s) ac V;obtain⟨m,B⟩:∃m,m=(dI (bH s)&&!(bZ s&&decide (bH s=[48]))):=⟨_,rfl⟩
 obtain⟨f2,k⟩:∃f2,f2=(m&&(!ek s||(dI (bQ s)&&decide (bQ s≠[48])&&decide (bQ s≠[49])))):=⟨_,rfl⟩
 have L:bX s=if f2=false then 1 else if 600<(bH s).length\/600<(bQ s).length then 4 else if ek s=true/\fv (aX (bH s)) (aX (bQ s))≠1 then 1 else 0:=by rw[k,B];rfl
 rw[L];clear L A;generalize ek s=fr at*;refine join (fun s'=>aN s'.env 8=.p (.bool m)/\aN s'.env 7=.p (.bool fr)/\aN s'.env 6=.p (.str (bQ s))/\aN s'.env 5=.p (.str (bH s))/\s'.heap=[]) ?_ ?_
 ·simp;refine c1 Z ?_;rw[B];cases dI (bH s)
  ·simp
  ·cases bZ s
   ·simp
   ·by_cases r:bH s=[48]
    ·simp[r]
    ·simp[r]
 rintro⟨I,aa⟩ ⟨d,f,g,i,t⟩;dsimp only at d f g i t;subst t;refine join (fun s'=>aN s'.env 8=.p (.bool f2)/\aN s'.env 7=.p (.bool fr)/\aN s'.env 6=.p (.str (bQ s))/\aN s'.env 5=.p (.str (bH s))/\s'.heap=[]) ?_ ?_
 ·rw[k];cases fr
  ·simp[d,f,g,i]
  ·cases m
   ·simp[d,f,g,i]
   ·simp[d,f,g,i];refine c1 Y ?_;cases dI (bQ s)
    ·simp[d,f,g,i]
    ·by_cases r:bQ s=[48]
     ·simp[d,f,g,i,r]
     ·by_cases N:bQ s=[49]
      ·simp[d,f,g,i,N]
      ·simp[d,f,g,i,r,N]
 clear d f g i I;rintro⟨I,aa⟩ ⟨d,f,g,i,t⟩;dsimp only at d f g i t;subst t;have head:∀(n v:Bool),aC prog 272 [.seq [.int .i64 (aY n 1),.int .i64 (aY v 4)]] (.int .i64 (if n=true then 1 else if v=true then 4 else 0)):=fun n v=>by
  have:=Y4 [aY n 1,aY v 4] (by simp);cases n<;>cases v<;>exact this
 have H:=wK (!f2) 1;have R:=wK true 4;have wf:=wK false 4;have J:=head (!f2) true;have U:=head (!f2) false;have O:(600<(bH s).length)↔(600:Int)<((bH s).length:Nat):=by omega
 have P:(600<(bQ s).length)↔(600:Int)<((bQ s).length:Nat):=by omega
 by_cases u:(600:Int)<((bH s).length:Nat)
 ·simp[d,f,g,i];refine c2 H ?_;simp[d,f,g,i,u];refine c2 R ?_;simp;refine cp J (by simp;exact⟨rfl,rfl⟩) ?_;cases f2
  ·simp
  ·simp[O.2 u]
 by_cases x:(600:Int)<((bQ s).length:Nat)
 ·simp[d,f,g,i];refine c2 H ?_;simp[d,f,g,i,u,x];refine c2 R ?_;simp;refine cp J (by simp;exact⟨rfl,rfl⟩) ?_;cases f2
  ·simp
  ·simp[P.2 x]
 have E:¬600<(bH s).length:=mt O.1 u;have F:¬600<(bQ s).length:=mt P.1 x;have Q:=wK false 1;have ag:=wK true 1;simp[d,f,g,i];refine c2 H ?_;simp[d,f,g,i,u,x];refine c2 wf ?_;simp;refine cp U (by simp;exact⟨rfl,rfl⟩) ?_;cases f2
 ·simp
 cases fr
 ·simp[d,f,g,i,E,F];refine c2 Q ?_;simp[aY];exact⟨by omega,by omega⟩
 have j:dI (bH s)=true/\dI (bQ s)=true:=by
  cases S:dI (bH s)
  ·rw[B,S]at k;simp at k
  cases T:dI (bQ s)
  ·rw[T]at k;simp at k
  exact⟨rfl,rfl⟩
 obtain⟨ae,G⟩:=CU j.1;obtain⟨af,n4⟩:=CU j.2;have y:=yk (bH s) (by rw[G];exact jm j.1) (by rw[G];omega);have z:=yk (bQ s) (by rw[n4];exact jm j.2) (by rw[n4];omega);rw[ae,G]at y;rw[af,n4]at z;simp only[a0,if_false]at y z;have C:=PQ (.mk' (aX (bH s):Nat)) (.mk' (aX (bQ s):Nat)) (Ft (jm j.1) (by omega)) (Ft (jm j.2) (by omega));rw[NI.iH,NI.iH]at C;have D:=sj 1;rw[MX]at D;have hc:=PO (.mk' (eP (aX (bH s):Nat) (aX (bQ s):Nat))) (.mk' 1) (re (Ft (jm j.2) (by omega)) (by rw[NI.iH,eP,a4,a4,a4];exact Nat.gcd_le_right _ (y7 j.2 (fun e=>by rw[e]at k;simp at k)))) (by rw[okW];decide);rw[NI.iH,NI.iH]at hc;have M:=at2 (a:=aX (bH s)) (b:=aX (bQ s));generalize jV (eP (aX (bH s):Nat) (aX (bQ s):Nat)) 1=o at*
 by_cases l:fv (aX (bH s)) (aX (bQ s))=1
 ·have w:o=0:=by simpa[l]using M
  simp[d,f,g,i,E,F,l];refine c1 y ?_;simp[d,f,g,i];refine c1 z ?_;simp;refine c2 C ?_;simp;refine c1 D ?_;simp;refine c2 hc ?_;simp[w];refine c2 Q ?_;simp[aY];rw[if_neg (by omega),if_pos l]
 ·have w:¬o=0:=by simpa[l]using M
  simp[d,f,g,i,E,F,l];refine c1 y ?_;simp[d,f,g,i];refine c1 z ?_;simp;refine c2 C ?_;simp;refine c1 D ?_;simp;refine c2 hc ?_;simp[w];refine c2 ag ?_ (h1:=by simp[w]);simp[aY];rw[if_neg (by omega),if_neg l]
def iI(s:List Nat):Prop:=s.length<=1048576/\∀c∈s,c<256
theorem YF(l:List (List Nat)):aC prog 295 [.seq (l.map .str)] (.func 336 [] [.cE (.seq (l.map .str))]):=by
 refine aM nf OG mix (by simp[f295]) ?_;simp[f295];exact bG.refl _
def ER(s:List Nat):List PV:=[.int .i64 (bX s)]
theorem Yh(l:List (List Nat))(q:l.length<=1000000)(hs:∀s∈l,iI s):Stream prog 336 [] [.cE (.seq (l.map .str))] (l.map ER):=by
 intro b k c H' hk d o f;refine fV nf O2 mix (by simp[f336]) ?_;rw[b5]at hk;have g:∀i(h:i<l.length),(l.map ER)[i]?=some (ER l[i]):=fun i h=>by rw[b1,a8 h];rfl
 simp[f336];refine lp (α:=Nat) (fun i=>⟨[(7,.p (.int .i64 i)),(6,.p (.int .i64 l.length)),(5,.p (.seq (l.map .str))),(0,.map b)],c i⟩) (fun i=>i<=k) (fun i=>l.length-i) 0 (by simp) ?_ (hr:=by simp;exact(d 0 (by omega)).2) (hr2:=(d 0 (by omega)).1);intro i hi;have n:=cr (i:=i) (by omega)
 by_cases a:i<l.length
 ·have hc:=Ai l[i] (hs _ (b4 a)).1 (hs _ (b4 a)).2;have gX:(i<k/\iD prog b (c i) [.p (.int .i64 (bX l[i]))] (c (i+1)) (.p (.bool true)))\/iD prog b (c i) [.p (.int .i64 (bX l[i]))] H' (.p (.bool false)):=by
   by_cases e:i<k
   ·exact .inl ⟨e,o i _ e (g i a)⟩
   ·have:i=k:=by omega
    subst this;rcases f with⟨e1,_⟩|⟨y,e1,e2⟩
    ·rw[b5]at e1;omega
    ·rw[g i a]at e1;injection e1 with e1;subst e1;exact .inr e2
  simp[a];refine c1 hc ?_;simp;rcases gX with⟨e,hY⟩|hY
  ·refine⟨c (i+1),_,hY,?_⟩;simp[n];exact rd (i+1) e (h1:=by omega) (hr:=by simp;exact(d (i+1) (by omega)).2) (hr2:=(d (i+1) (by omega)).1)
  ·refine⟨H',_,hY,?_⟩;simp
 ·have m:i=l.length:=by omega
  have j:k=l.length:=by omega
  rcases f with⟨e1,e2⟩|⟨y,e1,e2⟩
  ·simp[a,e2,m,j]
  ·rw[j,List.getElem?_eq_none (by simp)]at e1;cases e1
theorem CI(p:Nat->Bool):∀n,∃k,k<=n/\(∀j,j<k->p j=true)/\(k=n\/(k<n/\p k=false))
 |0=>⟨0,ea _,fun j h=>by omega,.inl rfl⟩
 |n+1=>by
  obtain⟨k,f,b,a⟩:=CI p n;rcases a with a|⟨a,d⟩
  ·subst a;cases c:p k
   ·exact⟨k,by omega,b,.inr ⟨by omega,c⟩⟩
   ·refine⟨k+1,ea _,fun j g=>?_,.inl rfl⟩
    by_cases e:j=k
    ·subst e;exact c
    ·exact b j (by omega)
  ·exact⟨k,by omega,b,.inr ⟨by omega,d⟩⟩
def mn(l:List (List Nat))(i:Nat):Int:=match l[i]? with
 |some s=>bX s
 |none=>0
theorem Kh:∀(l:List (List Nat))(k:Nat),(∀j,j<k->mn l j=0)->bJ (l.map bX)=bJ ((l.drop k).map bX)
 |[],k,_=>by simp
 |s::l,0,_=>rfl
 |s::l,k+1,h=>by
  have a:=h 0 (by omega);have b:bX s=0:=a;rw[be,bJ,if_pos b,List.drop_succ_cons];exact Kh l k fun j c=>h (j+1) (by omega)
theorem VD(l:List (List Nat))(c:l.length<=1000000)(hs:∀s∈l,iI s):aC prog 258 [.seq (l.map .str)] (.int .i64 (bJ (l.map bX))):=by
 refine aM nf OL mix (by simp[f258]) ?_;simp[f258];refine c1 (YF l) ?_;simp;have aH:=Yh l c hs;obtain⟨k,hk,g,d⟩:=CI (fun i=>decide (mn l i=0)) l.length;have r:∀j,j<k->mn l j=0:=fun j q=>by simpa using g j q
 have f:=Kh l k r;refine rf2 aH rfl (by simp) (fun L _=>[.box false (.p (.int .i64 0)),.loop L]) (fun L i=>[.box false (.p (.int .i64 (mn l (i-1)))),.loop (L.dn .ret)]) (fun i=>decide (mn l i=0)) .ret k (by simpa using hk) g (by simpa using d) (fun L=>rfl) ?_ ?_ (fun L=>rfl) ?_ ?_
 ·intro L b i hi;clear b;refine⟨rfl,by simp,fun _ c=>?_⟩;simp at c⊢;exact c
 ·intro L b i x hi hx;have t:x=[.int .i64 (mn l i)]:=by
   rw[b1]at hx;unfold mn;cases h:l[i]? with
   |none=>rw[h]at hx;cases hx
   |some s=>rw[h]at hx;injection hx with hx;rw[<-hx];rfl
  subst t;rw[ed];refine Bq nf mix b rfl rfl (by kernel_rfl) ?_;have m:=congrArg fh.env b;dsimp only at m;clear b;generalize mn l i=e
  by_cases he:e=0
  ·subst he;simp;exact .inl rfl
  ·simp[he];exact .inl rfl
 ·intro a L;have a:k=l.length:=by simpa using a
  rw[f,a];simp[bJ]
 ·intro a L;have a:k<l.length:=by simpa using a
  have o:¬mn l k=0:=by
   rcases d with u|⟨_,n⟩
   ·omega
   ·simpa using n
  have e1:mn l k=bX l[k]:=by unfold mn;rw[a8 a]
  rw[f,bk a,be,bJ,<-e1,if_neg o];simp[kr]
structure ez where
 x:List Nat
 y:List Nat
def dB(p:ez):PV:=.st 46 [.str p.x,.str p.y]
def jF(p:ez):Prop:=iI p.x/\iI p.y
def cq(p:ez):Int:=bJ [bX p.x,bX p.y]
@[simp] theorem aMS(p:ez):aL (dB p)=.agg 46:=rfl
@[simp] theorem aLK(p:ez):cM (dB p)=[.str p.x,.str p.y]:=rfl
@[simp] theorem aK4:prog.cellsOf 46=2:=by kernel_rfl
theorem T7(p:ez)(a:jF p):aC prog 192 [.seq [dB p]] (.int .i64 (cq p)):=by
 have hc:=VD [p.x,p.y] (by simp) (by intro s hs;simp at hs;rcases hs with rfl|rfl;exact a.1;exact a.2);refine aM nf Px mix (by simp[f192]) ?_;simp[f192];refine lp (α:=Nat) (fun i=>⟨[(8,.p (.int .i64 i)),(7,.p (.int .i64 1)),(6,.p (.seq [dB p])),(0,.p (.seq [dB p]))],[]⟩) (fun i=>i=0\/(i=1/\cq p=0)) (fun i=>1-i) 0 (.inl rfl) ?_;rintro i h;rcases h with rfl|⟨rfl,h⟩
 ·simp[ad];refine cp hc (by simp;exact⟨rfl,rfl⟩) ?_;have b:a3.wrap 1=1:=rfl;rw[show bJ (db bX [p.x,p.y])=cq p from rfl]
  by_cases h:cq p=0
  ·simp[h,b];exact rd 1 (.inr ⟨rfl,h⟩)
  ·simp[h]
 ·simp[h]
theorem tu(p:ez)(a:jF p):aC prog 92 [dB p] (.int .i64 (cq p)):=by
 refine aM nf Q9 mix (by simp[f92]) ?_;simp[f92,ad];refine cp (T7 p a) (by simp;exact⟨rfl,rfl⟩) ?_;simp
open Go.Proofs Go.Proofs.YtenbmieafgdjaaaGreatDoor
section
variable{H:Type}{W:World}{aa:Nat->Prop}
theorem Ap{n:Nat}{d:a2 H}(h:∃cs,aR prog W aa (bF prog (n+1) 45 d) cs)(a:Rows.uptoBulk d<=1048576):∃s:List Nat,bF prog (n+1) 45 d=.str s/\iI s:=by
 obtain⟨cs,h⟩:=h;cases d with
 |lit l=>
  cases l with
  |string bytes=>
   refine⟨bytes.map (·.toNat),by simp only[bF,FJ],?_,?_⟩
   ·rw[Rows.uptoBulk]at a;rw[b5];omega
   ·intro c hc;obtain⟨u,_,rfl⟩:=b0.1 hc;exact u.toNat_lt
  |_=>simp only[bF,FJ,aR]at h
 |_=>simp only[bF,FJ,aR]at h
theorem aKs:∃a b:Field,prog.underlying 47=some (.struct #[a,b])/\a.type=45/\b.type=45:=⟨_,_,underlying47,rfl,rfl⟩
theorem R3:prog.underlyingId 47=46:=by kernel_rfl
theorem W0{m n:Nat}(q:m=n+1){d:a2 H}(h:∃cs,aR prog W aa (bF prog (m+1) 47 d) cs)(e:Rows.uptoBulk d<=1048576):∃p:ez,bF prog (m+1) 47 d=dB p/\jF p:=by
 obtain⟨cs,h⟩:=h;obtain⟨f0,f1,i,t0,t1⟩:=aKs;cases d with
 |agg l=>
  have g:∀x∈l,Rows.uptoBulk x<=1048576:=fun x hx=>by
   have:=oG.uF hx;rw[Rows.uptoBulk]at e;omega
  simp only[bF,i,aR]at h⊢;obtain⟨t,s,f,c,_⟩:=h;rw[R3,aJ4]at f;cases f
  match l,c with
  |[],c=>simp[bg]at c
  |[x],c=>simp[bg]at c
  |x::y::r,c=>
   simp only[List.zip_cons_cons,be,bg,List.zip_nil_left,dk,t0,t1]at c⊢;obtain⟨c0,_,_,g1,_,c1,_,_,g2,_⟩:=c;subst q;obtain⟨a,j,o⟩:=Ap ⟨c0,g1⟩ (g x (by simp));obtain⟨b,k,e⟩:=Ap ⟨c1,g2⟩ (g y (by simp));exact⟨⟨a,b⟩,by rw[j,k,R3];rfl,o,e⟩
 |_=>simp only[bF,i,aR]at h
theorem zC{n:Nat}{d:a2 H}(h:∃cs,aR prog W aa (bF prog (n+2) 47 d) cs)(a:Rows.uptoBulk d<=1048576):∃p:ez,bF prog (n+2) 47 d=dB p/\jF p:=W0 rfl h a
theorem Y6{d:a2 H}(h:∃cs,aR prog W aa (bF prog 8 47 d) cs)(b:Rows.uptoBulk d<=1048576):∃p:ez,bF prog 8 47 d=dB p/\True/\jF p:=by
 obtain⟨p,e,a⟩:=zC (n:=6) h b;exact⟨p,e,trivial,a⟩
end
def bT:Nat:=1000000000
theorem ba:2<=bT:=by decide
def iP(l:List Nat):List PV:=l.map fun x:Nat=>.int .i64 x
theorem RS(w:List Nat):fg prog 1 (w.map (AV.p∘fun x:Nat=>PV.int .i64 x)):=by
 rw[vO];intro v a;obtain⟨x,_,rfl⟩:=b0.1 a;simp[ad,aL,bI]
def eT(n:Nat):PV:=.seq ((az bT n).map fun x:Nat=>.int .i64 x)
theorem Ay:az bT 0=[]:=by simp[az,nu]
theorem nP{n:Nat}(b:0<n)(h:n<bT):az bT n=[n]:=by
 have a:=jy ba (m:=1) (n:=n) (by rw[fN];exact h);rw[<-a,row,List.range_one,be,dk,ae,ew,e9,eq h];have:=vK [] n (by omega)
 rwa [c9]at this
theorem vV{n:Nat}:az bT n=[]↔n=0:=by
 constructor
 ·intro h;have:=cm ba n;rw[h,List.length_nil,ew]at this;omega
 ·rintro rfl;exact Ay
theorem uf(w:List Nat)(h:w.length<=1048576):aC prog 260 [.seq (iP w)] (.seq (iP (eC w))):=by
 refine aM nf Gq mix (by simp[f260]) ?_;simp only[iP];simp[f260];refine lp (α:=Nat) (fun i=>⟨[(0,.p (.seq ((w.take i).map fun x:Nat=>.int .i64 x)))],[]⟩) (fun i=>i<=w.length/\eC w=eC (w.take i)) (fun i=>i) w.length (by simp) ?_;rintro i ⟨k1,k2⟩;have k:(w.take i).length=i:=by rw[cB];omega
 by_cases hi:0<i
 ·obtain⟨j,rfl⟩:∃j,i=j+1:=⟨i-1,by omega⟩
  have f:a3.wrap (j:Int)=j:=aO _ (by omega) (by omega);have a:j<w.length:=by omega
  have e:(0:Int)<(j:Int)+1:=by omega
  have k3:=k2;rw[bi a]at k2;have c:min (j+1) w.length=j+1:=by omega
  have d:min ((j:Int)+1) (w.length:Int)=j+1:=by omega
  have g:¬w=[]:=by rintro rfl;simp at a
  by_cases b:w[j]=0
  ·rw[b,B8]at k2;simp[e,f,a,b,c,d,g];refine⟨by rw[<-bv];exact RS _,?_⟩;refine rd j ⟨by omega,k2⟩ (he:=?_);rw[<-bv,<-bv,List.take_take,Nat.min_eq_left (by omega)];simp
  ·rw[vK _ _ b,<-bi a]at k2;simp[e,f,a,b,c,d,g];rw[k2,bv];exact bG.refl _
 ·obtain rfl:i=0:=by omega
  simp[eC]at k2;simp[k2]
def eG(z:Int):PV:=.st 169 [.bool (decide (z<0)),eT z.natAbs]
@[simp] theorem aMO(z:Int):aL (eG z)=.agg 169:=rfl
@[simp] theorem aLH(z:Int):cM (eG z)=[.bool (decide (z<0)),eT z.natAbs]:=rfl
@[simp] theorem aMW(n:Nat):aL (eT n)=.leaf:=rfl
theorem CW(neg:Bool)(w:List Nat)(n:Nat)(c:eC w=az bT n)(h:w.length<=1048576):aC prog 198 [.bool neg,.seq (iP w)] (eG (if neg=true then -(n:Int)else n)):=by
 have a:=uf w h;rw[c]at a;refine aM nf Pv mix (by simp[f198]) ?_;have b:(if neg=true then -(n:Int)else n).natAbs=n:=by cases neg<;>simp
 rw[eG,b,eT];have d:=vV (n:=n);have e:decide ((if neg=true then -(n:Int)else n)<0)=(neg&&decide (0<(az bT n).length)):=by
  cases neg
  ·simp
  ·simp;rw[a5,Ne,d];omega
 rw[e];simp only[iP]at a⊢;generalize az bT n=x at*;cases neg
 ·simp[f198];refine c1 a ?_;simp[ad]
 ·simp[f198];refine c1 a ?_;simp[ad]
  done
theorem JJ{a b:Nat}(h:(az bT a).length<(az bT b).length):a<b:=by
 have d:=cm ba a;rcases ee a b with c|c
 ·exact c
 ·have:=dT ba (az bT a).length b (dz c d);omega
theorem JS{a b i:Nat}(h:a/bT^(i+1)=b/bT^(i+1))(e:ae bT a i<ae bT b i):a<b:=by
 rw[em,<-ei,<-ei]at h;have e1:=ec (a/bT^i) bT;have e2:=ec (b/bT^i) bT;rw[ae,ae]at e;rw[h]at e1;rcases ee a b with d|d
 ·exact d
 ·have:=Nat.div_le_div_right (c:=bT^i) d;omega
theorem XH{a b i:Nat}(h:a/bT^(i+1)=b/bT^(i+1))(c:ae bT a i=ae bT b i):a/bT^i=b/bT^i:=by
 rw[em,<-ei,<-ei]at h;have e1:=ec (a/bT^i) bT;have e2:=ec (b/bT^i) bT;rw[ae,ae]at c;rw[h]at e1;omega
theorem JY(a b:Nat)(E:(az bT a).length<=1048576)(F:(az bT b).length<=1048576):aC prog 200 [eT a,eT b] (.int .i64 (fP a b)):=by
 refine aM nf IB mix (by simp[f200]) ?_
 by_cases l:(az bT a).length=(az bT b).length
 case neg=>
  have q:¬((az bT a).length:Int)=(az bT b).length:=by omega
  by_cases A:(az bT a).length<(az bT b).length
  ·have m:((az bT a).length:Int)<(az bT b).length:=by omega
   have:=JJ A;have hc:fP a b= -1:=if_pos this;simp[f200,eT,q,m,hc]
  ·have m:¬((az bT a).length:Int)<(az bT b).length:=by omega
   have:=JJ (a:=b) (b:=a) (by omega);have hc:fP a b=1:=by rw[fP,if_neg (by omega),if_pos this]
   simp[f200,eT,q,m,hc]
 have t:∀i(h:i<(az bT a).length),(az bT a)[i]?=some (ae bT a i):=fun i h=>by rw[a8 h,eH ba h]
 have v:∀i(h:i<(az bT b).length),(az bT b)[i]?=some (ae bT b i):=fun i h=>by rw[a8 h,eH ba h]
 have u:∀i(h:i<(az bT a).length),(az bT a)[i]=ae bT a i:=fun i h=>eH ba h;have w:∀i(h:i<(az bT b).length),(az bT b)[i]=ae bT b i:=fun i h=>eH ba h;have s:=cm ba a;have o:=cm ba b;rw[<-l]at o;have z:a/bT^(az bT a).length=b/bT^(az bT a).length:=by rw[ej s,ej o]
 simp only[eT];generalize az bT a=x at*;generalize az bT b=y at*;have D:a3.wrap ((y.length:Int)-1)=y.length-1:=aO _ (by omega) (by omega);simp[f200,l,D];refine lp (α:=Nat) (fun i=>⟨[(5,.p (.int .i64 ((i:Int)-1))),(1,.p (.seq (y.map fun x:Nat=>.int .i64 x))),(0,.p (.seq (x.map fun x:Nat=>.int .i64 x)))],[]⟩) (fun i=>i<=y.length/\a/bT^i=b/bT^i) (fun i=>i) y.length ⟨ea _,by rw[<-l];exact z⟩ ?_;rintro i ⟨k1,k2⟩
 by_cases hi:0<i
 ·obtain⟨j,rfl⟩:∃j,i=j+1:=⟨i-1,by omega⟩
  have c:j<x.length:=by omega
  have d:j<y.length:=by omega
  have C:a3.wrap ((j:Int)-1)=j-1:=aO _ (by omega) (by omega);have e:=t j c;have g:=v j d;have f:=u j c;have k:=w j d
  by_cases hq:ae bT a j=ae bT b j
  ·simp[c,d,e,g,f,k,hq,C];exact rd j ⟨by omega,XH k2 hq⟩
  ·have r:¬(ae bT a j:Int)=ae bT b j:=by omega
   by_cases n:ae bT a j<ae bT b j
   ·have:=JS k2 n;have hc:fP a b= -1:=if_pos this;simp[c,d,e,g,f,k,r,n,hc]
   ·have:=JS k2.symm (show ae bT b j<ae bT a j by omega);have B:ae bT b j<ae bT a j:=by omega
    have hc:fP a b=1:=by rw[fP,if_neg (by omega),if_pos this]
    simp[c,d,e,g,f,k,r,n,B,hc]
 ·obtain rfl:i=0:=by omega
  rw[ew,e9,e9]at k2;have hc:fP a b=0:=by rw[fP,if_neg (by omega),if_neg (by omega)]
  simp[hc]
theorem Yt{n i:Nat}(h:(az bT n).length<=i):ae bT n i=0:=jw (dq (cm ba n) (dp (by decide) h))
theorem DI(a i:Nat):aC prog 262 [eT a,.int .i64 i] (.int .i64 (ae bT a i:Nat)):=by
 refine aM nf Gp mix (by simp[f262]) ?_
 by_cases h:i<(az bT a).length
 ·have b:(az bT a)[i]=ae bT a i:=eH ba h;rw[eT,<-b];generalize az bT a=x at*;simp[f262,h]
 ·rw[Yt (by omega),eT];generalize az bT a=x at*;simp[f262,h]
def ey(i n:Nat):List AV:=(cc i).map fun j=>.p (.int .i64 (ae bT n j:Nat))
theorem qU(i n:Nat):ey (i+1) n=ey i n++[.p (.int .i64 (ae bT n i:Nat))]:=by
 rw[ey,List.range_succ,List.map_append];rfl
theorem iC(i n:Nat):(ey i n).length=i:=by simp[ey]
@[simp] theorem aME{N:Nat×Nat->Prop}{n i:Nat}:aS N (ey i n)=True:=by
 rw[cL,eq_iff_iff,iff_true];intro v a;simp only[ey,b0]at a;obtain⟨x,_,rfl⟩:=a;trivial
theorem MR(i n:Nat):dO (ey i n)=some ((row bT i n).map fun x:Nat=>.int .i64 x):=by
 have:ey i n=(row bT i n).map (AV.p∘fun x:Nat=>PV.int .i64 x):=by
  rw[ey,row,dl];rfl
 rw[this];exact K8
theorem Om(i n:Nat):ey i n=(row bT i n).map (AV.p∘fun x:Nat=>PV.int .i64 x):=by
 rw[ey,row,dl];rfl
theorem YP{n i:Nat}(h:n<bT^i)(a:i=0\/bT^(i-1)<=n):row bT i n=az bT n:=by
 have b:(az bT n).length=i:=by
  have c:=dT ba i n h;rcases a with rfl|a
  ·omega
  ·have:=Ki ba a;omega
 have:=aja ba n;rw[b]at this;exact this.symm
theorem Zo(a b:Nat)(I:(az bT a).length<=1000000)(J:(az bT b).length<=1000000):aC prog 199 [eT a,eT b] (eT (a+b)):=by
 refine aM nf IC mix (by simp[f199]) ?_;have v:=cm ba a;have w:=cm ba b;have C:∀i,i<(az bT a).length->bT^i<=a:=fun i h=>by
  rcases ee a (bT^i)with c|c
  ·have:=dT ba i a c;omega
  ·exact c
 have D:∀i,i<(az bT b).length->bT^i<=b:=fun i h=>by
  rcases ee b (bT^i)with c|c
  ·have:=dT ba i b c;omega
  ·exact c
 have A:∀i,0<di bT a b i->bT^i<=a+b:=fun i h=>by
  rw[di]at h;have c:bT^i<=a% bT^i+b% bT^i:=by
   rcases ee (a% bT^i+b% bT^i) (bT^i)with d|d
   ·rw[ej d]at h;omega
   ·exact d
  have:=gg a (bT^i);have:=gg b (bT^i);omega
 have f:=fun i=>DI a i;have g:=fun i=>DI b i;have B:∀i,(az bT a).length<=i->(az bT b).length<=i->di bT a b i=0->a+b<bT^i:=fun i c d s=>by
  have l:=dq v (dp (show 0<bT by decide) c);have m:=dq w (dp (show 0<bT by decide) d);rw[di,eq l,eq m]at s;rcases ee (a+b) (bT^i)with e|e
  ·exact e
  ·have:=Nat.div_pos e (e7 (show 0<bT by decide));omega
 have E:∃M,M=max (az bT a).length (az bT b).length:=⟨_,rfl⟩
 obtain⟨M,H⟩:=E;simp only[eT]at f g⊢;have F:=fun i h d=>YP (n:=a+b) (i:=i) h d;generalize az bT (a+b)=z at*;generalize az bT a=x at*;generalize az bT b=y at*;simp[f199];refine lp (α:=Nat) (fun i=>⟨[(7,.p (.int .i64 i)),(6,.p (.int .i64 (di bT a b i:Nat))),(5,.sl 0 i 1 0 i),(1,.p (.seq (y.map fun x:Nat=>.int .i64 x))),(0,.p (.seq (x.map fun x:Nat=>.int .i64 x)))],[.arr .grow i 1 (ey i (a+b))]⟩)
  (fun i=>i<=M+1/\(i=0\/bT^(i-1)<=a+b)) (fun i=>M+1-i) 0 ⟨by omega,.inl rfl⟩ ?_ (he:=by simp[yE,ey]) (hh:=by simp[ey])
 rintro i ⟨k1,k2⟩;have o:=cr (i:=i) (by omega);have K:=lZ ba a b i;obtain⟨l,m⟩:=qO ba a b i;have N:=ct ba a i;have O:=ct ba b i;have t:bT=1000000000:=rfl;have q:a3.wrap ((ae bT a i:Int)+ae bT b i)=ae bT a i+ae bT b i:=aO _ (by omega) (by omega);have r:a3.wrap ((ae bT a i:Int)+ae bT b i+di bT a b i)=ae bT a i+ae bT b i+di bT a b i:=aO _ (by omega) (by omega);have d1:((ae bT a i:Int)+ae bT b i+di bT a b i).tmod 1000000000=(ae bT (a+b) i:Nat):=by
  rw[Int.tmod_eq_emod_of_nonneg (by omega),<-l,t];omega
 have d2:((ae bT a i:Int)+ae bT b i+di bT a b i).tdiv 1000000000=(di bT a b (i+1):Nat):=by
  rw[Int.tdiv_eq_ediv_of_nonneg (by omega),<-m,t];omega
 have d3:a3.wrap (di bT a b (i+1):Nat)=(di bT a b (i+1):Nat):=by have:=lZ ba a b (i+1);exact aO _ (by omega) (by omega)
 have j:b2 i (ey i (a+b))=ey i (a+b):=a6 (by rw[iC];exact ea _)
 by_cases hx:i<x.length
 ·simp[hx];refine c2 (f i) ?_;simp;refine c2 (g i) ?_;simp[q,r,d1,d2,d3,iC,j,<-qU];refine⟨by simp only[cZ];omega,?_⟩;refine rd (i+1) ⟨by omega,.inr (by rw[ed];exact eb (C i hx) (by omega))⟩ (by omega) (he:=by simp[o])
 by_cases k:i<y.length
 ·simp[hx,k];refine c2 (f i) ?_;simp;refine c2 (g i) ?_;simp[q,r,d1,d2,d3,iC,j,<-qU];refine⟨by simp only[cZ];omega,?_⟩;refine rd (i+1) ⟨by omega,.inr (by rw[ed];exact eb (D i k) (by omega))⟩ (by omega) (he:=by simp[o])
 by_cases hc:0<di bT a b i
 ·have L:i=M:=by
   rcases ee M i with h|h
   ·have e0:=qO ba a b M;have c:ae bT a M=0:=jw (dq v (dp (by decide) (by omega)));have d:ae bT b M=0:=jw (dq w (dp (by decide) (by omega)));have s:=lZ ba a b M;have e:i=M+1:=by omega
    subst e;rw[c,d]at e0;rw[<-e0.2,ej (by omega)]at hc;omega
   ·omega
  simp[hx,k,hc];refine c2 (f i) ?_;simp;refine c2 (g i) ?_;simp[q,r,d1,d2,d3,iC,j,<-qU];refine⟨by simp only[cZ];omega,?_⟩;refine rd (i+1) ⟨by omega,.inr (by rw[ed];exact A i hc)⟩ (by omega) (he:=by simp[o])
 ·have u:di bT a b i=0:=by omega
  have G:=F i (B i (by omega) (by omega) u) k2;rw[<-G];simp[hx,k,u];refine⟨by rw[iC];exact ea _,?_⟩;rw[j,Om];simp
theorem Oa(a b:Nat)(A:b<=a)(F:(az bT a).length<=1000000):aC prog 201 [eT a,eT b] (eT (a-b)):=by
 refine aM nf IA mix (by simp[f201]) ?_;have D:=cm ba a;have j:=fun i=>DI b i;have B:∀i(h:i<(az bT a).length),(az bT a)[i]?=some (ae bT a i):=fun i h=>by rw[a8 h,eH ba h]
 have C:∀i(h:i<(az bT a).length),(az bT a)[i]=ae bT a i:=fun i h=>eH ba h;have E:eC (row bT (az bT a).length (a-b))=az bT (a-b):=jy ba (dz (Nat.sub_le a b) D);have e:=uf (row bT (az bT a).length (a-b)) (by rw[Nn];omega);rw[E]at e;simp only[eT]at j⊢;simp only[iP]at e;generalize az bT (a-b)=z at*;generalize az bT a=x at*;generalize az bT b=y at*;simp[f201];refine lp (α:=Nat) (fun i=>⟨[(7,.p (.int .i64 i)),(6,.p (.int .i64 (fu bT a b i:Nat))),(5,.sl 0 i 1 0 i),(1,.p (.seq (y.map fun x:Nat=>.int .i64 x))),(0,.p (.seq (x.map fun x:Nat=>.int .i64 x)))],[.arr .grow i 1 (ey i (a-b))]⟩)
  (fun i=>i<=x.length) (fun i=>x.length-i) 0 (by simp) ?_ (he:=by simp[B7,ey]) (hh:=by simp[ey])
 intro i k1;have s:=cr (i:=i) (by omega);have r:b2 i (ey i (a-b))=ey i (a-b):=a6 (by rw[iC];exact ea _);have G:bT=1000000000:=rfl;have J:=ct ba a i;have K:=ct ba b i;have L:=ct ba (a-b) i;have M:fu bT a b i<=1:=by rw[fu];split<;>omega
 have u:a3.wrap ((ae bT a i:Int)-ae bT b i)=ae bT a i-ae bT b i:=aO _ (by omega) (by omega);have n:a3.wrap ((ae bT a i:Int)-ae bT b i-fu bT a b i)=ae bT a i-ae bT b i-fu bT a b i:=aO _ (by omega) (by omega)
 by_cases hx:i<x.length
 ·have o:=B i hx;have q:=C i hx;rcases LF ba A i with⟨v,g,w⟩|⟨v,g,w⟩
  ·have m:(ae bT a i:Int)-ae bT b i-fu bT a b i<0:=by omega
   have f:a3.wrap ((ae bT a i:Int)-ae bT b i-fu bT a b i+1000000000)=(ae bT (a-b) i:Nat):=by rw[aO _ (by omega) (by omega)];omega
   simp[hx,o,q];refine e2 (j i) ?_;simp[u,n,m,f,iC,r,<-qU];refine⟨by simp only[cZ];omega,?_⟩;refine rd (i+1) hx (he:=by simp[s,g])
  ·have m:¬(ae bT a i:Int)-ae bT b i-fu bT a b i<0:=by omega
   have f:(ae bT a i:Int)-ae bT b i-fu bT a b i=(ae bT (a-b) i:Nat):=by omega
   rw[f]at m n;simp[hx,o,q];refine e2 (j i) ?_;simp[u,n,f,iC,r,<-qU];refine⟨by simp only[cZ];omega,?_⟩;refine rd (i+1) hx (he:=by simp[s,g])
 ·have:i=x.length:=by omega
  subst this;have k:=Om x.length (a-b);have d:(row bT x.length (a-b)).length=x.length:=Nn;generalize row bT x.length (a-b)=l at e k d;have H:b2 x.length l=l:=a6 (by omega);rcases l with _|⟨c,t⟩
  ·simp at d;simp[k];refine cp e (by simp[<-d];exact⟨rfl,rfl⟩) ?_;simp
  ·have I:b2 x.length (PV.int .i64 c::db (fun x:Nat=>PV.int .i64 x) t)=PV.int .i64 c::db (fun x:Nat=>PV.int .i64 x) t:=a6 (by simp at d⊢;omega);simp at d;simp[k];refine cp e (by simp[<-d];exact⟨rfl,rfl⟩) ?_;simp
def dm(n:Nat)(f:Nat->Nat):List AV:=(cc n).map fun j=>.p (.int .i64 (f j:Nat))
theorem wv(n:Nat)(f:Nat->Nat):(dm n f).length=n:=by simp[dm]
theorem LJ(n:Nat):a9 n (AV.p (.int .i64 0))=dm n fun _=>0:=by
 apply c6 (by simp[dm]);intro i a b;simp[dm]
theorem tT{n j:Nat}(f:Nat->Nat)(h:j<n):(dm n f)[j]?=some (.p (.int .i64 (f j:Nat))):=by
 rw[dm,b1,cv h];rfl
theorem Di{n i:Nat}(f g:Nat->Nat)(h:∀j,j<n->j≠i->g j=f j):(dm n f).set i (.p (.int .i64 (g i:Nat)))=dm n g:=by
 apply c6 (by simp[dm]);intro j c b;rw[wv]at b;rw[List.getElem_set];simp only[dm,List.getElem_map,List.getElem_range]
 by_cases a:i=j
 ·subst a;rw[if_pos rfl]
 ·rw[if_neg a,h j b (fun e=>a e.symm)]
@[simp] theorem aMD{N:Nat×Nat->Prop}{n:Nat}{f:Nat->Nat}:aS N (dm n f)=True:=by
 rw[cL,eq_iff_iff,iff_true];intro v a;simp only[dm,b0]at a;obtain⟨x,_,rfl⟩:=a;trivial
theorem zk{n:Nat}{f g:Nat->Nat}(h:∀j,j<n->f j=g j):dm n f=dm n g:=by
 rw[dm,dm];apply List.map_congr_left;intro j a;rw[h j (List.mem_range.1 a)]
end Go.au
