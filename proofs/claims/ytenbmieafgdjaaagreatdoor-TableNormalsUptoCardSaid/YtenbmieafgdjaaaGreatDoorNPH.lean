import Derived.Test.YtenbmieafgdjaaaGreatDoorNPG
import Derived.Test.YtenbmieafgdjaaaGreatDoorNThE
import Derived.Test.YtenbmieafgdjaaaGreatDoorNPE
import Derived.Lib.AtoiAll
import Derived.Test.YtenbmieafgdjaaaGreatDoorNPC
/- Parts of a proof. -/
set_option linter.unusedSimpArgs false
set_option linter.unusedVariables false
set_option linter.unusedSectionVars false
open Go.Proofs.Tryz
open Bool renaming and_eq_true->aT, false_eq_true->a0
open Go renaming FuncId->a1
open Go.IntKind renaming i64->a2
open Int renaming natAbs_natCast->a3
open List renaming length_pos_iff->a4, take_of_length_le->a5, length_singleton->a6, getElem?_eq_getElem->a7, replicate->a8, length_append->a9, map_cons->bb, take_succ_eq_append_getElem->be, drop_eq_getElem_cons->bi, append_nil->bk, take_append_drop->bl, map_take->bo, mem_map->br, getElem?_map->bv, take->b0, reverse_nil->b1, getElem_mem->b2, length_map->b3, foldl_cons->b4, range->b5, all_cons->cb, dropWhile_sublist->cc, getElem?_range->ce, flatten_append->ck, dropWhile_cons->cv, mem_singleton->cx, length_take->cy, length_cons->c6, flatten_nil->c9, ext_getElem->da, nil_append->db, mem_append->dg, map->dk, mem_cons->dl, map_nil->dp, map_map->dq
open Nat renaming pow_le_pow_right->dz, lt_of_lt_of_le->ea, lt_of_le_of_lt->eb, le_refl->ec, le_trans->ed, div_add_mod->ee, add_sub_cancel->ei, lt_or_ge->ej, div_div_eq_div_mul->em, div_eq_of_lt->en, pow_succ->eo, mul_assoc->eq, lt_trans->ew, mod_eq_of_lt->e6, pow_zero->e7, mul_comm->e8, pow_pos->e9, mul_le_mul_right->fb, div_one->fd, pow_le_pow_left->fl, div_mul_le_self->fm, div_lt_self->fv, add_assoc->fI, gcd->ga, pow_one->gb, pow_mul->gc, add_mul->ge, mod_lt->gg, mod_le->gi
open Option.some renaming injEq->gj
open UInt8 renaming ofNat->gl
namespace Go.au
open Go.Proofs
set_option linter.unusedSectionVars false
theorem zM:dH prog 226=some [1,1]:=by kernel_rfl
section
variable{w:World}{aa ah:Nat->Prop}{β:Bd}{H:Heap}
theorem Rs{ak:Nat}{c0 c1 v:Value}{T:TypeId}(h:w.heap[ak]?=some (.cells #[c0,c1] T (0,0))):w.setCell ⟨ak,0,none⟩ v=w.setRow ak #[v,c1]:=by
 obtain⟨d,a⟩:=Array.getElem?_eq_some_iff.1 h;unfold World.setCell World.setRow;congr 1;apply Array.ext
 ·simp
 ·intro i b c;simp only[Array.getElem_modify]
  by_cases hi:ak=i
  ·subst hi;simp[a]
  ·simp[hi]
theorem QU{t x:AV}{cs:Array Value}(g:t=gN 226 [.p .dD,x]\/t=.st 226 [.p .dD,x])(h:bf prog w aa β H t cs.toList):∃y,cs=#[.pointer none,y]/\bf prog w aa β H x [y]:=by
 have a:bf prog w aa β H (.st 226 [.p .dD,x]) cs.toList:=by
  rcases g with rfl|rfl
  ·exact J7.1 h
  ·exact h
 simp only[bf,zM,gj]at a;obtain⟨l,k,rfl,b,d⟩:=a;simp only[bH,bf,aV]at b;obtain⟨c,i,rfl,rfl,_,c2,j,rfl,e,f,rfl⟩:=b
 match c2,f with
 |[y],_=>exact⟨y,Array.ext' (by simpa using d),e⟩
theorem QN{b:Nat}{x:AV}{cs:Array Value}(h:bf prog w aa β H (.st 226 [.ptr b [],x]) cs.toList):∃v y,cs=#[v,y]/\bI prog β H (.ptr b []) v:=by
 simp only[bf,zM,gj]at h;obtain⟨l,j,rfl,a,d⟩:=h;simp only[bH,bf]at a;obtain⟨c,g,rfl,⟨v,rfl,f⟩,_,c2,i,rfl,k,e,rfl⟩:=a
 match c2,e with
 |[y],_=>exact⟨v,y,Array.ext' (by simpa using d),f⟩
end
theorem CY{H:Heap}{b:Nat}{t x:AV}(d:H[b]?=some (.box false t))(g:t=gN 226 [.p .dD,x]\/t= .st 226 [.p .dD,x]):
 cR prog 226 H [.ptr b []] (H.set b (.box false (.st 226 [.ptr b [],x]))) (.p (.aC [])):=by
 refine⟨iC func226 (by kernel_rfl),fun w aa ah β I f i J=>?_⟩;simp only[bt,ar]at i;obtain⟨v,vs,rfl,⟨_,G,K,L,rfl,j,A⟩,rfl⟩:=i;simp only[fL,gj]at j;subst j;obtain⟨rfl,rfl⟩:=A (.inl ⟨false,t,d⟩);obtain⟨cs,T,k1,k2,k3,_,k5⟩:=f.cF b _ d;have E:ad t=.agg 226:=by
  rcases g with rfl|rfl
  ·exact AN _ _
  ·rfl
 have o:T=227:=by
  rw[E]at k5;exact du (by simpa[iU,Gl.bx,X3]using k5)
 subst o;obtain⟨y,rfl,F⟩:=QU g k2;have n:¬aa (β.ak b)/\¬ah (β.ak b):=by simpa[cB]using k3
 refine(QJ (β.ak b) w (by simp[World.cell?,k1]) (by simp[World.shape?,k1]) (by simp[World.frozen?,k1])).mono ?_;rintro e w' ⟨rfl,rfl⟩;rw[Rs k1];have aI:b8 β H β (H.set b (.box false (.st 226 [.ptr b [],x]))):=om d (.inl ⟨_,_,_,_,rfl,rfl⟩);have aj:∀z,aH H z->aH (H.set b (.box false (.st 226 [.ptr b [],x]))) z:=lA d (fun _ h=>h);have q:b<H.length:=(List.getElem?_eq_some_iff.1 d).1;have s:(H.set b (.box false (.st 226 [.ptr b [],x])))[b]?=some (.box false (.st 226 [.ptr b [],x])):=List.getElem?_set_self q;have m:aB (aH H) x:=by
  have:=f.refs b _ d;rcases g with rfl|rfl
  ·simp only[Obj.refs]at this;unfold gN at this
   split at this
   ·rename_i l hl;have hl:=lx hl
    match l,hl with
    |[a,c],hl=>simp at hl;rw[hl.2];simp[aB]
    |[],hl=>simp at hl
    |[_],hl=>simp at hl
    |_::_::_::_,hl=>simp at hl
   ·simp only[aB,aP]at this;exact this.2.1
  ·simp only[Obj.refs,aB,aP]at this;exact this.2.1
 have D:∀k,aa k->(w.setRow (β.ak b) #[.pointer (some ⟨β.ak b,0,none⟩),y]).heap[k]?=w.heap[k]?:=fun k u=>setRow_other w _ k _ (fun r=>n.1 (r▸u));have C:Obj.refs (aH (H.set b (.box false (.st 226 [.ptr b [],x])))) (.box false (.st 226 [.ptr b [],x])):=by
  simp only[Obj.refs,aB,aP,and_true];exact⟨⟨_,s,trivial⟩,aB.mono aj _ m⟩
 have B:=pq f d trivial (o':=.box false (.st 226 [.ptr b [],x])) trivial (fun _ h=>h) k1 (new:=#[.pointer (some ⟨β.ak b,0,none⟩),y]) n aI
  ⟨_,227,setRow_heap w _ _ _ 227 _ k1,by
   simp only[bf,zM,gj];refine⟨_,[[.pointer (some ⟨β.ak b,0,none⟩)],[y]],rfl,?_,rfl⟩;simp only[bH,bf];exact⟨_,_,rfl,⟨_,rfl,⟨rfl,_,_,0,rfl,rfl,fun _=>⟨rfl,rfl⟩⟩⟩,rfl,_,_,rfl,bf.mono (fun _ x=>x) D aI _ _ m F,rfl,rfl⟩,k3,by simp,by simp[ad,iU,Gl.bx]⟩ C
 exact⟨_,β,aa,rfl,B,by simp[ar,aw,bg],by simp[aB]⟩
theorem Nl{H:Heap}{b:Nat}{x:AV}(c:H[b]?=some (.box false (.st 226 [.ptr b [],x]))):cR prog 226 H [.ptr b []] H (.p (.aC [])):=by
 refine⟨iC func226 (by kernel_rfl),fun w aa ah β l g f m=>?_⟩;simp only[bt,ar]at f;obtain⟨v,vs,rfl,⟨_,j,n,i,rfl,a,d⟩,rfl⟩:=f;simp only[fL,gj]at a;subst a;obtain⟨rfl,rfl⟩:=d (.inl ⟨false,_,c⟩);obtain⟨cs,T,k1,k2,k3,_,k5⟩:=g.cF b _ c;obtain⟨v,y,rfl,h⟩:=QN k2;simp only[bI,bO]at h;obtain⟨_,k,o,i,rfl,a,d⟩:=h;simp only[fL,gj]at a;subst a;obtain⟨rfl,rfl⟩:=d (.inl ⟨false,_,c⟩);refine(QI (β.ak b) w (by simp[World.cell?,k1])).mono ?_;rintro e w' ⟨rfl,rfl⟩;exact⟨_,β,aa,rfl,bU.refl g,by simp[ar,aw,bg],by simp[aB]⟩
set_option maxHeartbeats 4000000
set_option maxRecDepth 100000
@[simp] theorem gu8:(Gl.u8:TypeId)=5:=(rfl)
def dG(t:List Nat):List AV:=t.map fun(c:Nat)=>AV.p (.int .u8 (c:Int))
theorem ux(t:List Nat):(dG t).length=t.length:=by simp[dG]
theorem aCu(a t:List Nat):dG (a++t)=dG a++dG t:=by simp[dG]
theorem BA:∀t:List Nat,dV prog 1 (dG t)
 |[]=>by simp[dG,dV]
 |c::t=>by
  have:=BA t;simp only[dG,bb]at this⊢;simp[dV];exact this
theorem HE:∀(t:List Nat),(∀c∈t,c<256)->bytesOf (dG t)=some t
 |[],_=>rfl
 |c::t,a=>by
  have b:=a c (by simp);have:=HE t fun c hc=>a c (by simp[hc]);show bytesOf (.p (.int .u8 (c:Int))::dG t)=some (c::t);rw[bytesOf,if_pos ⟨by omega,by omega⟩,this];simp
theorem Nn(t:List Nat)(a:t≠[])(h:t.length<=1048576):cR prog 150 [.box false (.p (.st 226 [.dD,.aG]))] [.ptr 0 [],.p (.str t)]
 [.box false (.st 226 [.ptr 0 [],.sl 1 0 1 0 t.length]),.arr .bytes 0 1 (dG t)] (.p (.aC [.int .i64 t.length,.fF])):=by
 refine gH nf CJ mix (by simp[f150]) ?_;simp[f150];refine ci (CY (b:=0) (t:=.p (.st 226 [.dD,.aG])) (x:=.p .aG) rfl (.inl rfl)) ?_;simp;refine⟨⟨BA t,by simp only[cT];omega⟩,?_⟩;simp[a,dG]
theorem Np(a t:List Nat)(v n:Nat)(f:n=a.length)(c:t≠[])(h:t.length<=1048576)(e:a.length<=1048576):cR prog 150 [.box false (.st 226 [.ptr 0 [],.sl 1 v 1 0 n]),.arr .bytes v 1 (dG a)] [.ptr 0 [],.p (.str t)]
 [.box false (.st 226 [.ptr 0 [],.sl 1 (v+1) 1 0 (n+t.length)]),.arr .bytes (v+1) 1 (dG (a++t))] (.p (.aC [.int .i64 t.length,.fF])):=by
 refine gH nf CJ mix (by simp[f150]) ?_;simp[f150];refine ci (Nl (b:=0) (x:=.sl 1 v 1 0 n) rfl) ?_;simp;refine⟨⟨BA t,by rw[ux];omega,by rw[ux];simp only[cT];omega⟩,?_⟩;have d:b0 n (dG a)=dG a:=a5 (by rw[ux];omega);simp[c,d,aCu];exact .inl rfl
theorem X0(a:List Nat)(v n:Nat)(b:n=a.length)(d:a≠[])(g:a.length<=1048576)(e:∀c∈a,c<256):cR prog 230 [.box false (.st 226 [.ptr 0 [],.sl 1 v 1 0 n]),.arr .bytes v 1 (dG a)] [.ptr 0 []]
 [.box false (.st 226 [.ptr 0 [],.sl 1 v 1 0 n]),.dead] (.p (.str a)):=by
 refine gH nf My mix (by simp[f230]) ?_;have f:0<a.length:=a4.2 d;simp[f230];refine Xs (al:=v) (es:=dG a) rfl rfl (by rw[b];exact f) (by simp[dG,b]) ?_;simp;refine Xu (al:=v) (es:=dG a) (l:=a) rfl rfl rfl (by omega) (by simp[ux,b]) (by omega) rfl ?_ ?_ ?_ ?_
 ·kernel_rfl
 ·kernel_rfl
 ·rw[a5 (by rw[ux];simp[b])];exact HE a e
 simp
 repeat' with_reducible refine And.intro ?_ ?_
 all_goals rfl
theorem A5{σ:Nat->Nat}:∀{a b:List AV},cA σ (a++b)=cA σ a++cA σ b
 |[],b=>by simp[cA]
 |x::a,b=>by simp[cA,A5 (a:=a)]
theorem yl:aq wB tB=[tB]:=sj (by decide) (by decide)
theorem UK(a:NI)(hs:a.sm=true):az prog 247 [eI a] (.str (cQ a.v)):=by
 refine aO nf CF mix (by simp[f247]) ?_;have b:=NI.oL hs;simp[f247,ad,lG hs,mq hs,di,cM];refine c1 (Fe a.v b.1 b.2) ?_;simp
theorem K1{m k A L:Nat}(e:0<m)(h:m*tB^k<=A)(a:A<wB^L):k<64*L:=by
 have b:2^k<=tB^k:=fl (by decide) k;have c:tB^k<=m*tB^k:=Nat.le_mul_of_pos_left _ e;rw[show wB=2^64 from rfl,<-gc]at a;have d:2^k<2^(64*L):=eb (ed b (ed c h)) a
 rwa [Nat.pow_lt_pow_iff_right (by decide)]at d
theorem UJ(a:NI)(hs:a.sm=false)(hl:okW a.v)(aw:(bp a.v.natAbs).length<=1000000):az prog 247 [eI a] (.str (cQ a.v)):=by
 have N:=nj (eI a) a.v (lJ a);have aH:=NI.yb (a:=a) (by rw[hs];decide);have ai:=ea (cj ba a.v.natAbs) (dz (show 0<wB by decide) (nh hl));obtain⟨c,cs,G⟩:=nC hs;refine aO nf CF mix (by simp[f247]) ?_;simp[f247,ad,G,di,cM];refine c1 N ?_;simp;refine qN (fun s'=>∃b:List (List Nat),jn 0 b=jn a.v.natAbs []/\(∀p∈b,p≠[]/\p.length<=18)/\b≠[]/\b.length<=57600000/\aM s'.env 3=.p (.bool (decide (a.v<0)))/\aM s'.env 6=.sl 2 b.length 1 0 b.length/\∃o,s'.heap=[.hole,o,.arr .grow b.length 1 (b.map fun p=>.p (.str p))]) ?_ ?_
 ·refine lp (α:=Nat×List (List Nat)×Bool) (fun x=>⟨[(6,.sl 2 x.2.1.length 1 0 x.2.1.length),(5,.sl 1 0 1 0 1),(4,.p (eN x.1)),(3,.p (.bool (decide (a.v<0))))],[.hole,.arr (if x.2.2=true then .frozen else .exact) 0 1 [.p (.int .u64 1000000000000000000)],.arr .grow x.2.1.length 1 (x.2.1.map fun p=>.p (.str p))]⟩)
   (fun x=>x.1<=a.v.natAbs/\jn x.1 x.2.1=jn a.v.natAbs []/\(∀p∈x.2.1,p≠[]/\p.length<=18)/\x.2.1.length<=57600000/\x.1*tB^x.2.1.length<=a.v.natAbs) (fun x=>x.1) (a.v.natAbs,[],false) ⟨ec _,rfl,by simp,by simp,by simp⟩ ?_
  rintro⟨m,b,f⟩ ⟨k1,k2,k3,k5,k4⟩;dsimp only at k1 k2 k3 k5 k4;rcases f with _|_
  ·simp only[a0,if_false];have ax:(aq wB m).length<=900000:=by
    have:=dK ba _ _ (eb k1 (cj ba a.v.natAbs));have:=nh hl;omega
   by_cases hm:m=0
   ·subst hm;have aa:b≠[]:=by
     rintro rfl;rw[jn,jn,if_pos rfl,if_neg (by omega)]at k2;have:=xE a.v.natAbs;rw[b1,c9,bk,bk]at k2;rw[<-k2]at this;simp at this
    simp[eN,kH];refine⟨b,k2,k3,aa,k5,?_⟩;simp
   ·have d:=Bg m tB (by decide) (by omega) (by rw[yl];decide);have Z:aq wB m≠[]:=mt rD.1 hm;have C:0<(aq wB m).length:=a4.2 Z;have aI:=IY hm b;have B:∀p∈b++[ek m],p≠[]/\p.length<=18:=by
     intro p N;rcases dg.1 N with h|h
     ·exact k3 p h
     ·rw[cx.1 h];exact⟨HU m,HV m⟩
    have A:m/tB<m:=fv (by omega) (by decide);have aA:=K1 (show 0<m by omega) k4 ai;have w:m/tB*tB^(b++[ek m]).length<=a.v.natAbs:=by
     rw[a9,a6,eo,e8 (tB^b.length),<-eq];exact ed (fb _ (fm _ _)) k4
    have y:(b++[ek m]).length<=57600000:=by rw[a9,a6];omega
    have r:m% tB<tB:=gg _ (by decide);have Q:m/tB=0->m% tB=m:=fun h=>by have:=ee m tB;rw[h]at this;omega
    simp only[eN]at d⊢;rw[yl]at d;have P:=rD (n:=m/tB);have L:=MW (m% tB) (ew r (by decide));have q:=MY [48] (18-(bp (m% tB)).length) (by omega) (by simp;omega);have aB:=BO r;have ab:=OG r;rw[A4]at q;have l:ek m=if m/tB=0 then bp (m% tB)else a8 (18-(bp (m% tB)).length) 48++bp (m% tB):=by
     rw[ek,ab];split
     ·rename_i h;rw[Q h]
     ·rfl
    have s:a2.wrap (18-((bp (m% tB)).length:Int))=(18-(bp (m% tB)).length:Nat):=by rw[aN _ (by omega) (by omega)];omega
    have aE:((18-(bp (m% tB)).length:Nat):Int)=18-((bp (m% tB)).length:Int):=by omega
    have u:∀t,t=ek m->(b.map fun p=>AV.p (.str p))++[AV.p (.str t)]=(b++[ek m]).map fun p=>AV.p (.str p):=fun t e=>by rw[e];simp
    by_cases F:m% tB=0
    ·have j:¬m/tB=0:=fun h=>hm (by rw[<-Q h];exact F);have E:0<(aq wB (m/tB)).length:=a4.2 (mt P.1 j);have e:a8 (18-(bp (m% tB)).length) 48++bp (m% tB)=ek m:=by rw[l,if_neg j]
     rw[F,pD]at e q s;rw[F,kH]at d;simp only[a6]at e q s;have hf:=u _ e;generalize D:aq wB (m/tB)=ah at*;simp[C];refine cp d (by simp;exact⟨rfl,rfl⟩) ?_ (h1:=by simp[tB]);simp[E,s];refine c2 q ?_;simp;refine⟨by simp only[cT];omega,?_⟩;refine rd (m/tB,b++[ek m],true) ⟨by omega,by rw[aI];exact k2,by simpa using B,y,w⟩ A (he:=by simp[D]) (hh:=by simp only[<-hf];simp) (hr2:=by simp only[<-hf];simp)
    ·have ae:aq wB (m% tB)=[m% tB]:=sj (by omega) (ew r (by decide));rw[ae]at d
     by_cases j:m/tB=0
     ·have e:bp (m% tB)=ek m:=by rw[l,if_pos j]
      have hf:=u _ e;rw[j,kH]at d;simp[C];refine cp d (by simp;exact⟨rfl,rfl⟩) ?_ (h1:=by simp[tB]);simp;refine c2 L ?_;simp;refine⟨by simp only[cT];omega,?_⟩;refine rd (m/tB,b++[ek m],true) ⟨by omega,by rw[aI];exact k2,by simpa using B,y,w⟩ A (he:=by simp[j,kH]) (hh:=by simp only[<-hf];simp) (hr2:=by simp only[<-hf];simp)
     ·have E:0<(aq wB (m/tB)).length:=a4.2 (mt P.1 j);have e:a8 (18-(bp (m% tB)).length) 48++bp (m% tB)=ek m:=by rw[l,if_neg j]
      have hf:=u _ e;generalize D:aq wB (m/tB)=ah at*;simp[C];refine cp d (by simp;exact⟨rfl,rfl⟩) ?_ (h1:=by simp[tB]);simp;refine c2 L ?_;simp[E,s];refine c2 q ?_;simp;refine⟨by omega,by simp only[cT];omega,?_⟩;refine rd (m/tB,b++[ek m],true) ⟨by omega,by rw[aI];exact k2,by simpa using B,y,w⟩ A (he:=by simp[D]) (hh:=by simp only[<-hf];simp) (hr2:=by simp only[<-hf];simp)
  ·simp only[if_true];have ax:(aq wB m).length<=900000:=by
    have:=dK ba _ _ (eb k1 (cj ba a.v.natAbs));have:=nh hl;omega
   by_cases hm:m=0
   ·subst hm;have aa:b≠[]:=by
     rintro rfl;rw[jn,jn,if_pos rfl,if_neg (by omega)]at k2;have:=xE a.v.natAbs;rw[b1,c9,bk,bk]at k2;rw[<-k2]at this;simp at this
    simp[eN,kH];refine⟨b,k2,k3,aa,k5,?_⟩;simp
   ·have d:=Bg m tB (by decide) (by omega) (by rw[yl];decide);have Z:aq wB m≠[]:=mt rD.1 hm;have C:0<(aq wB m).length:=a4.2 Z;have aI:=IY hm b;have B:∀p∈b++[ek m],p≠[]/\p.length<=18:=by
     intro p N;rcases dg.1 N with h|h
     ·exact k3 p h
     ·rw[cx.1 h];exact⟨HU m,HV m⟩
    have A:m/tB<m:=fv (by omega) (by decide);have aA:=K1 (show 0<m by omega) k4 ai;have w:m/tB*tB^(b++[ek m]).length<=a.v.natAbs:=by
     rw[a9,a6,eo,e8 (tB^b.length),<-eq];exact ed (fb _ (fm _ _)) k4
    have y:(b++[ek m]).length<=57600000:=by rw[a9,a6];omega
    have r:m% tB<tB:=gg _ (by decide);have Q:m/tB=0->m% tB=m:=fun h=>by have:=ee m tB;rw[h]at this;omega
    simp only[eN]at d⊢;rw[yl]at d;have P:=rD (n:=m/tB);have L:=MW (m% tB) (ew r (by decide));have q:=MY [48] (18-(bp (m% tB)).length) (by omega) (by simp;omega);have aB:=BO r;have ab:=OG r;rw[A4]at q;have l:ek m=if m/tB=0 then bp (m% tB)else a8 (18-(bp (m% tB)).length) 48++bp (m% tB):=by
     rw[ek,ab];split
     ·rename_i h;rw[Q h]
     ·rfl
    have s:a2.wrap (18-((bp (m% tB)).length:Int))=(18-(bp (m% tB)).length:Nat):=by rw[aN _ (by omega) (by omega)];omega
    have aE:((18-(bp (m% tB)).length:Nat):Int)=18-((bp (m% tB)).length:Int):=by omega
    have u:∀t,t=ek m->(b.map fun p=>AV.p (.str p))++[AV.p (.str t)]=(b++[ek m]).map fun p=>AV.p (.str p):=fun t e=>by rw[e];simp
    by_cases F:m% tB=0
    ·have j:¬m/tB=0:=fun h=>hm (by rw[<-Q h];exact F);have E:0<(aq wB (m/tB)).length:=a4.2 (mt P.1 j);have e:a8 (18-(bp (m% tB)).length) 48++bp (m% tB)=ek m:=by rw[l,if_neg j]
     rw[F,pD]at e q s;rw[F,kH]at d;simp only[a6]at e q s;have hf:=u _ e;generalize D:aq wB (m/tB)=ah at*;simp[C];refine cp d (by simp;exact⟨rfl,rfl⟩) ?_ (h1:=by simp[tB]);simp[E,s];refine c2 q ?_;simp;refine⟨by simp only[cT];omega,?_⟩;refine rd (m/tB,b++[ek m],true) ⟨by omega,by rw[aI];exact k2,by simpa using B,y,w⟩ A (he:=by simp[D]) (hh:=by simp only[<-hf];simp) (hr2:=by simp only[<-hf];simp)
    ·have ae:aq wB (m% tB)=[m% tB]:=sj (by omega) (ew r (by decide));rw[ae]at d
     by_cases j:m/tB=0
     ·have e:bp (m% tB)=ek m:=by rw[l,if_pos j]
      have hf:=u _ e;rw[j,kH]at d;simp[C];refine cp d (by simp;exact⟨rfl,rfl⟩) ?_ (h1:=by simp[tB]);simp;refine c2 L ?_;simp;refine⟨by simp only[cT];omega,?_⟩;refine rd (m/tB,b++[ek m],true) ⟨by omega,by rw[aI];exact k2,by simpa using B,y,w⟩ A (he:=by simp[j,kH]) (hh:=by simp only[<-hf];simp) (hr2:=by simp only[<-hf];simp)
     ·have E:0<(aq wB (m/tB)).length:=a4.2 (mt P.1 j);have e:a8 (18-(bp (m% tB)).length) 48++bp (m% tB)=ek m:=by rw[l,if_neg j]
      have hf:=u _ e;generalize D:aq wB (m/tB)=ah at*;simp[C];refine cp d (by simp;exact⟨rfl,rfl⟩) ?_ (h1:=by simp[tB]);simp;refine c2 L ?_;simp[E,s];refine c2 q ?_;simp;refine⟨by omega,by simp only[cT];omega,?_⟩;refine rd (m/tB,b++[ek m],true) ⟨by omega,by rw[aI];exact k2,by simpa using B,y,w⟩ A (he:=by simp[D]) (hh:=by simp only[<-hf];simp) (hr2:=by simp only[<-hf];simp)
 ·rintro⟨aG,aJ⟩ ⟨b,q1,aF,V,q4,ar,T,o,al⟩;dsimp only at ar T al;subst al;have aC:0<b.length:=a4.2 V;have ac:bp a.v.natAbs=b.reverse.flatten:=by rw[<-Uz,q1,jn,if_neg (by omega)];simp
  obtain⟨neg,M⟩:∃neg:Bool,neg=decide (a.v<0):=⟨_,rfl⟩
  obtain⟨S,O⟩:∃S:List Nat,S=if neg=true then[45]else[]:=⟨_,rfl⟩
  have am:cQ a.v=S++b.reverse.flatten:=by
   rw[cQ,<-ac,O,M]
   by_cases h:a.v<0
   ·simp[h]
   ·simp[h]
  obtain⟨g,J⟩:∃g:Nat->List Nat,g=fun k=>S++(b.reverse.take k).flatten:=⟨_,rfl⟩
  have K:g b.length=cQ a.v:=by rw[J,am];dsimp only;rw[a5 (by simp)]
  have aD:∀k,(b.reverse.take k).flatten.length<=1000000:=fun k=>by
   have au:b.reverse.flatten=(b.reverse.take k).flatten++(b.reverse.drop k).flatten:=by rw[<-ck,bl]
   rw[ac,au,a9]at aw;omega
  have aL:S.length<=1:=by rw[O];split<;>simp
  have X:∀k,(g k).length<=1000001:=fun k=>by rw[J];dsimp only;rw[a9];have:=aD k;omega
  have l:∀k(h:k<b.length),g (k+1)=g k++b[b.length-1-k]'(by omega):=fun k h=>by
   rw[J];dsimp only;rw[be (by simpa using h),ck,List.getElem_reverse,<-List.append_assoc];simp
  have av:∀c∈cQ a.v,c<256:=by
   intro c hc;rw[cQ]at hc;have d:=uX a.v.natAbs;rw[List.all_eq_true]at d
   split at hc
   ·rcases dl.1 hc with h|h
    ·omega
    ·exact JS (d c h)
   ·exact JS (d c hc)
  have af:a2.wrap ((b.length:Int)-1)=b.length-1:=aN _ (by omega) (by omega);have aj:∀i(h:i<b.length),b[i]≠[]/\b[i].length<=18:=fun i h=>aF _ (b2 h);have H:=X0 (g b.length) (if neg=true then b.length else b.length-1) (g b.length).length rfl (by rw[K,am];intro h;rw[List.append_eq_nil_iff,<-ac]at h;have:=xE a.v.natAbs;rw[h.2]at this;simp at this) (by have:=X b.length;omega) (by rw[K];exact av);simp[ar,T,af]
  by_cases U:a.v<0
  ·rw[decide_eq_true U]at M;subst M;have ay:g 0=[45]:=by rw[J,O];simp
   simp only[if_true]at H;simp[U];refine cf (Nn [45] (by simp) (by simp)) [3] ?_;simp[bd,sig,T,af];refine lp (α:=Nat) (fun k=>⟨[(11,.p (.int .i64 ((b.length:Int)-1-k))),(10,.ptr 3 []),(6,.sl 2 b.length 1 0 b.length)],[.hole,.hole,.arr .grow b.length 1 (b.map fun p=>.p (.str p)),.box false (.st 226 [.ptr 3 [],.sl 4 k 1 0 (g k).length]),.arr .bytes k 1 (dG (g k))]⟩)
    (fun k=>k<=b.length) (fun k=>b.length-k) 0 (by simp) ?_ (he:=by simp[T]) (hh:=by simp[ay,dG]) (hr2:=by simp[dG])
   intro k hk
   by_cases z:k<b.length
   ·have G:a2.wrap ((b.length:Int)-1-k-1)=b.length-1-(k+1:Nat):=by rw[aN _ (by omega) (by omega)];omega
    have e1:((b.length:Int)-1-k).toNat=b.length-1-k:=by omega
    have I:(k:Int)<=(b.length:Int)-1:=by omega
    have R:b.length-1-k<b.length:=by omega
    have hx:=aj _ R;have ag:=Np (g k) (b[b.length-1-k]) k (g k).length rfl hx.1 (by omega) (by have:=X k;omega);simp[I,e1,R,V];refine cf ag [3,4] ?_ (aj:=by simp[sig,dG]) (aK:=by simp[sig]) (hr:=by simp[dG]);simp[sig,dG,bd,G,A5];refine rd (k+1) z (he:=by simp[l k z]) (hh:=by simp[l k z,dG]) (hr2:=by simp[dG])
   ·have Y:k=b.length:=by omega
    subst Y;have W:¬(b.length:Int)<=(b.length:Int)-1:=by omega
    simp[W];refine cf H [3,4] ?_ (aj:=by simp[sig,dG]) (aK:=by simp[sig]) (hr:=by simp[dG]);simp[sig,bd,K]
  ·rw[decide_eq_false U]at M;subst M;simp only[a0,if_false]at H O;have ak:g 1=b[b.length-1]:=by rw[l 0 aC,J];simp[O]
   have ap:b.length-1<b.length:=by omega
   have ao:=aj _ ap;have an:=Nn (b[b.length-1]) ao.1 (by omega);rw[<-ak]at an ao;simp[U,af]
   refine lp (α:=Option Nat) (fun st=>match st with
     |none=>⟨[(11,.p (.int .i64 ((b.length:Int)-1))),(10,.ptr 3 []),(6,.sl 2 b.length 1 0 b.length)],[.hole,.hole,.arr .grow b.length 1 (b.map fun p=>.p (.str p)),.box false (.p (.st 226 [.dD,.aG]))]⟩
     |some k=>⟨[(11,.p (.int .i64 ((b.length:Int)-1-(k+1)))),(10,.ptr 3 []),(6,.sl 2 b.length 1 0 b.length)],[.hole,.hole,.arr .grow b.length 1 (b.map fun p=>.p (.str p)),.box false (.st 226 [.ptr 3 [],.sl 4 k 1 0 (g (k+1)).length]),.arr .bytes k 1 (dG (g (k+1)))]⟩)
    (fun st=>match st with
     |none=>True
     |some k=>k+1<=b.length) (fun st=>match st with
     |none=>b.length+1
     |some k=>b.length-(k+1)) none trivial ?_ (he:=by simp[T])
   intro st hk;cases st with
   |none=>
    have G:a2.wrap ((b.length:Int)-1-1)=b.length-1-(0+1):=by rw[aN _ (by omega) (by omega)];omega
    have e1:((b.length:Int)-1).toNat=b.length-1:=by omega
    have I:(1:Int)<=(b.length:Int):=by omega
    simp[I,e1,ap,V,<-ak];refine cf an [3] ?_;simp[bd,sig,G];refine rd (some 0) (by show 0+1<=b.length;omega) (by show b.length-(0+1)<b.length+1;omega) (he:=by simp) (hh:=by simp[dG]) (hr2:=by simp[dG])
   |some k=>
    have hk:k+1<=b.length:=hk
    by_cases z:k+1<b.length
    ·have G:a2.wrap ((b.length:Int)-1-(k+1)-1)=b.length-1-(k+1+1):=by rw[aN _ (by omega) (by omega)];omega
     have e1:((b.length:Int)-1-(k+1)).toNat=b.length-1-(k+1):=by omega
     have I:(k:Int)+1<=(b.length:Int)-1:=by omega
     have R:b.length-1-(k+1)<b.length:=by omega
     have hx:=aj _ R;have ag:=Np (g (k+1)) (b[b.length-1-(k+1)]) k (g (k+1)).length rfl hx.1 (by omega) (by have:=X (k+1);omega);simp[I,e1,R,V];refine cf ag [3,4] ?_ (aj:=by simp[sig,dG]) (aK:=by simp[sig]) (hr:=by simp[dG]);simp[sig,dG,bd,G,A5];refine rd (some (k+1)) z (by show b.length-(k+1+1)<b.length-(k+1);omega) (he:=by simp[l (k+1) z]) (hh:=by simp[l (k+1) z,dG]) (hr2:=by simp[dG])
    ·have Y:b.length=k+1:=by omega
     have W:¬(k:Int)+1<=(b.length:Int)-1:=by omega
     rw[Y]at H K;rw[ei]at H;simp[W];refine cf H [3,4] ?_ (aj:=by simp[sig,dG]) (aK:=by simp[sig]) (hr:=by simp[dG]);simp[sig,bd,K]
theorem Bh(a:NI)(hl:okW a.v)(b:(bp a.v.natAbs).length<=1000000):az prog 247 [eI a] (.str (cQ a.v)):=by
 rcases h:a.sm with _|_
 ·exact UJ a h hl b
 ·exact UK a h
open Go
theorem IB:∀(r:List Nat)(a:Nat),a<=r.foldl (fun n c=>n*10+(c-48)) a
 |[],a=>ec _
 |x::r,a=>ed (show a<=a*10+(x-48)by omega) (IB r _)
theorem Il:∀(d:List Nat)(a:Nat),d.all cm=true->d.foldl (fun n c=>n*10+(c-48)) a<1000000000000000000->Lib.parseUint10 a (d.map gl)=.ok (d.foldl (fun n c=>n*10+(c-48)) a)
 |[],a,_,_=>rfl
 |c::r,a,h,hl=>by
  simp only[cb,aT]at h;have hc:=h.1;simp only[cm,aT,decide_eq_true_eq]at hc;have b:=IB r (a*10+(c-48));rw[b4]at hl⊢;have e:(gl c).toNat=c:=by simp;omega
  rw[bb,Lib.parseUint10,e,if_pos hc,if_neg (by omega),if_neg (by omega)];exact Il r _ h.2 hl
theorem VH{d:List Nat}(h:d.all cm=true)(b:d≠[])(f:d.length<=18):Lib.atoiAll (d.map gl)=.ok (aW d):=by
 have hl:=jd _ d rfl h;have i:10^d.length<=10^18:=dz (by omega) f;cases d with
 |nil=>exact(b rfl).elim
 |cons c r=>
  have hc:=(aT ..▸(cb▸h):cm c=true/\r.all cm=true).1;simp only[cm,aT,decide_eq_true_eq]at hc;have e:(gl c).toNat=c:=by simp;omega
  have g:aW (c::r)<1000000000000000000:=by omega
  have a:=Il (c::r) 0 h g;rw[<-aW]at a;rw[bb]at a;rw[bb,Lib.atoiAll];simp only[e];rw[if_neg (by omega),Lib.parseMag,if_neg (by simp),a];dsimp only;rw[if_neg (by omega),if_neg (by omega),if_neg (by omega)]
theorem AL:∀(b:List Nat)(x:Nat),b.foldl (fun n c=>n*10+(c-48)) x=x*10^b.length+aW b
 |[],x=>by simp[aW]
 |c::b,x=>by
  rw[aW,b4,b4,AL b,AL b (0*10+(c-48)),c6,eo,ge,eq,e8 10];simp[fI]
theorem IU(a b:List Nat):aW (a++b)=aW a*10^b.length+aW b:=by
 rw[aW,List.foldl_append,AL];rfl
theorem aBV(k:Nat):10^k<=2^(4*k):=by
 rw[gc];exact fl (by decide) k
theorem I2{a K:Nat}(h:4*a<=K):10^a<=2^K:=ed (aBV a) (dz (by decide) h)
theorem uO{n k:Nat}(h:n<2^k)(hk:k<=3*1000000):(bp n).length<=1000000:=
 CK h hk (by decide)
theorem Wn(a:NF)(h:ch kB a.q):az prog 176 [eF a] (.str (bN a.q)):=by
 have f:kB=100000:=rfl;have w:=AR a;have c:=Bh a.num (gQ h.1 o8) (uO h.1 (by omega));have d:=Bh a.den (gQ (by rw[jI];exact h.2) o8) (uO (by rw[jI];exact h.2) (by omega));rw[kG]at c;rw[ji,tU]at d;have g:=uO h.1 (show kB<=3*1000000 by omega);have i:=uO h.2 (show kB<=3*1000000 by omega);have j:=BB a.q.num;refine aO nf Ey mix (by simp[f176]) ?_;rw[bN]
 by_cases b:a.q.den=1
 ·have e:a.fe=true:=by simp[NF.fe,b]
  rw[e]at w;rw[if_pos b];simp[f176];refine c1 w ?_;simp[ad];refine c1 c ?_;simp
 ·have e:a.fe=false:=by simp[NF.fe,b]
  rw[e]at w;rw[if_neg b];simp[f176];refine c1 w ?_;simp[ad];refine e1 c ?_;simp[ad];refine⟨by omega,?_⟩;refine e1 d ?_;simp;omega
def kR:Nat:=2800
theorem vQ(s:List Nat)(i:(cS s).all cm=true)(hl:(cS s).length<=700):az prog 224 [.str s] (eI (.mk' (if bV s=true then -(aW (cS s):Int)else aW (cS s)))):=by
 refine aO nf Fl mix (by simp[f224]) ?_;simp[f224];refine c2 (V3 s) ?_;simp;refine c2 (Io s) ?_;simp;generalize cS s=d at*;generalize bV s=neg at*;have w:eJ 0=eI (.mk' 0):=(nF (by decide) (by decide)).symm;rw[show PV.st 129 [.int .i64 0,.aG]=eI (.mk' 0)from w];refine lp (α:=List Nat×NI) (fun x=>⟨[(4,.ptr 1 []),(3,.p (.bool neg)),(2,.ptr 0 []),(0,.p (.str x.1))],[.box false (.p (eI (.mk' 0))),.box false (.p (eI x.2))]⟩)
  (fun x=>∃m:Nat,x.2.v=m/\m*10^x.1.length+aW x.1=aW d/\x.1.all cm=true/\x.1.length<=700/\m<2^kR) (fun x=>x.1.length) (d,.mk' 0) ⟨0,rfl,by simp,i,hl,e9 (by decide)⟩ ?_
 rintro⟨r,o⟩ ⟨m,k1,k2,k3,k4,k5⟩;dsimp only at k1 k2 k3 k4 k5;have R:kR=2800:=rfl;have c:o.v.natAbs<2^kR:=by rw[k1,a3];exact k5
 have H:okW o.v:=gQ c (by have:kB=100000:=rfl;omega)
 by_cases f:r=[]
 ·subst f;have u:o.v=aW d:=by rw[k1];simp[aW]at k2⊢;omega
  cases neg
  ·have e:eI (.mk' (aW d:Nat))=eI o:=mv (by rw[NI.ie,u]) (fun h=>by rw[NI.ie]at h;omega);simp;rw[e];simp[ad]
  ·have e:eI (.mk' (-(aW d:Nat)))=eI o.neg:=by rw[NI.neg,u]
   simp;rw[e];refine c1 (sF o H) ?_;simp[ad]
 ·have K:0<r.length:=a4.2 f;obtain⟨n,S⟩:∃n,n=min 18 r.length:=⟨_,rfl⟩
  have j:n<=r.length:=by omega
  have U:0<n:=by omega
  have F:n<=18:=by omega
  have G:(if(r.length:Int)<18 then(r.length:Int)else 18)=n:=by split<;>omega
  have g:(r.take n).length=n:=by rw[cy];omega
  have a:=k3;rw[<-bl n r,List.all_append,aT]at a;have M:=jd _ (r.take n) rfl a.1;have C:=Fg (r.take n) (aW (r.take n)) (VH a.1 (by intro e;rw[e]at g;simp at g;omega) (by omega)) (by omega);rw[g]at M;have q:10^n<=10^18:=dz (by decide) F;have z:10^n<wB^1:=by rw[gb];exact eb q (by decide)
  have A:((10^n:Nat):Int).natAbs<2^64:=by rw[a3];exact eb q (by decide)
  have N:=dK ba 1 _ z;have ct:=xi c;have O:kB=100000:=rfl;have V:=jd _ d rfl i;have P:10^d.length<=2^kR:=I2 (by have:kR=2800:=rfl;omega);have I:=Wi (.of 10) n (10^n) (by decide) rfl (by omega) (by decide) (by omega);have E:=yE o (.mk' (10^n:Nat)) (by rw[NI.ie,a3];omega);have B:=vc (o.mul (.mk' (10^n:Nat))) (.of (aW (r.take n):Nat)) (gQ (oc (x:=o.v) (y:=((10^n:Nat):Int)) c A) (by omega)) (gQ (k:=64) (show((aW (r.take n):Nat):Int).natAbs<2^64 by rw[a3];omega) (by omega));have l:=qK (aW (r.take n):Nat);rw[<-sJ (by omega) (by omega)]at l;have t:=qK 10;rw[<-sJ (by decide) (by decide)]at t;have L:aW r=aW (r.take n)*10^(r.drop n).length+aW (r.drop n):=by rw[<-IU,bl]
  have J:r.length=n+(r.drop n).length:=by rw[List.length_drop];omega
  have D:(m*10^n+aW (r.take n))*10^(r.drop n).length+aW (r.drop n)=aW d:=by
   rw[<-k2,L,J,Nat.pow_add,ge,eq,fI]
  generalize 10^n=T at*;generalize W:aW (r.take n)=b at*;have Q:m*T+b<=aW d:=by
   have:=Nat.le_mul_of_pos_right (m*T+b) (show 0<10^(r.drop n).length from e9 (by decide));omega
  simp[f,K,G];refine⟨j,?_⟩;refine c1 C ?_;simp;refine e1 t ?_;simp;refine e2 I ?_;simp[ad];refine e2 E ?_;simp;refine e1 l ?_;simp;refine e2 B ?_;simp[ad];refine⟨rfl,j,?_⟩;refine rd (r.drop n,(o.mul (.mk' T)).add (.of b)) ⟨m*T+b,by rw[NI.qE,NI.lF,NI.ie,k1];rfl,D,a.2,by dsimp only;omega,by omega⟩ (by dsimp only;omega)
theorem Bb{s:List Nat}(h:dE s=true):bV s=false/\cS s=s:=by
 have b:=iR h;have:bV s=false:=by
  rw[bV,decide_eq_false_iff_not];intro a;cases s with
  |nil=>simp at a
  |cons c r=>
   simp at a;subst a;rw[cb,aT]at b;simp[cm]at b
 exact⟨this,by rw[cS,this];rfl⟩
theorem IE(s:List Nat):bV (bZ 47 s).1=bV s/\cS (bZ 47 s).1=bD s/\(bZ 47 s).2.1=bK s/\(bZ 47 s).2.2=dR s:=by
 cases s with
 |nil=>exact⟨rfl,rfl,rfl,rfl⟩
 |cons c r=>
  by_cases h:c=45
  ·subst h;have e:bZ 47 (45::r)=(45::(bZ 47 r).1,(bZ 47 r).2.1,(bZ 47 r).2.2):=by rw[bZ,if_neg (by decide)]
   rw[e];exact⟨rfl,rfl,rfl,rfl⟩
  ·have b:bV (c::r)=false:=by rw[bV,decide_eq_false_iff_not];simpa using h
   have a:cS (c::r)=c::r:=by rw[cS,b];rfl
   have d:bV (bZ 47 (c::r)).1=false:=by
    rw[bV,decide_eq_false_iff_not,bZ]
    split
    ·simp
    ·simpa using h
   refine⟨by rw[b,d],?_,?_,?_⟩
   ·rw[cS,d,bD,a];rfl
   ·rw[bK,a]
   ·rw[dR,a]
theorem VV{s:List Nat}(h:bY s=0):dE (bD s)=true/\(bD s).length<=600/\(bK s).length<=600/\(dR s=true->dE (bK s)=true):=by
 unfold bY at h
 split at h
 ·cases h
 rename_i a
 split at h
 ·cases h
 rename_i d;have a:kI s=true:=by simpa using a
 simp only[kI,aT,Bool.or_eq_true,Bool.not_eq_true']at a;refine⟨a.1.1,by omega,by omega,fun c=>?_⟩;rcases a.2 with b|b
 ·rw[c]at b;cases b
 ·exact b.1.1
theorem Qu(z:Int):cS (cQ z)=bp z.natAbs:=by
 have:=(An z []).2;simpa using this
theorem ov(c:Nat):∀s:List Nat,(bZ c s).1.length<=s.length/\(bZ c s).2.1.length<=s.length/\(∀x∈(bZ c s).1,x∈s)/\(∀x∈(bZ c s).2.1,x∈s)
 |[]=>by simp[bZ]
 |y::r=>by
  have a:=ov c r;rw[bZ]
  split
  ·simp;intro x hx;exact .inr hx
  ·simp only[c6,dl];refine⟨by omega,by omega,?_,fun x hx=>.inr (a.2.2.2 x hx)⟩;rintro x (rfl|hx)
   ·exact .inl rfl
   ·exact .inr (a.2.2.1 x hx)
theorem od(s:List Nat):(cS s).length<=s.length/\∀x∈cS s,x∈s:=by
 rw[cS]
 split
 ·exact⟨by simp,fun x hx=>List.mem_of_mem_tail hx⟩
 ·exact⟨ec _,fun _ h=>h⟩
theorem kJ(s:List Nat)(h:bY s=0)(hl:s.length<=1048576):az prog 142 [.str s] (eF ⟨aX s,false⟩):=by
 obtain⟨l,r,t,m⟩:=VV h;obtain⟨n,f,o,p⟩:=IE s;obtain⟨q1,q,a⟩:=iQ h;have b:=MV s 47 hl;rw[o,p]at b;have c:=vQ (bZ 47 s).1 (by rw[f];exact iR l) (by rw[f];omega);rw[n,f]at c;have j:eI (NF.mk (aX s) false).num=eI (.mk' (if bV s=true then -(aW (bD s):Int)else aW (bD s))):=by
  show eI ⟨(aX s).num,false⟩=_;rw[q];rfl
 rw[<-j]at c;refine aO nf FE mix (by simp[f142]) ?_;cases hf:dR s
 ·rw[hf]at b a;simp only[a0,if_false]at a;have e:(NF.mk (aX s) false).den=.mk' 1:=by
   show NI.mk' ((aX s).den:Int)=_;rw[a];rfl
  have i:=B0 (NF.mk (aX s) false).num;have k:eF (.whole (NF.mk (aX s) false).num)=eF ⟨aX s,false⟩:=by
   rw[eF,eF,e];rfl
  rw[k]at i;simp[f142];refine c2 b ?_;simp;refine c1 c ?_;simp;refine c1 i ?_;simp[ad]
 ·rw[hf]at b a;simp only[if_true]at a;have g:=m hf;obtain⟨d1,d2⟩:=Bb g;have d:=vQ (bK s) (by rw[d2];exact iR g) (by rw[d2];omega);rw[d1,d2]at d;simp only[a0,if_false]at d;have e:eI (NF.mk (aX s) false).den=eI (.mk' (aW (bK s):Nat)):=by
   show eI (NI.mk' ((aX s).den:Int))=_;rw[a]
  rw[<-e]at d;rw[eF];simp[f142];refine c2 b ?_;simp;refine c1 c ?_;simp;refine c1 d ?_;simp[ad]
def lO(n:Nat):Bool:=decide (600<(bp n).length)
theorem Mm(a:NI)(h:a.v.natAbs<2^kB):az prog 246 [eI a] (.bool (lO a.v.natAbs)):=by
 have l:kB=100000:=rfl;have d:=gQ h o8;have g:=We a d;have i:=Bh a d (uO h (by omega));have c:=Io (cQ a.v);rw[Qu]at c;refine aO nf JR mix (by simp[f246]) ?_;simp[f246];refine c1 g ?_
 by_cases j:1800<nG a.v.natAbs
 ·have b:(1800:Int)<(nG a.v.natAbs:Nat):=by omega
  have e:decide ((600:Int)<((bp a.v.natAbs).length:Nat))=lO a.v.natAbs:=by rw[lO,decide_eq_decide];omega
  simp[b];refine c1 i ?_;simp;refine c2 c ?_;simp[lO];omega
 ·have f:=ea (Jk a.v.natAbs) (dz (show 0<2 by decide) (show nG a.v.natAbs<=3*600 by omega));have k:=Hl f (by decide);have e:lO a.v.natAbs=false:=by rw[lO,decide_eq_false_iff_not];omega
  have b:¬(1800:Int)<(nG a.v.natAbs:Nat):=by omega
  simp[b,e]
def C9(q:Rat):Bool:=lO q.num.natAbs||lO q.den
theorem Wf(a:NF)(h:ch kB a.q):az prog 175 [eF a] (.bool (C9 a.q)):=by
 have b:=Mm a.num h.1;have c:=Mm a.den (by rw[jI];exact h.2);rw[kG]at b;rw[jI]at c;refine aO nf Ez mix (by simp[f175]) ?_;rw[C9];cases hc:lO a.q.num.natAbs
 ·rw[hc]at b;simp[f175,ad];refine c1 b ?_;simp[ad];refine c1 c ?_;simp
 ·rw[hc]at b;simp[f175,ad];refine c1 b ?_;simp
def sM:List (Nat×Func)->a1->Option Func
 |[],_=>none
 |(i,g)::r,f=>bif Nat.beq i f then some g else sM r f
def zt(P:Program):List (Nat×Func)->Prop
 |[]=>True
 |p::r=>an P p.1 p.2/\zt P r
theorem B6{P:Program}:∀{l:List (Nat×Func)},zt P l->∀{f:Nat}{fn:Func},sM l f=some fn->an P f fn
 |[],_,f,fn,h=>by simp[sM]at h
 |(i,g)::r,a,f,fn,h=>by
  simp only[sM,Bool.cond_eq_ite]at h
  split at h
  ·rename_i hf;simp only[gj]at h;subst h;rw[<-Nat.eq_of_beq_eq_true hf];exact a.1
  ·exact B6 a.2 h
noncomputable def Dt:List (Nat×Func):=[(2,f2),(3,f3),(4,f4),(5,f5),(6,f6),(7,f7),(8,f8),(9,f9),(10,f10),(11,f11),(12,f12),(13,f13),(14,f14),(15,f15),(16,f16),(17,f17),(18,f18),(19,f19),(20,f20),(21,f21),(22,f22),(23,f23),(24,f24),(25,f25),(26,f26),(27,f27),(28,f28),(29,f29),(30,f30),(31,f31),(32,f32),(33,f33),(34,f34),(35,f35),(36,f36),(37,f37),(38,f38),(39,f39),(40,f40),(41,f41),(42,f42),(43,f43),(44,f44),(45,f45),(46,f46),(47,f47),(48,f48),(49,f49),(50,f50),(51,f51),(52,f52),(53,f53),(54,f54),(55,f55),(56,f56),(57,f57),(58,f58),(59,f59),(60,f60),(61,f61),(62,f62),(63,f63),(64,f64),(65,f65),(66,f66),(67,f67),(68,f68),(69,f69),(70,f70),(71,f71),(72,f72),(73,f73),(74,f74),(75,f75),(76,f76),(77,f77),(78,f78),(79,f79),(80,f80),(81,f81),(82,f82),(83,f83),(84,f84),(85,f85),(86,f86),(87,f87),(88,f88),(89,f89),(90,f90),(91,f91),(92,f92),(93,f93),(94,f94),(95,f95),(96,f96),(97,f97),(98,f98),(99,f99),(100,f100),(101,f101),(102,f102),(103,f103),(104,f104),(105,f105),(106,f106),(107,f107),(108,f108),(109,f109),(110,f110),(111,f111),(112,f112),(113,f113),(114,f114),(115,f115),(116,f116),(117,f117),(118,f118),(119,f119),(120,f120),(121,f121),(122,f122),(123,f123),(124,f124),(125,f125),(126,f126),(127,f127),(128,f128),(129,f129),(130,f130),(131,f131),(132,f132),(133,f133),(134,f134),(135,f135),(136,f136),(137,f137),(138,f138),(139,f139),(140,f140),(141,f141),(142,f142),(143,f143),(144,f144),(145,f145),(146,f146),(147,f147),(148,f148),(149,f149),(150,f150),(151,f151),(152,f152),(153,f153),(154,f154),(155,f155),(156,f156),(157,f157),(158,f158),(159,f159),(160,f160),(161,f161),(162,f162),(163,f163),(164,f164),(165,f165),(166,f166),(167,f167),(168,f168),(169,f169),(170,f170),(171,f171),(172,f172),(173,f173),(174,f174),(175,f175),(176,f176),(177,f177),(178,f178),(179,f179),(180,f180),(181,f181),(182,f182),(183,f183),(184,f184),(185,f185),(186,f186),(187,f187),(188,f188),(189,f189),(190,f190),(191,f191),(192,f192),(193,f193),(194,f194),(195,f195),(196,f196),(197,f197),(198,f198),(199,f199),(200,f200),(201,f201),(202,f202),(203,f203),(204,f204),(205,f205),(206,f206),(207,f207),(208,f208),(209,f209),(210,f210),(211,f211),(212,f212),(213,f213),(214,f214),(215,f215),(216,f216),(217,f217),(218,f218),(219,f219),(220,f220),(221,f221),(222,f222),(223,f223),(224,f224),(225,f225),(226,f226),(227,f227),(228,f228),(229,f229),(230,f230),(231,f231),(232,f232),(233,f233),(234,f234),(235,f235),(236,f236),(237,f237),(238,f238),(239,f239),(240,f240),(241,f241),(242,f242),(243,f243),(244,f244),(245,f245),(246,f246),(247,f247),(248,f248),(249,f249),(250,f250),(251,f251),(252,f252),(253,f253),(254,f254),(255,f255),(256,f256),(257,f257),(258,f258),(259,f259),(260,f260),(261,f261),(262,f262),(263,f263),(264,f264),(265,f265),(266,f266),(267,f267),(268,f268),(269,f269),(270,f270),(271,f271),(272,f272),(273,f273),(274,f274),(275,f275),(276,f276),(277,f277),(278,f278),(280,f280),(281,f281),(282,f282),(283,f283),(284,f284),(285,f285),(286,f286),(287,f287),(288,f288),(289,f289),(291,f291),(293,f293),(294,f294),(295,f295),(296,f296),(297,f297),(298,f298),(299,f299),(300,f300),(301,f301),(302,f302),(303,f303),(304,f304),(305,f305),(306,f306),(307,f307),(308,f308),(309,f309),(310,f310),(311,f311),(312,f312),(313,f313),(315,f315),(316,f316),(317,f317),(318,f318),(319,f319),(320,f320),(321,f321),(322,f322),(323,f323),(324,f324),(325,f325),(326,f326),(327,f327),(328,f328),(329,f329),(330,f330),(331,f331),(332,f332),(333,f333),(334,f334),(335,f335),(336,f336),(337,f337),(338,f338),(339,f339),(340,f340),(341,f341),(342,f342),(343,f343),(344,f344),(345,f345),(346,f346),(347,f347),(348,f348),(349,f349),(350,f350),(351,f351),(352,f352),(354,f354),(355,f355),(356,f356),(357,f357),(358,f358),(359,f359),(360,f360),(362,f362),(363,f363),(364,f364),(365,f365),(366,f366),(367,f367),(369,f369),(370,f370),(371,f371),(372,f372),(373,f373),(374,f374),(376,f376),(377,f377),(378,f378),(379,f379),(380,f380),(381,f381),(382,f382),(383,f383),(384,f384),(385,f385),(386,f386),(387,f387),(388,f388),(419,f419)]
theorem E7:zt prog Dt:=⟨Y9,ZS,at0,avK,awE,axy,qO,axH,Ny,Yu,YC,Nz,NA,ND,NG,Y4,Y5,NH,Za,Zg,Zj,Zo,Zx,NJ,NK,NL,ZG,ZO,ZT,NO,abv,ae9,ag4,ai0,anX,ap2,NP,NQ,at2,at3,auo,aup,auw,auy,auN,avH,rp,NR,awt,NT,NU,NW,awu,aww,awy,awC,awD,NX,aw0,aw2,axk,axn,axo,axr,axs,axu,NY,axw,axz,NZ,N1,axA,N2,N3,axB,N4,axC,N5,N6,N7,N8,axE,N9,axF,Oa,axG,Ob,Oc,Od,axI,Oe,Of,Og,Oh,Oi,Oj,C4,Ok,Eg,Ef,Yo,Ee,Yp,Yq,Yr,Ys,Yt,EE,ED,EC,EB,EA,Yv,Yw,Yx,Yy,Yz,YA,YD,YE,YF,YG,YH,YI,YJ,YK,YL,F3,F2,F1,FL,FK,Fc,YM,Fb,YN,YO,Fa,FF,YP,FE,FD,FC,YQ,Mn,Cq,YR,YS,CJ,YT,YU,YV,YW,YX,YY,FB,FA,Fz,Fy,Fx,MK,MJ,MI,YZ,Y0,Y1,Y2,Y3,MH,MG,MF,ME,MD,Ez,Ey,Ex,Ew,Ev,Eu,Et,Es,Y6,Y7,Y8,Er,Ep,zJ,Eo,MC,En,MB,Em,El,Ek,Ej,MA,Mz,Fw,Fv,Fu,Ft,Zb,Zc,Zd,Ze,Fs,Zf,D4,D3,vK,zP,FJ,FI,DR,zO,FH,Zh,Zi,Fq,Fp,Fo,Fm,Fl,Fk,Zk,Zl,Zm,Zn,My,Zp,Zq,Zr,Zs,Zt,Zu,Zv,Zw,LJ,CG,D2,Fj,Fi,Fh,yP,JR,CF,K5,vf,LI,LH,E5,LG,LF,Zy,LS,LR,LQ,LP,D1,DQ,D0,Zz,zG,DZ,DY,zF,ZA,D9,ZC,K4,D8,LO,E4,ZD,ZE,ZF,D7,ZH,ZI,ZJ,ZK,ZL,ZM,E3,E0,EZ,ZN,EY,LN,LM,LL,CI,ZP,ZQ,ZR,ZU,ZV,ZW,ZX,ZY,ZZ,CH,Z0,Z1,Z2,Z3,Z4,Z5,Z6,Z7,LK,Z8,Z9,aba,abw,acH,adY,ad1,aea,aej,aeF,aeK,aeQ,aeT,Md,afF,Mc,EX,afL,afO,Mb,afP,afQ,agt,ahl,ahm,aht,ahU,air,ais,aiE,aiN,EW,Ma,aja,ajN,ajY,akw,akR,ak3,al6,amY,anS,anY,aob,aof,aog,aoi,apb,apV,ap1,aqk,ara,L9,ari,arD,arE,arK,arN,arS,arX,asf,asS,asT,asU,as0,ati,ato,aty,aug,trivial⟩
noncomputable def vx(facts:a1->List PV->Option PV)(jC:a1->a1->Nat):lT:=⟨sM Dt,facts,fun _ _ _=>none,jC,fun _ _ _=>none⟩
theorem aAd{facts:a1->List PV->Option PV}{jC:a1->a1->Nat}(h:∀f vs v,facts f vs=some v->az prog f vs v):mh prog (vx facts jC):=by
 refine⟨mix,fun f fn hf=>B6 E7 hf,fun f vs v hk=>h f vs v hk,fun f args H v H' hk=>?_,fun f args H aj v hk=>?_⟩
 ·simp only[vx]at hk;cases hk
 ·simp only[vx]at hk;cases hk
noncomputable def OO(facts:a1->List PV->Option PV)(jC:a1->a1->Nat)(f:a1)(vs:List PV):Option PV:=nN prog nf (vx facts jC) (jx prog nf (vx facts jC) 20) f vs
theorem Ky{facts:a1->List PV->Option PV}{jC:a1->a1->Nat}(h:∀f vs v,facts f vs=some v->az prog f vs v){f:a1}{vs:List PV}{v:PV}(a:OO facts jC f vs=some v):az prog f vs v:=reckon 20 (aAd h) a
def noF:a1->List PV->Option PV:=fun _ _=>none
def pg:PV:=.st 381 ((b5 256).map fun i=>.bool (cm i))
theorem Jz(c:Nat)(hc:c<256):az prog 372 [.cz pg,.int .u8 c] (.bool (cm c)):=by
 refine aO nf L9 mix (by simp[f372]) ?_;have a:(b5 256)[c]?=some c:=ce hc;simp[f372,pg,a,hc]
theorem RV(s:List Nat)(h:s.length<=1048576)(g:∀c∈s,c<256):az prog 348 [.str s,.cz pg] (.str (kF s)):=by
 refine aO nf EW mix (by simp[f348]) ?_;simp[f348];refine lp (α:=List Nat) (fun r=>⟨[(1,.p (.cz pg)),(0,.p (.str r))],[]⟩) (fun r=>kF r=kF s/\r.length<=s.length/\∀c∈r,c<256) (fun r=>r.length) s (by exact⟨rfl,ec _,g⟩) ?_;rintro r ⟨a,f,b⟩;cases r with
 |nil=>
  have e:kF s=[]:=by rw[<-a];rfl
  simp[e]
 |cons x r=>
  have hx:=b x (by simp);have i:kF (x::r)=if cm x=true then kF r else x::r:=by
   rw[kF,cv];split<;>rfl
  rw[i]at a;have j:(0:Int)<(r.length:Int)+1:=by omega
  simp[j];refine c2 (Jz x hx) ?_;cases d:cm x
  ·rw[d]at a;simp[<-a]
  ·rw[d]at a;simp;exact rd r ⟨by simpa using a,by simp at f;omega,fun c hc=>b c (by simp[hc])⟩ (h1:=by simp)
theorem Rv(s:List Nat)(h:s.length<=1048576)(i:∀c∈s,c<256):az prog 349 [.str s,.cz pg] (.str (iF s)):=by
 refine aO nf Ma mix (by simp[f349]) ?_;simp[f349];refine lp (α:=List Nat) (fun r=>⟨[(1,.p (.cz pg)),(0,.p (.str r))],[]⟩) (fun r=>iF r=iF s/\r.length<=s.length/\∀c∈r,c<256) (fun r=>r.length) s (by exact⟨rfl,ec _,i⟩) ?_;rintro r ⟨a,b,d⟩;rcases List.eq_nil_or_concat r with rfl|⟨t,x,rfl⟩
 ·have e:iF s=[]:=by rw[<-a];rfl
  simp[e]
 ·simp only[List.concat_eq_append]at a b d⊢;have hx:=d x (by simp);have j:iF (t++[x])=if cm x=true then iF t else t++[x]:=by
   rw[iF,List.reverse_append,List.reverse_cons,b1,db,List.singleton_append,cv]
   split
   ·rfl
   ·simp
  rw[j]at a;have k:(0:Int)<(t.length:Int)+1:=by omega
  have g:a2.wrap (t.length:Int)=t.length:=aN _ (by omega) (by simp at b;omega);simp[k,g];refine c2 (Jz x hx) ?_;cases f:cm x
  ·rw[f]at a;simp[<-a]
  ·rw[f]at a;simp[g];exact rd t ⟨by simpa using a,by simp at b;omega,fun c hc=>d c (by simp[hc])⟩ (h1:=by simp)
def vh:List Nat:=[48,49,50,51,52,53,54,55,56,57]
theorem UI:az prog 347 [.str vh] (.aC [pg,.bool true]):=Ky (facts:=noF) (jC:=fun _ _=>0) (fun _ _ _ h=>by cases h) (by kernel_rfl)
theorem aCs:cK prog 382=some (.st 381 (a8 256 (.bool false))):=by kernel_rfl
theorem V0(s:List Nat)(h:s.length<=1048576)(d:∀c∈s,c<256):az prog 316 [.str s,.str vh] (.str (kF (iF s))):=by
 refine aO nf LK mix (by simp[f316]) ?_
 by_cases b:s=[]
 ·subst b;simp[f316,vh,kF,iF]
 simp[f316,vh,b];refine c1 UI ?_;have g:(iF s).length<=s.length:=by
  rw[iF,List.length_reverse];have:=(cc cm (l:=s.reverse)).length_le;simpa using this
 have f:∀c∈iF s,c<256:=by
  intro c hc;rw[iF,List.mem_reverse]at hc;exact d c (by simpa using(cc cm (l:=s.reverse)).subset hc)
 simp[aCs];have a:aL pg=.agg 381:=rfl;refine⟨⟨⟨a.symm,by rw[a];intro e;cases e⟩,a.symm⟩,?_⟩;refine cp (Rv s h d) (by simp;exact⟨rfl,rfl⟩) ?_;simp;refine cp (RV (iF s) (by omega) f) (by simp;exact⟨rfl,rfl⟩) ?_;simp
def bG:List Int->Int
 |[]=>0
 |e::r=>if e=0 then bG r else e
def bC(b:Bool)(e:Int):Int:=if b=true then e else 0
theorem V1(a:List Int)(h:a.length<=1048576):az prog 272 [.seq (a.map (.int .i64))] (.int .i64 (bG a)):=by
 refine aO nf D8 mix (by simp[f272]) ?_;simp[f272];refine lp (α:=Nat) (fun i=>⟨[(7,.p (.int .i64 i)),(6,.p (.int .i64 a.length)),(5,.p (.seq (a.map (.int .i64))))],[]⟩) (fun i=>i<=a.length/\bG (a.drop i)=bG a) (fun i=>a.length-i) 0 (by simp) ?_;rintro i ⟨d,b⟩;simp
 by_cases hi:i<a.length
 ·rw[bi hi]at b;have c:=cJ (i:=i) (by omega);simp[hi]
  by_cases he:a[i]=0
  ·simp[bG,he]at b;simp[he,c];exact rd (i+1) ⟨hi,b⟩
  ·simp[bG,he]at b;simp[he,<-b]
 ·have:i=a.length:=by omega
  subst this;simp[bG]at b;simp[<-b]
theorem rk(a:List Int)(h:a.length<=1048576):az prog 71 [.seq (a.map (.int .i64))] (.int .i64 (bG a)):=by
 refine aO nf NZ mix (by simp[f71]) ?_;simp[f71];refine lp (α:=Nat) (fun i=>⟨[(7,.p (.int .i64 i)),(6,.p (.int .i64 a.length)),(5,.p (.seq (a.map (.int .i64))))],[]⟩) (fun i=>i<=a.length/\bG (a.drop i)=bG a) (fun i=>a.length-i) 0 (by simp) ?_;rintro i ⟨d,b⟩;simp
 by_cases hi:i<a.length
 ·rw[bi hi]at b;have c:=cJ (i:=i) (by omega);simp[hi]
  by_cases he:a[i]=0
  ·simp[bG,he]at b;simp[he,c];exact rd (i+1) ⟨hi,b⟩
  ·simp[bG,he]at b;simp[he,<-b]
 ·have:i=a.length:=by omega
  subst this;simp[bG]at b;simp[<-b]
theorem uF(b:Bool)(e:Int):az prog 273 [.bool b,.int .i64 e] (.int .i64 (bC b e)):=by
 refine aO nf LO mix (by simp[f273]) ?_;cases b<;>simp[f273,bC]
theorem jo(b:Bool)(e:Int):az prog 72 [.bool b,.int .i64 e] (.int .i64 (bC b e)):=by
 refine aO nf N1 mix (by simp[f72]) ?_;cases b<;>simp[f72,bC]
theorem Lm(s:List Nat)(h:s.length<=1048576)(i:∀c∈s,c<256):az prog 271 [.str s] (.bool (dE s)):=by
 have f:=V0 s h i;have g:=SR s;rw[show vh=[48,49,50,51,52,53,54,55,56,57]from rfl]at f;refine aO nf K4 mix (by simp[f271]) ?_;generalize kF (iF s)=t at*;cases s with
 |nil=>simp[f271,dE]
 |cons c r=>
  have hc:=i c (by simp)
  by_cases b:t=[]
  ·have d:=g.1 b;have e:dE (c::r)=(decide (¬c=48)||decide (r=[])):=by
    rw[dE,d]
    by_cases a:c=48
    ·subst a;simp
    ·simp[a]
   rw[e];clear e d g
   by_cases a:c=48
   ·cases r with
    |nil=>
     simp[f271];refine c2 f ?_;simp[b,a]
    |cons x r=>
     simp[f271];refine c2 f ?_;simp[b,a]
   ·have j:¬(c:Int)=48:=by omega
    simp[f271];refine c2 f ?_;simp[b,a,j]
  ·have d:¬(c::r).all cm=true:=mt g.2 b;have a:(c::r).all cm=false:=by simpa using d
   have e:dE (c::r)=false:=by rw[dE,a];simp
   rw[e];clear e d a g;simp[f271];refine c2 f ?_;simp[b]
theorem X1{a b:Nat}:(decide (jB (et a b) 1≠0))=decide (ga a b≠1):=by
 rw[decide_eq_decide,jB,et,a3,a3]
 split
 ·simp;omega
 ·split
  ·simp;omega
  ·simp;omega
theorem Dg{s:List Nat}(h:s.all cm=true)(hl:s.length<=700):okW (aW s:Nat):=by
 have a:=jd _ s rfl h;have b:aW s<2^kR:=ea a (I2 (by have:kR=2800:=rfl;omega));exact gQ (k:=kR) (by rw[a3];exact b) (by have:kB=100000:=rfl;have:kR=2800:=rfl;omega)
theorem yx(s:List Nat)(h:s.length<=1048576)(K:∀c∈s,c<256):az prog 221 [.str s] (.int .i64 (bY s)):=by
 have X:=VD s;have A:=MV (cS s) 47 (ed (od s).1 h);rw[show(bZ 47 (cS s)).1=bD s from rfl,show(bZ 47 (cS s)).2.1=bK s from rfl,show(bZ 47 (cS s)).2.2=dR s from rfl]at A;refine aO nf Fp mix (by simp[f221]) ?_;simp[f221,-bm];rw[bm];simp[-bm];rw[bm];simp[-bm];refine c2 X ?_;simp[-bm];rw[bm];simp[-bm];refine c2 A ?_;simp[-bm];have ab:=(od s).1;have q:=ov 47 (cS s);have ad:(bD s).length<=1048576:=by have:=q.1;rw[bD];omega
 have ac:(bK s).length<=1048576:=by have:=q.2.1;rw[bK];omega
 have W:∀c∈bD s,c<256:=fun c hc=>K c ((od s).2 c (q.2.2.1 c hc));have V:∀c∈bK s,c<256:=fun c hc=>K c ((od s).2 c (q.2.2.2 c hc));clear q ab;have Z:=Lm (bD s) ad W;have Y:=Lm (bK s) ac V;obtain⟨m,B⟩:∃m,m=(dE (bD s)&&!(bV s&&decide (bD s=[48]))):=⟨_,rfl⟩
 obtain⟨f2,k⟩:∃f2,f2=(m&&(!dR s||(dE (bK s)&&decide (bK s≠[48])&&decide (bK s≠[49])))):=⟨_,rfl⟩
 have L:bY s=if f2=false then 1 else if 600<(bD s).length\/600<(bK s).length then 4 else if dR s=true/\ga (aW (bD s)) (aW (bK s))≠1 then 1 else 0:=by rw[k,B];rfl
 rw[L];clear L A;generalize dR s=fr at*;refine join (fun s'=>aM s'.env 8=.p (.bool m)/\aM s'.env 7=.p (.bool fr)/\aM s'.env 6=.p (.str (bK s))/\aM s'.env 5=.p (.str (bD s))/\s'.heap=[]) ?_ ?_
 ·simp;refine c1 Z ?_;rw[B];cases dE (bD s)
  ·simp
  ·cases bV s
   ·simp
   ·by_cases r:bD s=[48]
    ·simp[r]
    ·simp[r]
 rintro⟨I,aa⟩ ⟨d,f,g,i,t⟩;dsimp only at d f g i t;subst t;refine join (fun s'=>aM s'.env 8=.p (.bool f2)/\aM s'.env 7=.p (.bool fr)/\aM s'.env 6=.p (.str (bK s))/\aM s'.env 5=.p (.str (bD s))/\s'.heap=[]) ?_ ?_
 ·rw[k];cases fr
  ·simp[d,f,g,i]
  ·cases m
   ·simp[d,f,g,i]
   ·simp[d,f,g,i];refine c1 Y ?_;cases dE (bK s)
    ·simp[d,f,g,i]
    ·by_cases r:bK s=[48]
     ·simp[d,f,g,i,r]
     ·by_cases N:bK s=[49]
      ·simp[d,f,g,i,N]
      ·simp[d,f,g,i,r,N]
 clear d f g i I;rintro⟨I,aa⟩ ⟨d,f,g,i,t⟩;dsimp only at d f g i t;subst t;have head:∀(n v:Bool),az prog 272 [.seq [.int .i64 (bC n 1),.int .i64 (bC v 4)]] (.int .i64 (if n=true then 1 else if v=true then 4 else 0)):=fun n v=>by
  have:=V1 [bC n 1,bC v 4] (by simp);cases n<;>cases v<;>exact this
 have H:=uF (!f2) 1;have R:=uF true 4;have wf:=uF false 4;have J:=head (!f2) true;have U:=head (!f2) false;have O:(600<(bD s).length)↔(600:Int)<((bD s).length:Nat):=by omega
 have P:(600<(bK s).length)↔(600:Int)<((bK s).length:Nat):=by omega
 by_cases u:(600:Int)<((bD s).length:Nat)
 ·simp[d,f,g,i];refine c2 H ?_;simp[d,f,g,i,u];refine c2 R ?_;simp;refine cp J (by simp;exact⟨rfl,rfl⟩) ?_;cases f2
  ·simp
  ·simp[O.2 u]
 by_cases x:(600:Int)<((bK s).length:Nat)
 ·simp[d,f,g,i];refine c2 H ?_;simp[d,f,g,i,u,x];refine c2 R ?_;simp;refine cp J (by simp;exact⟨rfl,rfl⟩) ?_;cases f2
  ·simp
  ·simp[P.2 x]
 have E:¬600<(bD s).length:=mt O.1 u;have F:¬600<(bK s).length:=mt P.1 x;have Q:=uF false 1;have ag:=uF true 1;simp[d,f,g,i];refine c2 H ?_;simp[d,f,g,i,u,x];refine c2 wf ?_;simp;refine cp U (by simp;exact⟨rfl,rfl⟩) ?_;cases f2
 ·simp
 cases fr
 ·simp[d,f,g,i,E,F];refine c2 Q ?_;simp[bC];exact⟨by omega,by omega⟩
 have j:dE (bD s)=true/\dE (bK s)=true:=by
  cases S:dE (bD s)
  ·rw[B,S]at k;simp at k
  cases T:dE (bK s)
  ·rw[T]at k;simp at k
  exact⟨rfl,rfl⟩
 obtain⟨ae,G⟩:=Bb j.1;obtain⟨af,n4⟩:=Bb j.2;have y:=vQ (bD s) (by rw[G];exact iR j.1) (by rw[G];omega);have z:=vQ (bK s) (by rw[n4];exact iR j.2) (by rw[n4];omega);rw[ae,G]at y;rw[af,n4]at z;simp only[a0,if_false]at y z;have C:=MS (.mk' (aW (bD s):Nat)) (.mk' (aW (bK s):Nat)) (Dg (iR j.1) (by omega)) (Dg (iR j.2) (by omega));rw[NI.ie,NI.ie]at C;have D:=qK 1;rw[Kg]at D;have hc:=MR (.mk' (et (aW (bD s):Nat) (aW (bK s):Nat))) (.mk' 1) (pO (Dg (iR j.2) (by omega)) (by rw[NI.ie,et,a3,a3,a3];exact Nat.gcd_le_right _ (xm j.2 (fun e=>by rw[e]at k;simp at k)))) (by rw[okW];decide);rw[NI.ie,NI.ie]at hc;have M:=X1 (a:=aW (bD s)) (b:=aW (bK s));generalize jB (et (aW (bD s):Nat) (aW (bK s):Nat)) 1=o at*
 by_cases l:ga (aW (bD s)) (aW (bK s))=1
 ·have w:o=0:=by simpa[l]using M
  simp[d,f,g,i,E,F,l];refine c1 y ?_;simp[d,f,g,i];refine c1 z ?_;simp;refine c2 C ?_;simp;refine c1 D ?_;simp;refine c2 hc ?_;simp[w];refine c2 Q ?_;simp[bC];rw[if_neg (by omega),if_pos l]
 ·have w:¬o=0:=by simpa[l]using M
  simp[d,f,g,i,E,F,l];refine c1 y ?_;simp[d,f,g,i];refine c1 z ?_;simp;refine c2 C ?_;simp;refine c1 D ?_;simp;refine c2 hc ?_;simp[w];refine c2 ag ?_ (h1:=by simp[w]);simp[bC];rw[if_neg (by omega),if_neg l]
def iI(s:List Nat):Prop:=s.length<=1048576/\∀c∈s,c<256
theorem VC(l:List (List Nat)):az prog 295 [.seq (l.map .str)] (.func 336 [] [.cz (.seq (l.map .str))]):=by
 refine aO nf LL mix (by simp[f295]) ?_;simp[f295];exact bB.refl _
def C7(s:List Nat):List PV:=[.int .i64 (bY s)]
theorem Vf(l:List (List Nat))(hl:l.length<=1000000)(hs:∀s∈l,iI s):Stream prog 336 [] [.cz (.seq (l.map .str))] (l.map C7):=by
 intro b k c H' hk d o f;refine gH nf Mb mix (by simp[f336]) ?_;rw[b3]at hk;have g:∀i(h:i<l.length),(l.map C7)[i]?=some (C7 l[i]):=fun i h=>by rw[bv,a7 h];rfl
 simp[f336];refine lp (α:=Nat) (fun i=>⟨[(7,.p (.int .i64 i)),(6,.p (.int .i64 l.length)),(5,.p (.seq (l.map .str))),(0,.map b)],c i⟩) (fun i=>i<=k) (fun i=>l.length-i) 0 (by simp) ?_ (hr:=by simp;exact(d 0 (by omega)).2) (hr2:=(d 0 (by omega)).1);intro i hi;have n:=cJ (i:=i) (by omega)
 by_cases a:i<l.length
 ·have hc:=yx l[i] (hs _ (b2 a)).1 (hs _ (b2 a)).2;have gJ:(i<k/\ia prog b (c i) [.p (.int .i64 (bY l[i]))] (c (i+1)) (.p (.bool true)))\/ia prog b (c i) [.p (.int .i64 (bY l[i]))] H' (.p (.bool false)):=by
   by_cases e:i<k
   ·exact .inl ⟨e,o i _ e (g i a)⟩
   ·have:i=k:=by omega
    subst this;rcases f with⟨e1,_⟩|⟨y,e1,e2⟩
    ·rw[b3]at e1;omega
    ·rw[g i a]at e1;injection e1 with e1;subst e1;exact .inr e2
  simp[a];refine c1 hc ?_;simp;rcases gJ with⟨e,hY⟩|hY
  ·refine⟨c (i+1),_,hY,?_⟩;simp[n];exact rd (i+1) e (h1:=by omega) (hr:=by simp;exact(d (i+1) (by omega)).2) (hr2:=(d (i+1) (by omega)).1)
  ·refine⟨H',_,hY,?_⟩;simp
 ·have m:i=l.length:=by omega
  have j:k=l.length:=by omega
  rcases f with⟨e1,e2⟩|⟨y,e1,e2⟩
  ·simp[a,e2,m,j]
  ·rw[j,List.getElem?_eq_none (by simp)]at e1;cases e1
theorem AZ(p:Nat->Bool):∀n,∃k,k<=n/\(∀j,j<k->p j=true)/\(k=n\/(k<n/\p k=false))
 |0=>⟨0,ec _,fun j h=>by omega,.inl rfl⟩
 |n+1=>by
  obtain⟨k,f,b,a⟩:=AZ p n;rcases a with a|⟨a,d⟩
  ·subst a;cases c:p k
   ·exact⟨k,by omega,b,.inr ⟨by omega,c⟩⟩
   ·refine⟨k+1,ec _,fun j g=>?_,.inl rfl⟩
    by_cases e:j=k
    ·subst e;exact c
    ·exact b j (by omega)
  ·exact⟨k,by omega,b,.inr ⟨by omega,d⟩⟩
def lI(l:List (List Nat))(i:Nat):Int:=match l[i]? with
 |some s=>bY s
 |none=>0
theorem HA:∀(l:List (List Nat))(k:Nat),(∀j,j<k->lI l j=0)->bG (l.map bY)=bG ((l.drop k).map bY)
 |[],k,_=>by simp
 |s::l,0,_=>rfl
 |s::l,k+1,h=>by
  have a:=h 0 (by omega);have b:bY s=0:=a;rw[bb,bG,if_pos b,List.drop_succ_cons];exact HA l k fun j c=>h (j+1) (by omega)
theorem Sr(l:List (List Nat))(hl:l.length<=1000000)(hs:∀s∈l,iI s):az prog 258 [.seq (l.map .str)] (.int .i64 (bG (l.map bY))):=by
 refine aO nf LQ mix (by simp[f258]) ?_;simp[f258];refine c1 (VC l) ?_;simp;have aI:=Vf l hl hs;obtain⟨k,hk,f,c⟩:=AZ (fun i=>decide (lI l i=0)) l.length;have q:∀j,j<k->lI l j=0:=fun j o=>by simpa using f j o
 have d:=HA l k q;refine rf2 aI rfl (by simp) (fun L _=>[.box false (.p (.int .i64 0)),.loop L]) (fun L i=>[.box false (.p (.int .i64 (lI l (i-1)))),.loop (L.dn .ret)]) (fun i=>decide (lI l i=0)) .ret k (by simpa using hk) f (by simpa using c) (fun L=>rfl) ?_ ?_ (fun L=>rfl) ?_ ?_
 ·intro L b i hi;clear b;refine⟨rfl,by simp,fun _ hl=>?_⟩;simp at hl⊢;exact hl
 ·intro L b i x hi hx;have r:x=[.int .i64 (lI l i)]:=by
   rw[bv]at hx;unfold lI;cases h:l[i]? with
   |none=>rw[h]at hx;cases hx
   |some s=>rw[h]at hx;injection hx with hx;rw[<-hx];rfl
  subst r;rw[ei];refine DM nf mix b rfl rfl (by kernel_rfl) ?_;have g:=congrArg eU.env b;dsimp only at g;clear b;generalize lI l i=e
  by_cases he:e=0
  ·subst he;simp;exact .inl rfl
  ·simp[he];exact .inl rfl
 ·intro a L;have a:k=l.length:=by simpa using a
  rw[d,a];simp[bG]
 ·intro a L;have a:k<l.length:=by simpa using a
  have n:¬lI l k=0:=by
   rcases c with t|⟨_,m⟩
   ·omega
   ·simpa using m
  have e1:lI l k=bY l[k]:=by unfold lI;rw[a7 a]
  rw[d,bi a,bb,bG,<-e1,if_neg n];simp[jP]
structure gW where
 x:List Nat
 y:List Nat
def fR(p:gW):PV:=.st 46 [.str p.x,.str p.y]
def qS(p:gW):Prop:=iI p.x/\iI p.y
def gd(p:gW):Int:=bG [bY p.x,bY p.y]
@[simp] theorem aHf(p:gW):aL (fR p)=.agg 46:=rfl
@[simp] theorem aFq(p:gW):cE (fR p)=[.str p.x,.str p.y]:=rfl
@[simp] theorem aDR:prog.cellsOf 46=2:=by kernel_rfl
theorem QM(p:gW)(a:qS p):az prog 192 [.seq [fR p]] (.int .i64 (gd p)):=by
 have hc:=Sr [p.x,p.y] (by simp) (by intro s hs;simp at hs;rcases hs with rfl|rfl;exact a.1;exact a.2);refine aO nf MB mix (by simp[f192]) ?_;simp[f192];refine lp (α:=Nat) (fun i=>⟨[(8,.p (.int .i64 i)),(7,.p (.int .i64 1)),(6,.p (.seq [fR p])),(0,.p (.seq [fR p]))],[]⟩) (fun i=>i=0\/(i=1/\gd p=0)) (fun i=>1-i) 0 (.inl rfl) ?_;rintro i h;rcases h with rfl|⟨rfl,h⟩
 ·simp[ad];refine cp hc (by simp;exact⟨rfl,rfl⟩) ?_;have b:a2.wrap 1=1:=rfl;rw[show bG (dk bY [p.x,p.y])=gd p from rfl]
  by_cases h:gd p=0
  ·simp[h,b];exact rd 1 (.inr ⟨rfl,h⟩)
  ·simp[h]
 ·simp[h]
theorem F7(p:gW)(a:qS p):az prog 92 [fR p] (.int .i64 (gd p)):=by
 refine aO nf Oe mix (by simp[f92]) ?_;simp[f92,ad];refine cp (QM p a) (by simp;exact⟨rfl,rfl⟩) ?_;simp
open Go.Proofs Go.Proofs.YtenbmieafgdjaaaGreatDoor
section
variable{H:Type}{W:World}{aa:Nat->Prop}
theorem yD{n:Nat}{d:DataW H}(h:∃cs,aV prog W aa (bM prog (n+1) 45 d) cs)(a:Rows.uptoBulk d<=1048576):∃s:List Nat,bM prog (n+1) 45 d=.str s/\iI s:=by
 obtain⟨cs,h⟩:=h;cases d with
 |lit l=>
  cases l with
  |string bytes=>
   refine⟨bytes.map (·.toNat),by simp only[bM,Dx],?_,?_⟩
   ·rw[Rows.uptoBulk]at a;rw[b3];omega
   ·intro c hc;obtain⟨u,_,rfl⟩:=br.1 hc;exact u.toNat_lt
  |_=>simp only[bM,Dx,aV]at h
 |_=>simp only[bM,Dx,aV]at h
theorem aCE:∃a b:Field,prog.underlying 47=some (.struct #[a,b])/\a.type=45/\b.type=45:=⟨_,_,underlying47,rfl,rfl⟩
theorem O1:prog.underlyingId 47=46:=by kernel_rfl
theorem TU{m n:Nat}(q:m=n+1){d:DataW H}(h:∃cs,aV prog W aa (bM prog (m+1) 47 d) cs)(e:Rows.uptoBulk d<=1048576):∃p:gW,bM prog (m+1) 47 d=fR p/\qS p:=by
 obtain⟨cs,h⟩:=h;obtain⟨f0,f1,i,t0,t1⟩:=aCE;cases d with
 |agg l=>
  have g:∀x∈l,Rows.uptoBulk x<=1048576:=fun x hx=>by
   have:=sP.yu hx;rw[Rows.uptoBulk]at e;omega
  simp only[bM,i,aV]at h⊢;obtain⟨t,s,f,c,_⟩:=h;rw[O1,aBF]at f;cases f
  match l,c with
  |[],c=>simp[bc]at c
  |[x],c=>simp[bc]at c
  |x::y::r,c=>
   simp only[List.zip_cons_cons,bb,bc,List.zip_nil_left,dp,t0,t1]at c⊢;obtain⟨c0,_,_,g1,_,c1,_,_,g2,_⟩:=c;subst q;obtain⟨a,j,o⟩:=yD ⟨c0,g1⟩ (g x (by simp));obtain⟨b,k,e⟩:=yD ⟨c1,g2⟩ (g y (by simp));exact⟨⟨a,b⟩,by rw[j,k,O1];rfl,o,e⟩
 |_=>simp only[bM,i,aV]at h
theorem QY{n:Nat}{d:DataW H}(h:∃cs,aV prog W aa (bM prog (n+2) 47 d) cs)(a:Rows.uptoBulk d<=1048576):∃p:gW,bM prog (n+2) 47 d=fR p/\qS p:=TU rfl h a
end
def bT:Nat:=1000000000
theorem aY:2<=bT:=by decide
def iP(l:List Nat):List PV:=l.map fun x:Nat=>.int .i64 x
theorem OS(w:List Nat):dV prog 1 (w.map (AV.p∘fun x:Nat=>PV.int .i64 x)):=by
 rw[tY];intro v a;obtain⟨x,_,rfl⟩:=br.1 a;simp[ad,aL,bE]
def eT(n:Nat):PV:=.seq ((aq bT n).map fun x:Nat=>.int .i64 x)
theorem yL:aq bT 0=[]:=by simp[aq,mA]
theorem mX{n:Nat}(b:0<n)(h:n<bT):aq bT n=[n]:=by
 have a:=jg aY (m:=1) (n:=n) (by rw[gb];exact h);rw[<-a,row,List.range_one,bb,dp,ae,e7,fd,e6 h];have:=tV [] n (by omega)
 rwa [db]at this
theorem ue{n:Nat}:aq bT n=[]↔n=0:=by
 constructor
 ·intro h;have:=cj aY n;rw[h,List.length_nil,e7]at this;omega
 ·rintro rfl;exact yL
theorem so(w:List Nat)(h:w.length<=1048576):az prog 260 [.seq (iP w)] (.seq (iP (dW w))):=by
 refine aO nf D1 mix (by simp[f260]) ?_;simp only[iP];simp[f260];refine lp (α:=Nat) (fun i=>⟨[(0,.p (.seq ((w.take i).map fun x:Nat=>.int .i64 x)))],[]⟩) (fun i=>i<=w.length/\dW w=dW (w.take i)) (fun i=>i) w.length (by simp) ?_;rintro i ⟨k1,k2⟩;have hl:(w.take i).length=i:=by rw[cy];omega
 by_cases hi:0<i
 ·obtain⟨j,rfl⟩:∃j,i=j+1:=⟨i-1,by omega⟩
  have f:a2.wrap (j:Int)=j:=aN _ (by omega) (by omega);have a:j<w.length:=by omega
  have e:(0:Int)<(j:Int)+1:=by omega
  have k3:=k2;rw[be a]at k2;have c:min (j+1) w.length=j+1:=by omega
  have d:min ((j:Int)+1) (w.length:Int)=j+1:=by omega
  have g:¬w=[]:=by rintro rfl;simp at a
  by_cases b:w[j]=0
  ·rw[b,Ag]at k2;simp[e,f,a,b,c,d,g];refine⟨by rw[<-bo];exact OS _,?_⟩;refine rd j ⟨by omega,k2⟩ (he:=?_);rw[<-bo,<-bo,List.take_take,Nat.min_eq_left (by omega)];simp
  ·rw[tV _ _ b,<-be a]at k2;simp[e,f,a,b,c,d,g];rw[k2,bo];exact bB.refl _
 ·obtain rfl:i=0:=by omega
  simp[dW]at k2;simp[k2]
def eG(z:Int):PV:=.st 169 [.bool (decide (z<0)),eT z.natAbs]
@[simp] theorem aG8(z:Int):aL (eG z)=.agg 169:=rfl
@[simp] theorem aFl(z:Int):cE (eG z)=[.bool (decide (z<0)),eT z.natAbs]:=rfl
@[simp] theorem aHk(n:Nat):aL (eT n)=.leaf:=rfl
theorem Be(neg:Bool)(w:List Nat)(n:Nat)(c:dW w=aq bT n)(h:w.length<=1048576):az prog 198 [.bool neg,.seq (iP w)] (eG (if neg=true then -(n:Int)else n)):=by
 have a:=so w h;rw[c]at a;refine aO nf Mz mix (by simp[f198]) ?_;have b:(if neg=true then -(n:Int)else n).natAbs=n:=by cases neg<;>simp
 rw[eG,b,eT];have d:=ue (n:=n);have e:decide ((if neg=true then -(n:Int)else n)<0)=(neg&&decide (0<(aq bT n).length)):=by
  cases neg
  ·simp
  ·simp;rw[a4,Ne,d];omega
 rw[e];simp only[iP]at a⊢;generalize aq bT n=x at*;cases neg
 ·simp[f198];refine c1 a ?_;simp[ad]
 ·simp[f198];refine c1 a ?_;simp[ad]
  done
theorem GY{a b:Nat}(h:(aq bT a).length<(aq bT b).length):a<b:=by
 have d:=cj aY a;rcases ej a b with c|c
 ·exact c
 ·have:=dK aY (aq bT a).length b (eb c d);omega
theorem G7{a b i:Nat}(h:a/bT^(i+1)=b/bT^(i+1))(e:ae bT a i<ae bT b i):a<b:=by
 rw[eo,<-em,<-em]at h;have e1:=ee (a/bT^i) bT;have e2:=ee (b/bT^i) bT;rw[ae,ae]at e;rw[h]at e1;rcases ej a b with d|d
 ·exact d
 ·have:=Nat.div_le_div_right (c:=bT^i) d;omega
theorem UE{a b i:Nat}(h:a/bT^(i+1)=b/bT^(i+1))(c:ae bT a i=ae bT b i):a/bT^i=b/bT^i:=by
 rw[eo,<-em,<-em]at h;have e1:=ee (a/bT^i) bT;have e2:=ee (b/bT^i) bT;rw[ae,ae]at c;rw[h]at e1;omega
theorem Hf(a b:Nat)(D:(aq bT a).length<=1048576)(E:(aq bT b).length<=1048576):az prog 200 [eT a,eT b] (.int .i64 (fu a b)):=by
 refine aO nf Fv mix (by simp[f200]) ?_
 by_cases hl:(aq bT a).length=(aq bT b).length
 case neg=>
  have o:¬((aq bT a).length:Int)=(aq bT b).length:=by omega
  by_cases z:(aq bT a).length<(aq bT b).length
  ·have l:((aq bT a).length:Int)<(aq bT b).length:=by omega
   have:=GY z;have hc:fu a b= -1:=if_pos this;simp[f200,eT,o,l,hc]
  ·have l:¬((aq bT a).length:Int)<(aq bT b).length:=by omega
   have:=GY (a:=b) (b:=a) (by omega);have hc:fu a b=1:=by rw[fu,if_neg (by omega),if_pos this]
   simp[f200,eT,o,l,hc]
 have s:∀i(h:i<(aq bT a).length),(aq bT a)[i]?=some (ae bT a i):=fun i h=>by rw[a7 h,eg aY h]
 have u:∀i(h:i<(aq bT b).length),(aq bT b)[i]?=some (ae bT b i):=fun i h=>by rw[a7 h,eg aY h]
 have t:∀i(h:i<(aq bT a).length),(aq bT a)[i]=ae bT a i:=fun i h=>eg aY h;have v:∀i(h:i<(aq bT b).length),(aq bT b)[i]=ae bT b i:=fun i h=>eg aY h;have r:=cj aY a;have n:=cj aY b;rw[<-hl]at n;have w:a/bT^(aq bT a).length=b/bT^(aq bT a).length:=by rw[en r,en n]
 simp only[eT];generalize aq bT a=x at*;generalize aq bT b=y at*;have C:a2.wrap ((y.length:Int)-1)=y.length-1:=aN _ (by omega) (by omega);simp[f200,hl,C];refine lp (α:=Nat) (fun i=>⟨[(5,.p (.int .i64 ((i:Int)-1))),(1,.p (.seq (y.map fun x:Nat=>.int .i64 x))),(0,.p (.seq (x.map fun x:Nat=>.int .i64 x)))],[]⟩) (fun i=>i<=y.length/\a/bT^i=b/bT^i) (fun i=>i) y.length ⟨ec _,by rw[<-hl];exact w⟩ ?_;rintro i ⟨k1,k2⟩
 by_cases hi:0<i
 ·obtain⟨j,rfl⟩:∃j,i=j+1:=⟨i-1,by omega⟩
  have c:j<x.length:=by omega
  have d:j<y.length:=by omega
  have B:a2.wrap ((j:Int)-1)=j-1:=aN _ (by omega) (by omega);have e:=s j c;have g:=u j d;have f:=t j c;have k:=v j d
  by_cases hq:ae bT a j=ae bT b j
  ·simp[c,d,e,g,f,k,hq,B];exact rd j ⟨by omega,UE k2 hq⟩
  ·have q:¬(ae bT a j:Int)=ae bT b j:=by omega
   by_cases m:ae bT a j<ae bT b j
   ·have:=G7 k2 m;have hc:fu a b= -1:=if_pos this;simp[c,d,e,g,f,k,q,m,hc]
   ·have:=G7 k2.symm (show ae bT b j<ae bT a j by omega);have A:ae bT b j<ae bT a j:=by omega
    have hc:fu a b=1:=by rw[fu,if_neg (by omega),if_pos this]
    simp[c,d,e,g,f,k,q,m,A,hc]
 ·obtain rfl:i=0:=by omega
  rw[e7,fd,fd]at k2;have hc:fu a b=0:=by rw[fu,if_neg (by omega),if_neg (by omega)]
  simp[hc]
theorem Vr{n i:Nat}(h:(aq bT n).length<=i):ae bT n i=0:=jf (ea (cj aY n) (dz (by decide) h))
theorem BZ(a i:Nat):az prog 262 [eT a,.int .i64 i] (.int .i64 (ae bT a i:Nat)):=by
 refine aO nf D0 mix (by simp[f262]) ?_
 by_cases h:i<(aq bT a).length
 ·have b:(aq bT a)[i]=ae bT a i:=eg aY h;rw[eT,<-b];generalize aq bT a=x at*;simp[f262,h]
 ·rw[Vr (by omega),eT];generalize aq bT a=x at*;simp[f262,h]
def dU(i n:Nat):List AV:=(b5 i).map fun j=>.p (.int .i64 (ae bT n j:Nat))
theorem pG(i n:Nat):dU (i+1) n=dU i n++[.p (.int .i64 (ae bT n i:Nat))]:=by
 rw[dU,List.range_succ,List.map_append];rfl
theorem gZ(i n:Nat):(dU i n).length=i:=by simp[dU]
@[simp] theorem aGQ{N:Nat×Nat->Prop}{n i:Nat}:aP N (dU i n)=True:=by
 rw[b9,eq_iff_iff,iff_true];intro v a;simp only[dU,br]at a;obtain⟨x,_,rfl⟩:=a;trivial
theorem Kb(i n:Nat):eA (dU i n)=some ((row bT i n).map fun x:Nat=>.int .i64 x):=by
 have:dU i n=(row bT i n).map (AV.p∘fun x:Nat=>PV.int .i64 x):=by
  rw[dU,row,dq];rfl
 rw[this];exact Iu
theorem Lu(i n:Nat):dU i n=(row bT i n).map (AV.p∘fun x:Nat=>PV.int .i64 x):=by
 rw[dU,row,dq];rfl
theorem VM{n i:Nat}(h:n<bT^i)(a:i=0\/bT^(i-1)<=n):row bT i n=aq bT n:=by
 have hl:(aq bT n).length=i:=by
  have b:=dK aY i n h;rcases a with rfl|a
  ·omega
  ·have:=HB aY a;omega
 have:=Xy aY n;rw[hl]at this;exact this.symm
theorem Wo(a b:Nat)(I:(aq bT a).length<=1000000)(J:(aq bT b).length<=1000000):az prog 199 [eT a,eT b] (eT (a+b)):=by
 refine aO nf Fw mix (by simp[f199]) ?_;have v:=cj aY a;have w:=cj aY b;have C:∀i,i<(aq bT a).length->bT^i<=a:=fun i h=>by
  rcases ej a (bT^i)with c|c
  ·have:=dK aY i a c;omega
  ·exact c
 have D:∀i,i<(aq bT b).length->bT^i<=b:=fun i h=>by
  rcases ej b (bT^i)with c|c
  ·have:=dK aY i b c;omega
  ·exact c
 have A:∀i,0<dc bT a b i->bT^i<=a+b:=fun i h=>by
  rw[dc]at h;have c:bT^i<=a% bT^i+b% bT^i:=by
   rcases ej (a% bT^i+b% bT^i) (bT^i)with d|d
   ·rw[en d]at h;omega
   ·exact d
  have:=gi a (bT^i);have:=gi b (bT^i);omega
 have f:=fun i=>BZ a i;have g:=fun i=>BZ b i;have B:∀i,(aq bT a).length<=i->(aq bT b).length<=i->dc bT a b i=0->a+b<bT^i:=fun i c d s=>by
  have l:=ea v (dz (show 0<bT by decide) c);have m:=ea w (dz (show 0<bT by decide) d);rw[dc,e6 l,e6 m]at s;rcases ej (a+b) (bT^i)with e|e
  ·exact e
  ·have:=Nat.div_pos e (e9 (show 0<bT by decide));omega
 have E:∃M,M=max (aq bT a).length (aq bT b).length:=⟨_,rfl⟩
 obtain⟨M,H⟩:=E;simp only[eT]at f g⊢;have F:=fun i h d=>VM (n:=a+b) (i:=i) h d;generalize aq bT (a+b)=z at*;generalize aq bT a=x at*;generalize aq bT b=y at*;simp[f199];refine lp (α:=Nat) (fun i=>⟨[(7,.p (.int .i64 i)),(6,.p (.int .i64 (dc bT a b i:Nat))),(5,.sl 0 i 1 0 i),(1,.p (.seq (y.map fun x:Nat=>.int .i64 x))),(0,.p (.seq (x.map fun x:Nat=>.int .i64 x)))],[.arr .grow i 1 (dU i (a+b))]⟩)
  (fun i=>i<=M+1/\(i=0\/bT^(i-1)<=a+b)) (fun i=>M+1-i) 0 ⟨by omega,.inl rfl⟩ ?_ (he:=by simp[wG,dU]) (hh:=by simp[dU])
 rintro i ⟨k1,k2⟩;have o:=cJ (i:=i) (by omega);have K:=lh aY a b i;obtain⟨l,m⟩:=pA aY a b i;have N:=cq aY a i;have O:=cq aY b i;have t:bT=1000000000:=rfl;have q:a2.wrap ((ae bT a i:Int)+ae bT b i)=ae bT a i+ae bT b i:=aN _ (by omega) (by omega);have r:a2.wrap ((ae bT a i:Int)+ae bT b i+dc bT a b i)=ae bT a i+ae bT b i+dc bT a b i:=aN _ (by omega) (by omega);have d1:((ae bT a i:Int)+ae bT b i+dc bT a b i).tmod 1000000000=(ae bT (a+b) i:Nat):=by
  rw[Int.tmod_eq_emod_of_nonneg (by omega),<-l,t];omega
 have d2:((ae bT a i:Int)+ae bT b i+dc bT a b i).tdiv 1000000000=(dc bT a b (i+1):Nat):=by
  rw[Int.tdiv_eq_ediv_of_nonneg (by omega),<-m,t];omega
 have d3:a2.wrap (dc bT a b (i+1):Nat)=(dc bT a b (i+1):Nat):=by have:=lh aY a b (i+1);exact aN _ (by omega) (by omega)
 have j:b0 i (dU i (a+b))=dU i (a+b):=a5 (by rw[gZ];exact ec _)
 by_cases hx:i<x.length
 ·simp[hx];refine c2 (f i) ?_;simp;refine c2 (g i) ?_;simp[q,r,d1,d2,d3,gZ,j,<-pG];refine⟨by simp only[cT];omega,?_⟩;refine rd (i+1) ⟨by omega,.inr (by rw[ei];exact ed (C i hx) (by omega))⟩ (by omega) (he:=by simp[o])
 by_cases k:i<y.length
 ·simp[hx,k];refine c2 (f i) ?_;simp;refine c2 (g i) ?_;simp[q,r,d1,d2,d3,gZ,j,<-pG];refine⟨by simp only[cT];omega,?_⟩;refine rd (i+1) ⟨by omega,.inr (by rw[ei];exact ed (D i k) (by omega))⟩ (by omega) (he:=by simp[o])
 by_cases hc:0<dc bT a b i
 ·have L:i=M:=by
   rcases ej M i with h|h
   ·have e0:=pA aY a b M;have c:ae bT a M=0:=jf (ea v (dz (by decide) (by omega)));have d:ae bT b M=0:=jf (ea w (dz (by decide) (by omega)));have s:=lh aY a b M;have e:i=M+1:=by omega
    subst e;rw[c,d]at e0;rw[<-e0.2,en (by omega)]at hc;omega
   ·omega
  simp[hx,k,hc];refine c2 (f i) ?_;simp;refine c2 (g i) ?_;simp[q,r,d1,d2,d3,gZ,j,<-pG];refine⟨by simp only[cT];omega,?_⟩;refine rd (i+1) ⟨by omega,.inr (by rw[ei];exact A i hc)⟩ (by omega) (he:=by simp[o])
 ·have u:dc bT a b i=0:=by omega
  have G:=F i (B i (by omega) (by omega) u) k2;rw[<-G];simp[hx,k,u];refine⟨by rw[gZ];exact ec _,?_⟩;rw[j,Lu];simp
theorem Lj(a b:Nat)(A:b<=a)(F:(aq bT a).length<=1000000):az prog 201 [eT a,eT b] (eT (a-b)):=by
 refine aO nf Fu mix (by simp[f201]) ?_;have D:=cj aY a;have j:=fun i=>BZ b i;have B:∀i(h:i<(aq bT a).length),(aq bT a)[i]?=some (ae bT a i):=fun i h=>by rw[a7 h,eg aY h]
 have C:∀i(h:i<(aq bT a).length),(aq bT a)[i]=ae bT a i:=fun i h=>eg aY h;have E:dW (row bT (aq bT a).length (a-b))=aq bT (a-b):=jg aY (eb (Nat.sub_le a b) D);have e:=so (row bT (aq bT a).length (a-b)) (by rw[KA];omega);rw[E]at e;simp only[eT]at j⊢;simp only[iP]at e;generalize aq bT (a-b)=z at*;generalize aq bT a=x at*;generalize aq bT b=y at*;simp[f201];refine lp (α:=Nat) (fun i=>⟨[(7,.p (.int .i64 i)),(6,.p (.int .i64 (eM bT a b i:Nat))),(5,.sl 0 i 1 0 i),(1,.p (.seq (y.map fun x:Nat=>.int .i64 x))),(0,.p (.seq (x.map fun x:Nat=>.int .i64 x)))],[.arr .grow i 1 (dU i (a-b))]⟩)
  (fun i=>i<=x.length) (fun i=>x.length-i) 0 (by simp) ?_ (he:=by simp[Af,dU]) (hh:=by simp[dU])
 intro i k1;have s:=cJ (i:=i) (by omega);have r:b0 i (dU i (a-b))=dU i (a-b):=a5 (by rw[gZ];exact ec _);have G:bT=1000000000:=rfl;have J:=cq aY a i;have K:=cq aY b i;have L:=cq aY (a-b) i;have M:eM bT a b i<=1:=by rw[eM];split<;>omega
 have u:a2.wrap ((ae bT a i:Int)-ae bT b i)=ae bT a i-ae bT b i:=aN _ (by omega) (by omega);have n:a2.wrap ((ae bT a i:Int)-ae bT b i-eM bT a b i)=ae bT a i-ae bT b i-eM bT a b i:=aN _ (by omega) (by omega)
 by_cases hx:i<x.length
 ·have o:=B i hx;have q:=C i hx;rcases I3 aY A i with⟨v,g,w⟩|⟨v,g,w⟩
  ·have m:(ae bT a i:Int)-ae bT b i-eM bT a b i<0:=by omega
   have f:a2.wrap ((ae bT a i:Int)-ae bT b i-eM bT a b i+1000000000)=(ae bT (a-b) i:Nat):=by rw[aN _ (by omega) (by omega)];omega
   simp[hx,o,q];refine e2 (j i) ?_;simp[u,n,m,f,gZ,r,<-pG];refine⟨by simp only[cT];omega,?_⟩;refine rd (i+1) hx (he:=by simp[s,g])
  ·have m:¬(ae bT a i:Int)-ae bT b i-eM bT a b i<0:=by omega
   have f:(ae bT a i:Int)-ae bT b i-eM bT a b i=(ae bT (a-b) i:Nat):=by omega
   rw[f]at m n;simp[hx,o,q];refine e2 (j i) ?_;simp[u,n,f,gZ,r,<-pG];refine⟨by simp only[cT];omega,?_⟩;refine rd (i+1) hx (he:=by simp[s,g])
 ·have:i=x.length:=by omega
  subst this;have k:=Lu x.length (a-b);have d:(row bT x.length (a-b)).length=x.length:=KA;generalize row bT x.length (a-b)=l at e k d;have H:b0 x.length l=l:=a5 (by omega);rcases l with _|⟨c,t⟩
  ·simp at d;simp[k];refine cp e (by simp[<-d];exact⟨rfl,rfl⟩) ?_;simp
  ·have I:b0 x.length (PV.int .i64 c::dk (fun x:Nat=>PV.int .i64 x) t)=PV.int .i64 c::dk (fun x:Nat=>PV.int .i64 x) t:=a5 (by simp at d⊢;omega);simp at d;simp[k];refine cp e (by simp[<-d];exact⟨rfl,rfl⟩) ?_;simp
def de(n:Nat)(f:Nat->Nat):List AV:=(b5 n).map fun j=>.p (.int .i64 (f j:Nat))
theorem uu(n:Nat)(f:Nat->Nat):(de n f).length=n:=by simp[de]
theorem I7(n:Nat):a8 n (AV.p (.int .i64 0))=de n fun _=>0:=by
 apply da (by simp[de]);intro i a b;simp[de]
theorem rX{n j:Nat}(f:Nat->Nat)(h:j<n):(de n f)[j]?=some (.p (.int .i64 (f j:Nat))):=by
 rw[de,bv,ce h];rfl
theorem Bz{n i:Nat}(f g:Nat->Nat)(h:∀j,j<n->j≠i->g j=f j):(de n f).set i (.p (.int .i64 (g i:Nat)))=de n g:=by
 apply da (by simp[de]);intro j c b;rw[uu]at b;rw[List.getElem_set];simp only[de,List.getElem_map,List.getElem_range]
 by_cases a:i=j
 ·subst a;rw[if_pos rfl]
 ·rw[if_neg a,h j b (fun e=>a e.symm)]
@[simp] theorem aGP{N:Nat×Nat->Prop}{n:Nat}{f:Nat->Nat}:aP N (de n f)=True:=by
 rw[b9,eq_iff_iff,iff_true];intro v a;simp only[de,br]at a;obtain⟨x,_,rfl⟩:=a;trivial
theorem xB{n:Nat}{f g:Nat->Nat}(h:∀j,j<n->f j=g j):de n f=de n g:=by
 rw[de,de];apply List.map_congr_left;intro j a;rw[h j (List.mem_range.1 a)]
end Go.au
