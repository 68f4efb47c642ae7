import Derived.Test.YtgpphcmkjhklgaaGreatDoorPG
import Derived.Test.YtgpphcmkjhklgaaGreatDoorThE
import Derived.Test.YtgpphcmkjhklgaaGreatDoorPE
import Derived.Lib.AtoiAll
import Derived.Test.YtgpphcmkjhklgaaGreatDoorPC
/- Parts of a proof. -/
set_option linter.unusedSimpArgs false
set_option linter.unusedVariables false
set_option linter.unusedSectionVars false
open Go.Proofs.Tryz
open Bool renaming and_eq_true->aT, false_eq_true->a0
open Go renaming FuncId->a1
open Go.IntKind renaming i64->a2
open Int renaming natAbs_natCast->a3
open List renaming length_pos_iff->a4, take_of_length_le->a5, length_singleton->a6, getElem?_eq_getElem->a7, replicate->a8, length_append->a9, map_cons->bb, take_succ_eq_append_getElem->be, drop_eq_getElem_cons->bi, append_nil->bk, take_append_drop->bl, map_take->bo, mem_map->bv, getElem?_map->b0, take->b1, reverse_nil->b2, getElem_mem->b3, length_map->b4, foldl_cons->b5, range->cb, all_cons->cc, dropWhile_sublist->ce, getElem?_range->ck, flatten_append->cv, dropWhile_cons->cx, mem_singleton->cy, length_take->c6, length_cons->c9, flatten_nil->da, ext_getElem->db, nil_append->dg, mem_append->dk, map->dl, mem_cons->dp, map_nil->dq, map_map->dz
open Nat renaming pow_le_pow_right->ea, lt_of_lt_of_le->eb, lt_of_le_of_lt->ec, le_refl->ed, le_trans->ee, div_add_mod->ei, add_sub_cancel->ej, lt_or_ge->em, div_div_eq_div_mul->en, div_eq_of_lt->eo, pow_succ->eq, mul_assoc->ew, lt_trans->e6, mod_eq_of_lt->e7, pow_zero->e8, mul_comm->e9, pow_pos->fb, mul_le_mul_right->fd, div_one->fl, pow_le_pow_left->fm, div_mul_le_self->fv, div_lt_self->fH, add_assoc->gb, gcd->gc, pow_one->ge, pow_mul->gg, add_mul->gi, mod_lt->gj, mod_le->gm
open Option.some renaming injEq->gt
open UInt8 renaming ofNat->gx
namespace Go.aw
open Go.Proofs
set_option linter.unusedSectionVars false
theorem zL:dy prog 224=some [1,1]:=by kernel_rfl
section
variable{w:World}{aa ah:Nat->Prop}{β:Bd}{H:Heap}
theorem Rs{ak:Nat}{c0 c1 v:Value}{T:TypeId}(h:w.heap[ak]?=some (.cells #[c0,c1] T (0,0))):w.setCell ⟨ak,0,none⟩ v=w.setRow ak #[v,c1]:=by
 obtain⟨d,a⟩:=Array.getElem?_eq_some_iff.1 h;unfold World.setCell World.setRow;congr 1;apply Array.ext
 ·simp
 ·intro i b c;simp only[Array.getElem_modify]
  by_cases hi:ak=i
  ·subst hi;simp[a]
  ·simp[hi]
theorem QU{t x:AV}{cs:Array Value}(g:t=gK 224 [.p .du,x]\/t=.st 224 [.p .du,x])(h:bc prog w aa β H t cs.toList):∃y,cs=#[.pointer none,y]/\bc prog w aa β H x [y]:=by
 have a:bc prog w aa β H (.st 224 [.p .du,x]) cs.toList:=by
  rcases g with rfl|rfl
  ·exact JW.1 h
  ·exact h
 simp only[bc,zL,gt]at a;obtain⟨l,k,rfl,b,d⟩:=a;simp only[bF,bc,aS]at b;obtain⟨c,i,rfl,rfl,_,c2,j,rfl,e,f,rfl⟩:=b
 match c2,f with
 |[y],_=>exact⟨y,Array.ext' (by simpa using d),e⟩
theorem QN{b:Nat}{x:AV}{cs:Array Value}(h:bc prog w aa β H (.st 224 [.ptr b [],x]) cs.toList):∃v y,cs=#[v,y]/\bG prog β H (.ptr b []) v:=by
 simp only[bc,zL,gt]at h;obtain⟨l,j,rfl,a,d⟩:=h;simp only[bF,bc]at a;obtain⟨c,g,rfl,⟨v,rfl,f⟩,_,c2,i,rfl,k,e,rfl⟩:=a
 match c2,e with
 |[y],_=>exact⟨v,y,Array.ext' (by simpa using d),f⟩
end
theorem CR{H:Heap}{b:Nat}{t x:AV}(f:H[b]?=some (.box false t))(i:t=gK 224 [.p .du,x]\/t= .st 224 [.p .du,x]):
 cw prog 225 H [.ptr b []] (H.set b (.box false (.st 224 [.ptr b [],x]))) (.p (.aE [])):=by
 refine⟨iy func225 (by kernel_rfl),fun w aa ah β J g j K=>?_⟩;simp only[br,au]at j;obtain⟨v,vs,rfl,⟨_,I,L,M,rfl,m,B⟩,rfl⟩:=j;simp only[fK,gt]at m;subst m;obtain⟨rfl,rfl⟩:=B (.inl ⟨false,t,f⟩);obtain⟨cs,T,k1,k2,k3,_,k5⟩:=g.cg b _ f;have F:ad t=.agg 224:=by
  rcases i with rfl|rfl
  ·exact AL _ _
  ·rfl
 have q:T=225:=by
  rw[F]at k5;exact df (by simpa[iS,Gl.bx,XV]using k5)
 subst q;obtain⟨y,rfl,G⟩:=QU i k2;have o:¬aa (β.ak b)/\¬ah (β.ak b):=by simpa[b9]using k3
 refine(QJ (β.ak b) w (by simp[World.cell?,k1]) (by simp[World.shape?,k1]) (by simp[World.frozen?,k1])).mono ?_;rintro e w' ⟨rfl,rfl⟩;rw[Rs k1];have aF:bX β H β (H.set b (.box false (.st 224 [.ptr b [],x]))):=ou f (.inl ⟨_,_,_,_,rfl,rfl⟩);have aj:∀z,aG H z->aG (H.set b (.box false (.st 224 [.ptr b [],x]))) z:=lD f (fun _ h=>h);have r:b<H.length:=(List.getElem?_eq_some_iff.1 f).1;have u:(H.set b (.box false (.st 224 [.ptr b [],x])))[b]?=some (.box false (.st 224 [.ptr b [],x])):=List.getElem?_set_self r;have n:aC (aG H) x:=by
  have:=g.refs b _ f;rcases i with rfl|rfl
  ·simp only[Obj.refs]at this;unfold gK at this
   split at this
   ·rename_i l d;have d:=lB d
    match l,d with
    |[a,c],d=>simp at d;rw[d.2];simp[aC]
    |[],d=>simp at d
    |[_],d=>simp at d
    |_::_::_::_,d=>simp at d
   ·simp only[aC,aQ]at this;exact this.2.1
  ·simp only[Obj.refs,aC,aQ]at this;exact this.2.1
 have E:∀k,aa k->(w.setRow (β.ak b) #[.pointer (some ⟨β.ak b,0,none⟩),y]).heap[k]?=w.heap[k]?:=fun k A=>setRow_other w _ k _ (fun s=>o.1 (s▸A));have D:Obj.refs (aG (H.set b (.box false (.st 224 [.ptr b [],x])))) (.box false (.st 224 [.ptr b [],x])):=by
  simp only[Obj.refs,aC,aQ,and_true];exact⟨⟨_,u,trivial⟩,aC.mono aj _ n⟩
 have C:=pC g f trivial (o':=.box false (.st 224 [.ptr b [],x])) trivial (fun _ h=>h) k1 (new:=#[.pointer (some ⟨β.ak b,0,none⟩),y]) o aF
  ⟨_,225,setRow_heap w _ _ _ 225 _ k1,by
   simp only[bc,zL,gt];refine⟨_,[[.pointer (some ⟨β.ak b,0,none⟩)],[y]],rfl,?_,rfl⟩;simp only[bF,bc];exact⟨_,_,rfl,⟨_,rfl,⟨rfl,_,_,0,rfl,rfl,fun _=>⟨rfl,rfl⟩⟩⟩,rfl,_,_,rfl,bc.mono (fun _ x=>x) E aF _ _ n G,rfl,rfl⟩,k3,by simp,by simp[ad,iS,Gl.bx]⟩ D
 exact⟨_,β,aa,rfl,C,by simp[au,aA,bp],by simp[aC]⟩
theorem M7{H:Heap}{b:Nat}{x:AV}(c:H[b]?=some (.box false (.st 224 [.ptr b [],x]))):cw prog 225 H [.ptr b []] H (.p (.aE [])):=by
 refine⟨iy func225 (by kernel_rfl),fun w aa ah β l g f m=>?_⟩;simp only[br,au]at f;obtain⟨v,vs,rfl,⟨_,j,n,i,rfl,a,d⟩,rfl⟩:=f;simp only[fK,gt]at a;subst a;obtain⟨rfl,rfl⟩:=d (.inl ⟨false,_,c⟩);obtain⟨cs,T,k1,k2,k3,_,k5⟩:=g.cg b _ c;obtain⟨v,y,rfl,h⟩:=QN k2;simp only[bG,bK]at h;obtain⟨_,k,o,i,rfl,a,d⟩:=h;simp only[fK,gt]at a;subst a;obtain⟨rfl,rfl⟩:=d (.inl ⟨false,_,c⟩);refine(QI (β.ak b) w (by simp[World.cell?,k1])).mono ?_;rintro e w' ⟨rfl,rfl⟩;exact⟨_,β,aa,rfl,bO.refl g,by simp[au,aA,bp],by simp[aC]⟩
set_option maxHeartbeats 4000000
set_option maxRecDepth 100000
@[simp] theorem gu8:(Gl.u8:TypeId)=5:=(rfl)
def dw(t:List Nat):List AV:=t.map fun(c:Nat)=>AV.p (.int .u8 (c:Int))
theorem uz(t:List Nat):(dw t).length=t.length:=by simp[dw]
theorem aCn(a t:List Nat):dw (a++t)=dw a++dw t:=by simp[dw]
theorem Bx:∀t:List Nat,eC prog 1 (dw t)
 |[]=>by simp[dw,eC]
 |c::t=>by
  have:=Bx t;simp only[dw,bb]at this⊢;simp[eC];exact this
theorem Hp:∀(t:List Nat),(∀c∈t,c<256)->bytesOf (dw t)=some t
 |[],_=>rfl
 |c::t,a=>by
  have b:=a c (by simp);have:=Hp t fun c hc=>a c (by simp[hc]);show bytesOf (.p (.int .u8 (c:Int))::dw t)=some (c::t);rw[bytesOf,if_pos ⟨by omega,by omega⟩,this];simp
theorem M8(t:List Nat)(a:t≠[])(h:t.length<=1048576):cw prog 151 [.box false (.p (.st 224 [.du,.aO]))] [.ptr 0 [],.p (.str t)]
 [.box false (.st 224 [.ptr 0 [],.sl 1 0 1 0 t.length]),.arr .bytes 0 1 (dw t)] (.p (.aE [.int .i64 t.length,.fD])):=by
 refine fP nf CB mix (by simp[f151]) ?_;simp[f151];refine ci (CR (b:=0) (t:=.p (.st 224 [.du,.aO])) (x:=.p .aO) rfl (.inl rfl)) ?_;simp;refine⟨⟨Bx t,by simp only[cM];omega⟩,?_⟩;simp[a,dw]
theorem M9(a t:List Nat)(v n:Nat)(f:n=a.length)(c:t≠[])(h:t.length<=1048576)(e:a.length<=1048576):cw prog 151 [.box false (.st 224 [.ptr 0 [],.sl 1 v 1 0 n]),.arr .bytes v 1 (dw a)] [.ptr 0 [],.p (.str t)]
 [.box false (.st 224 [.ptr 0 [],.sl 1 (v+1) 1 0 (n+t.length)]),.arr .bytes (v+1) 1 (dw (a++t))] (.p (.aE [.int .i64 t.length,.fD])):=by
 refine fP nf CB mix (by simp[f151]) ?_;simp[f151];refine ci (M7 (b:=0) (x:=.sl 1 v 1 0 n) rfl) ?_;simp;refine⟨⟨Bx t,by rw[uz];omega,by rw[uz];simp only[cM];omega⟩,?_⟩;have d:b1 n (dw a)=dw a:=a5 (by rw[uz];omega);simp[c,d,aCn];exact .inl rfl
theorem XS(a:List Nat)(v n:Nat)(b:n=a.length)(d:a≠[])(g:a.length<=1048576)(e:∀c∈a,c<256):cw prog 229 [.box false (.st 224 [.ptr 0 [],.sl 1 v 1 0 n]),.arr .bytes v 1 (dw a)] [.ptr 0 []]
 [.box false (.st 224 [.ptr 0 [],.sl 1 v 1 0 n]),.dead] (.p (.str a)):=by
 refine fP nf Mh mix (by simp[f229]) ?_;have f:0<a.length:=a4.2 d;simp[f229];refine Xo (ar:=v) (es:=dw a) rfl rfl (by rw[b];exact f) (by simp[dw,b]) ?_;simp;refine Xq (ar:=v) (es:=dw a) (l:=a) rfl rfl rfl (by omega) (by simp[uz,b]) (by omega) rfl ?_ ?_ ?_ ?_
 ·kernel_rfl
 ·kernel_rfl
 ·rw[a5 (by rw[uz];simp[b])];exact Hp a e
 simp
 repeat' with_reducible refine And.intro ?_ ?_
 all_goals rfl
theorem A3{σ:Nat->Nat}:∀{a b:List AV},cB σ (a++b)=cB σ a++cB σ b
 |[],b=>by simp[cB]
 |x::a,b=>by simp[cB,A3 (a:=a)]
theorem yt:an wB tB=[tB]:=sy (by decide) (by decide)
theorem UM(a:NI)(hs:a.sm=true):az prog 250 [eI a] (.str (cE a.v)):=by
 refine aL nf CA mix (by simp[f250]) ?_;have b:=NI.oN hs;simp[f250,ad,lJ hs,mw hs,di,cK];refine c1 (FA a.v b.1 b.2) ?_;simp
theorem KJ{m k A L:Nat}(e:0<m)(h:m*tB^k<=A)(a:A<wB^L):k<64*L:=by
 have b:2^k<=tB^k:=fm (by decide) k;have c:tB^k<=m*tB^k:=Nat.le_mul_of_pos_left _ e;rw[show wB=2^64 from rfl,<-gg]at a;have d:2^k<2^(64*L):=ec (ee b (ee c h)) a
 rwa [Nat.pow_lt_pow_iff_right (by decide)]at d
theorem UL(a:NI)(hs:a.sm=false)(Y:okW a.v)(aw:(bm a.v.natAbs).length<=1000000):az prog 250 [eI a] (.str (cE a.v)):=by
 have N:=nq (eI a) a.v (lM a);have aJ:=NI.yf (a:=a) (by rw[hs];decide);have ai:=eb (bZ aZ a.v.natAbs) (ea (show 0<wB by decide) (nj Y));obtain⟨c,cs,G⟩:=nD hs;refine aL nf CA mix (by simp[f250]) ?_;simp[f250,ad,G,di,cK];refine c1 N ?_;simp;refine qS (fun s'=>∃b:List (List Nat),jh 0 b=jh a.v.natAbs []/\(∀p∈b,p≠[]/\p.length<=18)/\b≠[]/\b.length<=57600000/\aK s'.env 3=.p (.bool (decide (a.v<0)))/\aK s'.env 6=.sl 2 b.length 1 0 b.length/\∃o,s'.heap=[.hole,o,.arr .grow b.length 1 (b.map fun p=>.p (.str p))]) ?_ ?_
 ·refine lp (α:=Nat×List (List Nat)×Bool) (fun x=>⟨[(6,.sl 2 x.2.1.length 1 0 x.2.1.length),(5,.sl 1 0 1 0 1),(4,.p (eN x.1)),(3,.p (.bool (decide (a.v<0))))],[.hole,.arr (if x.2.2=true then .frozen else .exact) 0 1 [.p (.int .u64 1000000000000000000)],.arr .grow x.2.1.length 1 (x.2.1.map fun p=>.p (.str p))]⟩)
   (fun x=>x.1<=a.v.natAbs/\jh x.1 x.2.1=jh a.v.natAbs []/\(∀p∈x.2.1,p≠[]/\p.length<=18)/\x.2.1.length<=57600000/\x.1*tB^x.2.1.length<=a.v.natAbs) (fun x=>x.1) (a.v.natAbs,[],false) ⟨ed _,rfl,by simp,by simp,by simp⟩ ?_
  rintro⟨m,b,f⟩ ⟨k1,k2,k3,k5,k4⟩;dsimp only at k1 k2 k3 k5 k4;rcases f with _|_
  ·simp only[a0,if_false];have ax:(an wB m).length<=900000:=by
    have:=dB aZ _ _ (ec k1 (bZ aZ a.v.natAbs));have:=nj Y;omega
   by_cases hm:m=0
   ·subst hm;have aa:b≠[]:=by
     rintro rfl;rw[jh,jh,if_pos rfl,if_neg (by omega)]at k2;have:=xF a.v.natAbs;rw[b2,da,bk,bk]at k2;rw[<-k2]at this;simp at this
    simp[eN,kD];refine⟨b,k2,k3,aa,k5,?_⟩;simp
   ·have d:=Be m tB (by decide) (by omega) (by rw[yt];decide);have Z:an wB m≠[]:=mt rL.1 hm;have C:0<(an wB m).length:=a4.2 Z;have aF:=IL hm b;have B:∀p∈b++[dY m],p≠[]/\p.length<=18:=by
     intro p N;rcases dk.1 N with h|h
     ·exact k3 p h
     ·rw[cy.1 h];exact⟨HI m,HJ m⟩
    have A:m/tB<m:=fH (by omega) (by decide);have aA:=KJ (show 0<m by omega) k4 ai;have w:m/tB*tB^(b++[dY m]).length<=a.v.natAbs:=by
     rw[a9,a6,eq,e9 (tB^b.length),<-ew];exact ee (fd _ (fv _ _)) k4
    have y:(b++[dY m]).length<=57600000:=by rw[a9,a6];omega
    have r:m% tB<tB:=gj _ (by decide);have Q:m/tB=0->m% tB=m:=fun h=>by have:=ei m tB;rw[h]at this;omega
    simp only[eN]at d⊢;rw[yt]at d;have P:=rL (n:=m/tB);have L:=MK (m% tB) (e6 r (by decide));have q:=ML [48] (18-(bm (m% tB)).length) (by omega) (by simp;omega);have aB:=BL r;have ab:=Oz r;rw[A2]at q;have l:dY m=if m/tB=0 then bm (m% tB)else a8 (18-(bm (m% tB)).length) 48++bm (m% tB):=by
     rw[dY,ab];split
     ·rename_i h;rw[Q h]
     ·rfl
    have s:a2.wrap (18-((bm (m% tB)).length:Int))=(18-(bm (m% tB)).length:Nat):=by rw[aM _ (by omega) (by omega)];omega
    have aE:((18-(bm (m% tB)).length:Nat):Int)=18-((bm (m% tB)).length:Int):=by omega
    have u:∀t,t=dY m->(b.map fun p=>AV.p (.str p))++[AV.p (.str t)]=(b++[dY m]).map fun p=>AV.p (.str p):=fun t e=>by rw[e];simp
    by_cases F:m% tB=0
    ·have j:¬m/tB=0:=fun h=>hm (by rw[<-Q h];exact F);have E:0<(an wB (m/tB)).length:=a4.2 (mt P.1 j);have e:a8 (18-(bm (m% tB)).length) 48++bm (m% tB)=dY m:=by rw[l,if_neg j]
     rw[F,pJ]at e q s;rw[F,kD]at d;simp only[a6]at e q s;have hf:=u _ e;generalize D:an wB (m/tB)=ah at*;simp[C];refine cp d (by simp;exact⟨rfl,rfl⟩) ?_ (h1:=by simp[tB]);simp[E,s];refine c2 q ?_;simp;refine⟨by simp only[cM];omega,?_⟩;refine rd (m/tB,b++[dY m],true) ⟨by omega,by rw[aF];exact k2,by simpa using B,y,w⟩ A (he:=by simp[D]) (hh:=by simp only[<-hf];simp) (hr2:=by simp only[<-hf];simp)
    ·have ae:an wB (m% tB)=[m% tB]:=sy (by omega) (e6 r (by decide));rw[ae]at d
     by_cases j:m/tB=0
     ·have e:bm (m% tB)=dY m:=by rw[l,if_pos j]
      have hf:=u _ e;rw[j,kD]at d;simp[C];refine cp d (by simp;exact⟨rfl,rfl⟩) ?_ (h1:=by simp[tB]);simp;refine c2 L ?_;simp;refine⟨by simp only[cM];omega,?_⟩;refine rd (m/tB,b++[dY m],true) ⟨by omega,by rw[aF];exact k2,by simpa using B,y,w⟩ A (he:=by simp[j,kD]) (hh:=by simp only[<-hf];simp) (hr2:=by simp only[<-hf];simp)
     ·have E:0<(an wB (m/tB)).length:=a4.2 (mt P.1 j);have e:a8 (18-(bm (m% tB)).length) 48++bm (m% tB)=dY m:=by rw[l,if_neg j]
      have hf:=u _ e;generalize D:an wB (m/tB)=ah at*;simp[C];refine cp d (by simp;exact⟨rfl,rfl⟩) ?_ (h1:=by simp[tB]);simp;refine c2 L ?_;simp[E,s];refine c2 q ?_;simp;refine⟨by omega,by simp only[cM];omega,?_⟩;refine rd (m/tB,b++[dY m],true) ⟨by omega,by rw[aF];exact k2,by simpa using B,y,w⟩ A (he:=by simp[D]) (hh:=by simp only[<-hf];simp) (hr2:=by simp only[<-hf];simp)
  ·simp only[if_true];have ax:(an wB m).length<=900000:=by
    have:=dB aZ _ _ (ec k1 (bZ aZ a.v.natAbs));have:=nj Y;omega
   by_cases hm:m=0
   ·subst hm;have aa:b≠[]:=by
     rintro rfl;rw[jh,jh,if_pos rfl,if_neg (by omega)]at k2;have:=xF a.v.natAbs;rw[b2,da,bk,bk]at k2;rw[<-k2]at this;simp at this
    simp[eN,kD];refine⟨b,k2,k3,aa,k5,?_⟩;simp
   ·have d:=Be m tB (by decide) (by omega) (by rw[yt];decide);have Z:an wB m≠[]:=mt rL.1 hm;have C:0<(an wB m).length:=a4.2 Z;have aF:=IL hm b;have B:∀p∈b++[dY m],p≠[]/\p.length<=18:=by
     intro p N;rcases dk.1 N with h|h
     ·exact k3 p h
     ·rw[cy.1 h];exact⟨HI m,HJ m⟩
    have A:m/tB<m:=fH (by omega) (by decide);have aA:=KJ (show 0<m by omega) k4 ai;have w:m/tB*tB^(b++[dY m]).length<=a.v.natAbs:=by
     rw[a9,a6,eq,e9 (tB^b.length),<-ew];exact ee (fd _ (fv _ _)) k4
    have y:(b++[dY m]).length<=57600000:=by rw[a9,a6];omega
    have r:m% tB<tB:=gj _ (by decide);have Q:m/tB=0->m% tB=m:=fun h=>by have:=ei m tB;rw[h]at this;omega
    simp only[eN]at d⊢;rw[yt]at d;have P:=rL (n:=m/tB);have L:=MK (m% tB) (e6 r (by decide));have q:=ML [48] (18-(bm (m% tB)).length) (by omega) (by simp;omega);have aB:=BL r;have ab:=Oz r;rw[A2]at q;have l:dY m=if m/tB=0 then bm (m% tB)else a8 (18-(bm (m% tB)).length) 48++bm (m% tB):=by
     rw[dY,ab];split
     ·rename_i h;rw[Q h]
     ·rfl
    have s:a2.wrap (18-((bm (m% tB)).length:Int))=(18-(bm (m% tB)).length:Nat):=by rw[aM _ (by omega) (by omega)];omega
    have aE:((18-(bm (m% tB)).length:Nat):Int)=18-((bm (m% tB)).length:Int):=by omega
    have u:∀t,t=dY m->(b.map fun p=>AV.p (.str p))++[AV.p (.str t)]=(b++[dY m]).map fun p=>AV.p (.str p):=fun t e=>by rw[e];simp
    by_cases F:m% tB=0
    ·have j:¬m/tB=0:=fun h=>hm (by rw[<-Q h];exact F);have E:0<(an wB (m/tB)).length:=a4.2 (mt P.1 j);have e:a8 (18-(bm (m% tB)).length) 48++bm (m% tB)=dY m:=by rw[l,if_neg j]
     rw[F,pJ]at e q s;rw[F,kD]at d;simp only[a6]at e q s;have hf:=u _ e;generalize D:an wB (m/tB)=ah at*;simp[C];refine cp d (by simp;exact⟨rfl,rfl⟩) ?_ (h1:=by simp[tB]);simp[E,s];refine c2 q ?_;simp;refine⟨by simp only[cM];omega,?_⟩;refine rd (m/tB,b++[dY m],true) ⟨by omega,by rw[aF];exact k2,by simpa using B,y,w⟩ A (he:=by simp[D]) (hh:=by simp only[<-hf];simp) (hr2:=by simp only[<-hf];simp)
    ·have ae:an wB (m% tB)=[m% tB]:=sy (by omega) (e6 r (by decide));rw[ae]at d
     by_cases j:m/tB=0
     ·have e:bm (m% tB)=dY m:=by rw[l,if_pos j]
      have hf:=u _ e;rw[j,kD]at d;simp[C];refine cp d (by simp;exact⟨rfl,rfl⟩) ?_ (h1:=by simp[tB]);simp;refine c2 L ?_;simp;refine⟨by simp only[cM];omega,?_⟩;refine rd (m/tB,b++[dY m],true) ⟨by omega,by rw[aF];exact k2,by simpa using B,y,w⟩ A (he:=by simp[j,kD]) (hh:=by simp only[<-hf];simp) (hr2:=by simp only[<-hf];simp)
     ·have E:0<(an wB (m/tB)).length:=a4.2 (mt P.1 j);have e:a8 (18-(bm (m% tB)).length) 48++bm (m% tB)=dY m:=by rw[l,if_neg j]
      have hf:=u _ e;generalize D:an wB (m/tB)=ah at*;simp[C];refine cp d (by simp;exact⟨rfl,rfl⟩) ?_ (h1:=by simp[tB]);simp;refine c2 L ?_;simp[E,s];refine c2 q ?_;simp;refine⟨by omega,by simp only[cM];omega,?_⟩;refine rd (m/tB,b++[dY m],true) ⟨by omega,by rw[aF];exact k2,by simpa using B,y,w⟩ A (he:=by simp[D]) (hh:=by simp only[<-hf];simp) (hr2:=by simp only[<-hf];simp)
 ·rintro⟨aH,aN⟩ ⟨b,q1,aG,U,q4,ar,S,o,al⟩;dsimp only at ar S al;subst al;have aC:0<b.length:=a4.2 U;have ac:bm a.v.natAbs=b.reverse.flatten:=by rw[<-UB,q1,jh,if_neg (by omega)];simp
  obtain⟨neg,M⟩:∃neg:Bool,neg=decide (a.v<0):=⟨_,rfl⟩
  obtain⟨pre,O⟩:∃pre:List Nat,pre=if neg=true then[45]else[]:=⟨_,rfl⟩
  have am:cE a.v=pre++b.reverse.flatten:=by
   rw[cE,<-ac,O,M]
   by_cases h:a.v<0
   ·simp[h]
   ·simp[h]
  obtain⟨g,J⟩:∃g:Nat->List Nat,g=fun k=>pre++(b.reverse.take k).flatten:=⟨_,rfl⟩
  have K:g b.length=cE a.v:=by rw[J,am];dsimp only;rw[a5 (by simp)]
  have aD:∀k,(b.reverse.take k).flatten.length<=1000000:=fun k=>by
   have au:b.reverse.flatten=(b.reverse.take k).flatten++(b.reverse.drop k).flatten:=by rw[<-cv,bl]
   rw[ac,au,a9]at aw;omega
  have aO:pre.length<=1:=by rw[O];split<;>simp
  have W:∀k,(g k).length<=1000001:=fun k=>by rw[J];dsimp only;rw[a9];have:=aD k;omega
  have l:∀k(h:k<b.length),g (k+1)=g k++b[b.length-1-k]'(by omega):=fun k h=>by
   rw[J];dsimp only;rw[be (by simpa using h),cv,List.getElem_reverse,<-List.append_assoc];simp
  have av:∀c∈cE a.v,c<256:=by
   intro c hc;rw[cE]at hc;have d:=uZ a.v.natAbs;rw[List.all_eq_true]at d
   split at hc
   ·rcases dp.1 hc with h|h
    ·omega
    ·exact JJ (d c h)
   ·exact JJ (d c hc)
  have af:a2.wrap ((b.length:Int)-1)=b.length-1:=aM _ (by omega) (by omega);have aj:∀i(h:i<b.length),b[i]≠[]/\b[i].length<=18:=fun i h=>aG _ (b3 h);have H:=XS (g b.length) (if neg=true then b.length else b.length-1) (g b.length).length rfl (by rw[K,am];intro h;rw[List.append_eq_nil_iff,<-ac]at h;have:=xF a.v.natAbs;rw[h.2]at this;simp at this) (by have:=W b.length;omega) (by rw[K];exact av);simp[ar,S,af]
  by_cases T:a.v<0
  ·rw[decide_eq_true T]at M;subst M;have ay:g 0=[45]:=by rw[J,O];simp
   simp only[if_true]at H;simp[T];refine cf (M8 [45] (by simp) (by simp)) [3] ?_;simp[ba,sig,S,af];refine lp (α:=Nat) (fun k=>⟨[(11,.p (.int .i64 ((b.length:Int)-1-k))),(10,.ptr 3 []),(6,.sl 2 b.length 1 0 b.length)],[.hole,.hole,.arr .grow b.length 1 (b.map fun p=>.p (.str p)),.box false (.st 224 [.ptr 3 [],.sl 4 k 1 0 (g k).length]),.arr .bytes k 1 (dw (g k))]⟩)
    (fun k=>k<=b.length) (fun k=>b.length-k) 0 (by simp) ?_ (he:=by simp[S]) (hh:=by simp[ay,dw]) (hr2:=by simp[dw])
   intro k hk
   by_cases z:k<b.length
   ·have G:a2.wrap ((b.length:Int)-1-k-1)=b.length-1-(k+1:Nat):=by rw[aM _ (by omega) (by omega)];omega
    have e1:((b.length:Int)-1-k).toNat=b.length-1-k:=by omega
    have I:(k:Int)<=(b.length:Int)-1:=by omega
    have R:b.length-1-k<b.length:=by omega
    have hx:=aj _ R;have ag:=M9 (g k) (b[b.length-1-k]) k (g k).length rfl hx.1 (by omega) (by have:=W k;omega);simp[I,e1,R,U];refine cf ag [3,4] ?_ (aj:=by simp[sig,dw]) (aI:=by simp[sig]) (hr:=by simp[dw]);simp[sig,dw,ba,G,A3];refine rd (k+1) z (he:=by simp[l k z]) (hh:=by simp[l k z,dw]) (hr2:=by simp[dw])
   ·have X:k=b.length:=by omega
    subst X;have V:¬(b.length:Int)<=(b.length:Int)-1:=by omega
    simp[V];refine cf H [3,4] ?_ (aj:=by simp[sig,dw]) (aI:=by simp[sig]) (hr:=by simp[dw]);simp[sig,ba,K]
  ·rw[decide_eq_false T]at M;subst M;simp only[a0,if_false]at H O;have ak:g 1=b[b.length-1]:=by rw[l 0 aC,J];simp[O]
   have aq:b.length-1<b.length:=by omega
   have ap:=aj _ aq;have ao:=M8 (b[b.length-1]) ap.1 (by omega);rw[<-ak]at ao ap;simp[T,af]
   refine lp (α:=Option Nat) (fun st=>match st with
     |none=>⟨[(11,.p (.int .i64 ((b.length:Int)-1))),(10,.ptr 3 []),(6,.sl 2 b.length 1 0 b.length)],[.hole,.hole,.arr .grow b.length 1 (b.map fun p=>.p (.str p)),.box false (.p (.st 224 [.du,.aO]))]⟩
     |some k=>⟨[(11,.p (.int .i64 ((b.length:Int)-1-(k+1)))),(10,.ptr 3 []),(6,.sl 2 b.length 1 0 b.length)],[.hole,.hole,.arr .grow b.length 1 (b.map fun p=>.p (.str p)),.box false (.st 224 [.ptr 3 [],.sl 4 k 1 0 (g (k+1)).length]),.arr .bytes k 1 (dw (g (k+1)))]⟩)
    (fun st=>match st with
     |none=>True
     |some k=>k+1<=b.length) (fun st=>match st with
     |none=>b.length+1
     |some k=>b.length-(k+1)) none trivial ?_ (he:=by simp[S])
   intro st hk;cases st with
   |none=>
    have G:a2.wrap ((b.length:Int)-1-1)=b.length-1-(0+1):=by rw[aM _ (by omega) (by omega)];omega
    have e1:((b.length:Int)-1).toNat=b.length-1:=by omega
    have I:(1:Int)<=(b.length:Int):=by omega
    simp[I,e1,aq,U,<-ak];refine cf ao [3] ?_;simp[ba,sig,G];refine rd (some 0) (by show 0+1<=b.length;omega) (by show b.length-(0+1)<b.length+1;omega) (he:=by simp) (hh:=by simp[dw]) (hr2:=by simp[dw])
   |some k=>
    have hk:k+1<=b.length:=hk
    by_cases z:k+1<b.length
    ·have G:a2.wrap ((b.length:Int)-1-(k+1)-1)=b.length-1-(k+1+1):=by rw[aM _ (by omega) (by omega)];omega
     have e1:((b.length:Int)-1-(k+1)).toNat=b.length-1-(k+1):=by omega
     have I:(k:Int)+1<=(b.length:Int)-1:=by omega
     have R:b.length-1-(k+1)<b.length:=by omega
     have hx:=aj _ R;have ag:=M9 (g (k+1)) (b[b.length-1-(k+1)]) k (g (k+1)).length rfl hx.1 (by omega) (by have:=W (k+1);omega);simp[I,e1,R,U];refine cf ag [3,4] ?_ (aj:=by simp[sig,dw]) (aI:=by simp[sig]) (hr:=by simp[dw]);simp[sig,dw,ba,G,A3];refine rd (some (k+1)) z (by show b.length-(k+1+1)<b.length-(k+1);omega) (he:=by simp[l (k+1) z]) (hh:=by simp[l (k+1) z,dw]) (hr2:=by simp[dw])
    ·have X:b.length=k+1:=by omega
     have V:¬(k:Int)+1<=(b.length:Int)-1:=by omega
     rw[X]at H K;rw[ej]at H;simp[V];refine cf H [3,4] ?_ (aj:=by simp[sig,dw]) (aI:=by simp[sig]) (hr:=by simp[dw]);simp[sig,ba,K]
theorem Bf(a:NI)(c:okW a.v)(b:(bm a.v.natAbs).length<=1000000):az prog 250 [eI a] (.str (cE a.v)):=by
 rcases h:a.sm with _|_
 ·exact UL a h c b
 ·exact UM a h
open Go
theorem Is:∀(r:List Nat)(a:Nat),a<=r.foldl (fun n c=>n*10+(c-48)) a
 |[],a=>ed _
 |x::r,a=>ee (show a<=a*10+(x-48)by omega) (Is r _)
theorem Ib:∀(d:List Nat)(a:Nat),d.all b6=true->d.foldl (fun n c=>n*10+(c-48)) a<1000000000000000000->Lib.parseUint10 a (d.map gx)=.ok (d.foldl (fun n c=>n*10+(c-48)) a)
 |[],a,_,_=>rfl
 |c::r,a,h,b=>by
  simp only[cc,aT]at h;have hc:=h.1;simp only[b6,aT,decide_eq_true_eq]at hc;have f:=Is r (a*10+(c-48));rw[b5]at b⊢;have e:(gx c).toNat=c:=by simp;omega
  rw[bb,Lib.parseUint10,e,if_pos hc,if_neg (by omega),if_neg (by omega)];exact Ib r _ h.2 b
theorem VK{d:List Nat}(h:d.all b6=true)(b:d≠[])(f:d.length<=18):Lib.atoiAll (d.map gx)=.ok (aU d):=by
 have i:=iX _ d rfl h;have j:10^d.length<=10^18:=ea (by omega) f;cases d with
 |nil=>exact(b rfl).elim
 |cons c r=>
  have hc:=(aT ..▸(cc▸h):b6 c=true/\r.all b6=true).1;simp only[b6,aT,decide_eq_true_eq]at hc;have e:(gx c).toNat=c:=by simp;omega
  have g:aU (c::r)<1000000000000000000:=by omega
  have a:=Ib (c::r) 0 h g;rw[<-aU]at a;rw[bb]at a;rw[bb,Lib.atoiAll];simp only[e];rw[if_neg (by omega),Lib.parseMag,if_neg (by simp),a];dsimp only;rw[if_neg (by omega),if_neg (by omega),if_neg (by omega)]
theorem AH:∀(b:List Nat)(x:Nat),b.foldl (fun n c=>n*10+(c-48)) x=x*10^b.length+aU b
 |[],x=>by simp[aU]
 |c::b,x=>by
  rw[aU,b5,b5,AH b,AH b (0*10+(c-48)),c9,eq,gi,ew,e9 10];simp[gb]
theorem IH(a b:List Nat):aU (a++b)=aU a*10^b.length+aU b:=by
 rw[aU,List.foldl_append,AH];rfl
theorem aBn(k:Nat):10^k<=2^(4*k):=by
 rw[gg];exact fm (by decide) k
theorem IU{a K:Nat}(h:4*a<=K):10^a<=2^K:=ee (aBn a) (ea (by decide) h)
theorem uQ{n k:Nat}(h:n<2^k)(hk:k<=3*1000000):(bm n).length<=1000000:=
 vi h hk (by decide)
theorem G0(a:NF)(h:bP kB a.q):az prog 168 [eF a] (.str (bH a.q)):=by
 have f:kB=100000:=rfl;have w:=AP a;have c:=Bf a.num (gO h.1 o9) (uQ h.1 (by omega));have d:=Bf a.den (gO (by rw[jF];exact h.2) o9) (uQ (by rw[jF];exact h.2) (by omega));rw[kz]at c;rw[jc,tW]at d;have g:=uQ h.1 (show kB<=3*1000000 by omega);have i:=uQ h.2 (show kB<=3*1000000 by omega);have j:=Bz a.q.num;refine aL nf Mq mix (by simp[f168]) ?_;rw[bH]
 by_cases b:a.q.den=1
 ·have e:a.eZ=true:=by simp[NF.eZ,b]
  rw[e]at w;rw[if_pos b];simp[f168];refine c1 w ?_;simp[ad];refine c1 c ?_;simp
 ·have e:a.eZ=false:=by simp[NF.eZ,b]
  rw[e]at w;rw[if_neg b];simp[f168];refine c1 w ?_;simp[ad];refine e1 c ?_;simp[ad];refine⟨by omega,?_⟩;refine e1 d ?_;simp;omega
def kR:Nat:=2800
theorem yk(s:List Nat)(i:(cG s).all b6=true)(E:(cG s).length<=700):az prog 185 [.str s] (eI (.mk' (if bQ s=true then -(aU (cG s):Int)else aU (cG s)))):=by
 refine aL nf Eh mix (by simp[f185]) ?_;simp[f185];refine c2 (V6 s) ?_;simp;refine c2 (Ie s) ?_;simp;generalize cG s=d at*;generalize bQ s=neg at*;have w:eJ 0=eI (.mk' 0):=(nG (by decide) (by decide)).symm;rw[show PV.st 130 [.int .i64 0,.aO]=eI (.mk' 0)from w];refine lp (α:=List Nat×NI) (fun x=>⟨[(4,.ptr 1 []),(3,.p (.bool neg)),(2,.ptr 0 []),(0,.p (.str x.1))],[.box false (.p (eI (.mk' 0))),.box false (.p (eI x.2))]⟩)
  (fun x=>∃m:Nat,x.2.v=m/\m*10^x.1.length+aU x.1=aU d/\x.1.all b6=true/\x.1.length<=700/\m<2^kR) (fun x=>x.1.length) (d,.mk' 0) ⟨0,rfl,by simp,i,E,fb (by decide)⟩ ?_
 rintro⟨r,o⟩ ⟨m,k1,k2,k3,k4,k5⟩;dsimp only at k1 k2 k3 k4 k5;have S:kR=2800:=rfl;have c:o.v.natAbs<2^kR:=by rw[k1,a3];exact k5
 have I:okW o.v:=gO c (by have:kB=100000:=rfl;omega)
 by_cases f:r=[]
 ·subst f;have u:o.v=aU d:=by rw[k1];simp[aU]at k2⊢;omega
  cases neg
  ·have e:eI (.mk' (aU d:Nat))=eI o:=mA (by rw[NI.ij,u]) (fun h=>by rw[NI.ij]at h;omega);simp;rw[e];simp[ad]
  ·have e:eI (.mk' (-(aU d:Nat)))=eI o.neg:=by rw[NI.neg,u]
   simp;rw[e];refine c1 (sO o I) ?_;simp[ad]
 ·have L:0<r.length:=a4.2 f;obtain⟨n,U⟩:∃n,n=min 18 r.length:=⟨_,rfl⟩
  have j:n<=r.length:=by omega
  have V:0<n:=by omega
  have G:n<=18:=by omega
  have H:(if(r.length:Int)<18 then(r.length:Int)else 18)=n:=by split<;>omega
  have g:(r.take n).length=n:=by rw[c6];omega
  have a:=k3;rw[<-bl n r,List.all_append,aT]at a;have N:=iX _ (r.take n) rfl a.1;have C:=FC (r.take n) (aU (r.take n)) (VK a.1 (by intro e;rw[e]at g;simp at g;omega) (by omega)) (by omega);rw[g]at N;have q:10^n<=10^18:=ea (by decide) G;have z:10^n<wB^1:=by rw[ge];exact ec q (by decide)
  have A:((10^n:Nat):Int).natAbs<2^64:=by rw[a3];exact ec q (by decide)
  have O:=dB aZ 1 _ z;have W:=xl c;have P:kB=100000:=rfl;have X:=iX _ d rfl i;have Q:10^d.length<=2^kR:=IU (by have:kR=2800:=rfl;omega);have J:=Wl (.of 10) n (10^n) (by decide) rfl (by omega) (by decide) (by omega);have F:=yI o (.mk' (10^n:Nat)) (by rw[NI.ij,a3];omega);have B:=vg (o.mul (.mk' (10^n:Nat))) (.of (aU (r.take n):Nat)) (gO (od (x:=o.v) (y:=((10^n:Nat):Int)) c A) (by omega)) (gO (k:=64) (show((aU (r.take n):Nat):Int).natAbs<2^64 by rw[a3];omega) (by omega));have l:=qQ (aU (r.take n):Nat);rw[<-sR (by omega) (by omega)]at l;have t:=qQ 10;rw[<-sR (by decide) (by decide)]at t;have M:aU r=aU (r.take n)*10^(r.drop n).length+aU (r.drop n):=by rw[<-IH,bl]
  have K:r.length=n+(r.drop n).length:=by rw[List.length_drop];omega
  have D:(m*10^n+aU (r.take n))*10^(r.drop n).length+aU (r.drop n)=aU d:=by
   rw[<-k2,M,K,Nat.pow_add,gi,ew,gb]
  generalize 10^n=T at*;generalize Y:aU (r.take n)=b at*;have R:m*T+b<=aU d:=by
   have:=Nat.le_mul_of_pos_right (m*T+b) (show 0<10^(r.drop n).length from fb (by decide));omega
  simp[f,L,H];refine⟨j,?_⟩;refine c1 C ?_;simp;refine e1 t ?_;simp;refine e2 J ?_;simp[ad];refine e2 F ?_;simp;refine e1 l ?_;simp;refine e2 B ?_;simp[ad];refine⟨rfl,j,?_⟩;refine rd (r.drop n,(o.mul (.mk' T)).add (.of b)) ⟨m*T+b,by rw[NI.qJ,NI.lI,NI.ij,k1];rfl,D,a.2,by dsimp only;omega,by omega⟩ (by dsimp only;omega)
theorem A9{s:List Nat}(h:dv s=true):bQ s=false/\cG s=s:=by
 have b:=iO h;have:bQ s=false:=by
  rw[bQ,decide_eq_false_iff_not];intro a;cases s with
  |nil=>simp at a
  |cons c r=>
   simp at a;subst a;rw[cc,aT]at b;simp[b6]at b
 exact⟨this,by rw[cG,this];rfl⟩
theorem Iv(s:List Nat):bQ (bS 47 s).1=bQ s/\cG (bS 47 s).1=bA s/\(bS 47 s).2.1=bJ s/\(bS 47 s).2.2=dO s:=by
 cases s with
 |nil=>exact⟨rfl,rfl,rfl,rfl⟩
 |cons c r=>
  by_cases h:c=45
  ·subst h;have e:bS 47 (45::r)=(45::(bS 47 r).1,(bS 47 r).2.1,(bS 47 r).2.2):=by rw[bS,if_neg (by decide)]
   rw[e];exact⟨rfl,rfl,rfl,rfl⟩
  ·have b:bQ (c::r)=false:=by rw[bQ,decide_eq_false_iff_not];simpa using h
   have a:cG (c::r)=c::r:=by rw[cG,b];rfl
   have d:bQ (bS 47 (c::r)).1=false:=by
    rw[bQ,decide_eq_false_iff_not,bS]
    split
    ·simp
    ·simpa using h
   refine⟨by rw[b,d],?_,?_,?_⟩
   ·rw[cG,d,bA,a];rfl
   ·rw[bJ,a]
   ·rw[dO,a]
theorem VY{s:List Nat}(h:bU s=0):dv (bA s)=true/\(bA s).length<=600/\(bJ s).length<=600/\(dO s=true->dv (bJ s)=true):=by
 unfold bU at h
 split at h
 ·cases h
 rename_i a
 split at h
 ·cases h
 rename_i d;have a:kG s=true:=by simpa using a
 simp only[kG,aT,Bool.or_eq_true,Bool.not_eq_true']at a;refine⟨a.1.1,by omega,by omega,fun c=>?_⟩;rcases a.2 with b|b
 ·rw[c]at b;cases b
 ·exact b.1.1
theorem Qw(z:Int):cG (cE z)=bm z.natAbs:=by
 have:=(Al z []).2;simpa using this
theorem oA(c:Nat):∀s:List Nat,(bS c s).1.length<=s.length/\(bS c s).2.1.length<=s.length/\(∀x∈(bS c s).1,x∈s)/\(∀x∈(bS c s).2.1,x∈s)
 |[]=>by simp[bS]
 |y::r=>by
  have a:=oA c r;rw[bS]
  split
  ·simp;intro x hx;exact .inr hx
  ·simp only[c9,dp];refine⟨by omega,by omega,?_,fun x hx=>.inr (a.2.2.2 x hx)⟩;rintro x (rfl|hx)
   ·exact .inl rfl
   ·exact .inr (a.2.2.1 x hx)
theorem oh(s:List Nat):(cG s).length<=s.length/\∀x∈cG s,x∈s:=by
 rw[cG]
 split
 ·exact⟨by simp,fun x hx=>List.mem_of_mem_tail hx⟩
 ·exact⟨ed _,fun _ h=>h⟩
theorem mE(s:List Nat)(h:bU s=0)(n:s.length<=1048576):az prog 93 [.str s] (eF ⟨bh s,false⟩):=by
 obtain⟨l,t,u,m⟩:=VY h;obtain⟨o,f,p,q⟩:=Iv s;obtain⟨q1,r,a⟩:=jn h;have b:=MJ s 47 n;rw[p,q]at b;have c:=yk (bS 47 s).1 (by rw[f];exact iO l) (by rw[f];omega);rw[o,f]at c;have j:eI (NF.mk (bh s) false).num=eI (.mk' (if bQ s=true then -(aU (bA s):Int)else aU (bA s))):=by
  show eI ⟨(bh s).num,false⟩=_;rw[r];rfl
 rw[<-j]at c;refine aL nf Oc mix (by simp[f93]) ?_;cases hf:dO s
 ·rw[hf]at b a;simp only[a0,if_false]at a;have e:(NF.mk (bh s) false).den=.mk' 1:=by
   show NI.mk' ((bh s).den:Int)=_;rw[a];rfl
  have i:=BW (NF.mk (bh s) false).num;have k:eF (.whole (NF.mk (bh s) false).num)=eF ⟨bh s,false⟩:=by
   rw[eF,eF,e];rfl
  rw[k]at i;simp[f93];refine c2 b ?_;simp;refine c1 c ?_;simp;refine c1 i ?_;simp[ad]
 ·rw[hf]at b a;simp only[if_true]at a;have g:=m hf;obtain⟨d1,d2⟩:=A9 g;have d:=yk (bJ s) (by rw[d2];exact iO g) (by rw[d2];omega);rw[d1,d2]at d;simp only[a0,if_false]at d;have e:eI (NF.mk (bh s) false).den=eI (.mk' (aU (bJ s):Nat)):=by
   show eI (NI.mk' ((bh s).den:Int))=_;rw[a]
  rw[<-e]at d;rw[eF];simp[f93];refine c2 b ?_;simp;refine c1 c ?_;simp;refine c1 d ?_;simp[ad]
def jV(n:Nat):Bool:=decide (600<(bm n).length)
theorem L3(a:NI)(h:a.v.natAbs<2^kB):az prog 249 [eI a] (.bool (jV a.v.natAbs)):=by
 have l:kB=100000:=rfl;have d:=gO h o9;have g:=Wh a d;have i:=Bf a d (uQ h (by omega));have c:=Ie (cE a.v);rw[Qw]at c;refine aL nf Lr mix (by simp[f249]) ?_;simp[f249];refine c1 g ?_
 by_cases j:1800<nH a.v.natAbs
 ·have b:(1800:Int)<(nH a.v.natAbs:Nat):=by omega
  have e:decide ((600:Int)<((bm a.v.natAbs).length:Nat))=jV a.v.natAbs:=by rw[jV,decide_eq_decide];omega
  simp[b];refine c1 i ?_;simp;refine c2 c ?_;simp[jV];omega
 ·have f:=eb (Jc a.v.natAbs) (ea (show 0<2 by decide) (show nH a.v.natAbs<=3*600 by omega));have k:=G5 f (by decide);have e:jV a.v.natAbs=false:=by rw[jV,decide_eq_false_iff_not];omega
  have b:¬(1800:Int)<(nH a.v.natAbs:Nat):=by omega
  simp[b,e]
def vx(q:Rat):Bool:=jV q.num.natAbs||jV q.den
theorem Hu(a:NF)(h:bP kB a.q):az prog 167 [eF a] (.bool (vx a.q)):=by
 have b:=L3 a.num h.1;have c:=L3 a.den (by rw[jF];exact h.2);rw[kz]at b;rw[jF]at c;refine aL nf Mr mix (by simp[f167]) ?_;rw[vx];cases hc:jV a.q.num.natAbs
 ·rw[hc]at b;simp[f167,ad];refine c1 b ?_;simp[ad];refine c1 c ?_;simp
 ·rw[hc]at b;simp[f167,ad];refine c1 b ?_;simp
def sU:List (Nat×Func)->a1->Option Func
 |[],_=>none
 |(i,g)::r,f=>bif Nat.beq i f then some g else sU r f
def zu(P:Program):List (Nat×Func)->Prop
 |[]=>True
 |p::r=>al P p.1 p.2/\zu P r
theorem B3{P:Program}:∀{l:List (Nat×Func)},zu P l->∀{f:Nat}{fn:Func},sU l f=some fn->al P f fn
 |[],_,f,fn,h=>by simp[sU]at h
 |(i,g)::r,a,f,fn,h=>by
  simp only[sU,Bool.cond_eq_ite]at h
  split at h
  ·rename_i hf;simp only[gt]at h;subst h;rw[<-Nat.eq_of_beq_eq_true hf];exact a.1
  ·exact B3 a.2 h
noncomputable def Dk:List (Nat×Func):=[(2,f2),(3,f3),(4,f4),(5,f5),(6,f6),(7,f7),(8,f8),(9,f9),(10,f10),(11,f11),(12,f12),(13,f13),(14,f14),(15,f15),(16,f16),(17,f17),(18,f18),(19,f19),(20,f20),(21,f21),(22,f22),(23,f23),(24,f24),(25,f25),(26,f26),(27,f27),(28,f28),(29,f29),(30,f30),(31,f31),(32,f32),(33,f33),(34,f34),(35,f35),(36,f36),(37,f37),(38,f38),(39,f39),(40,f40),(41,f41),(42,f42),(43,f43),(44,f44),(45,f45),(46,f46),(47,f47),(48,f48),(49,f49),(50,f50),(51,f51),(52,f52),(53,f53),(54,f54),(55,f55),(56,f56),(57,f57),(58,f58),(59,f59),(60,f60),(61,f61),(62,f62),(63,f63),(64,f64),(65,f65),(66,f66),(67,f67),(68,f68),(69,f69),(70,f70),(71,f71),(72,f72),(73,f73),(74,f74),(75,f75),(76,f76),(77,f77),(78,f78),(79,f79),(80,f80),(81,f81),(82,f82),(83,f83),(84,f84),(85,f85),(86,f86),(87,f87),(88,f88),(89,f89),(90,f90),(91,f91),(92,f92),(93,f93),(94,f94),(95,f95),(96,f96),(97,f97),(98,f98),(99,f99),(100,f100),(101,f101),(102,f102),(103,f103),(104,f104),(105,f105),(106,f106),(107,f107),(108,f108),(109,f109),(110,f110),(111,f111),(112,f112),(113,f113),(114,f114),(115,f115),(116,f116),(117,f117),(118,f118),(119,f119),(120,f120),(121,f121),(122,f122),(123,f123),(124,f124),(125,f125),(126,f126),(127,f127),(128,f128),(129,f129),(130,f130),(131,f131),(132,f132),(133,f133),(134,f134),(135,f135),(136,f136),(137,f137),(138,f138),(139,f139),(140,f140),(141,f141),(142,f142),(143,f143),(144,f144),(145,f145),(146,f146),(147,f147),(148,f148),(149,f149),(150,f150),(151,f151),(152,f152),(153,f153),(154,f154),(155,f155),(156,f156),(157,f157),(158,f158),(159,f159),(160,f160),(161,f161),(162,f162),(163,f163),(164,f164),(165,f165),(166,f166),(167,f167),(168,f168),(169,f169),(170,f170),(171,f171),(172,f172),(173,f173),(174,f174),(175,f175),(176,f176),(177,f177),(178,f178),(179,f179),(180,f180),(181,f181),(182,f182),(183,f183),(184,f184),(185,f185),(186,f186),(187,f187),(188,f188),(189,f189),(190,f190),(191,f191),(192,f192),(193,f193),(194,f194),(195,f195),(196,f196),(197,f197),(198,f198),(199,f199),(200,f200),(201,f201),(202,f202),(203,f203),(204,f204),(205,f205),(206,f206),(207,f207),(208,f208),(209,f209),(210,f210),(211,f211),(212,f212),(213,f213),(214,f214),(215,f215),(216,f216),(217,f217),(218,f218),(219,f219),(220,f220),(221,f221),(222,f222),(223,f223),(224,f224),(225,f225),(226,f226),(227,f227),(228,f228),(229,f229),(230,f230),(231,f231),(232,f232),(233,f233),(234,f234),(235,f235),(236,f236),(237,f237),(238,f238),(239,f239),(240,f240),(241,f241),(242,f242),(243,f243),(244,f244),(245,f245),(246,f246),(247,f247),(248,f248),(249,f249),(250,f250),(251,f251),(252,f252),(253,f253),(254,f254),(255,f255),(256,f256),(257,f257),(258,f258),(259,f259),(260,f260),(261,f261),(262,f262),(263,f263),(264,f264),(265,f265),(266,f266),(267,f267),(268,f268),(269,f269),(270,f270),(271,f271),(272,f272),(273,f273),(274,f274),(275,f275),(276,f276),(277,f277),(279,f279),(280,f280),(281,f281),(282,f282),(283,f283),(284,f284),(286,f286),(288,f288),(289,f289),(290,f290),(291,f291),(292,f292),(293,f293),(294,f294),(295,f295),(296,f296),(297,f297),(298,f298),(299,f299),(300,f300),(301,f301),(302,f302),(303,f303),(304,f304),(305,f305),(306,f306),(307,f307),(308,f308),(309,f309),(310,f310),(311,f311),(312,f312),(313,f313),(314,f314),(315,f315),(316,f316),(317,f317),(318,f318),(319,f319),(320,f320),(322,f322),(323,f323),(324,f324),(325,f325),(326,f326),(327,f327),(328,f328),(329,f329),(330,f330),(331,f331),(332,f332),(333,f333),(334,f334),(335,f335),(336,f336),(337,f337),(338,f338),(339,f339),(340,f340),(341,f341),(342,f342),(343,f343),(345,f345),(346,f346),(347,f347),(348,f348),(349,f349),(350,f350),(351,f351),(352,f352),(353,f353),(354,f354),(355,f355),(356,f356),(357,f357),(358,f358),(359,f359),(360,f360),(362,f362),(363,f363),(364,f364),(365,f365),(366,f366),(367,f367),(369,f369),(370,f370),(371,f371),(372,f372),(374,f374),(375,f375),(376,f376),(377,f377),(378,f378),(379,f379),(380,f380),(381,f381),(382,f382),(383,f383),(384,f384),(385,f385),(386,f386),(387,f387),(388,f388),(420,f420)]
theorem E0:zu prog Dk:=⟨YU,ZP,au2,awy,aw2,axu,qV,axy,Yd,Nj,Yk,Yp,Nk,Nl,Nn,YM,YN,YO,YV,Np,Nq,Nr,Zm,Zo,Zs,Zu,ZD,Ns,ZQ,ZZ,Nt,aeT,ahl,Nu,Nv,Nw,asT,auN,avH,avK,Nx,awu,CX,CY,Ny,Nz,NA,aww,awC,NC,awD,awE,aw0,ND,NG,NH,NJ,NK,axk,axn,axo,axp,axq,axr,axs,axt,NL,NO,NP,NQ,NR,NT,NU,NW,NX,NY,NZ,N1,N2,N3,N4,N5,N6,N7,N8,N9,axw,Oa,axz,Ob,axA,Oc,axB,CZ,axC,axD,Od,Oe,D7,D6,D5,Ye,Yf,Yg,L6,D4,D3,Ex,Ew,Ev,Eu,Et,Yh,L5,Yi,Yj,Mx,L4,Mw,Yl,Ym,Yn,Fs,Yo,Fq,Fp,FF,Fo,Fm,zM,Fl,Fk,Fj,EI,Yq,Yr,Ys,Yt,Yu,Yv,Yw,Yx,Yy,Yz,YA,YC,YD,YE,YF,CB,YG,YH,YI,YJ,YK,YL,EH,EG,EF,ED,CD,Mv,Mu,Mt,Ms,Mr,Mq,Mp,Mo,Mn,CC,Mm,Ml,Es,Er,Ep,Eo,En,Em,El,Ek,Ej,Ei,Eh,Eg,Ef,Ee,Ed,Mk,Ec,Mj,Eb,YP,YQ,YR,YS,Mi,YT,FE,EC,YW,YX,YY,YZ,ER,EP,EO,DV,zD,DU,zH,EN,EM,Y0,Y1,Y2,Y3,Y4,Y5,Y6,Y7,Y8,Y9,Za,Zb,Zc,Zd,Mh,Ze,Zf,Zg,Zh,Zi,Zj,Zk,Zl,Lv,vh,Lu,DT,EL,vW,EK,Lt,Zn,Ls,KP,Lr,CA,Zp,EJ,Lq,Lp,Hy,LB,LA,Zq,Zr,Zt,DH,DS,Lz,DR,DQ,DP,DO,DZ,DY,DX,KM,Zv,Zw,Zx,Zy,Zz,ZA,ZC,ZE,ZF,ZG,ZH,ZI,EY,EX,EW,EV,EU,Ly,ZJ,ZK,Lx,ZL,ZM,ZN,ZO,ZR,ET,Lw,ZS,ZT,ZU,ZV,ZW,ZX,ZY,Z0,Z1,Z2,Z3,Z4,Z5,Z6,Z7,Z8,Z9,abv,abw,acH,adY,ad1,aea,aej,aeK,aeQ,LQ,ae9,LP,ES,afL,afO,afQ,agt,ag4,Fz,Fy,ahm,aht,ahU,air,ais,aiE,aiN,ai0,aja,ajY,E5,ak3,amY,anS,anX,anY,aob,aof,aog,aoi,apb,apt,apV,ap2,aqk,ara,E4,ari,arD,arE,arK,arN,arX,asf,asS,as0,ati,atl,ato,aug,auo,aup,auw,auy,awt,trivial⟩
noncomputable def vE(facts:a1->List PV->Option PV)(jv:a1->a1->Nat):lX:=⟨sU Dk,facts,fun _ _ _=>none,jv,fun _ _ _=>none⟩
theorem az9{facts:a1->List PV->Option PV}{jv:a1->a1->Nat}(h:∀f vs v,facts f vs=some v->az prog f vs v):mq prog (vE facts jv):=by
 refine⟨mix,fun f fn hf=>B3 E0 hf,fun f vs v hk=>h f vs v hk,fun f args H v H' hk=>?_,fun f args H aj v hk=>?_⟩
 ·simp only[vE]at hk;cases hk
 ·simp only[vE]at hk;cases hk
noncomputable def OJ(facts:a1->List PV->Option PV)(jv:a1->a1->Nat)(f:a1)(vs:List PV):Option PV:=nN prog nf (vE facts jv) (jm prog nf (vE facts jv) 20) f vs
theorem Ko{facts:a1->List PV->Option PV}{jv:a1->a1->Nat}(h:∀f vs v,facts f vs=some v->az prog f vs v){f:a1}{vs:List PV}{v:PV}(a:OJ facts jv f vs=some v):az prog f vs v:=reckon 20 (az9 h) a
def noF:a1->List PV->Option PV:=fun _ _=>none
def pn:PV:=.st 372 ((cb 256).map fun i=>.bool (b6 i))
theorem Jr(c:Nat)(hc:c<256):az prog 370 [.bY pn,.int .u8 c] (.bool (b6 c)):=by
 refine aL nf E4 mix (by simp[f370]) ?_;have a:(cb 256)[c]?=some c:=ck hc;simp[f370,pn,a,hc]
theorem RV(s:List Nat)(h:s.length<=1048576)(g:∀c∈s,c<256):az prog 339 [.str s,.bY pn] (.str (ky s)):=by
 refine aL nf Fz mix (by simp[f339]) ?_;simp[f339];refine lp (α:=List Nat) (fun r=>⟨[(1,.p (.bY pn)),(0,.p (.str r))],[]⟩) (fun r=>ky r=ky s/\r.length<=s.length/\∀c∈r,c<256) (fun r=>r.length) s (by exact⟨rfl,ed _,g⟩) ?_;rintro r ⟨a,f,b⟩;cases r with
 |nil=>
  have e:ky s=[]:=by rw[<-a];rfl
  simp[e]
 |cons x r=>
  have hx:=b x (by simp);have i:ky (x::r)=if b6 x=true then ky r else x::r:=by
   rw[ky,cx];split<;>rfl
  rw[i]at a;have j:(0:Int)<(r.length:Int)+1:=by omega
  simp[j];refine c2 (Jr x hx) ?_;cases d:b6 x
  ·rw[d]at a;simp[<-a]
  ·rw[d]at a;simp;exact rd r ⟨by simpa using a,by simp at f;omega,fun c hc=>b c (by simp[hc])⟩ (h1:=by simp)
theorem Rv(s:List Nat)(h:s.length<=1048576)(i:∀c∈s,c<256):az prog 340 [.str s,.bY pn] (.str (iB s)):=by
 refine aL nf Fy mix (by simp[f340]) ?_;simp[f340];refine lp (α:=List Nat) (fun r=>⟨[(1,.p (.bY pn)),(0,.p (.str r))],[]⟩) (fun r=>iB r=iB s/\r.length<=s.length/\∀c∈r,c<256) (fun r=>r.length) s (by exact⟨rfl,ed _,i⟩) ?_;rintro r ⟨a,b,d⟩;rcases List.eq_nil_or_concat r with rfl|⟨t,x,rfl⟩
 ·have e:iB s=[]:=by rw[<-a];rfl
  simp[e]
 ·simp only[List.concat_eq_append]at a b d⊢;have hx:=d x (by simp);have j:iB (t++[x])=if b6 x=true then iB t else t++[x]:=by
   rw[iB,List.reverse_append,List.reverse_cons,b2,dg,List.singleton_append,cx]
   split
   ·rfl
   ·simp
  rw[j]at a;have k:(0:Int)<(t.length:Int)+1:=by omega
  have g:a2.wrap (t.length:Int)=t.length:=aM _ (by omega) (by simp at b;omega);simp[k,g];refine c2 (Jr x hx) ?_;cases f:b6 x
  ·rw[f]at a;simp[<-a]
  ·rw[f]at a;simp[g];exact rd t ⟨by simpa using a,by simp at b;omega,fun c hc=>d c (by simp[hc])⟩ (h1:=by simp)
def vm:List Nat:=[48,49,50,51,52,53,54,55,56,57]
theorem UK:az prog 338 [.str vm] (.aE [pn,.bool true]):=Ko (facts:=noF) (jv:=fun _ _=>0) (fun _ _ _ h=>by cases h) (by kernel_rfl)
theorem aCl:cm prog 373=some (.st 372 (a8 256 (.bool false))):=by kernel_rfl
theorem V4(s:List Nat)(h:s.length<=1048576)(d:∀c∈s,c<256):az prog 295 [.str s,.str vm] (.str (ky (iB s))):=by
 refine aL nf Lx mix (by simp[f295]) ?_
 by_cases b:s=[]
 ·subst b;simp[f295,vm,ky,iB]
 simp[f295,vm,b];refine c1 UK ?_;have g:(iB s).length<=s.length:=by
  rw[iB,List.length_reverse];have:=(ce b6 (l:=s.reverse)).length_le;simpa using this
 have f:∀c∈iB s,c<256:=by
  intro c hc;rw[iB,List.mem_reverse]at hc;exact d c (by simpa using(ce b6 (l:=s.reverse)).subset hc)
 simp[aCl];have a:aJ pn=.agg 372:=rfl;refine⟨⟨⟨a.symm,by rw[a];intro e;cases e⟩,a.symm⟩,?_⟩;refine cp (Rv s h d) (by simp;exact⟨rfl,rfl⟩) ?_;simp;refine cp (RV (iB s) (by omega) f) (by simp;exact⟨rfl,rfl⟩) ?_;simp
def bE:List Int->Int
 |[]=>0
 |e::r=>if e=0 then bE r else e
def aW(b:Bool)(e:Int):Int:=if b=true then e else 0
theorem V5(a:List Int)(h:a.length<=1048576):az prog 253 [.seq (a.map (.int .i64))] (.int .i64 (bE a)):=by
 refine aL nf Lq mix (by simp[f253]) ?_;simp[f253];refine lp (α:=Nat) (fun i=>⟨[(7,.p (.int .i64 i)),(6,.p (.int .i64 a.length)),(5,.p (.seq (a.map (.int .i64))))],[]⟩) (fun i=>i<=a.length/\bE (a.drop i)=bE a) (fun i=>a.length-i) 0 (by simp) ?_;rintro i ⟨d,b⟩;simp
 by_cases hi:i<a.length
 ·rw[bi hi]at b;have c:=b8 (i:=i) (by omega);simp[hi]
  by_cases he:a[i]=0
  ·simp[bE,he]at b;simp[he,c];exact rd (i+1) ⟨hi,b⟩
  ·simp[bE,he]at b;simp[he,<-b]
 ·have:i=a.length:=by omega
  subst this;simp[bE]at b;simp[<-b]
theorem nR(a:List Int)(h:a.length<=1048576):az prog 78 [.seq (a.map (.int .i64))] (.int .i64 (bE a)):=by
 refine aL nf NZ mix (by simp[f78]) ?_;simp[f78];refine lp (α:=Nat) (fun i=>⟨[(7,.p (.int .i64 i)),(6,.p (.int .i64 a.length)),(5,.p (.seq (a.map (.int .i64))))],[]⟩) (fun i=>i<=a.length/\bE (a.drop i)=bE a) (fun i=>a.length-i) 0 (by simp) ?_;rintro i ⟨d,b⟩;simp
 by_cases hi:i<a.length
 ·rw[bi hi]at b;have c:=b8 (i:=i) (by omega);simp[hi]
  by_cases he:a[i]=0
  ·simp[bE,he]at b;simp[he,c];exact rd (i+1) ⟨hi,b⟩
  ·simp[bE,he]at b;simp[he,<-b]
 ·have:i=a.length:=by omega
  subst this;simp[bE]at b;simp[<-b]
theorem uH(b:Bool)(e:Int):az prog 254 [.bool b,.int .i64 e] (.int .i64 (aW b e)):=by
 refine aL nf Lp mix (by simp[f254]) ?_;cases b<;>simp[f254,aW]
theorem gY(b:Bool)(e:Int):az prog 79 [.bool b,.int .i64 e] (.int .i64 (aW b e)):=by
 refine aL nf N1 mix (by simp[f79]) ?_;cases b<;>simp[f79,aW]
theorem K7(s:List Nat)(h:s.length<=1048576)(i:∀c∈s,c<256):az prog 252 [.str s] (.bool (dv s)):=by
 have f:=V4 s h i;have g:=SR s;rw[show vm=[48,49,50,51,52,53,54,55,56,57]from rfl]at f;refine aL nf EJ mix (by simp[f252]) ?_;generalize ky (iB s)=t at*;cases s with
 |nil=>simp[f252,dv]
 |cons c r=>
  have hc:=i c (by simp)
  by_cases b:t=[]
  ·have d:=g.1 b;have e:dv (c::r)=(decide (¬c=48)||decide (r=[])):=by
    rw[dv,d]
    by_cases a:c=48
    ·subst a;simp
    ·simp[a]
   rw[e];clear e d g
   by_cases a:c=48
   ·cases r with
    |nil=>
     simp[f252];refine c2 f ?_;simp[b,a]
    |cons x r=>
     simp[f252];refine c2 f ?_;simp[b,a]
   ·have j:¬(c:Int)=48:=by omega
    simp[f252];refine c2 f ?_;simp[b,a,j]
  ·have d:¬(c::r).all b6=true:=mt g.2 b;have a:(c::r).all b6=false:=by simpa using d
   have e:dv (c::r)=false:=by rw[dv,a];simp
   rw[e];clear e d a g;simp[f252];refine c2 f ?_;simp[b]
theorem XT{a b:Nat}:(decide (ju (eh a b) 1≠0))=decide (gc a b≠1):=by
 rw[decide_eq_decide,ju,eh,a3,a3]
 split
 ·simp;omega
 ·split
  ·simp;omega
  ·simp;omega
theorem Da{s:List Nat}(h:s.all b6=true)(c:s.length<=700):okW (aU s:Nat):=by
 have a:=iX _ s rfl h;have b:aU s<2^kR:=eb a (IU (by have:kR=2800:=rfl;omega));exact gO (k:=kR) (by rw[a3];exact b) (by have:kB=100000:=rfl;have:kR=2800:=rfl;omega)
theorem yB(s:List Nat)(h:s.length<=1048576)(K:∀c∈s,c<256):az prog 174 [.str s] (.int .i64 (bU s)):=by
 have X:=VG s;have A:=MJ (cG s) 47 (ee (oh s).1 h);rw[show(bS 47 (cG s)).1=bA s from rfl,show(bS 47 (cG s)).2.1=bJ s from rfl,show(bS 47 (cG s)).2.2=dO s from rfl]at A;refine aL nf Ml mix (by simp[f174]) ?_;simp[f174,-bg];rw[bg];simp[-bg];rw[bg];simp[-bg];refine c2 X ?_;simp[-bg];rw[bg];simp[-bg];refine c2 A ?_;simp[-bg];have ab:=(oh s).1;have q:=oA 47 (cG s);have ad:(bA s).length<=1048576:=by have:=q.1;rw[bA];omega
 have ac:(bJ s).length<=1048576:=by have:=q.2.1;rw[bJ];omega
 have W:∀c∈bA s,c<256:=fun c hc=>K c ((oh s).2 c (q.2.2.1 c hc));have V:∀c∈bJ s,c<256:=fun c hc=>K c ((oh s).2 c (q.2.2.2 c hc));clear q ab;have Z:=K7 (bA s) ad W;have Y:=K7 (bJ s) ac V;obtain⟨m,B⟩:∃m,m=(dv (bA s)&&!(bQ s&&decide (bA s=[48]))):=⟨_,rfl⟩
 obtain⟨f2,k⟩:∃f2,f2=(m&&(!dO s||(dv (bJ s)&&decide (bJ s≠[48])&&decide (bJ s≠[49])))):=⟨_,rfl⟩
 have L:bU s=if f2=false then 1 else if 600<(bA s).length\/600<(bJ s).length then 4 else if dO s=true/\gc (aU (bA s)) (aU (bJ s))≠1 then 1 else 0:=by rw[k,B];rfl
 rw[L];clear L A;generalize dO s=fr at*;refine join (fun s'=>aK s'.env 8=.p (.bool m)/\aK s'.env 7=.p (.bool fr)/\aK s'.env 6=.p (.str (bJ s))/\aK s'.env 5=.p (.str (bA s))/\s'.heap=[]) ?_ ?_
 ·simp;refine c1 Z ?_;rw[B];cases dv (bA s)
  ·simp
  ·cases bQ s
   ·simp
   ·by_cases r:bA s=[48]
    ·simp[r]
    ·simp[r]
 rintro⟨I,aa⟩ ⟨d,f,g,i,t⟩;dsimp only at d f g i t;subst t;refine join (fun s'=>aK s'.env 8=.p (.bool f2)/\aK s'.env 7=.p (.bool fr)/\aK s'.env 6=.p (.str (bJ s))/\aK s'.env 5=.p (.str (bA s))/\s'.heap=[]) ?_ ?_
 ·rw[k];cases fr
  ·simp[d,f,g,i]
  ·cases m
   ·simp[d,f,g,i]
   ·simp[d,f,g,i];refine c1 Y ?_;cases dv (bJ s)
    ·simp[d,f,g,i]
    ·by_cases r:bJ s=[48]
     ·simp[d,f,g,i,r]
     ·by_cases N:bJ s=[49]
      ·simp[d,f,g,i,N]
      ·simp[d,f,g,i,r,N]
 clear d f g i I;rintro⟨I,aa⟩ ⟨d,f,g,i,t⟩;dsimp only at d f g i t;subst t;have head:∀(n v:Bool),az prog 253 [.seq [.int .i64 (aW n 1),.int .i64 (aW v 4)]] (.int .i64 (if n=true then 1 else if v=true then 4 else 0)):=fun n v=>by
  have:=V5 [aW n 1,aW v 4] (by simp);cases n<;>cases v<;>exact this
 have H:=uH (!f2) 1;have R:=uH true 4;have wf:=uH false 4;have J:=head (!f2) true;have U:=head (!f2) false;have O:(600<(bA s).length)↔(600:Int)<((bA s).length:Nat):=by omega
 have P:(600<(bJ s).length)↔(600:Int)<((bJ s).length:Nat):=by omega
 by_cases u:(600:Int)<((bA s).length:Nat)
 ·simp[d,f,g,i];refine c2 H ?_;simp[d,f,g,i,u];refine c2 R ?_;simp;refine cp J (by simp;exact⟨rfl,rfl⟩) ?_;cases f2
  ·simp
  ·simp[O.2 u]
 by_cases x:(600:Int)<((bJ s).length:Nat)
 ·simp[d,f,g,i];refine c2 H ?_;simp[d,f,g,i,u,x];refine c2 R ?_;simp;refine cp J (by simp;exact⟨rfl,rfl⟩) ?_;cases f2
  ·simp
  ·simp[P.2 x]
 have E:¬600<(bA s).length:=mt O.1 u;have F:¬600<(bJ s).length:=mt P.1 x;have Q:=uH false 1;have ag:=uH true 1;simp[d,f,g,i];refine c2 H ?_;simp[d,f,g,i,u,x];refine c2 wf ?_;simp;refine cp U (by simp;exact⟨rfl,rfl⟩) ?_;cases f2
 ·simp
 cases fr
 ·simp[d,f,g,i,E,F];refine c2 Q ?_;simp[aW];exact⟨by omega,by omega⟩
 have j:dv (bA s)=true/\dv (bJ s)=true:=by
  cases S:dv (bA s)
  ·rw[B,S]at k;simp at k
  cases T:dv (bJ s)
  ·rw[T]at k;simp at k
  exact⟨rfl,rfl⟩
 obtain⟨ae,G⟩:=A9 j.1;obtain⟨af,n4⟩:=A9 j.2;have y:=yk (bA s) (by rw[G];exact iO j.1) (by rw[G];omega);have z:=yk (bJ s) (by rw[n4];exact iO j.2) (by rw[n4];omega);rw[ae,G]at y;rw[af,n4]at z;simp only[a0,if_false]at y z;have C:=MF (.mk' (aU (bA s):Nat)) (.mk' (aU (bJ s):Nat)) (Da (iO j.1) (by omega)) (Da (iO j.2) (by omega));rw[NI.ij,NI.ij]at C;have D:=qQ 1;rw[J5]at D;have hc:=ME (.mk' (eh (aU (bA s):Nat) (aU (bJ s):Nat))) (.mk' 1) (pU (Da (iO j.2) (by omega)) (by rw[NI.ij,eh,a3,a3,a3];exact Nat.gcd_le_right _ (xo j.2 (fun e=>by rw[e]at k;simp at k)))) (by rw[okW];decide);rw[NI.ij,NI.ij]at hc;have M:=XT (a:=aU (bA s)) (b:=aU (bJ s));generalize ju (eh (aU (bA s):Nat) (aU (bJ s):Nat)) 1=o at*
 by_cases l:gc (aU (bA s)) (aU (bJ s))=1
 ·have w:o=0:=by simpa[l]using M
  simp[d,f,g,i,E,F,l];refine c1 y ?_;simp[d,f,g,i];refine c1 z ?_;simp;refine c2 C ?_;simp;refine c1 D ?_;simp;refine c2 hc ?_;simp[w];refine c2 Q ?_;simp[aW];rw[if_neg (by omega),if_pos l]
 ·have w:¬o=0:=by simpa[l]using M
  simp[d,f,g,i,E,F,l];refine c1 y ?_;simp[d,f,g,i];refine c1 z ?_;simp;refine c2 C ?_;simp;refine c1 D ?_;simp;refine c2 hc ?_;simp[w];refine c2 ag ?_ (h1:=by simp[w]);simp[aW];rw[if_neg (by omega),if_neg l]
def jt(s:List Nat):Prop:=s.length<=1048576/\∀c∈s,c<256
theorem VF(l:List (List Nat)):az prog 301 [.seq (l.map .str)] (.func 352 [] [.bY (.seq (l.map .str))]):=by
 refine aL nf ET mix (by simp[f301]) ?_;simp[f301];exact bw.refl _
def C2(s:List Nat):List PV:=[.int .i64 (bU s)]
theorem Vi(l:List (List Nat))(q:l.length<=1000000)(hs:∀s∈l,jt s):Stream prog 352 [] [.bY (.seq (l.map .str))] (l.map C2):=by
 intro b k c H' hk d o f;refine fP nf E5 mix (by simp[f352]) ?_;rw[b4]at hk;have g:∀i(h:i<l.length),(l.map C2)[i]?=some (C2 l[i]):=fun i h=>by rw[b0,a7 h];rfl
 simp[f352];refine lp (α:=Nat) (fun i=>⟨[(7,.p (.int .i64 i)),(6,.p (.int .i64 l.length)),(5,.p (.seq (l.map .str))),(0,.map b)],c i⟩) (fun i=>i<=k) (fun i=>l.length-i) 0 (by simp) ?_ (hr:=by simp;exact(d 0 (by omega)).2) (hr2:=(d 0 (by omega)).1);intro i hi;have n:=b8 (i:=i) (by omega)
 by_cases a:i<l.length
 ·have hc:=yB l[i] (hs _ (b3 a)).1 (hs _ (b3 a)).2;have gG:(i<k/\fO prog b (c i) [.p (.int .i64 (bU l[i]))] (c (i+1)) (.p (.bool true)))\/fO prog b (c i) [.p (.int .i64 (bU l[i]))] H' (.p (.bool false)):=by
   by_cases e:i<k
   ·exact .inl ⟨e,o i _ e (g i a)⟩
   ·have:i=k:=by omega
    subst this;rcases f with⟨e1,_⟩|⟨y,e1,e2⟩
    ·rw[b4]at e1;omega
    ·rw[g i a]at e1;injection e1 with e1;subst e1;exact .inr e2
  simp[a];refine c1 hc ?_;simp;rcases gG with⟨e,hY⟩|hY
  ·refine⟨c (i+1),_,hY,?_⟩;simp[n];exact rd (i+1) e (h1:=by omega) (hr:=by simp;exact(d (i+1) (by omega)).2) (hr2:=(d (i+1) (by omega)).1)
  ·refine⟨H',_,hY,?_⟩;simp
 ·have m:i=l.length:=by omega
  have j:k=l.length:=by omega
  rcases f with⟨e1,e2⟩|⟨y,e1,e2⟩
  ·simp[a,e2,m,j]
  ·rw[j,List.getElem?_eq_none (by simp)]at e1;cases e1
theorem AX(p:Nat->Bool):∀n,∃k,k<=n/\(∀j,j<k->p j=true)/\(k=n\/(k<n/\p k=false))
 |0=>⟨0,ed _,fun j h=>by omega,.inl rfl⟩
 |n+1=>by
  obtain⟨k,f,b,a⟩:=AX p n;rcases a with a|⟨a,d⟩
  ·subst a;cases c:p k
   ·exact⟨k,by omega,b,.inr ⟨by omega,c⟩⟩
   ·refine⟨k+1,ed _,fun j g=>?_,.inl rfl⟩
    by_cases e:j=k
    ·subst e;exact c
    ·exact b j (by omega)
  ·exact⟨k,by omega,b,.inr ⟨by omega,d⟩⟩
def lL(l:List (List Nat))(i:Nat):Int:=match l[i]? with
 |some s=>bU s
 |none=>0
theorem Hm:∀(l:List (List Nat))(k:Nat),(∀j,j<k->lL l j=0)->bE (l.map bU)=bE ((l.drop k).map bU)
 |[],k,_=>by simp
 |s::l,0,_=>rfl
 |s::l,k+1,h=>by
  have a:=h 0 (by omega);have b:bU s=0:=a;rw[bb,bE,if_pos b,List.drop_succ_cons];exact Hm l k fun j c=>h (j+1) (by omega)
theorem Sr(l:List (List Nat))(c:l.length<=1000000)(hs:∀s∈l,jt s):az prog 268 [.seq (l.map .str)] (.int .i64 (bE (l.map bU))):=by
 refine aL nf DZ mix (by simp[f268]) ?_;simp[f268];refine c1 (VF l) ?_;simp;have aF:=Vi l c hs;obtain⟨k,hk,g,d⟩:=AX (fun i=>decide (lL l i=0)) l.length;have r:∀j,j<k->lL l j=0:=fun j q=>by simpa using g j q
 have f:=Hm l k r;refine rf2 aF rfl (by simp) (fun L _=>[.box false (.p (.int .i64 0)),.loop L]) (fun L i=>[.box false (.p (.int .i64 (lL l (i-1)))),.loop (L.dn .ret)]) (fun i=>decide (lL l i=0)) .ret k (by simpa using hk) g (by simpa using d) (fun L=>rfl) ?_ ?_ (fun L=>rfl) ?_ ?_
 ·intro L b i hi;clear b;refine⟨rfl,by simp,fun _ c=>?_⟩;simp at c⊢;exact c
 ·intro L b i x hi hx;have t:x=[.int .i64 (lL l i)]:=by
   rw[b0]at hx;unfold lL;cases h:l[i]? with
   |none=>rw[h]at hx;cases hx
   |some s=>rw[h]at hx;injection hx with hx;rw[<-hx];rfl
  subst t;rw[ej];refine px nf mix b rfl rfl (by kernel_rfl) ?_;have m:=congrArg dC.env b;dsimp only at m;clear b;generalize lL l i=e
  by_cases he:e=0
  ·subst he;simp;exact .inl rfl
  ·simp[he];exact .inl rfl
 ·intro a L;have a:k=l.length:=by simpa using a
  rw[f,a];simp[bE]
 ·intro a L;have a:k<l.length:=by simpa using a
  have o:¬lL l k=0:=by
   rcases d with u|⟨_,n⟩
   ·omega
   ·simpa using n
  have e1:lL l k=bU l[k]:=by unfold lL;rw[a7 a]
  rw[f,bi a,bb,bE,<-e1,if_neg o];simp[jd]
structure gX where
 x:List Nat
 y:List Nat
def fZ(p:gX):PV:=.st 41 [.str p.x,.str p.y]
def pc(p:gX):Prop:=jt p.x/\jt p.y
def dU(p:gX):Int:=bE [bU p.x,bU p.y]
@[simp] theorem aHk(p:gX):aJ (fZ p)=.agg 41:=rfl
@[simp] theorem aFr(p:gX):cj (fZ p)=[.str p.x,.str p.y]:=rfl
@[simp] theorem aDM:prog.cellsOf 41=2:=by kernel_rfl
theorem QM(p:gX)(a:pc p):az prog 190 [.seq [fZ p]] (.int .i64 (dU p)):=by
 have hc:=Sr [p.x,p.y] (by simp) (by intro s hs;simp at hs;rcases hs with rfl|rfl;exact a.1;exact a.2);refine aL nf Mk mix (by simp[f190]) ?_;simp[f190];refine lp (α:=Nat) (fun i=>⟨[(8,.p (.int .i64 i)),(7,.p (.int .i64 1)),(6,.p (.seq [fZ p])),(0,.p (.seq [fZ p]))],[]⟩) (fun i=>i=0\/(i=1/\dU p=0)) (fun i=>1-i) 0 (.inl rfl) ?_;rintro i h;rcases h with rfl|⟨rfl,h⟩
 ·simp[ad];refine cp hc (by simp;exact⟨rfl,rfl⟩) ?_;have b:a2.wrap 1=1:=rfl;rw[show bE (dl bU [p.x,p.y])=dU p from rfl]
  by_cases h:dU p=0
  ·simp[h,b];exact rd 1 (.inr ⟨rfl,h⟩)
  ·simp[h]
 ·simp[h]
theorem zS(p:gX)(a:pc p):az prog 106 [fZ p] (.int .i64 (dU p)):=by
 refine aL nf L6 mix (by simp[f106]) ?_;simp[f106,ad];refine cp (QM p a) (by simp;exact⟨rfl,rfl⟩) ?_;simp
open Go.Proofs Go.Proofs.YtgpphcmkjhklgaaGreatDoor
section
variable{H:Type}{W:World}{aa:Nat->Prop}
theorem yH{n:Nat}{d:DataW H}(h:∃cs,aS prog W aa (bD prog (n+1) 29 d) cs)(a:Rows.uptoBulk d<=1048576):∃s:List Nat,bD prog (n+1) 29 d=.str s/\jt s:=by
 obtain⟨cs,h⟩:=h;cases d with
 |lit l=>
  cases l with
  |string bytes=>
   refine⟨bytes.map (·.toNat),by simp only[bD,Dn],?_,?_⟩
   ·rw[Rows.uptoBulk]at a;rw[b4];omega
   ·intro c hc;obtain⟨u,_,rfl⟩:=bv.1 hc;exact u.toNat_lt
  |_=>simp only[bD,Dn,aS]at h
 |_=>simp only[bD,Dn,aS]at h
theorem aCw:∃a b:Field,prog.underlying 42=some (.struct #[a,b])/\a.type=29/\b.type=29:=⟨_,_,underlying42,rfl,rfl⟩
theorem OW:prog.underlyingId 42=41:=by kernel_rfl
theorem TW{m n:Nat}(q:m=n+1){d:DataW H}(h:∃cs,aS prog W aa (bD prog (m+1) 42 d) cs)(e:Rows.uptoBulk d<=1048576):∃p:gX,bD prog (m+1) 42 d=fZ p/\pc p:=by
 obtain⟨cs,h⟩:=h;obtain⟨f0,f1,i,t0,t1⟩:=aCw;cases d with
 |agg l=>
  have g:∀x∈l,Rows.uptoBulk x<=1048576:=fun x hx=>by
   have:=qP.vc hx;rw[Rows.uptoBulk]at e;omega
  simp only[bD,i,aS]at h⊢;obtain⟨t,s,f,c,_⟩:=h;rw[OW,aA1]at f;cases f
  match l,c with
  |[],c=>simp[aY]at c
  |[x],c=>simp[aY]at c
  |x::y::r,c=>
   simp only[List.zip_cons_cons,bb,aY,List.zip_nil_left,dq,t0,t1]at c⊢;obtain⟨c0,_,_,g1,_,c1,_,_,g2,_⟩:=c;subst q;obtain⟨a,j,o⟩:=yH ⟨c0,g1⟩ (g x (by simp));obtain⟨b,k,e⟩:=yH ⟨c1,g2⟩ (g y (by simp));exact⟨⟨a,b⟩,by rw[j,k,OW];rfl,o,e⟩
 |_=>simp only[bD,i,aS]at h
theorem Hv{n:Nat}{d:DataW H}(h:∃cs,aS prog W aa (bD prog (n+2) 42 d) cs)(a:Rows.uptoBulk d<=1048576):∃p:gX,bD prog (n+2) 42 d=fZ p/\pc p:=TW rfl h a
end
def bT:Nat:=1000000000
theorem aV:2<=bT:=by decide
def iP(l:List Nat):List PV:=l.map fun x:Nat=>.int .i64 x
theorem ON(w:List Nat):eC prog 1 (w.map (AV.p∘fun x:Nat=>PV.int .i64 x)):=by
 rw[ua];intro v a;obtain⟨x,_,rfl⟩:=bv.1 a;simp[ad,aJ,bB]
def eT(n:Nat):PV:=.seq ((an bT n).map fun x:Nat=>.int .i64 x)
theorem yP:an bT 0=[]:=by simp[an,mF]
theorem mZ{n:Nat}(b:0<n)(h:n<bT):an bT n=[n]:=by
 have a:=ja aV (m:=1) (n:=n) (by rw[ge];exact h);rw[<-a,row,List.range_one,bb,dq,ae,e8,fl,e7 h];have:=tX [] n (by omega)
 rwa [dg]at this
theorem ug{n:Nat}:an bT n=[]↔n=0:=by
 constructor
 ·intro h;have:=bZ aV n;rw[h,List.length_nil,e8]at this;omega
 ·rintro rfl;exact yP
theorem sB(w:List Nat)(h:w.length<=1048576):az prog 265 [.seq (iP w)] (.seq (iP (dS w))):=by
 refine aL nf DQ mix (by simp[f265]) ?_;simp only[iP];simp[f265];refine lp (α:=Nat) (fun i=>⟨[(0,.p (.seq ((w.take i).map fun x:Nat=>.int .i64 x)))],[]⟩) (fun i=>i<=w.length/\dS w=dS (w.take i)) (fun i=>i) w.length (by simp) ?_;rintro i ⟨k1,k2⟩;have k:(w.take i).length=i:=by rw[c6];omega
 by_cases hi:0<i
 ·obtain⟨j,rfl⟩:∃j,i=j+1:=⟨i-1,by omega⟩
  have f:a2.wrap (j:Int)=j:=aM _ (by omega) (by omega);have a:j<w.length:=by omega
  have e:(0:Int)<(j:Int)+1:=by omega
  have k3:=k2;rw[be a]at k2;have c:min (j+1) w.length=j+1:=by omega
  have d:min ((j:Int)+1) (w.length:Int)=j+1:=by omega
  have g:¬w=[]:=by rintro rfl;simp at a
  by_cases b:w[j]=0
  ·rw[b,Ae]at k2;simp[e,f,a,b,c,d,g];refine⟨by rw[<-bo];exact ON _,?_⟩;refine rd j ⟨by omega,k2⟩ (he:=?_);rw[<-bo,<-bo,List.take_take,Nat.min_eq_left (by omega)];simp
  ·rw[tX _ _ b,<-be a]at k2;simp[e,f,a,b,c,d,g];rw[k2,bo];exact bw.refl _
 ·obtain rfl:i=0:=by omega
  simp[dS]at k2;simp[k2]
def eG(z:Int):PV:=.st 166 [.bool (decide (z<0)),eT z.natAbs]
@[simp] theorem aG6(z:Int):aJ (eG z)=.agg 166:=rfl
@[simp] theorem aFm(z:Int):cj (eG z)=[.bool (decide (z<0)),eT z.natAbs]:=rfl
@[simp] theorem aHq(n:Nat):aJ (eT n)=.leaf:=rfl
theorem Bb(neg:Bool)(w:List Nat)(n:Nat)(c:dS w=an bT n)(h:w.length<=1048576):az prog 256 [.bool neg,.seq (iP w)] (eG (if neg=true then -(n:Int)else n)):=by
 have a:=sB w h;rw[c]at a;refine aL nf LB mix (by simp[f256]) ?_;have b:(if neg=true then -(n:Int)else n).natAbs=n:=by cases neg<;>simp
 rw[eG,b,eT];have d:=ug (n:=n);have e:decide ((if neg=true then -(n:Int)else n)<0)=(neg&&decide (0<(an bT n).length)):=by
  cases neg
  ·simp
  ·simp;rw[a4,Ne,d];omega
 rw[e];simp only[iP]at a⊢;generalize an bT n=x at*;cases neg
 ·simp[f256];refine c1 a ?_;simp[ad]
 ·simp[f256];refine c1 a ?_;simp[ad]
  done
theorem GJ{a b:Nat}(h:(an bT a).length<(an bT b).length):a<b:=by
 have d:=bZ aV a;rcases em a b with c|c
 ·exact c
 ·have:=dB aV (an bT a).length b (ec c d);omega
theorem GS{a b i:Nat}(h:a/bT^(i+1)=b/bT^(i+1))(e:ae bT a i<ae bT b i):a<b:=by
 rw[eq,<-en,<-en]at h;have e1:=ei (a/bT^i) bT;have e2:=ei (b/bT^i) bT;rw[ae,ae]at e;rw[h]at e1;rcases em a b with d|d
 ·exact d
 ·have:=Nat.div_le_div_right (c:=bT^i) d;omega
theorem UG{a b i:Nat}(h:a/bT^(i+1)=b/bT^(i+1))(c:ae bT a i=ae bT b i):a/bT^i=b/bT^i:=by
 rw[eq,<-en,<-en]at h;have e1:=ei (a/bT^i) bT;have e2:=ei (b/bT^i) bT;rw[ae,ae]at c;rw[h]at e1;omega
theorem GZ(a b:Nat)(E:(an bT a).length<=1048576)(F:(an bT b).length<=1048576):az prog 263 [eT a,eT b] (.int .i64 (fk a b)):=by
 refine aL nf Lz mix (by simp[f263]) ?_
 by_cases l:(an bT a).length=(an bT b).length
 case neg=>
  have q:¬((an bT a).length:Int)=(an bT b).length:=by omega
  by_cases A:(an bT a).length<(an bT b).length
  ·have m:((an bT a).length:Int)<(an bT b).length:=by omega
   have:=GJ A;have hc:fk a b= -1:=if_pos this;simp[f263,eT,q,m,hc]
  ·have m:¬((an bT a).length:Int)<(an bT b).length:=by omega
   have:=GJ (a:=b) (b:=a) (by omega);have hc:fk a b=1:=by rw[fk,if_neg (by omega),if_pos this]
   simp[f263,eT,q,m,hc]
 have t:∀i(h:i<(an bT a).length),(an bT a)[i]?=some (ae bT a i):=fun i h=>by rw[a7 h,dW aV h]
 have v:∀i(h:i<(an bT b).length),(an bT b)[i]?=some (ae bT b i):=fun i h=>by rw[a7 h,dW aV h]
 have u:∀i(h:i<(an bT a).length),(an bT a)[i]=ae bT a i:=fun i h=>dW aV h;have w:∀i(h:i<(an bT b).length),(an bT b)[i]=ae bT b i:=fun i h=>dW aV h;have s:=bZ aV a;have o:=bZ aV b;rw[<-l]at o;have z:a/bT^(an bT a).length=b/bT^(an bT a).length:=by rw[eo s,eo o]
 simp only[eT];generalize an bT a=x at*;generalize an bT b=y at*;have D:a2.wrap ((y.length:Int)-1)=y.length-1:=aM _ (by omega) (by omega);simp[f263,l,D];refine lp (α:=Nat) (fun i=>⟨[(5,.p (.int .i64 ((i:Int)-1))),(1,.p (.seq (y.map fun x:Nat=>.int .i64 x))),(0,.p (.seq (x.map fun x:Nat=>.int .i64 x)))],[]⟩) (fun i=>i<=y.length/\a/bT^i=b/bT^i) (fun i=>i) y.length ⟨ed _,by rw[<-l];exact z⟩ ?_;rintro i ⟨k1,k2⟩
 by_cases hi:0<i
 ·obtain⟨j,rfl⟩:∃j,i=j+1:=⟨i-1,by omega⟩
  have c:j<x.length:=by omega
  have d:j<y.length:=by omega
  have C:a2.wrap ((j:Int)-1)=j-1:=aM _ (by omega) (by omega);have e:=t j c;have g:=v j d;have f:=u j c;have k:=w j d
  by_cases hq:ae bT a j=ae bT b j
  ·simp[c,d,e,g,f,k,hq,C];exact rd j ⟨by omega,UG k2 hq⟩
  ·have r:¬(ae bT a j:Int)=ae bT b j:=by omega
   by_cases n:ae bT a j<ae bT b j
   ·have:=GS k2 n;have hc:fk a b= -1:=if_pos this;simp[c,d,e,g,f,k,r,n,hc]
   ·have:=GS k2.symm (show ae bT b j<ae bT a j by omega);have B:ae bT b j<ae bT a j:=by omega
    have hc:fk a b=1:=by rw[fk,if_neg (by omega),if_pos this]
    simp[c,d,e,g,f,k,r,n,B,hc]
 ·obtain rfl:i=0:=by omega
  rw[e8,fl,fl]at k2;have hc:fk a b=0:=by rw[fk,if_neg (by omega),if_neg (by omega)]
  simp[hc]
theorem Vu{n i:Nat}(h:(an bT n).length<=i):ae bT n i=0:=iZ (eb (bZ aV n) (ea (by decide) h))
theorem BV(a i:Nat):az prog 302 [eT a,.int .i64 i] (.int .i64 (ae bT a i:Nat)):=by
 refine aL nf Lw mix (by simp[f302]) ?_
 by_cases h:i<(an bT a).length
 ·have b:(an bT a)[i]=ae bT a i:=dW aV h;rw[eT,<-b];generalize an bT a=x at*;simp[f302,h]
 ·rw[Vu (by omega),eT];generalize an bT a=x at*;simp[f302,h]
def dQ(i n:Nat):List AV:=(cb i).map fun j=>.p (.int .i64 (ae bT n j:Nat))
theorem pM(i n:Nat):dQ (i+1) n=dQ i n++[.p (.int .i64 (ae bT n i:Nat))]:=by
 rw[dQ,List.range_succ,List.map_append];rfl
theorem ic(i n:Nat):(dQ i n).length=i:=by simp[dQ]
@[simp] theorem aGL{N:Nat×Nat->Prop}{n i:Nat}:aQ N (dQ i n)=True:=by
 rw[cq,eq_iff_iff,iff_true];intro v a;simp only[dQ,bv]at a;obtain⟨x,_,rfl⟩:=a;trivial
theorem J0(i n:Nat):ez (dQ i n)=some ((row bT i n).map fun x:Nat=>.int .i64 x):=by
 have:dQ i n=(row bT i n).map (AV.p∘fun x:Nat=>PV.int .i64 x):=by
  rw[dQ,row,dz];rfl
 rw[this];exact Ik
theorem Le(i n:Nat):dQ i n=(row bT i n).map (AV.p∘fun x:Nat=>PV.int .i64 x):=by
 rw[dQ,row,dz];rfl
theorem VP{n i:Nat}(h:n<bT^i)(a:i=0\/bT^(i-1)<=n):row bT i n=an bT n:=by
 have b:(an bT n).length=i:=by
  have c:=dB aV i n h;rcases a with rfl|a
  ·omega
  ·have:=Hn aV a;omega
 have:=Xu aV n;rw[b]at this;exact this.symm
theorem Wp(a b:Nat)(I:(an bT a).length<=1000000)(J:(an bT b).length<=1000000):az prog 270 [eT a,eT b] (eT (a+b)):=by
 refine aL nf DX mix (by simp[f270]) ?_;have v:=bZ aV a;have w:=bZ aV b;have C:∀i,i<(an bT a).length->bT^i<=a:=fun i h=>by
  rcases em a (bT^i)with c|c
  ·have:=dB aV i a c;omega
  ·exact c
 have D:∀i,i<(an bT b).length->bT^i<=b:=fun i h=>by
  rcases em b (bT^i)with c|c
  ·have:=dB aV i b c;omega
  ·exact c
 have A:∀i,0<cV bT a b i->bT^i<=a+b:=fun i h=>by
  rw[cV]at h;have c:bT^i<=a% bT^i+b% bT^i:=by
   rcases em (a% bT^i+b% bT^i) (bT^i)with d|d
   ·rw[eo d]at h;omega
   ·exact d
  have:=gm a (bT^i);have:=gm b (bT^i);omega
 have f:=fun i=>BV a i;have g:=fun i=>BV b i;have B:∀i,(an bT a).length<=i->(an bT b).length<=i->cV bT a b i=0->a+b<bT^i:=fun i c d s=>by
  have l:=eb v (ea (show 0<bT by decide) c);have m:=eb w (ea (show 0<bT by decide) d);rw[cV,e7 l,e7 m]at s;rcases em (a+b) (bT^i)with e|e
  ·exact e
  ·have:=Nat.div_pos e (fb (show 0<bT by decide));omega
 have E:∃M,M=max (an bT a).length (an bT b).length:=⟨_,rfl⟩
 obtain⟨M,H⟩:=E;simp only[eT]at f g⊢;have F:=fun i h d=>VP (n:=a+b) (i:=i) h d;generalize an bT (a+b)=z at*;generalize an bT a=x at*;generalize an bT b=y at*;simp[f270];refine lp (α:=Nat) (fun i=>⟨[(7,.p (.int .i64 i)),(6,.p (.int .i64 (cV bT a b i:Nat))),(5,.sl 0 i 1 0 i),(1,.p (.seq (y.map fun x:Nat=>.int .i64 x))),(0,.p (.seq (x.map fun x:Nat=>.int .i64 x)))],[.arr .grow i 1 (dQ i (a+b))]⟩)
  (fun i=>i<=M+1/\(i=0\/bT^(i-1)<=a+b)) (fun i=>M+1-i) 0 ⟨by omega,.inl rfl⟩ ?_ (he:=by simp[wJ,dQ]) (hh:=by simp[dQ])
 rintro i ⟨k1,k2⟩;have o:=b8 (i:=i) (by omega);have K:=lr aV a b i;obtain⟨l,m⟩:=pG aV a b i;have N:=b7 aV a i;have O:=b7 aV b i;have t:bT=1000000000:=rfl;have q:a2.wrap ((ae bT a i:Int)+ae bT b i)=ae bT a i+ae bT b i:=aM _ (by omega) (by omega);have r:a2.wrap ((ae bT a i:Int)+ae bT b i+cV bT a b i)=ae bT a i+ae bT b i+cV bT a b i:=aM _ (by omega) (by omega);have d1:((ae bT a i:Int)+ae bT b i+cV bT a b i).tmod 1000000000=(ae bT (a+b) i:Nat):=by
  rw[Int.tmod_eq_emod_of_nonneg (by omega),<-l,t];omega
 have d2:((ae bT a i:Int)+ae bT b i+cV bT a b i).tdiv 1000000000=(cV bT a b (i+1):Nat):=by
  rw[Int.tdiv_eq_ediv_of_nonneg (by omega),<-m,t];omega
 have d3:a2.wrap (cV bT a b (i+1):Nat)=(cV bT a b (i+1):Nat):=by have:=lr aV a b (i+1);exact aM _ (by omega) (by omega)
 have j:b1 i (dQ i (a+b))=dQ i (a+b):=a5 (by rw[ic];exact ed _)
 by_cases hx:i<x.length
 ·simp[hx];refine c2 (f i) ?_;simp;refine c2 (g i) ?_;simp[q,r,d1,d2,d3,ic,j,<-pM];refine⟨by simp only[cM];omega,?_⟩;refine rd (i+1) ⟨by omega,.inr (by rw[ej];exact ee (C i hx) (by omega))⟩ (by omega) (he:=by simp[o])
 by_cases k:i<y.length
 ·simp[hx,k];refine c2 (f i) ?_;simp;refine c2 (g i) ?_;simp[q,r,d1,d2,d3,ic,j,<-pM];refine⟨by simp only[cM];omega,?_⟩;refine rd (i+1) ⟨by omega,.inr (by rw[ej];exact ee (D i k) (by omega))⟩ (by omega) (he:=by simp[o])
 by_cases hc:0<cV bT a b i
 ·have L:i=M:=by
   rcases em M i with h|h
   ·have e0:=pG aV a b M;have c:ae bT a M=0:=iZ (eb v (ea (by decide) (by omega)));have d:ae bT b M=0:=iZ (eb w (ea (by decide) (by omega)));have s:=lr aV a b M;have e:i=M+1:=by omega
    subst e;rw[c,d]at e0;rw[<-e0.2,eo (by omega)]at hc;omega
   ·omega
  simp[hx,k,hc];refine c2 (f i) ?_;simp;refine c2 (g i) ?_;simp[q,r,d1,d2,d3,ic,j,<-pM];refine⟨by simp only[cM];omega,?_⟩;refine rd (i+1) ⟨by omega,.inr (by rw[ej];exact A i hc)⟩ (by omega) (he:=by simp[o])
 ·have u:cV bT a b i=0:=by omega
  have G:=F i (B i (by omega) (by omega) u) k2;rw[<-G];simp[hx,k,u];refine⟨by rw[ic];exact ed _,?_⟩;rw[j,Le];simp
theorem K5(a b:Nat)(A:b<=a)(F:(an bT a).length<=1000000):az prog 271 [eT a,eT b] (eT (a-b)):=by
 refine aL nf KM mix (by simp[f271]) ?_;have D:=bZ aV a;have j:=fun i=>BV b i;have B:∀i(h:i<(an bT a).length),(an bT a)[i]?=some (ae bT a i):=fun i h=>by rw[a7 h,dW aV h]
 have C:∀i(h:i<(an bT a).length),(an bT a)[i]=ae bT a i:=fun i h=>dW aV h;have E:dS (row bT (an bT a).length (a-b))=an bT (a-b):=ja aV (ec (Nat.sub_le a b) D);have e:=sB (row bT (an bT a).length (a-b)) (by rw[Kq];omega);rw[E]at e;simp only[eT]at j⊢;simp only[iP]at e;generalize an bT (a-b)=z at*;generalize an bT a=x at*;generalize an bT b=y at*;simp[f271];refine lp (α:=Nat) (fun i=>⟨[(7,.p (.int .i64 i)),(6,.p (.int .i64 (eL bT a b i:Nat))),(5,.sl 0 i 1 0 i),(1,.p (.seq (y.map fun x:Nat=>.int .i64 x))),(0,.p (.seq (x.map fun x:Nat=>.int .i64 x)))],[.arr .grow i 1 (dQ i (a-b))]⟩)
  (fun i=>i<=x.length) (fun i=>x.length-i) 0 (by simp) ?_ (he:=by simp[Ad,dQ]) (hh:=by simp[dQ])
 intro i k1;have s:=b8 (i:=i) (by omega);have r:b1 i (dQ i (a-b))=dQ i (a-b):=a5 (by rw[ic];exact ed _);have G:bT=1000000000:=rfl;have J:=b7 aV a i;have K:=b7 aV b i;have L:=b7 aV (a-b) i;have M:eL bT a b i<=1:=by rw[eL];split<;>omega
 have u:a2.wrap ((ae bT a i:Int)-ae bT b i)=ae bT a i-ae bT b i:=aM _ (by omega) (by omega);have n:a2.wrap ((ae bT a i:Int)-ae bT b i-eL bT a b i)=ae bT a i-ae bT b i-eL bT a b i:=aM _ (by omega) (by omega)
 by_cases hx:i<x.length
 ·have o:=B i hx;have q:=C i hx;rcases IV aV A i with⟨v,g,w⟩|⟨v,g,w⟩
  ·have m:(ae bT a i:Int)-ae bT b i-eL bT a b i<0:=by omega
   have f:a2.wrap ((ae bT a i:Int)-ae bT b i-eL bT a b i+1000000000)=(ae bT (a-b) i:Nat):=by rw[aM _ (by omega) (by omega)];omega
   simp[hx,o,q];refine e2 (j i) ?_;simp[u,n,m,f,ic,r,<-pM];refine⟨by simp only[cM];omega,?_⟩;refine rd (i+1) hx (he:=by simp[s,g])
  ·have m:¬(ae bT a i:Int)-ae bT b i-eL bT a b i<0:=by omega
   have f:(ae bT a i:Int)-ae bT b i-eL bT a b i=(ae bT (a-b) i:Nat):=by omega
   rw[f]at m n;simp[hx,o,q];refine e2 (j i) ?_;simp[u,n,f,ic,r,<-pM];refine⟨by simp only[cM];omega,?_⟩;refine rd (i+1) hx (he:=by simp[s,g])
 ·have:i=x.length:=by omega
  subst this;have k:=Le x.length (a-b);have d:(row bT x.length (a-b)).length=x.length:=Kq;generalize row bT x.length (a-b)=l at e k d;have H:b1 x.length l=l:=a5 (by omega);rcases l with _|⟨c,t⟩
  ·simp at d;simp[k];refine cp e (by simp[<-d];exact⟨rfl,rfl⟩) ?_;simp
  ·have I:b1 x.length (PV.int .i64 c::dl (fun x:Nat=>PV.int .i64 x) t)=PV.int .i64 c::dl (fun x:Nat=>PV.int .i64 x) t:=a5 (by simp at d⊢;omega);simp at d;simp[k];refine cp e (by simp[<-d];exact⟨rfl,rfl⟩) ?_;simp
def c7(n:Nat)(f:Nat->Nat):List AV:=(cb n).map fun j=>.p (.int .i64 (f j:Nat))
theorem uw(n:Nat)(f:Nat->Nat):(c7 n f).length=n:=by simp[c7]
theorem IZ(n:Nat):a8 n (AV.p (.int .i64 0))=c7 n fun _=>0:=by
 apply db (by simp[c7]);intro i a b;simp[c7]
theorem sj{n j:Nat}(f:Nat->Nat)(h:j<n):(c7 n f)[j]?=some (.p (.int .i64 (f j:Nat))):=by
 rw[c7,b0,ck h];rfl
theorem Bw{n i:Nat}(f g:Nat->Nat)(h:∀j,j<n->j≠i->g j=f j):(c7 n f).set i (.p (.int .i64 (g i:Nat)))=c7 n g:=by
 apply db (by simp[c7]);intro j c b;rw[uw]at b;rw[List.getElem_set];simp only[c7,List.getElem_map,List.getElem_range]
 by_cases a:i=j
 ·subst a;rw[if_pos rfl]
 ·rw[if_neg a,h j b (fun e=>a e.symm)]
@[simp] theorem aGK{N:Nat×Nat->Prop}{n:Nat}{f:Nat->Nat}:aQ N (c7 n f)=True:=by
 rw[cq,eq_iff_iff,iff_true];intro v a;simp only[c7,bv]at a;obtain⟨x,_,rfl⟩:=a;trivial
theorem xC{n:Nat}{f g:Nat->Nat}(h:∀j,j<n->f j=g j):c7 n f=c7 n g:=by
 rw[c7,c7];apply List.map_congr_left;intro j a;rw[h j (List.mem_range.1 a)]
end Go.aw
