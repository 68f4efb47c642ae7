import Derived.Test.YtenbmieafgdjaaaGreatDoorMPG
import Derived.Test.YtenbmieafgdjaaaGreatDoorMThE
import Derived.Test.YtenbmieafgdjaaaGreatDoorMPE
import Derived.Lib.AtoiAll
import Derived.Test.YtenbmieafgdjaaaGreatDoorMPC
/- Parts of a proof. -/
set_option linter.unusedSimpArgs false
set_option linter.unusedVariables false
set_option linter.unusedSectionVars false
open Go.Proofs.Tryz
open Bool renaming and_eq_true->aT, false_eq_true->a0
open Go renaming FuncId->a1
open Go.IntKind renaming i64->a2
open Int renaming natAbs_natCast->a3
open List renaming length_pos_iff->a4, take_of_length_le->a5, length_singleton->a6, getElem?_eq_getElem->a7, replicate->a8, length_append->a9, map_cons->bb, drop_eq_getElem_cons->be, take_succ_eq_append_getElem->bi, append_nil->bk, take_append_drop->bl, map_take->bo, mem_map->bv, getElem?_map->b0, take->b1, reverse_nil->b2, getElem_mem->b3, length_map->b4, foldl_cons->b5, range->cb, all_cons->cc, dropWhile_sublist->ce, getElem?_range->ck, flatten_append->cv, dropWhile_cons->cx, mem_singleton->cy, length_take->c6, length_cons->c9, flatten_nil->da, ext_getElem->db, nil_append->dg, mem_append->dk, map->dl, mem_cons->dp, map_nil->dq, map_map->dz
open Nat renaming pow_le_pow_right->ea, lt_of_lt_of_le->eb, lt_of_le_of_lt->ec, le_refl->ed, le_trans->ee, div_add_mod->ei, add_sub_cancel->ej, lt_or_ge->em, div_div_eq_div_mul->en, div_eq_of_lt->eo, pow_succ->eq, mul_assoc->ew, lt_trans->e6, mod_eq_of_lt->e7, pow_zero->e8, mul_comm->e9, pow_pos->fb, mul_le_mul_right->fd, div_one->fl, pow_le_pow_left->fm, div_mul_le_self->fv, div_lt_self->fK, add_assoc->gb, gcd->gc, pow_one->ge, pow_mul->gg, add_mul->gi, mod_lt->gj, mod_le->gm
open Option.some renaming injEq->gt
open UInt8 renaming ofNat->gx
namespace Go.al
open Go.Proofs
set_option linter.unusedSectionVars false
theorem zY:dH prog 226=some [1,1]:=by kernel_rfl
section
variable{w:World}{aa ah:Nat->Prop}{β:Bd}{H:Heap}
theorem Sh{ak:Nat}{c0 c1 v:Value}{T:TypeId}(h:w.heap[ak]?=some (.cells #[c0,c1] T (0,0))):w.setCell ⟨ak,0,none⟩ v=w.setRow ak #[v,c1]:=by
 obtain⟨d,a⟩:=Array.getElem?_eq_some_iff.1 h;unfold World.setCell World.setRow;congr 1;apply Array.ext
 ·simp
 ·intro i b c;simp only[Array.getElem_modify]
  by_cases hi:ak=i
  ·subst hi;simp[a]
  ·simp[hi]
theorem RG{t x:AV}{cs:Array Value}(g:t=gM 226 [.p .dD,x]\/t=.st 226 [.p .dD,x])(h:bm prog w aa β H t cs.toList):∃y,cs=#[.pointer none,y]/\bm prog w aa β H x [y]:=by
 have a:bm prog w aa β H (.st 226 [.p .dD,x]) cs.toList:=by
  rcases g with rfl|rfl
  ·exact Km.1 h
  ·exact h
 simp only[bm,zY,gt]at a;obtain⟨l,k,rfl,b,d⟩:=a;simp only[bJ,bm,aS]at b;obtain⟨c,i,rfl,rfl,_,c2,j,rfl,e,f,rfl⟩:=b
 match c2,f with
 |[y],_=>exact⟨y,Array.ext' (by simpa using d),e⟩
theorem Ry{b:Nat}{x:AV}{cs:Array Value}(h:bm prog w aa β H (.st 226 [.ptr b [],x]) cs.toList):∃v y,cs=#[v,y]/\bK prog β H (.ptr b []) v:=by
 simp only[bm,zY,gt]at h;obtain⟨l,j,rfl,a,d⟩:=h;simp only[bJ,bm]at a;obtain⟨c,g,rfl,⟨v,rfl,f⟩,_,c2,i,rfl,k,e,rfl⟩:=a
 match c2,e with
 |[y],_=>exact⟨v,y,Array.ext' (by simpa using d),f⟩
end
theorem Dc{H:Heap}{b:Nat}{t x:AV}(f:H[b]?=some (.box false t))(i:t=gM 226 [.p .dD,x]\/t= .st 226 [.p .dD,x]):
 b9 prog 226 H [.ptr b []] (H.set b (.box false (.st 226 [.ptr b [],x]))) (.p (.aD [])):=by
 refine⟨iD func226 (by kernel_rfl),fun w aa ah β J g j K=>?_⟩;simp only[bw,aw]at j;obtain⟨v,vs,rfl,⟨_,I,L,M,rfl,m,B⟩,rfl⟩:=j;simp only[fN,gt]at m;subst m;obtain⟨rfl,rfl⟩:=B (.inl ⟨false,t,f⟩);obtain⟨cs,T,k1,k2,k3,_,k5⟩:=g.cE b _ f;have F:ad t=.agg 226:=by
  rcases i with rfl|rfl
  ·exact A2 _ _
  ·rfl
 have q:T=227:=by
  rw[F]at k5;exact dt (by simpa[iV,Gl.bx,YO]using k5)
 subst q;obtain⟨y,rfl,G⟩:=RG i k2;have o:¬aa (β.ak b)/\¬ah (β.ak b):=by simpa[cw]using k3
 refine(Ru (β.ak b) w (by simp[World.cell?,k1]) (by simp[World.shape?,k1]) (by simp[World.frozen?,k1])).mono ?_;rintro e w' ⟨rfl,rfl⟩;rw[Sh k1];have aK:ch β H β (H.set b (.box false (.st 226 [.ptr b [],x]))):=oi f (.inl ⟨_,_,_,_,rfl,rfl⟩);have aj:∀z,aG H z->aG (H.set b (.box false (.st 226 [.ptr b [],x]))) z:=lj f (fun _ h=>h);have r:b<H.length:=(List.getElem?_eq_some_iff.1 f).1;have u:(H.set b (.box false (.st 226 [.ptr b [],x])))[b]?=some (.box false (.st 226 [.ptr b [],x])):=List.getElem?_set_self r;have n:aB (aG H) x:=by
  have:=g.refs b _ f;rcases i with rfl|rfl
  ·simp only[Obj.refs]at this;unfold gM at this
   split at this
   ·rename_i l d;have d:=lg d
    match l,d with
    |[a,c],d=>simp at d;rw[d.2];simp[aB]
    |[],d=>simp at d
    |[_],d=>simp at d
    |_::_::_::_,d=>simp at d
   ·simp only[aB,aQ]at this;exact this.2.1
  ·simp only[Obj.refs,aB,aQ]at this;exact this.2.1
 have E:∀k,aa k->(w.setRow (β.ak b) #[.pointer (some ⟨β.ak b,0,none⟩),y]).heap[k]?=w.heap[k]?:=fun k A=>setRow_other w _ k _ (fun s=>o.1 (s▸A));have D:Obj.refs (aG (H.set b (.box false (.st 226 [.ptr b [],x])))) (.box false (.st 226 [.ptr b [],x])):=by
  simp only[Obj.refs,aB,aQ,and_true];exact⟨⟨_,u,trivial⟩,aB.mono aj _ n⟩
 have C:=pq g f trivial (o':=.box false (.st 226 [.ptr b [],x])) trivial (fun _ h=>h) k1 (new:=#[.pointer (some ⟨β.ak b,0,none⟩),y]) o aK
  ⟨_,227,setRow_heap w _ _ _ 227 _ k1,by
   simp only[bm,zY,gt];refine⟨_,[[.pointer (some ⟨β.ak b,0,none⟩)],[y]],rfl,?_,rfl⟩;simp only[bJ,bm];exact⟨_,_,rfl,⟨_,rfl,⟨rfl,_,_,0,rfl,rfl,fun _=>⟨rfl,rfl⟩⟩⟩,rfl,_,_,rfl,bm.mono (fun _ x=>x) E aK _ _ n G,rfl,rfl⟩,k3,by simp,by simp[ad,iV,Gl.bx]⟩ D
 exact⟨_,β,aa,rfl,C,by simp[aw,aA,bn],by simp[aB]⟩
theorem NL{H:Heap}{b:Nat}{x:AV}(c:H[b]?=some (.box false (.st 226 [.ptr b [],x]))):b9 prog 226 H [.ptr b []] H (.p (.aD [])):=by
 refine⟨iD func226 (by kernel_rfl),fun w aa ah β l g f m=>?_⟩;simp only[bw,aw]at f;obtain⟨v,vs,rfl,⟨_,j,n,i,rfl,a,d⟩,rfl⟩:=f;simp only[fN,gt]at a;subst a;obtain⟨rfl,rfl⟩:=d (.inl ⟨false,_,c⟩);obtain⟨cs,T,k1,k2,k3,_,k5⟩:=g.cE b _ c;obtain⟨v,y,rfl,h⟩:=Ry k2;simp only[bK,bO]at h;obtain⟨_,k,o,i,rfl,a,d⟩:=h;simp only[fN,gt]at a;subst a;obtain⟨rfl,rfl⟩:=d (.inl ⟨false,_,c⟩);refine(Rt (β.ak b) w (by simp[World.cell?,k1])).mono ?_;rintro e w' ⟨rfl,rfl⟩;exact⟨_,β,aa,rfl,bV.refl g,by simp[aw,aA,bn],by simp[aB]⟩
set_option maxHeartbeats 4000000
set_option maxRecDepth 100000
@[simp] theorem gu8:(Gl.u8:TypeId)=5:=(rfl)
def dF(t:List Nat):List AV:=t.map fun(c:Nat)=>AV.p (.int .u8 (c:Int))
theorem uF(t:List Nat):(dF t).length=t.length:=by simp[dF]
theorem aDQ(a t:List Nat):dF (a++t)=dF a++dF t:=by simp[dF]
theorem BO:∀t:List Nat,eH prog 1 (dF t)
 |[]=>by simp[dF,eH]
 |c::t=>by
  have:=BO t;simp only[dF,bb]at this⊢;simp[eH];exact this
theorem HV:∀(t:List Nat),(∀c∈t,c<256)->bytesOf (dF t)=some t
 |[],_=>rfl
 |c::t,a=>by
  have b:=a c (by simp);have:=HV t fun c hc=>a c (by simp[hc]);show bytesOf (.p (.int .u8 (c:Int))::dF t)=some (c::t);rw[bytesOf,if_pos ⟨by omega,by omega⟩,this];simp
theorem NO(t:List Nat)(a:t≠[])(h:t.length<=1048576):b9 prog 150 [.box false (.p (.st 226 [.dD,.aF]))] [.ptr 0 [],.p (.str t)]
 [.box false (.st 226 [.ptr 0 [],.sl 1 0 1 0 t.length]),.arr .bytes 0 1 (dF t)] (.p (.aD [.int .i64 t.length,.fG])):=by
 refine dW nf CW mix (by simp[f150]) ?_;simp[f150];refine ci (Dc (b:=0) (t:=.p (.st 226 [.dD,.aF])) (x:=.p .aF) rfl (.inl rfl)) ?_;simp;refine⟨⟨BO t,by simp only[cC];omega⟩,?_⟩;simp[a,dF]
theorem NP(a t:List Nat)(v n:Nat)(f:n=a.length)(c:t≠[])(h:t.length<=1048576)(e:a.length<=1048576):b9 prog 150 [.box false (.st 226 [.ptr 0 [],.sl 1 v 1 0 n]),.arr .bytes v 1 (dF a)] [.ptr 0 [],.p (.str t)]
 [.box false (.st 226 [.ptr 0 [],.sl 1 (v+1) 1 0 (n+t.length)]),.arr .bytes (v+1) 1 (dF (a++t))] (.p (.aD [.int .i64 t.length,.fG])):=by
 refine dW nf CW mix (by simp[f150]) ?_;simp[f150];refine ci (NL (b:=0) (x:=.sl 1 v 1 0 n) rfl) ?_;simp;refine⟨⟨BO t,by rw[uF];omega,by rw[uF];simp only[cC];omega⟩,?_⟩;have d:b1 n (dF a)=dF a:=a5 (by rw[uF];omega);simp[c,d,aDQ];exact .inl rfl
theorem YL(a:List Nat)(v n:Nat)(b:n=a.length)(d:a≠[])(g:a.length<=1048576)(e:∀c∈a,c<256):b9 prog 230 [.box false (.st 226 [.ptr 0 [],.sl 1 v 1 0 n]),.arr .bytes v 1 (dF a)] [.ptr 0 []]
 [.box false (.st 226 [.ptr 0 [],.sl 1 v 1 0 n]),.dead] (.p (.str a)):=by
 refine dW nf MQ mix (by simp[f230]) ?_;have f:0<a.length:=a4.2 d;simp[f230];refine X8 (ar:=v) (es:=dF a) rfl rfl (by rw[b];exact f) (by simp[dF,b]) ?_;simp;refine Ya (ar:=v) (es:=dF a) (l:=a) rfl rfl rfl (by omega) (by simp[uF,b]) (by omega) rfl ?_ ?_ ?_ ?_
 ·kernel_rfl
 ·kernel_rfl
 ·rw[a5 (by rw[uF];simp[b])];exact HV a e
 simp
 repeat' with_reducible refine And.intro ?_ ?_
 all_goals rfl
theorem Bi{σ:Nat->Nat}:∀{a b:List AV},cM σ (a++b)=cM σ a++cM σ b
 |[],b=>by simp[cM]
 |x::a,b=>by simp[cM,Bi (a:=a)]
theorem yy:aq wB tB=[tB]:=so (by decide) (by decide)
theorem Vx(a:NI)(hs:a.sm=true):az prog 247 [eI a] (.str (cR a.v)):=by
 refine aM nf CT mix (by simp[f247]) ?_;have b:=NI.oK hs;simp[f247,ad,lB hs,mh hs,dh,cO];refine c1 (Fy a.v b.1 b.2) ?_;simp
theorem Le{m k A L:Nat}(e:0<m)(h:m*tB^k<=A)(a:A<wB^L):k<64*L:=by
 have b:2^k<=tB^k:=fm (by decide) k;have c:tB^k<=m*tB^k:=Nat.le_mul_of_pos_left _ e;rw[show wB=2^64 from rfl,<-gg]at a;have d:2^k<2^(64*L):=ec (ee b (ee c h)) a
 rwa [Nat.pow_lt_pow_iff_right (by decide)]at d
theorem Vw(a:NI)(hs:a.sm=false)(Z:okW a.v)(ax:(bt a.v.natAbs).length<=1000000):az prog 247 [eI a] (.str (cR a.v)):=by
 have N:=nj (eI a) a.v (lE a);have aL:=NI.yn (a:=a) (by rw[hs];decide);have ak:=eb (cj bh a.v.natAbs) (ea (show 0<wB by decide) (nh Z));obtain⟨c,cs,G⟩:=nC hs;refine aM nf CT mix (by simp[f247]) ?_;simp[f247,ad,G,dh,cO];refine c1 N ?_;simp;refine qM (fun s'=>∃b:List (List Nat),jk 0 b=jk a.v.natAbs []/\(∀p∈b,p≠[]/\p.length<=18)/\b≠[]/\b.length<=57600000/\aN s'.env 3=.p (.bool (decide (a.v<0)))/\aN s'.env 6=.sl 2 b.length 1 0 b.length/\∃o,s'.heap=[.hole,o,.arr .grow b.length 1 (b.map fun p=>.p (.str p))]) ?_ ?_
 ·refine lp (α:=Nat×List (List Nat)×Bool) (fun x=>⟨[(6,.sl 2 x.2.1.length 1 0 x.2.1.length),(5,.sl 1 0 1 0 1),(4,.p (eN x.1)),(3,.p (.bool (decide (a.v<0))))],[.hole,.arr (if x.2.2=true then .frozen else .exact) 0 1 [.p (.int .u64 1000000000000000000)],.arr .grow x.2.1.length 1 (x.2.1.map fun p=>.p (.str p))]⟩)
   (fun x=>x.1<=a.v.natAbs/\jk x.1 x.2.1=jk a.v.natAbs []/\(∀p∈x.2.1,p≠[]/\p.length<=18)/\x.2.1.length<=57600000/\x.1*tB^x.2.1.length<=a.v.natAbs) (fun x=>x.1) (a.v.natAbs,[],false) ⟨ed _,rfl,by simp,by simp,by simp⟩ ?_
  rintro⟨m,b,f⟩ ⟨k1,k2,k3,k5,k4⟩;dsimp only at k1 k2 k3 k5 k4;rcases f with _|_
  ·simp only[a0,if_false];have ay:(aq wB m).length<=900000:=by
    have:=dJ bh _ _ (ec k1 (cj bh a.v.natAbs));have:=nh Z;omega
   by_cases hm:m=0
   ·subst hm;have ab:b≠[]:=by
     rintro rfl;rw[jk,jk,if_pos rfl,if_neg (by omega)]at k2;have:=xQ a.v.natAbs;rw[b2,da,bk,bk]at k2;rw[<-k2]at this;simp at this
    simp[eN,kG];refine⟨b,k2,k3,ab,k5,?_⟩;simp
   ·have d:=Bs m tB (by decide) (by omega) (by rw[yy];decide);have aa:aq wB m≠[]:=mt rF.1 hm;have C:0<(aq wB m).length:=a4.2 aa;have aK:=Jg hm b;have B:∀p∈b++[ek m],p≠[]/\p.length<=18:=by
     intro p N;rcases dk.1 N with h|h
     ·exact k3 p h
     ·rw[cy.1 h];exact⟨Ie m,Ig m⟩
    have A:m/tB<m:=fK (by omega) (by decide);have aB:=Le (show 0<m by omega) k4 ak;have w:m/tB*tB^(b++[ek m]).length<=a.v.natAbs:=by
     rw[a9,a6,eq,e9 (tB^b.length),<-ew];exact ee (fd _ (fv _ _)) k4
    have y:(b++[ek m]).length<=57600000:=by rw[a9,a6];omega
    have r:m% tB<tB:=gj _ (by decide);have Q:m/tB=0->m% tB=m:=fun h=>by have:=ei m tB;rw[h]at this;omega
    simp only[eN]at d⊢;rw[yy]at d;have P:=rF (n:=m/tB);have L:=Nl (m% tB) (e6 r (by decide));have q:=Nn [48] (18-(bt (m% tB)).length) (by omega) (by simp;omega);have aC:=B3 r;have ac:=Pf r;rw[Bh]at q;have l:ek m=if m/tB=0 then bt (m% tB)else a8 (18-(bt (m% tB)).length) 48++bt (m% tB):=by
     rw[ek,ac];split
     ·rename_i h;rw[Q h]
     ·rfl
    have s:a2.wrap (18-((bt (m% tB)).length:Int))=(18-(bt (m% tB)).length:Nat):=by rw[aI _ (by omega) (by omega)];omega
    have aF:((18-(bt (m% tB)).length:Nat):Int)=18-((bt (m% tB)).length:Int):=by omega
    have u:∀t,t=ek m->(b.map fun p=>AV.p (.str p))++[AV.p (.str t)]=(b++[ek m]).map fun p=>AV.p (.str p):=fun t e=>by rw[e];simp
    by_cases F:m% tB=0
    ·have j:¬m/tB=0:=fun h=>hm (by rw[<-Q h];exact F);have E:0<(aq wB (m/tB)).length:=a4.2 (mt P.1 j);have e:a8 (18-(bt (m% tB)).length) 48++bt (m% tB)=ek m:=by rw[l,if_neg j]
     rw[F,pF]at e q s;rw[F,kG]at d;simp only[a6]at e q s;have hf:=u _ e;generalize D:aq wB (m/tB)=ai at*;simp[C];refine cp d (by simp;exact⟨rfl,rfl⟩) ?_ (h1:=by simp[tB]);simp[E,s];refine c2 q ?_;simp;refine⟨by simp only[cC];omega,?_⟩;refine rd (m/tB,b++[ek m],true) ⟨by omega,by rw[aK];exact k2,by simpa using B,y,w⟩ A (he:=by simp[D]) (hh:=by simp only[<-hf];simp) (hr2:=by simp only[<-hf];simp)
    ·have af:aq wB (m% tB)=[m% tB]:=so (by omega) (e6 r (by decide));rw[af]at d
     by_cases j:m/tB=0
     ·have e:bt (m% tB)=ek m:=by rw[l,if_pos j]
      have hf:=u _ e;rw[j,kG]at d;simp[C];refine cp d (by simp;exact⟨rfl,rfl⟩) ?_ (h1:=by simp[tB]);simp;refine c2 L ?_;simp;refine⟨by simp only[cC];omega,?_⟩;refine rd (m/tB,b++[ek m],true) ⟨by omega,by rw[aK];exact k2,by simpa using B,y,w⟩ A (he:=by simp[j,kG]) (hh:=by simp only[<-hf];simp) (hr2:=by simp only[<-hf];simp)
     ·have E:0<(aq wB (m/tB)).length:=a4.2 (mt P.1 j);have e:a8 (18-(bt (m% tB)).length) 48++bt (m% tB)=ek m:=by rw[l,if_neg j]
      have hf:=u _ e;generalize D:aq wB (m/tB)=ai at*;simp[C];refine cp d (by simp;exact⟨rfl,rfl⟩) ?_ (h1:=by simp[tB]);simp;refine c2 L ?_;simp[E,s];refine c2 q ?_;simp;refine⟨by omega,by simp only[cC];omega,?_⟩;refine rd (m/tB,b++[ek m],true) ⟨by omega,by rw[aK];exact k2,by simpa using B,y,w⟩ A (he:=by simp[D]) (hh:=by simp only[<-hf];simp) (hr2:=by simp only[<-hf];simp)
  ·simp only[if_true];have ay:(aq wB m).length<=900000:=by
    have:=dJ bh _ _ (ec k1 (cj bh a.v.natAbs));have:=nh Z;omega
   by_cases hm:m=0
   ·subst hm;have ab:b≠[]:=by
     rintro rfl;rw[jk,jk,if_pos rfl,if_neg (by omega)]at k2;have:=xQ a.v.natAbs;rw[b2,da,bk,bk]at k2;rw[<-k2]at this;simp at this
    simp[eN,kG];refine⟨b,k2,k3,ab,k5,?_⟩;simp
   ·have d:=Bs m tB (by decide) (by omega) (by rw[yy];decide);have aa:aq wB m≠[]:=mt rF.1 hm;have C:0<(aq wB m).length:=a4.2 aa;have aK:=Jg hm b;have B:∀p∈b++[ek m],p≠[]/\p.length<=18:=by
     intro p N;rcases dk.1 N with h|h
     ·exact k3 p h
     ·rw[cy.1 h];exact⟨Ie m,Ig m⟩
    have A:m/tB<m:=fK (by omega) (by decide);have aB:=Le (show 0<m by omega) k4 ak;have w:m/tB*tB^(b++[ek m]).length<=a.v.natAbs:=by
     rw[a9,a6,eq,e9 (tB^b.length),<-ew];exact ee (fd _ (fv _ _)) k4
    have y:(b++[ek m]).length<=57600000:=by rw[a9,a6];omega
    have r:m% tB<tB:=gj _ (by decide);have Q:m/tB=0->m% tB=m:=fun h=>by have:=ei m tB;rw[h]at this;omega
    simp only[eN]at d⊢;rw[yy]at d;have P:=rF (n:=m/tB);have L:=Nl (m% tB) (e6 r (by decide));have q:=Nn [48] (18-(bt (m% tB)).length) (by omega) (by simp;omega);have aC:=B3 r;have ac:=Pf r;rw[Bh]at q;have l:ek m=if m/tB=0 then bt (m% tB)else a8 (18-(bt (m% tB)).length) 48++bt (m% tB):=by
     rw[ek,ac];split
     ·rename_i h;rw[Q h]
     ·rfl
    have s:a2.wrap (18-((bt (m% tB)).length:Int))=(18-(bt (m% tB)).length:Nat):=by rw[aI _ (by omega) (by omega)];omega
    have aF:((18-(bt (m% tB)).length:Nat):Int)=18-((bt (m% tB)).length:Int):=by omega
    have u:∀t,t=ek m->(b.map fun p=>AV.p (.str p))++[AV.p (.str t)]=(b++[ek m]).map fun p=>AV.p (.str p):=fun t e=>by rw[e];simp
    by_cases F:m% tB=0
    ·have j:¬m/tB=0:=fun h=>hm (by rw[<-Q h];exact F);have E:0<(aq wB (m/tB)).length:=a4.2 (mt P.1 j);have e:a8 (18-(bt (m% tB)).length) 48++bt (m% tB)=ek m:=by rw[l,if_neg j]
     rw[F,pF]at e q s;rw[F,kG]at d;simp only[a6]at e q s;have hf:=u _ e;generalize D:aq wB (m/tB)=ai at*;simp[C];refine cp d (by simp;exact⟨rfl,rfl⟩) ?_ (h1:=by simp[tB]);simp[E,s];refine c2 q ?_;simp;refine⟨by simp only[cC];omega,?_⟩;refine rd (m/tB,b++[ek m],true) ⟨by omega,by rw[aK];exact k2,by simpa using B,y,w⟩ A (he:=by simp[D]) (hh:=by simp only[<-hf];simp) (hr2:=by simp only[<-hf];simp)
    ·have af:aq wB (m% tB)=[m% tB]:=so (by omega) (e6 r (by decide));rw[af]at d
     by_cases j:m/tB=0
     ·have e:bt (m% tB)=ek m:=by rw[l,if_pos j]
      have hf:=u _ e;rw[j,kG]at d;simp[C];refine cp d (by simp;exact⟨rfl,rfl⟩) ?_ (h1:=by simp[tB]);simp;refine c2 L ?_;simp;refine⟨by simp only[cC];omega,?_⟩;refine rd (m/tB,b++[ek m],true) ⟨by omega,by rw[aK];exact k2,by simpa using B,y,w⟩ A (he:=by simp[j,kG]) (hh:=by simp only[<-hf];simp) (hr2:=by simp only[<-hf];simp)
     ·have E:0<(aq wB (m/tB)).length:=a4.2 (mt P.1 j);have e:a8 (18-(bt (m% tB)).length) 48++bt (m% tB)=ek m:=by rw[l,if_neg j]
      have hf:=u _ e;generalize D:aq wB (m/tB)=ai at*;simp[C];refine cp d (by simp;exact⟨rfl,rfl⟩) ?_ (h1:=by simp[tB]);simp;refine c2 L ?_;simp[E,s];refine c2 q ?_;simp;refine⟨by omega,by simp only[cC];omega,?_⟩;refine rd (m/tB,b++[ek m],true) ⟨by omega,by rw[aK];exact k2,by simpa using B,y,w⟩ A (he:=by simp[D]) (hh:=by simp only[<-hf];simp) (hr2:=by simp only[<-hf];simp)
 ·rintro⟨aH,aO⟩ ⟨b,q1,aG,V,q4,au,T,o,am⟩;dsimp only at au T am;subst am;have aD:0<b.length:=a4.2 V;have ae:bt a.v.natAbs=b.reverse.flatten:=by rw[<-Vm,q1,jk,if_neg (by omega)];simp
  obtain⟨neg,M⟩:∃neg:Bool,neg=decide (a.v<0):=⟨_,rfl⟩
  obtain⟨S,O⟩:∃S:List Nat,S=if neg=true then[45]else[]:=⟨_,rfl⟩
  have an:cR a.v=S++b.reverse.flatten:=by
   rw[cR,<-ae,O,M]
   by_cases h:a.v<0
   ·simp[h]
   ·simp[h]
  obtain⟨g,J⟩:∃g:Nat->List Nat,g=fun k=>S++(b.reverse.take k).flatten:=⟨_,rfl⟩
  have K:g b.length=cR a.v:=by rw[J,an];dsimp only;rw[a5 (by simp)]
  have aE:∀k,(b.reverse.take k).flatten.length<=1000000:=fun k=>by
   have av:b.reverse.flatten=(b.reverse.take k).flatten++(b.reverse.drop k).flatten:=by rw[<-cv,bl]
   rw[ae,av,a9]at ax;omega
  have aP:S.length<=1:=by rw[O];split<;>simp
  have X:∀k,(g k).length<=1000001:=fun k=>by rw[J];dsimp only;rw[a9];have:=aE k;omega
  have l:∀k(h:k<b.length),g (k+1)=g k++b[b.length-1-k]'(by omega):=fun k h=>by
   rw[J];dsimp only;rw[bi (by simpa using h),cv,List.getElem_reverse,<-List.append_assoc];simp
  have aw:∀c∈cR a.v,c<256:=by
   intro c hc;rw[cR]at hc;have d:=u9 a.v.natAbs;rw[List.all_eq_true]at d
   split at hc
   ·rcases dp.1 hc with h|h
    ·omega
    ·exact J9 (d c h)
   ·exact J9 (d c hc)
  have ag:a2.wrap ((b.length:Int)-1)=b.length-1:=aI _ (by omega) (by omega);have aj:∀i(h:i<b.length),b[i]≠[]/\b[i].length<=18:=fun i h=>aG _ (b3 h);have H:=YL (g b.length) (if neg=true then b.length else b.length-1) (g b.length).length rfl (by rw[K,an];intro h;rw[List.append_eq_nil_iff,<-ae]at h;have:=xQ a.v.natAbs;rw[h.2]at this;simp at this) (by have:=X b.length;omega) (by rw[K];exact aw);simp[au,T,ag]
  by_cases U:a.v<0
  ·rw[decide_eq_true U]at M;subst M;have aA:g 0=[45]:=by rw[J,O];simp
   simp only[if_true]at H;simp[U];refine cf (NO [45] (by simp) (by simp)) [3] ?_;simp[ba,sig,T,ag];refine lp (α:=Nat) (fun k=>⟨[(11,.p (.int .i64 ((b.length:Int)-1-k))),(10,.ptr 3 []),(6,.sl 2 b.length 1 0 b.length)],[.hole,.hole,.arr .grow b.length 1 (b.map fun p=>.p (.str p)),.box false (.st 226 [.ptr 3 [],.sl 4 k 1 0 (g k).length]),.arr .bytes k 1 (dF (g k))]⟩)
    (fun k=>k<=b.length) (fun k=>b.length-k) 0 (by simp) ?_ (he:=by simp[T]) (hh:=by simp[aA,dF]) (hr2:=by simp[dF])
   intro k hk
   by_cases z:k<b.length
   ·have G:a2.wrap ((b.length:Int)-1-k-1)=b.length-1-(k+1:Nat):=by rw[aI _ (by omega) (by omega)];omega
    have e1:((b.length:Int)-1-k).toNat=b.length-1-k:=by omega
    have I:(k:Int)<=(b.length:Int)-1:=by omega
    have R:b.length-1-k<b.length:=by omega
    have hx:=aj _ R;have ah:=NP (g k) (b[b.length-1-k]) k (g k).length rfl hx.1 (by omega) (by have:=X k;omega);simp[I,e1,R,V];refine cf ah [3,4] ?_ (aj:=by simp[sig,dF]) (aJ:=by simp[sig]) (hr:=by simp[dF]);simp[sig,dF,ba,G,Bi];refine rd (k+1) z (he:=by simp[l k z]) (hh:=by simp[l k z,dF]) (hr2:=by simp[dF])
   ·have Y:k=b.length:=by omega
    subst Y;have W:¬(b.length:Int)<=(b.length:Int)-1:=by omega
    simp[W];refine cf H [3,4] ?_ (aj:=by simp[sig,dF]) (aJ:=by simp[sig]) (hr:=by simp[dF]);simp[sig,ba,K]
  ·rw[decide_eq_false U]at M;subst M;simp only[a0,if_false]at H O;have al:g 1=b[b.length-1]:=by rw[l 0 aD,J];simp[O]
   have ar:b.length-1<b.length:=by omega
   have ap:=aj _ ar;have ao:=NO (b[b.length-1]) ap.1 (by omega);rw[<-al]at ao ap;simp[U,ag]
   refine lp (α:=Option Nat) (fun st=>match st with
     |none=>⟨[(11,.p (.int .i64 ((b.length:Int)-1))),(10,.ptr 3 []),(6,.sl 2 b.length 1 0 b.length)],[.hole,.hole,.arr .grow b.length 1 (b.map fun p=>.p (.str p)),.box false (.p (.st 226 [.dD,.aF]))]⟩
     |some k=>⟨[(11,.p (.int .i64 ((b.length:Int)-1-(k+1)))),(10,.ptr 3 []),(6,.sl 2 b.length 1 0 b.length)],[.hole,.hole,.arr .grow b.length 1 (b.map fun p=>.p (.str p)),.box false (.st 226 [.ptr 3 [],.sl 4 k 1 0 (g (k+1)).length]),.arr .bytes k 1 (dF (g (k+1)))]⟩)
    (fun st=>match st with
     |none=>True
     |some k=>k+1<=b.length) (fun st=>match st with
     |none=>b.length+1
     |some k=>b.length-(k+1)) none trivial ?_ (he:=by simp[T])
   intro st hk;cases st with
   |none=>
    have G:a2.wrap ((b.length:Int)-1-1)=b.length-1-(0+1):=by rw[aI _ (by omega) (by omega)];omega
    have e1:((b.length:Int)-1).toNat=b.length-1:=by omega
    have I:(1:Int)<=(b.length:Int):=by omega
    simp[I,e1,ar,V,<-al];refine cf ao [3] ?_;simp[ba,sig,G];refine rd (some 0) (by show 0+1<=b.length;omega) (by show b.length-(0+1)<b.length+1;omega) (he:=by simp) (hh:=by simp[dF]) (hr2:=by simp[dF])
   |some k=>
    have hk:k+1<=b.length:=hk
    by_cases z:k+1<b.length
    ·have G:a2.wrap ((b.length:Int)-1-(k+1)-1)=b.length-1-(k+1+1):=by rw[aI _ (by omega) (by omega)];omega
     have e1:((b.length:Int)-1-(k+1)).toNat=b.length-1-(k+1):=by omega
     have I:(k:Int)+1<=(b.length:Int)-1:=by omega
     have R:b.length-1-(k+1)<b.length:=by omega
     have hx:=aj _ R;have ah:=NP (g (k+1)) (b[b.length-1-(k+1)]) k (g (k+1)).length rfl hx.1 (by omega) (by have:=X (k+1);omega);simp[I,e1,R,V];refine cf ah [3,4] ?_ (aj:=by simp[sig,dF]) (aJ:=by simp[sig]) (hr:=by simp[dF]);simp[sig,dF,ba,G,Bi];refine rd (some (k+1)) z (by show b.length-(k+1+1)<b.length-(k+1);omega) (he:=by simp[l (k+1) z]) (hh:=by simp[l (k+1) z,dF]) (hr2:=by simp[dF])
    ·have Y:b.length=k+1:=by omega
     have W:¬(k:Int)+1<=(b.length:Int)-1:=by omega
     rw[Y]at H K;rw[ej]at H;simp[W];refine cf H [3,4] ?_ (aj:=by simp[sig,dF]) (aJ:=by simp[sig]) (hr:=by simp[dF]);simp[sig,ba,K]
theorem Bt(a:NI)(c:okW a.v)(b:(bt a.v.natAbs).length<=1000000):az prog 247 [eI a] (.str (cR a.v)):=by
 rcases h:a.sm with _|_
 ·exact Vw a h c b
 ·exact Vx a h
open Go
theorem IY:∀(r:List Nat)(a:Nat),a<=r.foldl (fun n c=>n*10+(c-48)) a
 |[],a=>ed _
 |x::r,a=>ee (show a<=a*10+(x-48)by omega) (IY r _)
theorem IF:∀(d:List Nat)(a:Nat),d.all cm=true->d.foldl (fun n c=>n*10+(c-48)) a<1000000000000000000->Lib.parseUint10 a (d.map gx)=.ok (d.foldl (fun n c=>n*10+(c-48)) a)
 |[],a,_,_=>rfl
 |c::r,a,h,b=>by
  simp only[cc,aT]at h;have hc:=h.1;simp only[cm,aT,decide_eq_true_eq]at hc;have f:=IY r (a*10+(c-48));rw[b5]at b⊢;have e:(gx c).toNat=c:=by simp;omega
  rw[bb,Lib.parseUint10,e,if_pos hc,if_neg (by omega),if_neg (by omega)];exact IF r _ h.2 b
theorem Wv{d:List Nat}(h:d.all cm=true)(b:d≠[])(f:d.length<=18):Lib.atoiAll (d.map gx)=.ok (aW d):=by
 have i:=jb _ d rfl h;have j:10^d.length<=10^18:=ea (by omega) f;cases d with
 |nil=>exact(b rfl).elim
 |cons c r=>
  have hc:=(aT ..▸(cc▸h):cm c=true/\r.all cm=true).1;simp only[cm,aT,decide_eq_true_eq]at hc;have e:(gx c).toNat=c:=by simp;omega
  have g:aW (c::r)<1000000000000000000:=by omega
  have a:=IF (c::r) 0 h g;rw[<-aW]at a;rw[bb]at a;rw[bb,Lib.atoiAll];simp only[e];rw[if_neg (by omega),Lib.parseMag,if_neg (by simp),a];dsimp only;rw[if_neg (by omega),if_neg (by omega),if_neg (by omega)]
theorem A0:∀(b:List Nat)(x:Nat),b.foldl (fun n c=>n*10+(c-48)) x=x*10^b.length+aW b
 |[],x=>by simp[aW]
 |c::b,x=>by
  rw[aW,b5,b5,A0 b,A0 b (0*10+(c-48)),c9,eq,gi,ew,e9 10];simp[gb]
theorem Jc(a b:List Nat):aW (a++b)=aW a*10^b.length+aW b:=by
 rw[aW,List.foldl_append,A0];rfl
theorem aDs(k:Nat):10^k<=2^(4*k):=by
 rw[gg];exact fm (by decide) k
theorem Jk{a K:Nat}(h:4*a<=K):10^a<=2^K:=ee (aDs a) (ea (by decide) h)
theorem uU{n k:Nat}(h:n<2^k)(hk:k<=3*1000000):(bt n).length<=1000000:=
 vt h hk (by decide)
theorem xO(a:NF)(h:bL kB a.q):az prog 176 [eF a] (.str (bC a.q)):=by
 have f:kB=100000:=rfl;have w:=A6 a;have c:=Bt a.num (gS h.1 o8) (uU h.1 (by omega));have d:=Bt a.den (gS (by rw[jK];exact h.2) o8) (uU (by rw[jK];exact h.2) (by omega));rw[kF]at c;rw[jg,tZ]at d;have g:=uU h.1 (show kB<=3*1000000 by omega);have i:=uU h.2 (show kB<=3*1000000 by omega);have j:=BP a.q.num;refine aM nf EK mix (by simp[f176]) ?_;rw[bC]
 by_cases b:a.q.den=1
 ·have e:a.fk=true:=by simp[NF.fk,b]
  rw[e]at w;rw[if_pos b];simp[f176];refine c1 w ?_;simp[ad];refine c1 c ?_;simp
 ·have e:a.fk=false:=by simp[NF.fk,b]
  rw[e]at w;rw[if_neg b];simp[f176];refine c1 w ?_;simp[ad];refine e1 c ?_;simp[ad];refine⟨by omega,?_⟩;refine e1 d ?_;simp;omega
def kR:Nat:=2800
theorem wu(s:List Nat)(i:(cS s).all cm=true)(E:(cS s).length<=700):az prog 224 [.str s] (eI (.mk' (if bZ s=true then -(aW (cS s):Int)else aW (cS s)))):=by
 refine aM nf FF mix (by simp[f224]) ?_;simp[f224];refine c2 (WT s) ?_;simp;refine c2 (IH s) ?_;simp;generalize cS s=d at*;generalize bZ s=neg at*;have w:eP 0=eI (.mk' 0):=(nG (by decide) (by decide)).symm;rw[show PV.st 129 [.int .i64 0,.aF]=eI (.mk' 0)from w];refine lp (α:=List Nat×NI) (fun x=>⟨[(4,.ptr 1 []),(3,.p (.bool neg)),(2,.ptr 0 []),(0,.p (.str x.1))],[.box false (.p (eI (.mk' 0))),.box false (.p (eI x.2))]⟩)
  (fun x=>∃m:Nat,x.2.v=m/\m*10^x.1.length+aW x.1=aW d/\x.1.all cm=true/\x.1.length<=700/\m<2^kR) (fun x=>x.1.length) (d,.mk' 0) ⟨0,rfl,by simp,i,E,fb (by decide)⟩ ?_
 rintro⟨r,o⟩ ⟨m,k1,k2,k3,k4,k5⟩;dsimp only at k1 k2 k3 k4 k5;have S:kR=2800:=rfl;have c:o.v.natAbs<2^kR:=by rw[k1,a3];exact k5
 have I:okW o.v:=gS c (by have:kB=100000:=rfl;omega)
 by_cases f:r=[]
 ·subst f;have u:o.v=aW d:=by rw[k1];simp[aW]at k2⊢;omega
  cases neg
  ·have e:eI (.mk' (aW d:Nat))=eI o:=mn (by rw[NI.ig,u]) (fun h=>by rw[NI.ig]at h;omega);simp;rw[e];simp[ad]
  ·have e:eI (.mk' (-(aW d:Nat)))=eI o.neg:=by rw[NI.neg,u]
   simp;rw[e];refine c1 (sM o I) ?_;simp[ad]
 ·have L:0<r.length:=a4.2 f;obtain⟨n,U⟩:∃n,n=min 18 r.length:=⟨_,rfl⟩
  have j:n<=r.length:=by omega
  have V:0<n:=by omega
  have G:n<=18:=by omega
  have H:(if(r.length:Int)<18 then(r.length:Int)else 18)=n:=by split<;>omega
  have g:(r.take n).length=n:=by rw[c6];omega
  have a:=k3;rw[<-bl n r,List.all_append,aT]at a;have N:=jb _ (r.take n) rfl a.1;have C:=FA (r.take n) (aW (r.take n)) (Wv a.1 (by intro e;rw[e]at g;simp at g;omega) (by omega)) (by omega);rw[g]at N;have q:10^n<=10^18:=ea (by decide) G;have z:10^n<wB^1:=by rw[ge];exact ec q (by decide)
  have A:((10^n:Nat):Int).natAbs<2^64:=by rw[a3];exact ec q (by decide)
  have O:=dJ bh 1 _ z;have W:=xA c;have P:kB=100000:=rfl;have X:=jb _ d rfl i;have Q:10^d.length<=2^kR:=Jk (by have:kR=2800:=rfl;omega);have J:=W6 (.of 10) n (10^n) (by decide) rfl (by omega) (by decide) (by omega);have F:=yN o (.mk' (10^n:Nat)) (by rw[NI.ig,a3];omega);have B:=vp (o.mul (.mk' (10^n:Nat))) (.of (aW (r.take n):Nat)) (gS (n9 (x:=o.v) (y:=((10^n:Nat):Int)) c A) (by omega)) (gS (k:=64) (show((aW (r.take n):Nat):Int).natAbs<2^64 by rw[a3];omega) (by omega));have l:=qK (aW (r.take n):Nat);rw[<-sP (by omega) (by omega)]at l;have t:=qK 10;rw[<-sP (by decide) (by decide)]at t;have M:aW r=aW (r.take n)*10^(r.drop n).length+aW (r.drop n):=by rw[<-Jc,bl]
  have K:r.length=n+(r.drop n).length:=by rw[List.length_drop];omega
  have D:(m*10^n+aW (r.take n))*10^(r.drop n).length+aW (r.drop n)=aW d:=by
   rw[<-k2,M,K,Nat.pow_add,gi,ew,gb]
  generalize 10^n=T at*;generalize Y:aW (r.take n)=b at*;have R:m*T+b<=aW d:=by
   have:=Nat.le_mul_of_pos_right (m*T+b) (show 0<10^(r.drop n).length from fb (by decide));omega
  simp[f,L,H];refine⟨j,?_⟩;refine c1 C ?_;simp;refine e1 t ?_;simp;refine e2 J ?_;simp[ad];refine e2 F ?_;simp;refine e1 l ?_;simp;refine e2 B ?_;simp[ad];refine⟨rfl,j,?_⟩;refine rd (r.drop n,(o.mul (.mk' T)).add (.of b)) ⟨m*T+b,by rw[NI.qE,NI.lA,NI.ig,k1];rfl,D,a.2,by dsimp only;omega,by omega⟩ (by dsimp only;omega)
theorem Bo{s:List Nat}(h:dE s=true):bZ s=false/\cS s=s:=by
 have b:=iS h;have:bZ s=false:=by
  rw[bZ,decide_eq_false_iff_not];intro a;cases s with
  |nil=>simp at a
  |cons c r=>
   simp at a;subst a;rw[cc,aT]at b;simp[cm]at b
 exact⟨this,by rw[cS,this];rfl⟩
theorem I1(s:List Nat):bZ (b8 47 s).1=bZ s/\cS (b8 47 s).1=bD s/\(b8 47 s).2.1=bM s/\(b8 47 s).2.2=dR s:=by
 cases s with
 |nil=>exact⟨rfl,rfl,rfl,rfl⟩
 |cons c r=>
  by_cases h:c=45
  ·subst h;have e:b8 47 (45::r)=(45::(b8 47 r).1,(b8 47 r).2.1,(b8 47 r).2.2):=by rw[b8,if_neg (by decide)]
   rw[e];exact⟨rfl,rfl,rfl,rfl⟩
  ·have b:bZ (c::r)=false:=by rw[bZ,decide_eq_false_iff_not];simpa using h
   have a:cS (c::r)=c::r:=by rw[cS,b];rfl
   have d:bZ (b8 47 (c::r)).1=false:=by
    rw[bZ,decide_eq_false_iff_not,b8]
    split
    ·simp
    ·simpa using h
   refine⟨by rw[b,d],?_,?_,?_⟩
   ·rw[cS,d,bD,a];rfl
   ·rw[bM,a]
   ·rw[dR,a]
theorem WK{s:List Nat}(h:bX s=0):dE (bD s)=true/\(bD s).length<=600/\(bM s).length<=600/\(dR s=true->dE (bM s)=true):=by
 unfold bX at h
 split at h
 ·cases h
 rename_i a
 split at h
 ·cases h
 rename_i d;have a:kH s=true:=by simpa using a
 simp only[kH,aT,Bool.or_eq_true,Bool.not_eq_true']at a;refine⟨a.1.1,by omega,by omega,fun c=>?_⟩;rcases a.2 with b|b
 ·rw[c]at b;cases b
 ·exact b.1.1
theorem Rg(z:Int):cS (cR z)=bt z.natAbs:=by
 have:=(AB z []).2;simpa using this
theorem ou(c:Nat):∀s:List Nat,(b8 c s).1.length<=s.length/\(b8 c s).2.1.length<=s.length/\(∀x∈(b8 c s).1,x∈s)/\(∀x∈(b8 c s).2.1,x∈s)
 |[]=>by simp[b8]
 |y::r=>by
  have a:=ou c r;rw[b8]
  split
  ·simp;intro x hx;exact .inr hx
  ·simp only[c9,dp];refine⟨by omega,by omega,?_,fun x hx=>.inr (a.2.2.2 x hx)⟩;rintro x (rfl|hx)
   ·exact .inl rfl
   ·exact .inr (a.2.2.1 x hx)
theorem oc(s:List Nat):(cS s).length<=s.length/\∀x∈cS s,x∈s:=by
 rw[cS]
 split
 ·exact⟨by simp,fun x hx=>List.mem_of_mem_tail hx⟩
 ·exact⟨ed _,fun _ h=>h⟩
theorem lH(s:List Nat)(h:bX s=0)(n:s.length<=1048576):az prog 142 [.str s] (eF ⟨aY s,false⟩):=by
 obtain⟨l,t,u,m⟩:=WK h;obtain⟨o,f,p,q⟩:=I1 s;obtain⟨q1,r,a⟩:=iR h;have b:=Nk s 47 n;rw[p,q]at b;have c:=wu (b8 47 s).1 (by rw[f];exact iS l) (by rw[f];omega);rw[o,f]at c;have j:eI (NF.mk (aY s) false).num=eI (.mk' (if bZ s=true then -(aW (bD s):Int)else aW (bD s))):=by
  show eI ⟨(aY s).num,false⟩=_;rw[r];rfl
 rw[<-j]at c;refine aM nf FZ mix (by simp[f142]) ?_;cases hf:dR s
 ·rw[hf]at b a;simp only[a0,if_false]at a;have e:(NF.mk (aY s) false).den=.mk' 1:=by
   show NI.mk' ((aY s).den:Int)=_;rw[a];rfl
  have i:=Ce (NF.mk (aY s) false).num;have k:eF (.whole (NF.mk (aY s) false).num)=eF ⟨aY s,false⟩:=by
   rw[eF,eF,e];rfl
  rw[k]at i;simp[f142];refine c2 b ?_;simp;refine c1 c ?_;simp;refine c1 i ?_;simp[ad]
 ·rw[hf]at b a;simp only[if_true]at a;have g:=m hf;obtain⟨d1,d2⟩:=Bo g;have d:=wu (bM s) (by rw[d2];exact iS g) (by rw[d2];omega);rw[d1,d2]at d;simp only[a0,if_false]at d;have e:eI (NF.mk (aY s) false).den=eI (.mk' (aW (bM s):Nat)):=by
   show eI (NI.mk' ((aY s).den:Int))=_;rw[a]
  rw[<-e]at d;rw[eF];simp[f142];refine c2 b ?_;simp;refine c1 c ?_;simp;refine c1 d ?_;simp[ad]
def ka(n:Nat):Bool:=decide (600<(bt n).length)
theorem Mx(a:NI)(h:a.v.natAbs<2^kB):az prog 246 [eI a] (.bool (ka a.v.natAbs)):=by
 have l:kB=100000:=rfl;have d:=gS h o8;have g:=W3 a d;have i:=Bt a d (uU h (by omega));have c:=IH (cR a.v);rw[Rg]at c;refine aM nf J8 mix (by simp[f246]) ?_;simp[f246];refine c1 g ?_
 by_cases j:1800<nH a.v.natAbs
 ·have b:(1800:Int)<(nH a.v.natAbs:Nat):=by omega
  have e:decide ((600:Int)<((bt a.v.natAbs).length:Nat))=ka a.v.natAbs:=by rw[ka,decide_eq_decide];omega
  simp[b];refine c1 i ?_;simp;refine c2 c ?_;simp[ka];omega
 ·have f:=eb (JC a.v.natAbs) (ea (show 0<2 by decide) (show nH a.v.natAbs<=3*600 by omega));have k:=HC f (by decide);have e:ka a.v.natAbs=false:=by rw[ka,decide_eq_false_iff_not];omega
  have b:¬(1800:Int)<(nH a.v.natAbs:Nat):=by omega
  simp[b,e]
def vH(q:Rat):Bool:=ka q.num.natAbs||ka q.den
theorem xW(a:NF)(h:bL kB a.q):az prog 175 [eF a] (.bool (vH a.q)):=by
 have b:=Mx a.num h.1;have c:=Mx a.den (by rw[jK];exact h.2);rw[kF]at b;rw[jK]at c;refine aM nf EL mix (by simp[f175]) ?_;rw[vH];cases hc:ka a.q.num.natAbs
 ·rw[hc]at b;simp[f175,ad];refine c1 b ?_;simp[ad];refine c1 c ?_;simp
 ·rw[hc]at b;simp[f175,ad];refine c1 b ?_;simp
def sT:List (Nat×Func)->a1->Option Func
 |[],_=>none
 |(i,g)::r,f=>bif Nat.beq i f then some g else sT r f
def zD(P:Program):List (Nat×Func)->Prop
 |[]=>True
 |p::r=>an P p.1 p.2/\zD P r
theorem Cj{P:Program}:∀{l:List (Nat×Func)},zD P l->∀{f:Nat}{fn:Func},sT l f=some fn->an P f fn
 |[],_,f,fn,h=>by simp[sT]at h
 |(i,g)::r,a,f,fn,h=>by
  simp only[sT,Bool.cond_eq_ite]at h
  split at h
  ·rename_i hf;simp only[gt]at h;subst h;rw[<-Nat.eq_of_beq_eq_true hf];exact a.1
  ·exact Cj a.2 h
noncomputable def DI:List (Nat×Func):=[(2,f2),(3,f3),(4,f4),(5,f5),(6,f6),(7,f7),(8,f8),(9,f9),(10,f10),(11,f11),(12,f12),(13,f13),(14,f14),(15,f15),(16,f16),(17,f17),(18,f18),(19,f19),(20,f20),(21,f21),(22,f22),(23,f23),(24,f24),(25,f25),(26,f26),(27,f27),(28,f28),(29,f29),(30,f30),(31,f31),(32,f32),(33,f33),(34,f34),(35,f35),(36,f36),(37,f37),(38,f38),(39,f39),(40,f40),(41,f41),(42,f42),(43,f43),(44,f44),(45,f45),(46,f46),(47,f47),(48,f48),(49,f49),(50,f50),(51,f51),(52,f52),(53,f53),(54,f54),(55,f55),(56,f56),(57,f57),(58,f58),(59,f59),(60,f60),(61,f61),(62,f62),(63,f63),(64,f64),(65,f65),(66,f66),(67,f67),(68,f68),(69,f69),(70,f70),(71,f71),(72,f72),(73,f73),(74,f74),(75,f75),(76,f76),(77,f77),(78,f78),(79,f79),(80,f80),(81,f81),(82,f82),(83,f83),(84,f84),(85,f85),(86,f86),(87,f87),(88,f88),(89,f89),(90,f90),(91,f91),(92,f92),(93,f93),(94,f94),(95,f95),(96,f96),(97,f97),(98,f98),(99,f99),(100,f100),(101,f101),(102,f102),(103,f103),(104,f104),(105,f105),(106,f106),(107,f107),(108,f108),(109,f109),(110,f110),(111,f111),(112,f112),(113,f113),(114,f114),(115,f115),(116,f116),(117,f117),(118,f118),(119,f119),(120,f120),(121,f121),(122,f122),(123,f123),(124,f124),(125,f125),(126,f126),(127,f127),(128,f128),(129,f129),(130,f130),(131,f131),(132,f132),(133,f133),(134,f134),(135,f135),(136,f136),(137,f137),(138,f138),(139,f139),(140,f140),(141,f141),(142,f142),(143,f143),(144,f144),(145,f145),(146,f146),(147,f147),(148,f148),(149,f149),(150,f150),(151,f151),(152,f152),(153,f153),(154,f154),(155,f155),(156,f156),(157,f157),(158,f158),(159,f159),(160,f160),(161,f161),(162,f162),(163,f163),(164,f164),(165,f165),(166,f166),(167,f167),(168,f168),(169,f169),(170,f170),(171,f171),(172,f172),(173,f173),(174,f174),(175,f175),(176,f176),(177,f177),(178,f178),(179,f179),(180,f180),(181,f181),(182,f182),(183,f183),(184,f184),(185,f185),(186,f186),(187,f187),(188,f188),(189,f189),(190,f190),(191,f191),(192,f192),(193,f193),(194,f194),(195,f195),(196,f196),(197,f197),(198,f198),(199,f199),(200,f200),(201,f201),(202,f202),(203,f203),(204,f204),(205,f205),(206,f206),(207,f207),(208,f208),(209,f209),(210,f210),(211,f211),(212,f212),(213,f213),(214,f214),(215,f215),(216,f216),(217,f217),(218,f218),(219,f219),(220,f220),(221,f221),(222,f222),(223,f223),(224,f224),(225,f225),(226,f226),(227,f227),(228,f228),(229,f229),(230,f230),(231,f231),(232,f232),(233,f233),(234,f234),(235,f235),(236,f236),(237,f237),(238,f238),(239,f239),(240,f240),(241,f241),(242,f242),(243,f243),(244,f244),(245,f245),(246,f246),(247,f247),(248,f248),(249,f249),(250,f250),(251,f251),(252,f252),(253,f253),(254,f254),(255,f255),(256,f256),(257,f257),(258,f258),(259,f259),(260,f260),(261,f261),(262,f262),(263,f263),(264,f264),(265,f265),(266,f266),(267,f267),(268,f268),(269,f269),(270,f270),(271,f271),(272,f272),(273,f273),(274,f274),(275,f275),(276,f276),(277,f277),(278,f278),(280,f280),(281,f281),(282,f282),(283,f283),(284,f284),(285,f285),(286,f286),(287,f287),(288,f288),(289,f289),(291,f291),(293,f293),(294,f294),(295,f295),(296,f296),(297,f297),(298,f298),(299,f299),(300,f300),(301,f301),(302,f302),(303,f303),(304,f304),(305,f305),(306,f306),(307,f307),(308,f308),(309,f309),(310,f310),(311,f311),(312,f312),(313,f313),(315,f315),(316,f316),(317,f317),(318,f318),(319,f319),(320,f320),(321,f321),(322,f322),(323,f323),(324,f324),(325,f325),(326,f326),(327,f327),(328,f328),(329,f329),(330,f330),(331,f331),(332,f332),(333,f333),(334,f334),(335,f335),(336,f336),(337,f337),(338,f338),(339,f339),(340,f340),(341,f341),(342,f342),(343,f343),(344,f344),(345,f345),(346,f346),(347,f347),(348,f348),(349,f349),(350,f350),(351,f351),(352,f352),(354,f354),(355,f355),(356,f356),(357,f357),(358,f358),(359,f359),(360,f360),(362,f362),(363,f363),(364,f364),(365,f365),(366,f366),(367,f367),(369,f369),(370,f370),(371,f371),(372,f372),(373,f373),(374,f374),(376,f376),(377,f377),(378,f378),(379,f379),(380,f380),(381,f381),(382,f382),(383,f383),(384,f384),(385,f385),(386,f386),(387,f387),(388,f388),(419,f419)]
theorem Fp:zD prog DI:=⟨Zw,afQ,axL,axO,ayc,o7,ayA,ayE,N1,Y4,Y5,N2,N3,N4,N5,Zr,Zs,N6,Zx,Zy,ZK,ZP,ZY,N7,N8,N9,abv,aeQ,Oa,Ob,Oc,Od,arX,Oe,Of,Og,Oh,Oi,axM,Oj,wC,wA,Ok,Di,Ol,Om,On,Oo,Oq,axP,axT,axV,ax9,aya,Ot,ayb,Ou,Ov,ayd,aye,ayf,ayg,ayi,ays,ayt,ayu,Ow,ayv,ayw,Ox,Oy,Oz,OA,OB,OC,OD,OE,OG,OH,OI,OJ,ayB,OK,OL,OM,ayD,ON,OO,OP,OQ,OR,OS,OT,OU,OV,OW,Dj,OX,Er,Ep,Eo,En,MF,Em,ME,zR,El,ER,EP,EO,EN,EM,zT,MD,MC,MB,yZ,MA,M8,M7,Gd,Gc,Gb,Ga,F9,F8,F7,Y6,Y7,Y8,Y9,Za,Fx,Zb,Fw,Fv,Zc,Fu,F0,Zd,FZ,FY,FX,Mz,My,CF,Ze,Zf,CW,Zg,Zh,Zi,Zj,Zk,Zl,z7,FW,FV,FU,FT,M6,M5,M0,Zm,Zn,Zo,Zp,Zq,MZ,MY,MX,MW,MV,EL,EK,EJ,EI,EH,EG,EF,ED,Zt,Zu,Zv,EC,EB,zS,EA,MU,Ez,MT,Ey,Ex,Ew,Ev,MS,MR,FR,FQ,FP,FO,FN,FM,FL,z6,FK,F6,Ed,Zz,ZA,ZC,ZD,ZE,ZF,ZG,ZH,ZI,ZJ,FJ,FI,FH,FG,FF,FE,ZL,ZM,ZN,ZO,MQ,ZQ,ZR,ZS,ZT,ZU,ZV,ZW,ZX,CV,CU,Ec,FD,FC,FB,yY,J8,CT,Li,vr,LV,LU,Fm,LS,LR,ZZ,L7,L6,L5,L4,Eb,D4,Ea,Z0,Z1,Z2,Z3,Z4,Z5,Eh,Z6,Lh,Eg,L3,Fl,Z7,Z8,Z9,Ef,abw,acH,adY,ad1,aea,aej,Fk,Fj,Fi,aeK,Fh,LZ,LY,LX,aeT,ae9,afL,afO,agt,ag4,ahl,ahm,aht,ahU,air,ais,aiE,aiN,ai0,aja,ajY,ak3,al6,LW,amY,anS,anY,aob,aof,aog,aoi,apb,apV,ap1,ap2,aqk,ara,Mo,ari,Mn,Fg,arD,arE,Mm,arK,arN,arS,asf,asS,asT,as0,ati,ato,at0,at2,Ff,Ml,aug,auo,aup,auw,auN,avH,avK,awt,awu,aww,awC,awD,awE,aw0,aw2,axk,axn,axo,axr,Mk,axs,axu,axw,axy,axz,axA,axB,axC,axE,axF,axG,axH,axI,axJ,axK,axN,trivial⟩
noncomputable def vM(facts:a1->List PV->Option PV)(jC:a1->a1->Nat):lP:=⟨sT DI,facts,fun _ _ _=>none,jC,fun _ _ _=>none⟩
theorem aAN{facts:a1->List PV->Option PV}{jC:a1->a1->Nat}(h:∀f vs v,facts f vs=some v->az prog f vs v):mc prog (vM facts jC):=by
 refine⟨mix,fun f fn hf=>Cj Fp hf,fun f vs v hk=>h f vs v hk,fun f args H v H' hk=>?_,fun f args H aj v hk=>?_⟩
 ·simp only[vM]at hk;cases hk
 ·simp only[vM]at hk;cases hk
noncomputable def Pq(facts:a1->List PV->Option PV)(jC:a1->a1->Nat)(f:a1)(vs:List PV):Option PV:=nO prog nf (vM facts jC) (jv prog nf (vM facts jC) 20) f vs
theorem KP{facts:a1->List PV->Option PV}{jC:a1->a1->Nat}(h:∀f vs v,facts f vs=some v->az prog f vs v){f:a1}{vs:List PV}{v:PV}(a:Pq facts jC f vs=some v):az prog f vs v:=reckon 20 (aAN h) a
def noF:a1->List PV->Option PV:=fun _ _=>none
def ph:PV:=.st 381 ((cb 256).map fun i=>.bool (cm i))
theorem JR(c:Nat)(hc:c<256):az prog 372 [.cr ph,.int .u8 c] (.bool (cm c)):=by
 refine aM nf Mk mix (by simp[f372]) ?_;have a:(cb 256)[c]?=some c:=ck hc;simp[f372,ph,a,hc]
theorem SI(s:List Nat)(h:s.length<=1048576)(g:∀c∈s,c<256):az prog 348 [.str s,.cr ph] (.str (kD s)):=by
 refine aM nf Ff mix (by simp[f348]) ?_;simp[f348];refine lp (α:=List Nat) (fun r=>⟨[(1,.p (.cr ph)),(0,.p (.str r))],[]⟩) (fun r=>kD r=kD s/\r.length<=s.length/\∀c∈r,c<256) (fun r=>r.length) s (by exact⟨rfl,ed _,g⟩) ?_;rintro r ⟨a,f,b⟩;cases r with
 |nil=>
  have e:kD s=[]:=by rw[<-a];rfl
  simp[e]
 |cons x r=>
  have hx:=b x (by simp);have i:kD (x::r)=if cm x=true then kD r else x::r:=by
   rw[kD,cx];split<;>rfl
  rw[i]at a;have j:(0:Int)<(r.length:Int)+1:=by omega
  simp[j];refine c2 (JR x hx) ?_;cases d:cm x
  ·rw[d]at a;simp[<-a]
  ·rw[d]at a;simp;exact rd r ⟨by simpa using a,by simp at f;omega,fun c hc=>b c (by simp[hc])⟩ (h1:=by simp)
theorem Sk(s:List Nat)(h:s.length<=1048576)(i:∀c∈s,c<256):az prog 349 [.str s,.cr ph] (.str (iH s)):=by
 refine aM nf Ml mix (by simp[f349]) ?_;simp[f349];refine lp (α:=List Nat) (fun r=>⟨[(1,.p (.cr ph)),(0,.p (.str r))],[]⟩) (fun r=>iH r=iH s/\r.length<=s.length/\∀c∈r,c<256) (fun r=>r.length) s (by exact⟨rfl,ed _,i⟩) ?_;rintro r ⟨a,b,d⟩;rcases List.eq_nil_or_concat r with rfl|⟨t,x,rfl⟩
 ·have e:iH s=[]:=by rw[<-a];rfl
  simp[e]
 ·simp only[List.concat_eq_append]at a b d⊢;have hx:=d x (by simp);have j:iH (t++[x])=if cm x=true then iH t else t++[x]:=by
   rw[iH,List.reverse_append,List.reverse_cons,b2,dg,List.singleton_append,cx]
   split
   ·rfl
   ·simp
  rw[j]at a;have k:(0:Int)<(t.length:Int)+1:=by omega
  have g:a2.wrap (t.length:Int)=t.length:=aI _ (by omega) (by simp at b;omega);simp[k,g];refine c2 (JR x hx) ?_;cases f:cm x
  ·rw[f]at a;simp[<-a]
  ·rw[f]at a;simp[g];exact rd t ⟨by simpa using a,by simp at b;omega,fun c hc=>d c (by simp[hc])⟩ (h1:=by simp)
def vz:List Nat:=[48,49,50,51,52,53,54,55,56,57]
theorem Vv:az prog 347 [.str vz] (.aD [ph,.bool true]):=KP (facts:=noF) (jC:=fun _ _=>0) (fun _ _ _ h=>by cases h) (by kernel_rfl)
theorem aDP:cJ prog 382=some (.st 381 (a8 256 (.bool false))):=by kernel_rfl
theorem WQ(s:List Nat)(h:s.length<=1048576)(d:∀c∈s,c<256):az prog 316 [.str s,.str vz] (.str (kD (iH s))):=by
 refine aM nf LW mix (by simp[f316]) ?_
 by_cases b:s=[]
 ·subst b;simp[f316,vz,kD,iH]
 simp[f316,vz,b];refine c1 Vv ?_;have g:(iH s).length<=s.length:=by
  rw[iH,List.length_reverse];have:=(ce cm (l:=s.reverse)).length_le;simpa using this
 have f:∀c∈iH s,c<256:=by
  intro c hc;rw[iH,List.mem_reverse]at hc;exact d c (by simpa using(ce cm (l:=s.reverse)).subset hc)
 simp[aDP];have a:aL ph=.agg 381:=rfl;refine⟨⟨⟨a.symm,by rw[a];intro e;cases e⟩,a.symm⟩,?_⟩;refine cp (Sk s h d) (by simp;exact⟨rfl,rfl⟩) ?_;simp;refine cp (SI (iH s) (by omega) f) (by simp;exact⟨rfl,rfl⟩) ?_;simp
def bG:List Int->Int
 |[]=>0
 |e::r=>if e=0 then bG r else e
def bg(b:Bool)(e:Int):Int:=if b=true then e else 0
theorem WR(a:List Int)(h:a.length<=1048576):az prog 272 [.seq (a.map (.int .i64))] (.int .i64 (bG a)):=by
 refine aM nf Eg mix (by simp[f272]) ?_;simp[f272];refine lp (α:=Nat) (fun i=>⟨[(7,.p (.int .i64 i)),(6,.p (.int .i64 a.length)),(5,.p (.seq (a.map (.int .i64))))],[]⟩) (fun i=>i<=a.length/\bG (a.drop i)=bG a) (fun i=>a.length-i) 0 (by simp) ?_;rintro i ⟨d,b⟩;simp
 by_cases hi:i<a.length
 ·rw[be hi]at b;have c:=bY (i:=i) (by omega);simp[hi]
  by_cases he:a[i]=0
  ·simp[bG,he]at b;simp[he,c];exact rd (i+1) ⟨hi,b⟩
  ·simp[bG,he]at b;simp[he,<-b]
 ·have:i=a.length:=by omega
  subst this;simp[bG]at b;simp[<-b]
theorem nS(a:List Int)(h:a.length<=1048576):az prog 71 [.seq (a.map (.int .i64))] (.int .i64 (bG a)):=by
 refine aM nf Ox mix (by simp[f71]) ?_;simp[f71];refine lp (α:=Nat) (fun i=>⟨[(7,.p (.int .i64 i)),(6,.p (.int .i64 a.length)),(5,.p (.seq (a.map (.int .i64))))],[]⟩) (fun i=>i<=a.length/\bG (a.drop i)=bG a) (fun i=>a.length-i) 0 (by simp) ?_;rintro i ⟨d,b⟩;simp
 by_cases hi:i<a.length
 ·rw[be hi]at b;have c:=bY (i:=i) (by omega);simp[hi]
  by_cases he:a[i]=0
  ·simp[bG,he]at b;simp[he,c];exact rd (i+1) ⟨hi,b⟩
  ·simp[bG,he]at b;simp[he,<-b]
 ·have:i=a.length:=by omega
  subst this;simp[bG]at b;simp[<-b]
theorem WS(a:List Int)(h:a.length<=1048576):az prog 16 [.seq (a.map (.int .i64))] (.int .i64 (bG a)):=by
 refine aM nf N5 mix (by simp[f16]) ?_;simp[f16];refine lp (α:=Nat) (fun i=>⟨[(7,.p (.int .i64 i)),(6,.p (.int .i64 a.length)),(5,.p (.seq (a.map (.int .i64))))],[]⟩) (fun i=>i<=a.length/\bG (a.drop i)=bG a) (fun i=>a.length-i) 0 (by simp) ?_;rintro i ⟨d,b⟩;simp
 by_cases hi:i<a.length
 ·rw[be hi]at b;have c:=bY (i:=i) (by omega);simp[hi]
  by_cases he:a[i]=0
  ·simp[bG,he]at b;simp[he,c];exact rd (i+1) ⟨hi,b⟩
  ·simp[bG,he]at b;simp[he,<-b]
 ·have:i=a.length:=by omega
  subst this;simp[bG]at b;simp[<-b]
theorem uL(b:Bool)(e:Int):az prog 273 [.bool b,.int .i64 e] (.int .i64 (bg b e)):=by
 refine aM nf L3 mix (by simp[f273]) ?_;cases b<;>simp[f273,bg]
theorem gY(b:Bool)(e:Int):az prog 72 [.bool b,.int .i64 e] (.int .i64 (bg b e)):=by
 refine aM nf Oy mix (by simp[f72]) ?_;cases b<;>simp[f72,bg]
theorem Lz(s:List Nat)(h:s.length<=1048576)(i:∀c∈s,c<256):az prog 271 [.str s] (.bool (dE s)):=by
 have f:=WQ s h i;have g:=TI s;rw[show vz=[48,49,50,51,52,53,54,55,56,57]from rfl]at f;refine aM nf Lh mix (by simp[f271]) ?_;generalize kD (iH s)=t at*;cases s with
 |nil=>simp[f271,dE]
 |cons c r=>
  have hc:=i c (by simp)
  by_cases b:t=[]
  ·have d:=g.1 b;have e:dE (c::r)=(decide (¬c=48)||decide (r=[])):=by
    rw[dE,d]
    by_cases a:c=48
    ·subst a;simp
    ·simp[a]
   rw[e];clear e d g
   by_cases a:c=48
   ·cases r with
    |nil=>
     simp[f271];refine c2 f ?_;simp[b,a]
    |cons x r=>
     simp[f271];refine c2 f ?_;simp[b,a]
   ·have j:¬(c:Int)=48:=by omega
    simp[f271];refine c2 f ?_;simp[b,a,j]
  ·have d:¬(c::r).all cm=true:=mt g.2 b;have a:(c::r).all cm=false:=by simpa using d
   have e:dE (c::r)=false:=by rw[dE,a];simp
   rw[e];clear e d a g;simp[f271];refine c2 f ?_;simp[b]
theorem YM{a b:Nat}:(decide (jB (ey a b) 1≠0))=decide (gc a b≠1):=by
 rw[decide_eq_decide,jB,ey,a3,a3]
 split
 ·simp;omega
 ·split
  ·simp;omega
  ·simp;omega
theorem Dw{s:List Nat}(h:s.all cm=true)(c:s.length<=700):okW (aW s:Nat):=by
 have a:=jb _ s rfl h;have b:aW s<2^kR:=eb a (Jk (by have:kR=2800:=rfl;omega));exact gS (k:=kR) (by rw[a3];exact b) (by have:kB=100000:=rfl;have:kR=2800:=rfl;omega)
theorem yH(s:List Nat)(h:s.length<=1048576)(K:∀c∈s,c<256):az prog 221 [.str s] (.int .i64 (bX s)):=by
 have X:=Wr s;have A:=Nk (cS s) 47 (ee (oc s).1 h);rw[show(b8 47 (cS s)).1=bD s from rfl,show(b8 47 (cS s)).2.1=bM s from rfl,show(b8 47 (cS s)).2.2=dR s from rfl]at A;refine aM nf FI mix (by simp[f221]) ?_;simp[f221,-br];rw[br];simp[-br];rw[br];simp[-br];refine c2 X ?_;simp[-br];rw[br];simp[-br];refine c2 A ?_;simp[-br];have ab:=(oc s).1;have q:=ou 47 (cS s);have ad:(bD s).length<=1048576:=by have:=q.1;rw[bD];omega
 have ac:(bM s).length<=1048576:=by have:=q.2.1;rw[bM];omega
 have W:∀c∈bD s,c<256:=fun c hc=>K c ((oc s).2 c (q.2.2.1 c hc));have V:∀c∈bM s,c<256:=fun c hc=>K c ((oc s).2 c (q.2.2.2 c hc));clear q ab;have Z:=Lz (bD s) ad W;have Y:=Lz (bM s) ac V;obtain⟨m,B⟩:∃m,m=(dE (bD s)&&!(bZ s&&decide (bD s=[48]))):=⟨_,rfl⟩
 obtain⟨f2,k⟩:∃f2,f2=(m&&(!dR s||(dE (bM s)&&decide (bM s≠[48])&&decide (bM s≠[49])))):=⟨_,rfl⟩
 have L:bX s=if f2=false then 1 else if 600<(bD s).length\/600<(bM s).length then 4 else if dR s=true/\gc (aW (bD s)) (aW (bM s))≠1 then 1 else 0:=by rw[k,B];rfl
 rw[L];clear L A;generalize dR s=fr at*;refine join (fun s'=>aN s'.env 8=.p (.bool m)/\aN s'.env 7=.p (.bool fr)/\aN s'.env 6=.p (.str (bM s))/\aN s'.env 5=.p (.str (bD s))/\s'.heap=[]) ?_ ?_
 ·simp;refine c1 Z ?_;rw[B];cases dE (bD s)
  ·simp
  ·cases bZ s
   ·simp
   ·by_cases r:bD s=[48]
    ·simp[r]
    ·simp[r]
 rintro⟨I,aa⟩ ⟨d,f,g,i,t⟩;dsimp only at d f g i t;subst t;refine join (fun s'=>aN s'.env 8=.p (.bool f2)/\aN s'.env 7=.p (.bool fr)/\aN s'.env 6=.p (.str (bM s))/\aN s'.env 5=.p (.str (bD s))/\s'.heap=[]) ?_ ?_
 ·rw[k];cases fr
  ·simp[d,f,g,i]
  ·cases m
   ·simp[d,f,g,i]
   ·simp[d,f,g,i];refine c1 Y ?_;cases dE (bM s)
    ·simp[d,f,g,i]
    ·by_cases r:bM s=[48]
     ·simp[d,f,g,i,r]
     ·by_cases N:bM s=[49]
      ·simp[d,f,g,i,N]
      ·simp[d,f,g,i,r,N]
 clear d f g i I;rintro⟨I,aa⟩ ⟨d,f,g,i,t⟩;dsimp only at d f g i t;subst t;have head:∀(n v:Bool),az prog 272 [.seq [.int .i64 (bg n 1),.int .i64 (bg v 4)]] (.int .i64 (if n=true then 1 else if v=true then 4 else 0)):=fun n v=>by
  have:=WR [bg n 1,bg v 4] (by simp);cases n<;>cases v<;>exact this
 have H:=uL (!f2) 1;have R:=uL true 4;have wf:=uL false 4;have J:=head (!f2) true;have U:=head (!f2) false;have O:(600<(bD s).length)↔(600:Int)<((bD s).length:Nat):=by omega
 have P:(600<(bM s).length)↔(600:Int)<((bM s).length:Nat):=by omega
 by_cases u:(600:Int)<((bD s).length:Nat)
 ·simp[d,f,g,i];refine c2 H ?_;simp[d,f,g,i,u];refine c2 R ?_;simp;refine cp J (by simp;exact⟨rfl,rfl⟩) ?_;cases f2
  ·simp
  ·simp[O.2 u]
 by_cases x:(600:Int)<((bM s).length:Nat)
 ·simp[d,f,g,i];refine c2 H ?_;simp[d,f,g,i,u,x];refine c2 R ?_;simp;refine cp J (by simp;exact⟨rfl,rfl⟩) ?_;cases f2
  ·simp
  ·simp[P.2 x]
 have E:¬600<(bD s).length:=mt O.1 u;have F:¬600<(bM s).length:=mt P.1 x;have Q:=uL false 1;have ag:=uL true 1;simp[d,f,g,i];refine c2 H ?_;simp[d,f,g,i,u,x];refine c2 wf ?_;simp;refine cp U (by simp;exact⟨rfl,rfl⟩) ?_;cases f2
 ·simp
 cases fr
 ·simp[d,f,g,i,E,F];refine c2 Q ?_;simp[bg];exact⟨by omega,by omega⟩
 have j:dE (bD s)=true/\dE (bM s)=true:=by
  cases S:dE (bD s)
  ·rw[B,S]at k;simp at k
  cases T:dE (bM s)
  ·rw[T]at k;simp at k
  exact⟨rfl,rfl⟩
 obtain⟨ae,G⟩:=Bo j.1;obtain⟨af,n4⟩:=Bo j.2;have y:=wu (bD s) (by rw[G];exact iS j.1) (by rw[G];omega);have z:=wu (bM s) (by rw[n4];exact iS j.2) (by rw[n4];omega);rw[ae,G]at y;rw[af,n4]at z;simp only[a0,if_false]at y z;have C:=Ng (.mk' (aW (bD s):Nat)) (.mk' (aW (bM s):Nat)) (Dw (iS j.1) (by omega)) (Dw (iS j.2) (by omega));rw[NI.ig,NI.ig]at C;have D:=qK 1;rw[Kv]at D;have hc:=Nf (.mk' (ey (aW (bD s):Nat) (aW (bM s):Nat))) (.mk' 1) (pQ (Dw (iS j.2) (by omega)) (by rw[NI.ig,ey,a3,a3,a3];exact Nat.gcd_le_right _ (xD j.2 (fun e=>by rw[e]at k;simp at k)))) (by rw[okW];decide);rw[NI.ig,NI.ig]at hc;have M:=YM (a:=aW (bD s)) (b:=aW (bM s));generalize jB (ey (aW (bD s):Nat) (aW (bM s):Nat)) 1=o at*
 by_cases l:gc (aW (bD s)) (aW (bM s))=1
 ·have w:o=0:=by simpa[l]using M
  simp[d,f,g,i,E,F,l];refine c1 y ?_;simp[d,f,g,i];refine c1 z ?_;simp;refine c2 C ?_;simp;refine c1 D ?_;simp;refine c2 hc ?_;simp[w];refine c2 Q ?_;simp[bg];rw[if_neg (by omega),if_pos l]
 ·have w:¬o=0:=by simpa[l]using M
  simp[d,f,g,i,E,F,l];refine c1 y ?_;simp[d,f,g,i];refine c1 z ?_;simp;refine c2 C ?_;simp;refine c1 D ?_;simp;refine c2 hc ?_;simp[w];refine c2 ag ?_ (h1:=by simp[w]);simp[bg];rw[if_neg (by omega),if_neg l]
def gN(s:List Nat):Prop:=s.length<=1048576/\∀c∈s,c<256
theorem Wq(l:List (List Nat)):az prog 295 [.seq (l.map .str)] (.func 336 [] [.cr (.seq (l.map .str))]):=by
 refine aM nf LX mix (by simp[f295]) ?_;simp[f295];exact bB.refl _
def Dm(s:List Nat):List PV:=[.int .i64 (bX s)]
theorem V1(l:List (List Nat))(q:l.length<=1000000)(hs:∀s∈l,gN s):Stream prog 336 [] [.cr (.seq (l.map .str))] (l.map Dm):=by
 intro b k c H' hk d o f;refine dW nf Mm mix (by simp[f336]) ?_;rw[b4]at hk;have g:∀i(h:i<l.length),(l.map Dm)[i]?=some (Dm l[i]):=fun i h=>by rw[b0,a7 h];rfl
 simp[f336];refine lp (α:=Nat) (fun i=>⟨[(7,.p (.int .i64 i)),(6,.p (.int .i64 l.length)),(5,.p (.seq (l.map .str))),(0,.map b)],c i⟩) (fun i=>i<=k) (fun i=>l.length-i) 0 (by simp) ?_ (hr:=by simp;exact(d 0 (by omega)).2) (hr2:=(d 0 (by omega)).1);intro i hi;have n:=bY (i:=i) (by omega)
 by_cases a:i<l.length
 ·have hc:=yH l[i] (hs _ (b3 a)).1 (hs _ (b3 a)).2;have gG:(i<k/\ic prog b (c i) [.p (.int .i64 (bX l[i]))] (c (i+1)) (.p (.bool true)))\/ic prog b (c i) [.p (.int .i64 (bX l[i]))] H' (.p (.bool false)):=by
   by_cases e:i<k
   ·exact .inl ⟨e,o i _ e (g i a)⟩
   ·have:i=k:=by omega
    subst this;rcases f with⟨e1,_⟩|⟨y,e1,e2⟩
    ·rw[b4]at e1;omega
    ·rw[g i a]at e1;injection e1 with e1;subst e1;exact .inr e2
  simp[a];refine c1 hc ?_;simp;rcases gG with⟨e,hY⟩|hY
  ·refine⟨c (i+1),_,hY,?_⟩;simp[n];exact rd (i+1) e (h1:=by omega) (hr:=by simp;exact(d (i+1) (by omega)).2) (hr2:=(d (i+1) (by omega)).1)
  ·refine⟨H',_,hY,?_⟩;simp
 ·have m:i=l.length:=by omega
  have j:k=l.length:=by omega
  rcases f with⟨e1,e2⟩|⟨y,e1,e2⟩
  ·simp[a,e2,m,j]
  ·rw[j,List.getElem?_eq_none (by simp)]at e1;cases e1
theorem Bb(p:Nat->Bool):∀n,∃k,k<=n/\(∀j,j<k->p j=true)/\(k=n\/(k<n/\p k=false))
 |0=>⟨0,ed _,fun j h=>by omega,.inl rfl⟩
 |n+1=>by
  obtain⟨k,f,b,a⟩:=Bb p n;rcases a with a|⟨a,d⟩
  ·subst a;cases c:p k
   ·exact⟨k,by omega,b,.inr ⟨by omega,c⟩⟩
   ·refine⟨k+1,ed _,fun j g=>?_,.inl rfl⟩
    by_cases e:j=k
    ·subst e;exact c
    ·exact b j (by omega)
  ·exact⟨k,by omega,b,.inr ⟨by omega,d⟩⟩
def lD(l:List (List Nat))(i:Nat):Int:=match l[i]? with
 |some s=>bX s
 |none=>0
theorem HR:∀(l:List (List Nat))(k:Nat),(∀j,j<k->lD l j=0)->bG (l.map bX)=bG ((l.drop k).map bX)
 |[],k,_=>by simp
 |s::l,0,_=>rfl
 |s::l,k+1,h=>by
  have a:=h 0 (by omega);have b:bX s=0:=a;rw[bb,bG,if_pos b,List.drop_succ_cons];exact HR l k fun j c=>h (j+1) (by omega)
theorem Te(l:List (List Nat))(c:l.length<=1000000)(hs:∀s∈l,gN s):az prog 258 [.seq (l.map .str)] (.int .i64 (bG (l.map bX))):=by
 refine aM nf L5 mix (by simp[f258]) ?_;simp[f258];refine c1 (Wq l) ?_;simp;have aK:=V1 l c hs;obtain⟨k,hk,g,d⟩:=Bb (fun i=>decide (lD l i=0)) l.length;have r:∀j,j<k->lD l j=0:=fun j q=>by simpa using g j q
 have f:=HR l k r;refine rf2 aK rfl (by simp) (fun L _=>[.box false (.p (.int .i64 0)),.loop L]) (fun L i=>[.box false (.p (.int .i64 (lD l (i-1)))),.loop (L.dn .ret)]) (fun i=>decide (lD l i=0)) .ret k (by simpa using hk) g (by simpa using d) (fun L=>rfl) ?_ ?_ (fun L=>rfl) ?_ ?_
 ·intro L b i hi;clear b;refine⟨rfl,by simp,fun _ c=>?_⟩;simp at c⊢;exact c
 ·intro L b i x hi hx;have t:x=[.int .i64 (lD l i)]:=by
   rw[b0]at hx;unfold lD;cases h:l[i]? with
   |none=>rw[h]at hx;cases hx
   |some s=>rw[h]at hx;injection hx with hx;rw[<-hx];rfl
  subst t;rw[ej];refine D1 nf mix b rfl rfl (by kernel_rfl) ?_;have m:=congrArg fc.env b;dsimp only at m;clear b;generalize lD l i=e
  by_cases he:e=0
  ·subst he;simp;exact .inl rfl
  ·simp[he];exact .inl rfl
 ·intro a L;have a:k=l.length:=by simpa using a
  rw[f,a];simp[bG]
 ·intro a L;have a:k<l.length:=by simpa using a
  have o:¬lD l k=0:=by
   rcases d with u|⟨_,n⟩
   ·omega
   ·simpa using n
  have e1:lD l k=bX l[k]:=by unfold lD;rw[a7 a]
  rw[f,be a,bb,bG,<-e1,if_neg o];simp[jR]
structure gq where
 x:List Nat
 y:List Nat
def fe(p:gq):PV:=.st 46 [.str p.x,.str p.y]
def qR(p:gq):Prop:=gN p.x/\gN p.y
def dw(p:gq):Int:=bG [bX p.x,bX p.y]
@[simp] theorem aJ4(p:gq):aL (fe p)=.agg 46:=rfl
@[simp] theorem aGV(p:gq):cB (fe p)=[.str p.x,.str p.y]:=rfl
@[simp] theorem aFq:prog.cellsOf 46=2:=by kernel_rfl
theorem Rx(p:gq)(a:qR p):az prog 192 [.seq [fe p]] (.int .i64 (dw p)):=by
 have hc:=Te [p.x,p.y] (by simp) (by intro s hs;simp at hs;rcases hs with rfl|rfl;exact a.1;exact a.2);refine aM nf MT mix (by simp[f192]) ?_;simp[f192];refine lp (α:=Nat) (fun i=>⟨[(8,.p (.int .i64 i)),(7,.p (.int .i64 1)),(6,.p (.seq [fe p])),(0,.p (.seq [fe p]))],[]⟩) (fun i=>i=0\/(i=1/\dw p=0)) (fun i=>1-i) 0 (.inl rfl) ?_;rintro i h;rcases h with rfl|⟨rfl,h⟩
 ·simp[ad];refine cp hc (by simp;exact⟨rfl,rfl⟩) ?_;have b:a2.wrap 1=1:=rfl;rw[show bG (dl bX [p.x,p.y])=dw p from rfl]
  by_cases h:dw p=0
  ·simp[h,b];exact rd 1 (.inr ⟨rfl,h⟩)
  ·simp[h]
 ·simp[h]
theorem Ae(p:gq)(a:qR p):az prog 92 [fe p] (.int .i64 (dw p)):=by
 refine aM nf OR mix (by simp[f92]) ?_;simp[f92,ad];refine cp (Rx p a) (by simp;exact⟨rfl,rfl⟩) ?_;simp
open Go.Proofs Go.Proofs.YtenbmieafgdjaaaGreatDoor
section
variable{H:Type}{W:World}{aa:Nat->Prop}
theorem yM{n:Nat}{d:DataW H}(h:∃cs,aS prog W aa (bE prog (n+1) 45 d) cs)(a:Rows.uptoBulk d<=1048576):∃s:List Nat,bE prog (n+1) 45 d=.str s/\gN s:=by
 obtain⟨cs,h⟩:=h;cases d with
 |lit l=>
  cases l with
  |string bytes=>
   refine⟨bytes.map (·.toNat),by simp only[bE,DN],?_,?_⟩
   ·rw[Rows.uptoBulk]at a;rw[b4];omega
   ·intro c hc;obtain⟨u,_,rfl⟩:=bv.1 hc;exact u.toNat_lt
  |_=>simp only[bE,DN,aS]at h
 |_=>simp only[bE,DN,aS]at h
theorem aD1:∃a b:Field,prog.underlying 47=some (.struct #[a,b])/\a.type=45/\b.type=45:=⟨_,_,underlying47,rfl,rfl⟩
theorem PC:prog.underlyingId 47=46:=by kernel_rfl
theorem UH{m n:Nat}(q:m=n+1){d:DataW H}(h:∃cs,aS prog W aa (bE prog (m+1) 47 d) cs)(e:Rows.uptoBulk d<=1048576):∃p:gq,bE prog (m+1) 47 d=fe p/\qR p:=by
 obtain⟨cs,h⟩:=h;obtain⟨f0,f1,i,t0,t1⟩:=aD1;cases d with
 |agg l=>
  have g:∀x∈l,Rows.uptoBulk x<=1048576:=fun x hx=>by
   have:=oX.sS hx;rw[Rows.uptoBulk]at e;omega
  simp only[bE,i,aS]at h⊢;obtain⟨t,s,f,c,_⟩:=h;rw[PC,aDf]at f;cases f
  match l,c with
  |[],c=>simp[bc]at c
  |[x],c=>simp[bc]at c
  |x::y::r,c=>
   simp only[List.zip_cons_cons,bb,bc,List.zip_nil_left,dq,t0,t1]at c⊢;obtain⟨c0,_,_,g1,_,c1,_,_,g2,_⟩:=c;subst q;obtain⟨a,j,o⟩:=yM ⟨c0,g1⟩ (g x (by simp));obtain⟨b,k,e⟩:=yM ⟨c1,g2⟩ (g y (by simp));exact⟨⟨a,b⟩,by rw[j,k,PC];rfl,o,e⟩
 |_=>simp only[bE,i,aS]at h
theorem HZ{n:Nat}{d:DataW H}(h:∃cs,aS prog W aa (bE prog (n+2) 47 d) cs)(a:Rows.uptoBulk d<=1048576):∃p:gq,bE prog (n+2) 47 d=fe p/\qR p:=UH rfl h a
end
def bT:Nat:=1000000000
theorem aZ:2<=bT:=by decide
def iP(l:List Nat):List PV:=l.map fun x:Nat=>.int .i64 x
theorem Pu(w:List Nat):eH prog 1 (w.map (AV.p∘fun x:Nat=>PV.int .i64 x)):=by
 rw[ud];intro v a;obtain⟨x,_,rfl⟩:=bv.1 a;simp[ad,aL,bF]
def eT(n:Nat):PV:=.seq ((aq bT n).map fun x:Nat=>.int .i64 x)
theorem yU:aq bT 0=[]:=by simp[aq,mw]
theorem mX{n:Nat}(b:0<n)(h:n<bT):aq bT n=[n]:=by
 have a:=je aZ (m:=1) (n:=n) (by rw[ge];exact h);rw[<-a,row,List.range_one,bb,dq,ae,e8,fl,e7 h];have:=ua [] n (by omega)
 rwa [dg]at this
theorem uk{n:Nat}:aq bT n=[]↔n=0:=by
 constructor
 ·intro h;have:=cj aZ n;rw[h,List.length_nil,e8]at this;omega
 ·rintro rfl;exact yU
theorem su(w:List Nat)(h:w.length<=1048576):az prog 260 [.seq (iP w)] (.seq (iP (dV w))):=by
 refine aM nf Eb mix (by simp[f260]) ?_;simp only[iP];simp[f260];refine lp (α:=Nat) (fun i=>⟨[(0,.p (.seq ((w.take i).map fun x:Nat=>.int .i64 x)))],[]⟩) (fun i=>i<=w.length/\dV w=dV (w.take i)) (fun i=>i) w.length (by simp) ?_;rintro i ⟨k1,k2⟩;have k:(w.take i).length=i:=by rw[c6];omega
 by_cases hi:0<i
 ·obtain⟨j,rfl⟩:∃j,i=j+1:=⟨i-1,by omega⟩
  have f:a2.wrap (j:Int)=j:=aI _ (by omega) (by omega);have a:j<w.length:=by omega
  have e:(0:Int)<(j:Int)+1:=by omega
  have k3:=k2;rw[bi a]at k2;have c:min (j+1) w.length=j+1:=by omega
  have d:min ((j:Int)+1) (w.length:Int)=j+1:=by omega
  have g:¬w=[]:=by rintro rfl;simp at a
  by_cases b:w[j]=0
  ·rw[b,Au]at k2;simp[e,f,a,b,c,d,g];refine⟨by rw[<-bo];exact Pu _,?_⟩;refine rd j ⟨by omega,k2⟩ (he:=?_);rw[<-bo,<-bo,List.take_take,Nat.min_eq_left (by omega)];simp
  ·rw[ua _ _ b,<-bi a]at k2;simp[e,f,a,b,c,d,g];rw[k2,bo];exact bB.refl _
 ·obtain rfl:i=0:=by omega
  simp[dV]at k2;simp[k2]
def eG(z:Int):PV:=.st 169 [.bool (decide (z<0)),eT z.natAbs]
@[simp] theorem aI8(z:Int):aL (eG z)=.agg 169:=rfl
@[simp] theorem aGP(z:Int):cB (eG z)=[.bool (decide (z<0)),eT z.natAbs]:=rfl
@[simp] theorem aJ8(n:Nat):aL (eT n)=.leaf:=rfl
theorem Bq(neg:Bool)(w:List Nat)(n:Nat)(c:dV w=aq bT n)(h:w.length<=1048576):az prog 198 [.bool neg,.seq (iP w)] (eG (if neg=true then -(n:Int)else n)):=by
 have a:=su w h;rw[c]at a;refine aM nf MR mix (by simp[f198]) ?_;have b:(if neg=true then -(n:Int)else n).natAbs=n:=by cases neg<;>simp
 rw[eG,b,eT];have d:=uk (n:=n);have e:decide ((if neg=true then -(n:Int)else n)<0)=(neg&&decide (0<(aq bT n).length)):=by
  cases neg
  ·simp
  ·simp;rw[a4,Ne,d];omega
 rw[e];simp only[iP]at a⊢;generalize aq bT n=x at*;cases neg
 ·simp[f198];refine c1 a ?_;simp[ad]
 ·simp[f198];refine c1 a ?_;simp[ad]
  done
theorem Hg{a b:Nat}(h:(aq bT a).length<(aq bT b).length):a<b:=by
 have d:=cj aZ a;rcases em a b with c|c
 ·exact c
 ·have:=dJ aZ (aq bT a).length b (ec c d);omega
theorem Hq{a b i:Nat}(h:a/bT^(i+1)=b/bT^(i+1))(e:ae bT a i<ae bT b i):a<b:=by
 rw[eq,<-en,<-en]at h;have e1:=ei (a/bT^i) bT;have e2:=ei (b/bT^i) bT;rw[ae,ae]at e;rw[h]at e1;rcases em a b with d|d
 ·exact d
 ·have:=Nat.div_le_div_right (c:=bT^i) d;omega
theorem Vr{a b i:Nat}(h:a/bT^(i+1)=b/bT^(i+1))(c:ae bT a i=ae bT b i):a/bT^i=b/bT^i:=by
 rw[eq,<-en,<-en]at h;have e1:=ei (a/bT^i) bT;have e2:=ei (b/bT^i) bT;rw[ae,ae]at c;rw[h]at e1;omega
theorem Hx(a b:Nat)(E:(aq bT a).length<=1048576)(F:(aq bT b).length<=1048576):az prog 200 [eT a,eT b] (.int .i64 (fA a b)):=by
 refine aM nf FQ mix (by simp[f200]) ?_
 by_cases l:(aq bT a).length=(aq bT b).length
 case neg=>
  have q:¬((aq bT a).length:Int)=(aq bT b).length:=by omega
  by_cases A:(aq bT a).length<(aq bT b).length
  ·have m:((aq bT a).length:Int)<(aq bT b).length:=by omega
   have:=Hg A;have hc:fA a b= -1:=if_pos this;simp[f200,eT,q,m,hc]
  ·have m:¬((aq bT a).length:Int)<(aq bT b).length:=by omega
   have:=Hg (a:=b) (b:=a) (by omega);have hc:fA a b=1:=by rw[fA,if_neg (by omega),if_pos this]
   simp[f200,eT,q,m,hc]
 have t:∀i(h:i<(aq bT a).length),(aq bT a)[i]?=some (ae bT a i):=fun i h=>by rw[a7 h,eg aZ h]
 have v:∀i(h:i<(aq bT b).length),(aq bT b)[i]?=some (ae bT b i):=fun i h=>by rw[a7 h,eg aZ h]
 have u:∀i(h:i<(aq bT a).length),(aq bT a)[i]=ae bT a i:=fun i h=>eg aZ h;have w:∀i(h:i<(aq bT b).length),(aq bT b)[i]=ae bT b i:=fun i h=>eg aZ h;have s:=cj aZ a;have o:=cj aZ b;rw[<-l]at o;have z:a/bT^(aq bT a).length=b/bT^(aq bT a).length:=by rw[eo s,eo o]
 simp only[eT];generalize aq bT a=x at*;generalize aq bT b=y at*;have D:a2.wrap ((y.length:Int)-1)=y.length-1:=aI _ (by omega) (by omega);simp[f200,l,D];refine lp (α:=Nat) (fun i=>⟨[(5,.p (.int .i64 ((i:Int)-1))),(1,.p (.seq (y.map fun x:Nat=>.int .i64 x))),(0,.p (.seq (x.map fun x:Nat=>.int .i64 x)))],[]⟩) (fun i=>i<=y.length/\a/bT^i=b/bT^i) (fun i=>i) y.length ⟨ed _,by rw[<-l];exact z⟩ ?_;rintro i ⟨k1,k2⟩
 by_cases hi:0<i
 ·obtain⟨j,rfl⟩:∃j,i=j+1:=⟨i-1,by omega⟩
  have c:j<x.length:=by omega
  have d:j<y.length:=by omega
  have C:a2.wrap ((j:Int)-1)=j-1:=aI _ (by omega) (by omega);have e:=t j c;have g:=v j d;have f:=u j c;have k:=w j d
  by_cases hq:ae bT a j=ae bT b j
  ·simp[c,d,e,g,f,k,hq,C];exact rd j ⟨by omega,Vr k2 hq⟩
  ·have r:¬(ae bT a j:Int)=ae bT b j:=by omega
   by_cases n:ae bT a j<ae bT b j
   ·have:=Hq k2 n;have hc:fA a b= -1:=if_pos this;simp[c,d,e,g,f,k,r,n,hc]
   ·have:=Hq k2.symm (show ae bT b j<ae bT a j by omega);have B:ae bT b j<ae bT a j:=by omega
    have hc:fA a b=1:=by rw[fA,if_neg (by omega),if_pos this]
    simp[c,d,e,g,f,k,r,n,B,hc]
 ·obtain rfl:i=0:=by omega
  rw[e8,fl,fl]at k2;have hc:fA a b=0:=by rw[fA,if_neg (by omega),if_neg (by omega)]
  simp[hc]
theorem We{n i:Nat}(h:(aq bT n).length<=i):ae bT n i=0:=jd (eb (cj aZ n) (ea (by decide) h))
theorem Cd(a i:Nat):az prog 262 [eT a,.int .i64 i] (.int .i64 (ae bT a i:Nat)):=by
 refine aM nf Ea mix (by simp[f262]) ?_
 by_cases h:i<(aq bT a).length
 ·have b:(aq bT a)[i]=ae bT a i:=eg aZ h;rw[eT,<-b];generalize aq bT a=x at*;simp[f262,h]
 ·rw[We (by omega),eT];generalize aq bT a=x at*;simp[f262,h]
def dT(i n:Nat):List AV:=(cb i).map fun j=>.p (.int .i64 (ae bT n j:Nat))
theorem pI(i n:Nat):dT (i+1) n=dT i n++[.p (.int .i64 (ae bT n i:Nat))]:=by
 rw[dT,List.range_succ,List.map_append];rfl
theorem ib(i n:Nat):(dT i n).length=i:=by simp[dT]
@[simp] theorem aIY{N:Nat×Nat->Prop}{n i:Nat}:aQ N (dT i n)=True:=by
 rw[cG,eq_iff_iff,iff_true];intro v a;simp only[dT,bv]at a;obtain⟨x,_,rfl⟩:=a;trivial
theorem Kq(i n:Nat):eB (dT i n)=some ((row bT i n).map fun x:Nat=>.int .i64 x):=by
 have:dT i n=(row bT i n).map (AV.p∘fun x:Nat=>PV.int .i64 x):=by
  rw[dT,row,dz];rfl
 rw[this];exact IM
theorem LH(i n:Nat):dT i n=(row bT i n).map (AV.p∘fun x:Nat=>PV.int .i64 x):=by
 rw[dT,row,dz];rfl
theorem WA{n i:Nat}(h:n<bT^i)(a:i=0\/bT^(i-1)<=n):row bT i n=aq bT n:=by
 have b:(aq bT n).length=i:=by
  have c:=dJ aZ i n h;rcases a with rfl|a
  ·omega
  ·have:=HT aZ a;omega
 have:=Ye aZ n;rw[b]at this;exact this.symm
theorem Xa(a b:Nat)(I:(aq bT a).length<=1000000)(J:(aq bT b).length<=1000000):az prog 199 [eT a,eT b] (eT (a+b)):=by
 refine aM nf FR mix (by simp[f199]) ?_;have v:=cj aZ a;have w:=cj aZ b;have C:∀i,i<(aq bT a).length->bT^i<=a:=fun i h=>by
  rcases em a (bT^i)with c|c
  ·have:=dJ aZ i a c;omega
  ·exact c
 have D:∀i,i<(aq bT b).length->bT^i<=b:=fun i h=>by
  rcases em b (bT^i)with c|c
  ·have:=dJ aZ i b c;omega
  ·exact c
 have A:∀i,0<c8 bT a b i->bT^i<=a+b:=fun i h=>by
  rw[c8]at h;have c:bT^i<=a% bT^i+b% bT^i:=by
   rcases em (a% bT^i+b% bT^i) (bT^i)with d|d
   ·rw[eo d]at h;omega
   ·exact d
  have:=gm a (bT^i);have:=gm b (bT^i);omega
 have f:=fun i=>Cd a i;have g:=fun i=>Cd b i;have B:∀i,(aq bT a).length<=i->(aq bT b).length<=i->c8 bT a b i=0->a+b<bT^i:=fun i c d s=>by
  have l:=eb v (ea (show 0<bT by decide) c);have m:=eb w (ea (show 0<bT by decide) d);rw[c8,e7 l,e7 m]at s;rcases em (a+b) (bT^i)with e|e
  ·exact e
  ·have:=Nat.div_pos e (fb (show 0<bT by decide));omega
 have E:∃M,M=max (aq bT a).length (aq bT b).length:=⟨_,rfl⟩
 obtain⟨M,H⟩:=E;simp only[eT]at f g⊢;have F:=fun i h d=>WA (n:=a+b) (i:=i) h d;generalize aq bT (a+b)=z at*;generalize aq bT a=x at*;generalize aq bT b=y at*;simp[f199];refine lp (α:=Nat) (fun i=>⟨[(7,.p (.int .i64 i)),(6,.p (.int .i64 (c8 bT a b i:Nat))),(5,.sl 0 i 1 0 i),(1,.p (.seq (y.map fun x:Nat=>.int .i64 x))),(0,.p (.seq (x.map fun x:Nat=>.int .i64 x)))],[.arr .grow i 1 (dT i (a+b))]⟩)
  (fun i=>i<=M+1/\(i=0\/bT^(i-1)<=a+b)) (fun i=>M+1-i) 0 ⟨by omega,.inl rfl⟩ ?_ (he:=by simp[wW,dT]) (hh:=by simp[dT])
 rintro i ⟨k1,k2⟩;have o:=bY (i:=i) (by omega);have K:=kX aZ a b i;obtain⟨l,m⟩:=pC aZ a b i;have N:=cq aZ a i;have O:=cq aZ b i;have t:bT=1000000000:=rfl;have q:a2.wrap ((ae bT a i:Int)+ae bT b i)=ae bT a i+ae bT b i:=aI _ (by omega) (by omega);have r:a2.wrap ((ae bT a i:Int)+ae bT b i+c8 bT a b i)=ae bT a i+ae bT b i+c8 bT a b i:=aI _ (by omega) (by omega);have d1:((ae bT a i:Int)+ae bT b i+c8 bT a b i).tmod 1000000000=(ae bT (a+b) i:Nat):=by
  rw[Int.tmod_eq_emod_of_nonneg (by omega),<-l,t];omega
 have d2:((ae bT a i:Int)+ae bT b i+c8 bT a b i).tdiv 1000000000=(c8 bT a b (i+1):Nat):=by
  rw[Int.tdiv_eq_ediv_of_nonneg (by omega),<-m,t];omega
 have d3:a2.wrap (c8 bT a b (i+1):Nat)=(c8 bT a b (i+1):Nat):=by have:=kX aZ a b (i+1);exact aI _ (by omega) (by omega)
 have j:b1 i (dT i (a+b))=dT i (a+b):=a5 (by rw[ib];exact ed _)
 by_cases hx:i<x.length
 ·simp[hx];refine c2 (f i) ?_;simp;refine c2 (g i) ?_;simp[q,r,d1,d2,d3,ib,j,<-pI];refine⟨by simp only[cC];omega,?_⟩;refine rd (i+1) ⟨by omega,.inr (by rw[ej];exact ee (C i hx) (by omega))⟩ (by omega) (he:=by simp[o])
 by_cases k:i<y.length
 ·simp[hx,k];refine c2 (f i) ?_;simp;refine c2 (g i) ?_;simp[q,r,d1,d2,d3,ib,j,<-pI];refine⟨by simp only[cC];omega,?_⟩;refine rd (i+1) ⟨by omega,.inr (by rw[ej];exact ee (D i k) (by omega))⟩ (by omega) (he:=by simp[o])
 by_cases hc:0<c8 bT a b i
 ·have L:i=M:=by
   rcases em M i with h|h
   ·have e0:=pC aZ a b M;have c:ae bT a M=0:=jd (eb v (ea (by decide) (by omega)));have d:ae bT b M=0:=jd (eb w (ea (by decide) (by omega)));have s:=kX aZ a b M;have e:i=M+1:=by omega
    subst e;rw[c,d]at e0;rw[<-e0.2,eo (by omega)]at hc;omega
   ·omega
  simp[hx,k,hc];refine c2 (f i) ?_;simp;refine c2 (g i) ?_;simp[q,r,d1,d2,d3,ib,j,<-pI];refine⟨by simp only[cC];omega,?_⟩;refine rd (i+1) ⟨by omega,.inr (by rw[ej];exact A i hc)⟩ (by omega) (he:=by simp[o])
 ·have u:c8 bT a b i=0:=by omega
  have G:=F i (B i (by omega) (by omega) u) k2;rw[<-G];simp[hx,k,u];refine⟨by rw[ib];exact ed _,?_⟩;rw[j,LH];simp
theorem Lx(a b:Nat)(A:b<=a)(F:(aq bT a).length<=1000000):az prog 201 [eT a,eT b] (eT (a-b)):=by
 refine aM nf FP mix (by simp[f201]) ?_;have D:=cj aZ a;have j:=fun i=>Cd b i;have B:∀i(h:i<(aq bT a).length),(aq bT a)[i]?=some (ae bT a i):=fun i h=>by rw[a7 h,eg aZ h]
 have C:∀i(h:i<(aq bT a).length),(aq bT a)[i]=ae bT a i:=fun i h=>eg aZ h;have E:dV (row bT (aq bT a).length (a-b))=aq bT (a-b):=je aZ (ec (Nat.sub_le a b) D);have e:=su (row bT (aq bT a).length (a-b)) (by rw[KR];omega);rw[E]at e;simp only[eT]at j⊢;simp only[iP]at e;generalize aq bT (a-b)=z at*;generalize aq bT a=x at*;generalize aq bT b=y at*;simp[f201];refine lp (α:=Nat) (fun i=>⟨[(7,.p (.int .i64 i)),(6,.p (.int .i64 (eS bT a b i:Nat))),(5,.sl 0 i 1 0 i),(1,.p (.seq (y.map fun x:Nat=>.int .i64 x))),(0,.p (.seq (x.map fun x:Nat=>.int .i64 x)))],[.arr .grow i 1 (dT i (a-b))]⟩)
  (fun i=>i<=x.length) (fun i=>x.length-i) 0 (by simp) ?_ (he:=by simp[As,dT]) (hh:=by simp[dT])
 intro i k1;have s:=bY (i:=i) (by omega);have r:b1 i (dT i (a-b))=dT i (a-b):=a5 (by rw[ib];exact ed _);have G:bT=1000000000:=rfl;have J:=cq aZ a i;have K:=cq aZ b i;have L:=cq aZ (a-b) i;have M:eS bT a b i<=1:=by rw[eS];split<;>omega
 have u:a2.wrap ((ae bT a i:Int)-ae bT b i)=ae bT a i-ae bT b i:=aI _ (by omega) (by omega);have n:a2.wrap ((ae bT a i:Int)-ae bT b i-eS bT a b i)=ae bT a i-ae bT b i-eS bT a b i:=aI _ (by omega) (by omega)
 by_cases hx:i<x.length
 ·have o:=B i hx;have q:=C i hx;rcases Jl aZ A i with⟨v,g,w⟩|⟨v,g,w⟩
  ·have m:(ae bT a i:Int)-ae bT b i-eS bT a b i<0:=by omega
   have f:a2.wrap ((ae bT a i:Int)-ae bT b i-eS bT a b i+1000000000)=(ae bT (a-b) i:Nat):=by rw[aI _ (by omega) (by omega)];omega
   simp[hx,o,q];refine e2 (j i) ?_;simp[u,n,m,f,ib,r,<-pI];refine⟨by simp only[cC];omega,?_⟩;refine rd (i+1) hx (he:=by simp[s,g])
  ·have m:¬(ae bT a i:Int)-ae bT b i-eS bT a b i<0:=by omega
   have f:(ae bT a i:Int)-ae bT b i-eS bT a b i=(ae bT (a-b) i:Nat):=by omega
   rw[f]at m n;simp[hx,o,q];refine e2 (j i) ?_;simp[u,n,f,ib,r,<-pI];refine⟨by simp only[cC];omega,?_⟩;refine rd (i+1) hx (he:=by simp[s,g])
 ·have:i=x.length:=by omega
  subst this;have k:=LH x.length (a-b);have d:(row bT x.length (a-b)).length=x.length:=KR;generalize row bT x.length (a-b)=l at e k d;have H:b1 x.length l=l:=a5 (by omega);rcases l with _|⟨c,t⟩
  ·simp at d;simp[k];refine cp e (by simp[<-d];exact⟨rfl,rfl⟩) ?_;simp
  ·have I:b1 x.length (PV.int .i64 c::dl (fun x:Nat=>PV.int .i64 x) t)=PV.int .i64 c::dl (fun x:Nat=>PV.int .i64 x) t:=a5 (by simp at d⊢;omega);simp at d;simp[k];refine cp e (by simp[<-d];exact⟨rfl,rfl⟩) ?_;simp
def dd(n:Nat)(f:Nat->Nat):List AV:=(cb n).map fun j=>.p (.int .i64 (f j:Nat))
theorem uC(n:Nat)(f:Nat->Nat):(dd n f).length=n:=by simp[dd]
theorem Jp(n:Nat):a8 n (AV.p (.int .i64 0))=dd n fun _=>0:=by
 apply db (by simp[dd]);intro i a b;simp[dd]
theorem rY{n j:Nat}(f:Nat->Nat)(h:j<n):(dd n f)[j]?=some (.p (.int .i64 (f j:Nat))):=by
 rw[dd,b0,ck h];rfl
theorem BN{n i:Nat}(f g:Nat->Nat)(h:∀j,j<n->j≠i->g j=f j):(dd n f).set i (.p (.int .i64 (g i:Nat)))=dd n g:=by
 apply db (by simp[dd]);intro j c b;rw[uC]at b;rw[List.getElem_set];simp only[dd,List.getElem_map,List.getElem_range]
 by_cases a:i=j
 ·subst a;rw[if_pos rfl]
 ·rw[if_neg a,h j b (fun e=>a e.symm)]
@[simp] theorem aIX{N:Nat×Nat->Prop}{n:Nat}{f:Nat->Nat}:aQ N (dd n f)=True:=by
 rw[cG,eq_iff_iff,iff_true];intro v a;simp only[dd,bv]at a;obtain⟨x,_,rfl⟩:=a;trivial
theorem xM{n:Nat}{f g:Nat->Nat}(h:∀j,j<n->f j=g j):dd n f=dd n g:=by
 rw[dd,dd];apply List.map_congr_left;intro j a;rw[h j (List.mem_range.1 a)]
end Go.al
