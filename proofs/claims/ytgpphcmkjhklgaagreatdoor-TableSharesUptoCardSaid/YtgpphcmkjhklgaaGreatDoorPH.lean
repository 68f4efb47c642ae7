import Derived.Test.YtgpphcmkjhklgaaGreatDoorPG
import Derived.Test.YtgpphcmkjhklgaaGreatDoorThE
import Derived.Test.YtgpphcmkjhklgaaGreatDoorPE
import Derived.Lib.AtoiAll
import Derived.Test.YtgpphcmkjhklgaaGreatDoorPC
/- Parts of a proof. -/
set_option linter.unusedSimpArgs false
set_option linter.unusedVariables false
set_option linter.unusedSectionVars false
open Go.Proofs.Tryz
open Bool renaming and_eq_true->aT, false_eq_true->a0
open Go renaming FuncId->a1, DataW->a2
open Go.IntKind renaming i64->a3
open Int renaming natAbs_natCast->a4
open List renaming length_pos_iff->a5, take_of_length_le->a6, length_singleton->a7, getElem?_eq_getElem->a8, replicate->a9, length_append->bb, map_cons->be, take_succ_eq_append_getElem->bi, drop_eq_getElem_cons->bk, append_nil->bl, take_append_drop->bo, map_take->bv, mem_map->b0, getElem?_map->b1, take->b2, reverse_nil->b3, getElem_mem->b4, length_map->b5, foldl_cons->cb, range->cc, all_cons->ce, dropWhile_sublist->ck, getElem?_range->cv, flatten_append->cx, dropWhile_cons->cy, mem_singleton->c6, length_take->c9, length_cons->da, flatten_nil->db, ext_getElem->dg, nil_append->dk, mem_append->dl, map->dp, mem_cons->dq, map_nil->dz, map_map->ea
open Nat renaming pow_le_pow_right->eb, lt_of_lt_of_le->ec, lt_of_le_of_lt->ed, le_refl->ee, le_trans->ei, div_add_mod->ej, add_sub_cancel->em, lt_or_ge->en, div_div_eq_div_mul->eo, div_eq_of_lt->eq, pow_succ->ew, mul_assoc->ey, lt_trans->e6, mod_eq_of_lt->e7, pow_zero->e8, mul_comm->e9, pow_pos->fb, mul_le_mul_right->fd, div_one->fl, pow_le_pow_left->fm, div_mul_le_self->fv, div_lt_self->fJ, add_assoc->gb, gcd->gc, pow_one->ge, pow_mul->gg, add_mul->gi, mod_lt->gj, mod_le->gm
open Option.some renaming injEq->gt
open UInt8 renaming ofNat->gx
namespace Go.al
open Go.Proofs
set_option linter.unusedSectionVars false
theorem zN:dC prog 224=some [1,1]:=by kernel_rfl
section
variable{w:World}{aa ah:Nat->Prop}{β:Bd}{H:Heap}
theorem Rx{ak:Nat}{c0 c1 v:Value}{T:TypeId}(h:w.heap[ak]?=some (.cells #[c0,c1] T (0,0))):w.setCell ⟨ak,0,none⟩ v=w.setRow ak #[v,c1]:=by
 obtain⟨d,a⟩:=Array.getElem?_eq_some_iff.1 h;unfold World.setCell World.setRow;congr 1;apply Array.ext
 ·simp
 ·intro i b c;simp only[Array.getElem_modify]
  by_cases hi:ak=i
  ·subst hi;simp[a]
  ·simp[hi]
theorem QY{t x:AV}{cs:Array Value}(g:t=gG 224 [.p .dw,x]\/t=.st 224 [.p .dw,x])(h:bd prog w aa β H t cs.toList):∃y,cs=#[.pointer none,y]/\bd prog w aa β H x [y]:=by
 have a:bd prog w aa β H (.st 224 [.p .dw,x]) cs.toList:=by
  rcases g with rfl|rfl
  ·exact J7.1 h
  ·exact h
 simp only[bd,zN,gt]at a;obtain⟨l,k,rfl,b,d⟩:=a;simp only[bF,bd,aU]at b;obtain⟨c,i,rfl,rfl,_,c2,j,rfl,e,f,rfl⟩:=b
 match c2,f with
 |[y],_=>exact⟨y,Array.ext' (by simpa using d),e⟩
theorem QR{b:Nat}{x:AV}{cs:Array Value}(h:bd prog w aa β H (.st 224 [.ptr b [],x]) cs.toList):∃v y,cs=#[v,y]/\bG prog β H (.ptr b []) v:=by
 simp only[bd,zN,gt]at h;obtain⟨l,j,rfl,a,d⟩:=h;simp only[bF,bd]at a;obtain⟨c,g,rfl,⟨v,rfl,f⟩,_,c2,i,rfl,k,e,rfl⟩:=a
 match c2,e with
 |[y],_=>exact⟨v,y,Array.ext' (by simpa using d),f⟩
end
theorem C1{H:Heap}{b:Nat}{t x:AV}(f:H[b]?=some (.box false t))(i:t=gG 224 [.p .dw,x]\/t= .st 224 [.p .dw,x]):
 cX prog 225 H [.ptr b []] (H.set b (.box false (.st 224 [.ptr b [],x]))) (.p (.aE [])):=by
 refine⟨il func225 (by kernel_rfl),fun w aa ah β J g j K=>?_⟩;simp only[bp,au]at j;obtain⟨v,vs,rfl,⟨_,I,L,M,rfl,m,B⟩,rfl⟩:=j;simp only[fK,gt]at m;subst m;obtain⟨rfl,rfl⟩:=B (.inl ⟨false,t,f⟩);obtain⟨cs,T,k1,k2,k3,_,k5⟩:=g.cg b _ f;have F:ad t=.agg 224:=by
  rcases i with rfl|rfl
  ·exact AN _ _
  ·rfl
 have q:T=225:=by
  rw[F]at k5;exact c7 (by simpa[iK,Gl.bx,X4]using k5)
 subst q;obtain⟨y,rfl,G⟩:=QY i k2;have o:¬aa (β.ak b)/\¬ah (β.ak b):=by simpa[b8]using k3
 refine(QN (β.ak b) w (by simp[World.cell?,k1]) (by simp[World.shape?,k1]) (by simp[World.frozen?,k1])).mono ?_;rintro e w' ⟨rfl,rfl⟩;rw[Rx k1];have aH:bW β H β (H.set b (.box false (.st 224 [.ptr b [],x]))):=nV f (.inl ⟨_,_,_,_,rfl,rfl⟩);have aj:∀z,aF H z->aF (H.set b (.box false (.st 224 [.ptr b [],x]))) z:=kX f (fun _ h=>h);have r:b<H.length:=(List.getElem?_eq_some_iff.1 f).1;have u:(H.set b (.box false (.st 224 [.ptr b [],x])))[b]?=some (.box false (.st 224 [.ptr b [],x])):=List.getElem?_set_self r;have n:aB (aF H) x:=by
  have:=g.refs b _ f;rcases i with rfl|rfl
  ·simp only[Obj.refs]at this;unfold gG at this
   split at this
   ·rename_i l d;have d:=kV d
    match l,d with
    |[a,c],d=>simp at d;rw[d.2];simp[aB]
    |[],d=>simp at d
    |[_],d=>simp at d
    |_::_::_::_,d=>simp at d
   ·simp only[aB,aQ]at this;exact this.2.1
  ·simp only[Obj.refs,aB,aQ]at this;exact this.2.1
 have E:∀k,aa k->(w.setRow (β.ak b) #[.pointer (some ⟨β.ak b,0,none⟩),y]).heap[k]?=w.heap[k]?:=fun k A=>setRow_other w _ k _ (fun s=>o.1 (s▸A));have D:Obj.refs (aF (H.set b (.box false (.st 224 [.ptr b [],x])))) (.box false (.st 224 [.ptr b [],x])):=by
  simp only[Obj.refs,aB,aQ,and_true];exact⟨⟨_,u,trivial⟩,aB.mono aj _ n⟩
 have C:=pg g f trivial (o':=.box false (.st 224 [.ptr b [],x])) trivial (fun _ h=>h) k1 (new:=#[.pointer (some ⟨β.ak b,0,none⟩),y]) o aH
  ⟨_,225,setRow_heap w _ _ _ 225 _ k1,by
   simp only[bd,zN,gt];refine⟨_,[[.pointer (some ⟨β.ak b,0,none⟩)],[y]],rfl,?_,rfl⟩;simp only[bF,bd];exact⟨_,_,rfl,⟨_,rfl,⟨rfl,_,_,0,rfl,rfl,fun _=>⟨rfl,rfl⟩⟩⟩,rfl,_,_,rfl,bd.mono (fun _ x=>x) E aH _ _ n G,rfl,rfl⟩,k3,by simp,by simp[ad,iK,Gl.bx]⟩ D
 exact⟨_,β,aa,rfl,C,by simp[au,aA,bm],by simp[aB]⟩
theorem Nr{H:Heap}{b:Nat}{x:AV}(c:H[b]?=some (.box false (.st 224 [.ptr b [],x]))):cX prog 225 H [.ptr b []] H (.p (.aE [])):=by
 refine⟨il func225 (by kernel_rfl),fun w aa ah β l g f m=>?_⟩;simp only[bp,au]at f;obtain⟨v,vs,rfl,⟨_,j,n,i,rfl,a,d⟩,rfl⟩:=f;simp only[fK,gt]at a;subst a;obtain⟨rfl,rfl⟩:=d (.inl ⟨false,_,c⟩);obtain⟨cs,T,k1,k2,k3,_,k5⟩:=g.cg b _ c;obtain⟨v,y,rfl,h⟩:=QR k2;simp only[bG,bK]at h;obtain⟨_,k,o,i,rfl,a,d⟩:=h;simp only[fK,gt]at a;subst a;obtain⟨rfl,rfl⟩:=d (.inl ⟨false,_,c⟩);refine(QM (β.ak b) w (by simp[World.cell?,k1])).mono ?_;rintro e w' ⟨rfl,rfl⟩;exact⟨_,β,aa,rfl,bO.refl g,by simp[au,aA,bm],by simp[aB]⟩
set_option maxHeartbeats 4000000
set_option maxRecDepth 100000
@[simp] theorem gu8:(Gl.u8:TypeId)=5:=(rfl)
def dy(t:List Nat):List AV:=t.map fun(c:Nat)=>AV.p (.int .u8 (c:Int))
theorem uG(t:List Nat):(dy t).length=t.length:=by simp[dy]
theorem aDO(a t:List Nat):dy (a++t)=dy a++dy t:=by simp[dy]
theorem BF:∀t:List Nat,eS prog 1 (dy t)
 |[]=>by simp[dy,eS]
 |c::t=>by
  have:=BF t;simp only[dy,be]at this⊢;simp[eS];exact this
theorem HF:∀(t:List Nat),(∀c∈t,c<256)->bytesOf (dy t)=some t
 |[],_=>rfl
 |c::t,a=>by
  have b:=a c (by simp);have:=HF t fun c hc=>a c (by simp[hc]);show bytesOf (.p (.int .u8 (c:Int))::dy t)=some (c::t);rw[bytesOf,if_pos ⟨by omega,by omega⟩,this];simp
theorem Ns(t:List Nat)(a:t≠[])(h:t.length<=1048576):cX prog 151 [.box false (.p (.st 224 [.dw,.aR]))] [.ptr 0 [],.p (.str t)]
 [.box false (.st 224 [.ptr 0 [],.sl 1 0 1 0 t.length]),.arr .bytes 0 1 (dy t)] (.p (.aE [.int .i64 t.length,.fG])):=by
 refine jj nf CI mix (by simp[f151]) ?_;simp[f151];refine ci (C1 (b:=0) (t:=.p (.st 224 [.dw,.aR])) (x:=.p .aR) rfl (.inl rfl)) ?_;simp;refine⟨⟨BF t,by simp only[cU];omega⟩,?_⟩;simp[a,dy]
theorem Nt(a t:List Nat)(v n:Nat)(f:n=a.length)(c:t≠[])(h:t.length<=1048576)(e:a.length<=1048576):cX prog 151 [.box false (.st 224 [.ptr 0 [],.sl 1 v 1 0 n]),.arr .bytes v 1 (dy a)] [.ptr 0 [],.p (.str t)]
 [.box false (.st 224 [.ptr 0 [],.sl 1 (v+1) 1 0 (n+t.length)]),.arr .bytes (v+1) 1 (dy (a++t))] (.p (.aE [.int .i64 t.length,.fG])):=by
 refine jj nf CI mix (by simp[f151]) ?_;simp[f151];refine ci (Nr (b:=0) (x:=.sl 1 v 1 0 n) rfl) ?_;simp;refine⟨⟨BF t,by rw[uG];omega,by rw[uG];simp only[cU];omega⟩,?_⟩;have d:b2 n (dy a)=dy a:=a6 (by rw[uG];omega);simp[c,d,aDO];exact .inl rfl
theorem X1(a:List Nat)(v n:Nat)(b:n=a.length)(d:a≠[])(g:a.length<=1048576)(e:∀c∈a,c<256):cX prog 229 [.box false (.st 224 [.ptr 0 [],.sl 1 v 1 0 n]),.arr .bytes v 1 (dy a)] [.ptr 0 []]
 [.box false (.st 224 [.ptr 0 [],.sl 1 v 1 0 n]),.dead] (.p (.str a)):=by
 refine jj nf Mu mix (by simp[f229]) ?_;have f:0<a.length:=a5.2 d;simp[f229];refine Xy (ar:=v) (es:=dy a) rfl rfl (by rw[b];exact f) (by simp[dy,b]) ?_;simp;refine XA (ar:=v) (es:=dy a) (l:=a) rfl rfl rfl (by omega) (by simp[uG,b]) (by omega) rfl ?_ ?_ ?_ ?_
 ·kernel_rfl
 ·kernel_rfl
 ·rw[a6 (by rw[uG];simp[b])];exact HF a e
 simp
 repeat' with_reducible refine And.intro ?_ ?_
 all_goals rfl
theorem A5{σ:Nat->Nat}:∀{a b:List AV},cC σ (a++b)=cC σ a++cC σ b
 |[],b=>by simp[cC]
 |x::a,b=>by simp[cC,A5 (a:=a)]
theorem yt:aq wB tB=[tB]:=sr (by decide) (by decide)
theorem UR(a:NI)(hs:a.sm=true):az prog 250 [eI a] (.str (bD a.v)):=by
 refine aM nf CH mix (by simp[f250]) ?_;have b:=NI.ow hs;simp[f250,ad,ln hs,mc hs,df,cG];refine c1 (FR a.v b.1 b.2) ?_;simp
theorem KZ{m k A L:Nat}(e:0<m)(h:m*tB^k<=A)(a:A<wB^L):k<64*L:=by
 have b:2^k<=tB^k:=fm (by decide) k;have c:tB^k<=m*tB^k:=Nat.le_mul_of_pos_left _ e;rw[show wB=2^64 from rfl,<-gg]at a;have d:2^k<2^(64*L):=ed (ei b (ei c h)) a
 rwa [Nat.pow_lt_pow_iff_right (by decide)]at d
theorem UQ(a:NI)(hs:a.sm=false)(Z:okW a.v)(ax:(aW a.v.natAbs).length<=1000000):az prog 250 [eI a] (.str (bD a.v)):=by
 have N:=mS (eI a) a.v (lB a);have aL:=NI.yi (a:=a) (by rw[hs];decide);have ak:=ec (bY bc a.v.natAbs) (eb (show 0<wB by decide) (mQ Z));obtain⟨c,cs,G⟩:=ni hs;refine aM nf CH mix (by simp[f250]) ?_;simp[f250,ad,G,df,cG];refine c1 N ?_;simp;refine qO (fun s'=>∃b:List (List Nat),jc 0 b=jc a.v.natAbs []/\(∀p∈b,p≠[]/\p.length<=18)/\b≠[]/\b.length<=57600000/\aK s'.env 3=.p (.bool (decide (a.v<0)))/\aK s'.env 6=.sl 2 b.length 1 0 b.length/\∃o,s'.heap=[.hole,o,.arr .grow b.length 1 (b.map fun p=>.p (.str p))]) ?_ ?_
 ·refine lp (α:=Nat×List (List Nat)×Bool) (fun x=>⟨[(6,.sl 2 x.2.1.length 1 0 x.2.1.length),(5,.sl 1 0 1 0 1),(4,.p (eN x.1)),(3,.p (.bool (decide (a.v<0))))],[.hole,.arr (if x.2.2=true then .frozen else .exact) 0 1 [.p (.int .u64 1000000000000000000)],.arr .grow x.2.1.length 1 (x.2.1.map fun p=>.p (.str p))]⟩)
   (fun x=>x.1<=a.v.natAbs/\jc x.1 x.2.1=jc a.v.natAbs []/\(∀p∈x.2.1,p≠[]/\p.length<=18)/\x.2.1.length<=57600000/\x.1*tB^x.2.1.length<=a.v.natAbs) (fun x=>x.1) (a.v.natAbs,[],false) ⟨ee _,rfl,by simp,by simp,by simp⟩ ?_
  rintro⟨m,b,f⟩ ⟨k1,k2,k3,k5,k4⟩;dsimp only at k1 k2 k3 k5 k4;rcases f with _|_
  ·simp only[a0,if_false];have ay:(aq wB m).length<=900000:=by
    have:=dE bc _ _ (ed k1 (bY bc a.v.natAbs));have:=mQ Z;omega
   by_cases hm:m=0
   ·subst hm;have ab:b≠[]:=by
     rintro rfl;rw[jc,jc,if_pos rfl,if_neg (by omega)]at k2;have:=xL a.v.natAbs;rw[b3,db,bl,bl]at k2;rw[<-k2]at this;simp at this
    simp[eN,ku];refine⟨b,k2,k3,ab,k5,?_⟩;simp
   ·have d:=Bh m tB (by decide) (by omega) (by rw[yt];decide);have aa:aq wB m≠[]:=mt rH.1 hm;have C:0<(aq wB m).length:=a5.2 aa;have aH:=IZ hm b;have B:∀p∈b++[dZ m],p≠[]/\p.length<=18:=by
     intro p N;rcases dl.1 N with h|h
     ·exact k3 p h
     ·rw[c6.1 h];exact⟨HU m,HV m⟩
    have A:m/tB<m:=fJ (by omega) (by decide);have aB:=KZ (show 0<m by omega) k4 ak;have w:m/tB*tB^(b++[dZ m]).length<=a.v.natAbs:=by
     rw[bb,a7,ew,e9 (tB^b.length),<-ey];exact ei (fd _ (fv _ _)) k4
    have y:(b++[dZ m]).length<=57600000:=by rw[bb,a7];omega
    have r:m% tB<tB:=gj _ (by decide);have Q:m/tB=0->m% tB=m:=fun h=>by have:=ej m tB;rw[h]at this;omega
    simp only[eN]at d⊢;rw[yt]at d;have P:=rH (n:=m/tB);have L:=M0 (m% tB) (e6 r (by decide));have q:=M5 [48] (18-(aW (m% tB)).length) (by omega) (by simp;omega);have aC:=BS r;have ac:=OV r;rw[A4]at q;have l:dZ m=if m/tB=0 then aW (m% tB)else a9 (18-(aW (m% tB)).length) 48++aW (m% tB):=by
     rw[dZ,ac];split
     ·rename_i h;rw[Q h]
     ·rfl
    have s:a3.wrap (18-((aW (m% tB)).length:Int))=(18-(aW (m% tB)).length:Nat):=by rw[aN _ (by omega) (by omega)];omega
    have aF:((18-(aW (m% tB)).length:Nat):Int)=18-((aW (m% tB)).length:Int):=by omega
    have u:∀t,t=dZ m->(b.map fun p=>AV.p (.str p))++[AV.p (.str t)]=(b++[dZ m]).map fun p=>AV.p (.str p):=fun t e=>by rw[e];simp
    by_cases F:m% tB=0
    ·have j:¬m/tB=0:=fun h=>hm (by rw[<-Q h];exact F);have E:0<(aq wB (m/tB)).length:=a5.2 (mt P.1 j);have e:a9 (18-(aW (m% tB)).length) 48++aW (m% tB)=dZ m:=by rw[l,if_neg j]
     rw[F,lX]at e q s;rw[F,ku]at d;simp only[a7]at e q s;have hf:=u _ e;generalize D:aq wB (m/tB)=ai at*;simp[C];refine cp d (by simp;exact⟨rfl,rfl⟩) ?_ (h1:=by simp[tB]);simp[E,s];refine c2 q ?_;simp;refine⟨by simp only[cU];omega,?_⟩;refine rd (m/tB,b++[dZ m],true) ⟨by omega,by rw[aH];exact k2,by simpa using B,y,w⟩ A (he:=by simp[D]) (hh:=by simp only[<-hf];simp) (hr2:=by simp only[<-hf];simp)
    ·have af:aq wB (m% tB)=[m% tB]:=sr (by omega) (e6 r (by decide));rw[af]at d
     by_cases j:m/tB=0
     ·have e:aW (m% tB)=dZ m:=by rw[l,if_pos j]
      have hf:=u _ e;rw[j,ku]at d;simp[C];refine cp d (by simp;exact⟨rfl,rfl⟩) ?_ (h1:=by simp[tB]);simp;refine c2 L ?_;simp;refine⟨by simp only[cU];omega,?_⟩;refine rd (m/tB,b++[dZ m],true) ⟨by omega,by rw[aH];exact k2,by simpa using B,y,w⟩ A (he:=by simp[j,ku]) (hh:=by simp only[<-hf];simp) (hr2:=by simp only[<-hf];simp)
     ·have E:0<(aq wB (m/tB)).length:=a5.2 (mt P.1 j);have e:a9 (18-(aW (m% tB)).length) 48++aW (m% tB)=dZ m:=by rw[l,if_neg j]
      have hf:=u _ e;generalize D:aq wB (m/tB)=ai at*;simp[C];refine cp d (by simp;exact⟨rfl,rfl⟩) ?_ (h1:=by simp[tB]);simp;refine c2 L ?_;simp[E,s];refine c2 q ?_;simp;refine⟨by omega,by simp only[cU];omega,?_⟩;refine rd (m/tB,b++[dZ m],true) ⟨by omega,by rw[aH];exact k2,by simpa using B,y,w⟩ A (he:=by simp[D]) (hh:=by simp only[<-hf];simp) (hr2:=by simp only[<-hf];simp)
  ·simp only[if_true];have ay:(aq wB m).length<=900000:=by
    have:=dE bc _ _ (ed k1 (bY bc a.v.natAbs));have:=mQ Z;omega
   by_cases hm:m=0
   ·subst hm;have ab:b≠[]:=by
     rintro rfl;rw[jc,jc,if_pos rfl,if_neg (by omega)]at k2;have:=xL a.v.natAbs;rw[b3,db,bl,bl]at k2;rw[<-k2]at this;simp at this
    simp[eN,ku];refine⟨b,k2,k3,ab,k5,?_⟩;simp
   ·have d:=Bh m tB (by decide) (by omega) (by rw[yt];decide);have aa:aq wB m≠[]:=mt rH.1 hm;have C:0<(aq wB m).length:=a5.2 aa;have aH:=IZ hm b;have B:∀p∈b++[dZ m],p≠[]/\p.length<=18:=by
     intro p N;rcases dl.1 N with h|h
     ·exact k3 p h
     ·rw[c6.1 h];exact⟨HU m,HV m⟩
    have A:m/tB<m:=fJ (by omega) (by decide);have aB:=KZ (show 0<m by omega) k4 ak;have w:m/tB*tB^(b++[dZ m]).length<=a.v.natAbs:=by
     rw[bb,a7,ew,e9 (tB^b.length),<-ey];exact ei (fd _ (fv _ _)) k4
    have y:(b++[dZ m]).length<=57600000:=by rw[bb,a7];omega
    have r:m% tB<tB:=gj _ (by decide);have Q:m/tB=0->m% tB=m:=fun h=>by have:=ej m tB;rw[h]at this;omega
    simp only[eN]at d⊢;rw[yt]at d;have P:=rH (n:=m/tB);have L:=M0 (m% tB) (e6 r (by decide));have q:=M5 [48] (18-(aW (m% tB)).length) (by omega) (by simp;omega);have aC:=BS r;have ac:=OV r;rw[A4]at q;have l:dZ m=if m/tB=0 then aW (m% tB)else a9 (18-(aW (m% tB)).length) 48++aW (m% tB):=by
     rw[dZ,ac];split
     ·rename_i h;rw[Q h]
     ·rfl
    have s:a3.wrap (18-((aW (m% tB)).length:Int))=(18-(aW (m% tB)).length:Nat):=by rw[aN _ (by omega) (by omega)];omega
    have aF:((18-(aW (m% tB)).length:Nat):Int)=18-((aW (m% tB)).length:Int):=by omega
    have u:∀t,t=dZ m->(b.map fun p=>AV.p (.str p))++[AV.p (.str t)]=(b++[dZ m]).map fun p=>AV.p (.str p):=fun t e=>by rw[e];simp
    by_cases F:m% tB=0
    ·have j:¬m/tB=0:=fun h=>hm (by rw[<-Q h];exact F);have E:0<(aq wB (m/tB)).length:=a5.2 (mt P.1 j);have e:a9 (18-(aW (m% tB)).length) 48++aW (m% tB)=dZ m:=by rw[l,if_neg j]
     rw[F,lX]at e q s;rw[F,ku]at d;simp only[a7]at e q s;have hf:=u _ e;generalize D:aq wB (m/tB)=ai at*;simp[C];refine cp d (by simp;exact⟨rfl,rfl⟩) ?_ (h1:=by simp[tB]);simp[E,s];refine c2 q ?_;simp;refine⟨by simp only[cU];omega,?_⟩;refine rd (m/tB,b++[dZ m],true) ⟨by omega,by rw[aH];exact k2,by simpa using B,y,w⟩ A (he:=by simp[D]) (hh:=by simp only[<-hf];simp) (hr2:=by simp only[<-hf];simp)
    ·have af:aq wB (m% tB)=[m% tB]:=sr (by omega) (e6 r (by decide));rw[af]at d
     by_cases j:m/tB=0
     ·have e:aW (m% tB)=dZ m:=by rw[l,if_pos j]
      have hf:=u _ e;rw[j,ku]at d;simp[C];refine cp d (by simp;exact⟨rfl,rfl⟩) ?_ (h1:=by simp[tB]);simp;refine c2 L ?_;simp;refine⟨by simp only[cU];omega,?_⟩;refine rd (m/tB,b++[dZ m],true) ⟨by omega,by rw[aH];exact k2,by simpa using B,y,w⟩ A (he:=by simp[j,ku]) (hh:=by simp only[<-hf];simp) (hr2:=by simp only[<-hf];simp)
     ·have E:0<(aq wB (m/tB)).length:=a5.2 (mt P.1 j);have e:a9 (18-(aW (m% tB)).length) 48++aW (m% tB)=dZ m:=by rw[l,if_neg j]
      have hf:=u _ e;generalize D:aq wB (m/tB)=ai at*;simp[C];refine cp d (by simp;exact⟨rfl,rfl⟩) ?_ (h1:=by simp[tB]);simp;refine c2 L ?_;simp[E,s];refine c2 q ?_;simp;refine⟨by omega,by simp only[cU];omega,?_⟩;refine rd (m/tB,b++[dZ m],true) ⟨by omega,by rw[aH];exact k2,by simpa using B,y,w⟩ A (he:=by simp[D]) (hh:=by simp only[<-hf];simp) (hr2:=by simp only[<-hf];simp)
 ·rintro⟨aJ,aO⟩ ⟨b,q1,aG,V,q4,au,T,o,am⟩;dsimp only at au T am;subst am;have aD:0<b.length:=a5.2 V;have ae:aW a.v.natAbs=b.reverse.flatten:=by rw[<-UG,q1,jc,if_neg (by omega)];simp
  obtain⟨neg,M⟩:∃neg:Bool,neg=decide (a.v<0):=⟨_,rfl⟩
  obtain⟨S,O⟩:∃S:List Nat,S=if neg=true then[45]else[]:=⟨_,rfl⟩
  have an:bD a.v=S++b.reverse.flatten:=by
   rw[bD,<-ae,O,M]
   by_cases h:a.v<0
   ·simp[h]
   ·simp[h]
  obtain⟨g,J⟩:∃g:Nat->List Nat,g=fun k=>S++(b.reverse.take k).flatten:=⟨_,rfl⟩
  have K:g b.length=bD a.v:=by rw[J,an];dsimp only;rw[a6 (by simp)]
  have aE:∀k,(b.reverse.take k).flatten.length<=1000000:=fun k=>by
   have av:b.reverse.flatten=(b.reverse.take k).flatten++(b.reverse.drop k).flatten:=by rw[<-cx,bo]
   rw[ae,av,bb]at ax;omega
  have aP:S.length<=1:=by rw[O];split<;>simp
  have X:∀k,(g k).length<=1000001:=fun k=>by rw[J];dsimp only;rw[bb];have:=aE k;omega
  have l:∀k(h:k<b.length),g (k+1)=g k++b[b.length-1-k]'(by omega):=fun k h=>by
   rw[J];dsimp only;rw[bi (by simpa using h),cx,List.getElem_reverse,<-List.append_assoc];simp
  have aw:∀c∈bD a.v,c<256:=by
   intro c hc;rw[bD]at hc;have d:=nt a.v.natAbs;rw[List.all_eq_true]at d
   split at hc
   ·rcases dq.1 hc with h|h
    ·omega
    ·exact JU (d c h)
   ·exact JU (d c hc)
  have ag:a3.wrap ((b.length:Int)-1)=b.length-1:=aN _ (by omega) (by omega);have aj:∀i(h:i<b.length),b[i]≠[]/\b[i].length<=18:=fun i h=>aG _ (b4 h);have H:=X1 (g b.length) (if neg=true then b.length else b.length-1) (g b.length).length rfl (by rw[K,an];intro h;rw[List.append_eq_nil_iff,<-ae]at h;have:=xL a.v.natAbs;rw[h.2]at this;simp at this) (by have:=X b.length;omega) (by rw[K];exact aw);simp[au,T,ag]
  by_cases U:a.v<0
  ·rw[decide_eq_true U]at M;subst M;have aA:g 0=[45]:=by rw[J,O];simp
   simp only[if_true]at H;simp[U];refine cf (Ns [45] (by simp) (by simp)) [3] ?_;simp[br,sig,T,ag];refine lp (α:=Nat) (fun k=>⟨[(11,.p (.int .i64 ((b.length:Int)-1-k))),(10,.ptr 3 []),(6,.sl 2 b.length 1 0 b.length)],[.hole,.hole,.arr .grow b.length 1 (b.map fun p=>.p (.str p)),.box false (.st 224 [.ptr 3 [],.sl 4 k 1 0 (g k).length]),.arr .bytes k 1 (dy (g k))]⟩)
    (fun k=>k<=b.length) (fun k=>b.length-k) 0 (by simp) ?_ (he:=by simp[T]) (hh:=by simp[aA,dy]) (hr2:=by simp[dy])
   intro k hk
   by_cases z:k<b.length
   ·have G:a3.wrap ((b.length:Int)-1-k-1)=b.length-1-(k+1:Nat):=by rw[aN _ (by omega) (by omega)];omega
    have e1:((b.length:Int)-1-k).toNat=b.length-1-k:=by omega
    have I:(k:Int)<=(b.length:Int)-1:=by omega
    have R:b.length-1-k<b.length:=by omega
    have hx:=aj _ R;have ah:=Nt (g k) (b[b.length-1-k]) k (g k).length rfl hx.1 (by omega) (by have:=X k;omega);simp[I,e1,R,V];refine cf ah [3,4] ?_ (aj:=by simp[sig,dy]) (aI:=by simp[sig]) (hr:=by simp[dy]);simp[sig,dy,br,G,A5];refine rd (k+1) z (he:=by simp[l k z]) (hh:=by simp[l k z,dy]) (hr2:=by simp[dy])
   ·have Y:k=b.length:=by omega
    subst Y;have W:¬(b.length:Int)<=(b.length:Int)-1:=by omega
    simp[W];refine cf H [3,4] ?_ (aj:=by simp[sig,dy]) (aI:=by simp[sig]) (hr:=by simp[dy]);simp[sig,br,K]
  ·rw[decide_eq_false U]at M;subst M;simp only[a0,if_false]at H O;have al:g 1=b[b.length-1]:=by rw[l 0 aD,J];simp[O]
   have ar:b.length-1<b.length:=by omega
   have ap:=aj _ ar;have ao:=Ns (b[b.length-1]) ap.1 (by omega);rw[<-al]at ao ap;simp[U,ag]
   refine lp (α:=Option Nat) (fun st=>match st with
     |none=>⟨[(11,.p (.int .i64 ((b.length:Int)-1))),(10,.ptr 3 []),(6,.sl 2 b.length 1 0 b.length)],[.hole,.hole,.arr .grow b.length 1 (b.map fun p=>.p (.str p)),.box false (.p (.st 224 [.dw,.aR]))]⟩
     |some k=>⟨[(11,.p (.int .i64 ((b.length:Int)-1-(k+1)))),(10,.ptr 3 []),(6,.sl 2 b.length 1 0 b.length)],[.hole,.hole,.arr .grow b.length 1 (b.map fun p=>.p (.str p)),.box false (.st 224 [.ptr 3 [],.sl 4 k 1 0 (g (k+1)).length]),.arr .bytes k 1 (dy (g (k+1)))]⟩)
    (fun st=>match st with
     |none=>True
     |some k=>k+1<=b.length) (fun st=>match st with
     |none=>b.length+1
     |some k=>b.length-(k+1)) none trivial ?_ (he:=by simp[T])
   intro st hk;cases st with
   |none=>
    have G:a3.wrap ((b.length:Int)-1-1)=b.length-1-(0+1):=by rw[aN _ (by omega) (by omega)];omega
    have e1:((b.length:Int)-1).toNat=b.length-1:=by omega
    have I:(1:Int)<=(b.length:Int):=by omega
    simp[I,e1,ar,V,<-al];refine cf ao [3] ?_;simp[br,sig,G];refine rd (some 0) (by show 0+1<=b.length;omega) (by show b.length-(0+1)<b.length+1;omega) (he:=by simp) (hh:=by simp[dy]) (hr2:=by simp[dy])
   |some k=>
    have hk:k+1<=b.length:=hk
    by_cases z:k+1<b.length
    ·have G:a3.wrap ((b.length:Int)-1-(k+1)-1)=b.length-1-(k+1+1):=by rw[aN _ (by omega) (by omega)];omega
     have e1:((b.length:Int)-1-(k+1)).toNat=b.length-1-(k+1):=by omega
     have I:(k:Int)+1<=(b.length:Int)-1:=by omega
     have R:b.length-1-(k+1)<b.length:=by omega
     have hx:=aj _ R;have ah:=Nt (g (k+1)) (b[b.length-1-(k+1)]) k (g (k+1)).length rfl hx.1 (by omega) (by have:=X (k+1);omega);simp[I,e1,R,V];refine cf ah [3,4] ?_ (aj:=by simp[sig,dy]) (aI:=by simp[sig]) (hr:=by simp[dy]);simp[sig,dy,br,G,A5];refine rd (some (k+1)) z (by show b.length-(k+1+1)<b.length-(k+1);omega) (he:=by simp[l (k+1) z]) (hh:=by simp[l (k+1) z,dy]) (hr2:=by simp[dy])
    ·have Y:b.length=k+1:=by omega
     have W:¬(k:Int)+1<=(b.length:Int)-1:=by omega
     rw[Y]at H K;rw[em]at H;simp[W];refine cf H [3,4] ?_ (aj:=by simp[sig,dy]) (aI:=by simp[sig]) (hr:=by simp[dy]);simp[sig,br,K]
theorem Bi(a:NI)(c:okW a.v)(b:(aW a.v.natAbs).length<=1000000):az prog 250 [eI a] (.str (bD a.v)):=by
 rcases h:a.sm with _|_
 ·exact UQ a h c b
 ·exact UR a h
open Go
theorem IC:∀(r:List Nat)(a:Nat),a<=r.foldl (fun n c=>n*10+(c-48)) a
 |[],a=>ee _
 |x::r,a=>ei (show a<=a*10+(x-48)by omega) (IC r _)
theorem Io:∀(d:List Nat)(a:Nat),d.all bX=true->d.foldl (fun n c=>n*10+(c-48)) a<1000000000000000000->Lib.parseUint10 a (d.map gx)=.ok (d.foldl (fun n c=>n*10+(c-48)) a)
 |[],a,_,_=>rfl
 |c::r,a,h,b=>by
  simp only[ce,aT]at h;have hc:=h.1;simp only[bX,aT,decide_eq_true_eq]at hc;have f:=IC r (a*10+(c-48));rw[cb]at b⊢;have e:(gx c).toNat=c:=by simp;omega
  rw[be,Lib.parseUint10,e,if_pos hc,if_neg (by omega),if_neg (by omega)];exact Io r _ h.2 b
theorem VQ{d:List Nat}(h:d.all bX=true)(b:d≠[])(f:d.length<=18):Lib.atoiAll (d.map gx)=.ok (aV d):=by
 have i:=iR _ d rfl h;have j:10^d.length<=10^18:=eb (by omega) f;cases d with
 |nil=>exact(b rfl).elim
 |cons c r=>
  have hc:=(aT ..▸(ce▸h):bX c=true/\r.all bX=true).1;simp only[bX,aT,decide_eq_true_eq]at hc;have e:(gx c).toNat=c:=by simp;omega
  have g:aV (c::r)<1000000000000000000:=by omega
  have a:=Io (c::r) 0 h g;rw[<-aV]at a;rw[be]at a;rw[be,Lib.atoiAll];simp only[e];rw[if_neg (by omega),Lib.parseMag,if_neg (by simp),a];dsimp only;rw[if_neg (by omega),if_neg (by omega),if_neg (by omega)]
theorem AL:∀(b:List Nat)(x:Nat),b.foldl (fun n c=>n*10+(c-48)) x=x*10^b.length+aV b
 |[],x=>by simp[aV]
 |c::b,x=>by
  rw[aV,cb,cb,AL b,AL b (0*10+(c-48)),da,ew,gi,ey,e9 10];simp[gb]
theorem IW(a b:List Nat):aV (a++b)=aV a*10^b.length+aV b:=by
 rw[aV,List.foldl_append,AL];rfl
theorem Kf(k:Nat):10^k<=2^(4*k):=by
 rw[gg];exact fm (by decide) k
theorem I3{a K:Nat}(h:4*a<=K):10^a<=2^K:=ei (Kf a) (eb (by decide) h)
theorem uW{n k:Nat}(h:n<2^k)(hk:k<=3*1000000):(aW n).length<=1000000:=
 qK h hk (by decide)
theorem xJ(a:NF)(h:bE kB a.q):az prog 168 [eF a] (.str (bf a.q)):=by
 have f:kB=100000:=rfl;have w:=AR a;have c:=Bi a.num (gK h.1 oV) (uW h.1 (by omega));have d:=Bi a.den (gK (by rw[jD];exact h.2) oV) (uW (by rw[jD];exact h.2) (by omega));rw[kt]at c;rw[iX,ub]at d;have g:=uW h.1 (show kB<=3*1000000 by omega);have i:=uW h.2 (show kB<=3*1000000 by omega);have j:=BG a.q.num;refine aM nf ME mix (by simp[f168]) ?_;rw[bf]
 by_cases b:a.q.den=1
 ·have e:a.fg=true:=by simp[NF.fg,b]
  rw[e]at w;rw[if_pos b];simp[f168];refine c1 w ?_;simp[ad];refine c1 c ?_;simp
 ·have e:a.fg=false:=by simp[NF.fg,b]
  rw[e]at w;rw[if_neg b];simp[f168];refine c1 w ?_;simp[ad];refine e1 c ?_;simp[ad];refine⟨by omega,?_⟩;refine e1 d ?_;simp;omega
def kR:Nat:=2800
theorem yl(s:List Nat)(i:(cF s).all bX=true)(E:(cF s).length<=700):az prog 185 [.str s] (eI (.mk' (if bP s=true then -(aV (cF s):Int)else aV (cF s)))):=by
 refine aM nf EH mix (by simp[f185]) ?_;simp[f185];refine c2 (We s) ?_;simp;refine c2 (Iq s) ?_;simp;generalize cF s=d at*;generalize bP s=neg at*;have w:eO 0=eI (.mk' 0):=(nq (by decide) (by decide)).symm;rw[show PV.st 130 [.int .i64 0,.aR]=eI (.mk' 0)from w];refine lp (α:=List Nat×NI) (fun x=>⟨[(4,.ptr 1 []),(3,.p (.bool neg)),(2,.ptr 0 []),(0,.p (.str x.1))],[.box false (.p (eI (.mk' 0))),.box false (.p (eI x.2))]⟩)
  (fun x=>∃m:Nat,x.2.v=m/\m*10^x.1.length+aV x.1=aV d/\x.1.all bX=true/\x.1.length<=700/\m<2^kR) (fun x=>x.1.length) (d,.mk' 0) ⟨0,rfl,by simp,i,E,fb (by decide)⟩ ?_
 rintro⟨r,o⟩ ⟨m,k1,k2,k3,k4,k5⟩;dsimp only at k1 k2 k3 k4 k5;have S:kR=2800:=rfl;have c:o.v.natAbs<2^kR:=by rw[k1,a4];exact k5
 have I:okW o.v:=gK c (by have:kB=100000:=rfl;omega)
 by_cases f:r=[]
 ·subst f;have u:o.v=aV d:=by rw[k1];simp[aV]at k2⊢;omega
  cases neg
  ·have e:eI (.mk' (aV d:Nat))=eI o:=mg (by rw[NI.gY,u]) (fun h=>by rw[NI.gY]at h;omega);simp;rw[e];simp[ad]
  ·have e:eI (.mk' (-(aV d:Nat)))=eI o.neg:=by rw[NI.neg,u]
   simp;rw[e];refine c1 (sL o I) ?_;simp[ad]
 ·have L:0<r.length:=a5.2 f;obtain⟨n,U⟩:∃n,n=min 18 r.length:=⟨_,rfl⟩
  have j:n<=r.length:=by omega
  have V:0<n:=by omega
  have G:n<=18:=by omega
  have H:(if(r.length:Int)<18 then(r.length:Int)else 18)=n:=by split<;>omega
  have g:(r.take n).length=n:=by rw[c9];omega
  have a:=k3;rw[<-bo n r,List.all_append,aT]at a;have N:=iR _ (r.take n) rfl a.1;have C:=FU (r.take n) (aV (r.take n)) (VQ a.1 (by intro e;rw[e]at g;simp at g;omega) (by omega)) (by omega);rw[g]at N;have q:10^n<=10^18:=eb (by decide) G;have z:10^n<wB^1:=by rw[ge];exact ed q (by decide)
  have A:((10^n:Nat):Int).natAbs<2^64:=by rw[a4];exact ed q (by decide)
  have O:=dE bc 1 _ z;have W:=xt c;have P:kB=100000:=rfl;have X:=iR _ d rfl i;have Q:10^d.length<=2^kR:=I3 (by have:kR=2800:=rfl;omega);have J:=Wv (.of 10) n (10^n) (by decide) rfl (by omega) (by decide) (by omega);have F:=yG o (.mk' (10^n:Nat)) (by rw[NI.gY,a4];omega);have B:=vu (o.mul (.mk' (10^n:Nat))) (.of (aV (r.take n):Nat)) (gK (nR (x:=o.v) (y:=((10^n:Nat):Int)) c A) (by omega)) (gK (k:=64) (show((aV (r.take n):Nat):Int).natAbs<2^64 by rw[a4];omega) (by omega));have l:=qM (aV (r.take n):Nat);rw[<-sO (by omega) (by omega)]at l;have t:=qM 10;rw[<-sO (by decide) (by decide)]at t;have M:aV r=aV (r.take n)*10^(r.drop n).length+aV (r.drop n):=by rw[<-IW,bo]
  have K:r.length=n+(r.drop n).length:=by rw[List.length_drop];omega
  have D:(m*10^n+aV (r.take n))*10^(r.drop n).length+aV (r.drop n)=aV d:=by
   rw[<-k2,M,K,Nat.pow_add,gi,ey,gb]
  generalize 10^n=T at*;generalize Y:aV (r.take n)=b at*;have R:m*T+b<=aV d:=by
   have:=Nat.le_mul_of_pos_right (m*T+b) (show 0<10^(r.drop n).length from fb (by decide));omega
  simp[f,L,H];refine⟨j,?_⟩;refine c1 C ?_;simp;refine e1 t ?_;simp;refine e2 J ?_;simp[ad];refine e2 F ?_;simp;refine e1 l ?_;simp;refine e2 B ?_;simp[ad];refine⟨rfl,j,?_⟩;refine rd (r.drop n,(o.mul (.mk' T)).add (.of b)) ⟨m*T+b,by rw[NI.qD,NI.lj,NI.gY,k1];rfl,D,a.2,by dsimp only;omega,by omega⟩ (by dsimp only;omega)
theorem Bb{s:List Nat}(h:dm s=true):bP s=false/\cF s=s:=by
 have b:=iH h;have:bP s=false:=by
  rw[bP,decide_eq_false_iff_not];intro a;cases s with
  |nil=>simp at a
  |cons c r=>
   simp at a;subst a;rw[ce,aT]at b;simp[bX]at b
 exact⟨this,by rw[cF,this];rfl⟩
theorem IF(s:List Nat):bP (bS 47 s).1=bP s/\cF (bS 47 s).1=bA s/\(bS 47 s).2.1=bJ s/\(bS 47 s).2.2=dP s:=by
 cases s with
 |nil=>exact⟨rfl,rfl,rfl,rfl⟩
 |cons c r=>
  by_cases h:c=45
  ·subst h;have e:bS 47 (45::r)=(45::(bS 47 r).1,(bS 47 r).2.1,(bS 47 r).2.2):=by rw[bS,if_neg (by decide)]
   rw[e];exact⟨rfl,rfl,rfl,rfl⟩
  ·have b:bP (c::r)=false:=by rw[bP,decide_eq_false_iff_not];simpa using h
   have a:cF (c::r)=c::r:=by rw[cF,b];rfl
   have d:bP (bS 47 (c::r)).1=false:=by
    rw[bP,decide_eq_false_iff_not,bS]
    split
    ·simp
    ·simpa using h
   refine⟨by rw[b,d],?_,?_,?_⟩
   ·rw[cF,d,bA,a];rfl
   ·rw[bJ,a]
   ·rw[dP,a]
theorem V7{s:List Nat}(h:bI s=0):dm (bA s)=true/\(bA s).length<=600/\(bJ s).length<=600/\(dP s=true->dm (bJ s)=true):=by
 unfold bI at h
 split at h
 ·cases h
 rename_i a
 split at h
 ·cases h
 rename_i d;have a:jm s=true:=by simpa using a
 simp only[jm,aT,Bool.or_eq_true,Bool.not_eq_true']at a;refine⟨a.1.1,by omega,by omega,fun c=>?_⟩;rcases a.2 with b|b
 ·rw[c]at b;cases b
 ·exact b.1.1
theorem QA(z:Int):cF (bD z)=aW z.natAbs:=by
 have:=(xf z []).2;simpa using this
theorem nZ(c:Nat):∀s:List Nat,(bS c s).1.length<=s.length/\(bS c s).2.1.length<=s.length/\(∀x∈(bS c s).1,x∈s)/\(∀x∈(bS c s).2.1,x∈s)
 |[]=>by simp[bS]
 |y::r=>by
  have a:=nZ c r;rw[bS]
  split
  ·simp;intro x hx;exact .inr hx
  ·simp only[da,dq];refine⟨by omega,by omega,?_,fun x hx=>.inr (a.2.2.2 x hx)⟩;rintro x (rfl|hx)
   ·exact .inl rfl
   ·exact .inr (a.2.2.1 x hx)
theorem nS(s:List Nat):(cF s).length<=s.length/\∀x∈cF s,x∈s:=by
 rw[cF]
 split
 ·exact⟨by simp,fun x hx=>List.mem_of_mem_tail hx⟩
 ·exact⟨ee _,fun _ h=>h⟩
theorem lE(s:List Nat)(h:bI s=0)(n:s.length<=1048576):az prog 93 [.str s] (eF ⟨aL s,false⟩):=by
 obtain⟨l,t,u,m⟩:=V7 h;obtain⟨o,f,p,q⟩:=IF s;obtain⟨q1,r,a⟩:=fX h;have b:=MZ s 47 n;rw[p,q]at b;have c:=yl (bS 47 s).1 (by rw[f];exact iH l) (by rw[f];omega);rw[o,f]at c;have j:eI (NF.mk (aL s) false).num=eI (.mk' (if bP s=true then -(aV (bA s):Int)else aV (bA s))):=by
  show eI ⟨(aL s).num,false⟩=_;rw[r];rfl
 rw[<-j]at c;refine aM nf Oy mix (by simp[f93]) ?_;cases hf:dP s
 ·rw[hf]at b a;simp only[a0,if_false]at a;have e:(NF.mk (aL s) false).den=.mk' 1:=by
   show NI.mk' ((aL s).den:Int)=_;rw[a];rfl
  have i:=B5 (NF.mk (aL s) false).num;have k:eF (.whole (NF.mk (aL s) false).num)=eF ⟨aL s,false⟩:=by
   rw[eF,eF,e];rfl
  rw[k]at i;simp[f93];refine c2 b ?_;simp;refine c1 c ?_;simp;refine c1 i ?_;simp[ad]
 ·rw[hf]at b a;simp only[if_true]at a;have g:=m hf;obtain⟨d1,d2⟩:=Bb g;have d:=yl (bJ s) (by rw[d2];exact iH g) (by rw[d2];omega);rw[d1,d2]at d;simp only[a0,if_false]at d;have e:eI (NF.mk (aL s) false).den=eI (.mk' (aV (bJ s):Nat)):=by
   show eI (NI.mk' ((aL s).den:Int))=_;rw[a]
  rw[<-e]at d;rw[eF];simp[f93];refine c2 b ?_;simp;refine c1 c ?_;simp;refine c1 d ?_;simp[ad]
def jT(n:Nat):Bool:=decide (600<(aW n).length)
theorem Mg(a:NI)(h:a.v.natAbs<2^kB):az prog 249 [eI a] (.bool (jT a.v.natAbs)):=by
 have l:kB=100000:=rfl;have d:=gK h oV;have g:=Wq a d;have i:=Bi a d (uW h (by omega));have c:=Iq (bD a.v);rw[QA]at c;refine aM nf LF mix (by simp[f249]) ?_;simp[f249];refine c1 g ?_
 by_cases j:1800<nr a.v.natAbs
 ·have b:(1800:Int)<(nr a.v.natAbs:Nat):=by omega
  have e:decide ((600:Int)<((aW a.v.natAbs).length:Nat))=jT a.v.natAbs:=by rw[jT,decide_eq_decide];omega
  simp[b];refine c1 i ?_;simp;refine c2 c ?_;simp[jT];omega
 ·have f:=ec (Jn a.v.natAbs) (eb (show 0<2 by decide) (show nr a.v.natAbs<=3*600 by omega));have k:=Hm f (by decide);have e:jT a.v.natAbs=false:=by rw[jT,decide_eq_false_iff_not];omega
  have b:¬(1800:Int)<(nr a.v.natAbs:Nat):=by omega
  simp[b,e]
def vK(q:Rat):Bool:=jT q.num.natAbs||jT q.den
theorem xQ(a:NF)(h:bE kB a.q):az prog 167 [eF a] (.bool (vK a.q)):=by
 have b:=Mg a.num h.1;have c:=Mg a.den (by rw[jD];exact h.2);rw[kt]at b;rw[jD]at c;refine aM nf MF mix (by simp[f167]) ?_;rw[vK];cases hc:jT a.q.num.natAbs
 ·rw[hc]at b;simp[f167,ad];refine c1 b ?_;simp[ad];refine c1 c ?_;simp
 ·rw[hc]at b;simp[f167,ad];refine c1 b ?_;simp
def sS:List (Nat×Func)->a1->Option Func
 |[],_=>none
 |(i,g)::r,f=>bif Nat.beq i f then some g else sS r f
def zo(P:Program):List (Nat×Func)->Prop
 |[]=>True
 |p::r=>an P p.1 p.2/\zo P r
theorem Ca{P:Program}:∀{l:List (Nat×Func)},zo P l->∀{f:Nat}{fn:Func},sS l f=some fn->an P f fn
 |[],_,f,fn,h=>by simp[sS]at h
 |(i,g)::r,a,f,fn,h=>by
  simp only[sS,Bool.cond_eq_ite]at h
  split at h
  ·rename_i hf;simp only[gt]at h;subst h;rw[<-Nat.eq_of_beq_eq_true hf];exact a.1
  ·exact Ca a.2 h
noncomputable def Dz:List (Nat×Func):=[(2,f2),(3,f3),(4,f4),(5,f5),(6,f6),(7,f7),(8,f8),(9,f9),(10,f10),(11,f11),(12,f12),(13,f13),(14,f14),(15,f15),(16,f16),(17,f17),(18,f18),(19,f19),(20,f20),(21,f21),(22,f22),(23,f23),(24,f24),(25,f25),(26,f26),(27,f27),(28,f28),(29,f29),(30,f30),(31,f31),(32,f32),(33,f33),(34,f34),(35,f35),(36,f36),(37,f37),(38,f38),(39,f39),(40,f40),(41,f41),(42,f42),(43,f43),(44,f44),(45,f45),(46,f46),(47,f47),(48,f48),(49,f49),(50,f50),(51,f51),(52,f52),(53,f53),(54,f54),(55,f55),(56,f56),(57,f57),(58,f58),(59,f59),(60,f60),(61,f61),(62,f62),(63,f63),(64,f64),(65,f65),(66,f66),(67,f67),(68,f68),(69,f69),(70,f70),(71,f71),(72,f72),(73,f73),(74,f74),(75,f75),(76,f76),(77,f77),(78,f78),(79,f79),(80,f80),(81,f81),(82,f82),(83,f83),(84,f84),(85,f85),(86,f86),(87,f87),(88,f88),(89,f89),(90,f90),(91,f91),(92,f92),(93,f93),(94,f94),(95,f95),(96,f96),(97,f97),(98,f98),(99,f99),(100,f100),(101,f101),(102,f102),(103,f103),(104,f104),(105,f105),(106,f106),(107,f107),(108,f108),(109,f109),(110,f110),(111,f111),(112,f112),(113,f113),(114,f114),(115,f115),(116,f116),(117,f117),(118,f118),(119,f119),(120,f120),(121,f121),(122,f122),(123,f123),(124,f124),(125,f125),(126,f126),(127,f127),(128,f128),(129,f129),(130,f130),(131,f131),(132,f132),(133,f133),(134,f134),(135,f135),(136,f136),(137,f137),(138,f138),(139,f139),(140,f140),(141,f141),(142,f142),(143,f143),(144,f144),(145,f145),(146,f146),(147,f147),(148,f148),(149,f149),(150,f150),(151,f151),(152,f152),(153,f153),(154,f154),(155,f155),(156,f156),(157,f157),(158,f158),(159,f159),(160,f160),(161,f161),(162,f162),(163,f163),(164,f164),(165,f165),(166,f166),(167,f167),(168,f168),(169,f169),(170,f170),(171,f171),(172,f172),(173,f173),(174,f174),(175,f175),(176,f176),(177,f177),(178,f178),(179,f179),(180,f180),(181,f181),(182,f182),(183,f183),(184,f184),(185,f185),(186,f186),(187,f187),(188,f188),(189,f189),(190,f190),(191,f191),(192,f192),(193,f193),(194,f194),(195,f195),(196,f196),(197,f197),(198,f198),(199,f199),(200,f200),(201,f201),(202,f202),(203,f203),(204,f204),(205,f205),(206,f206),(207,f207),(208,f208),(209,f209),(210,f210),(211,f211),(212,f212),(213,f213),(214,f214),(215,f215),(216,f216),(217,f217),(218,f218),(219,f219),(220,f220),(221,f221),(222,f222),(223,f223),(224,f224),(225,f225),(226,f226),(227,f227),(228,f228),(229,f229),(230,f230),(231,f231),(232,f232),(233,f233),(234,f234),(235,f235),(236,f236),(237,f237),(238,f238),(239,f239),(240,f240),(241,f241),(242,f242),(243,f243),(244,f244),(245,f245),(246,f246),(247,f247),(248,f248),(249,f249),(250,f250),(251,f251),(252,f252),(253,f253),(254,f254),(255,f255),(256,f256),(257,f257),(258,f258),(259,f259),(260,f260),(261,f261),(262,f262),(263,f263),(264,f264),(265,f265),(266,f266),(267,f267),(268,f268),(269,f269),(270,f270),(271,f271),(272,f272),(273,f273),(274,f274),(275,f275),(276,f276),(277,f277),(279,f279),(280,f280),(281,f281),(282,f282),(283,f283),(284,f284),(286,f286),(288,f288),(289,f289),(290,f290),(291,f291),(292,f292),(293,f293),(294,f294),(295,f295),(296,f296),(297,f297),(298,f298),(299,f299),(300,f300),(301,f301),(302,f302),(303,f303),(304,f304),(305,f305),(306,f306),(307,f307),(308,f308),(309,f309),(310,f310),(311,f311),(312,f312),(313,f313),(314,f314),(315,f315),(316,f316),(317,f317),(318,f318),(319,f319),(320,f320),(322,f322),(323,f323),(324,f324),(325,f325),(326,f326),(327,f327),(328,f328),(329,f329),(330,f330),(331,f331),(332,f332),(333,f333),(334,f334),(335,f335),(336,f336),(337,f337),(338,f338),(339,f339),(340,f340),(341,f341),(342,f342),(343,f343),(345,f345),(346,f346),(347,f347),(348,f348),(349,f349),(350,f350),(351,f351),(352,f352),(353,f353),(354,f354),(355,f355),(356,f356),(357,f357),(358,f358),(359,f359),(360,f360),(362,f362),(363,f363),(364,f364),(365,f365),(366,f366),(367,f367),(369,f369),(370,f370),(371,f371),(372,f372),(374,f374),(375,f375),(376,f376),(377,f377),(378,f378),(379,f379),(380,f380),(381,f381),(382,f382),(383,f383),(384,f384),(385,f385),(386,f386),(387,f387),(388,f388),(420,f420)]
theorem Fp:zo prog Dz:=⟨Y3,Z1,axt,axF,axJ,axW,axX,ax2,ki,ND,Yr,Yz,NG,NH,NJ,YZ,C7,Y0,Y4,NK,NL,NO,Zz,ZC,ZG,ZI,C8,NP,Z2,abw,NQ,NR,anS,aqk,NT,NU,awD,axs,axu,axw,NW,axz,axA,axB,axC,axD,axE,NX,axG,axH,axI,NY,NZ,N1,N2,N3,N4,N5,axK,axM,axN,axO,axP,axR,axS,axU,N6,N7,N8,N9,Oa,Ob,Oc,Od,Oe,Of,Og,Oh,Oi,Oj,Ok,Ol,Om,On,Oo,Oq,Ot,Ou,Ov,Ow,Ox,Oy,Oz,C9,aya,ayb,OA,OB,Eu,Et,Es,Yl,Ym,Yn,Mj,Er,Ep,EY,EX,EV,EU,ET,Yo,Mi,Mh,Yp,MM,Yq,ML,Ys,Yt,Yu,FI,Yv,Yw,Yx,F5,Yy,YA,YC,YD,FH,FG,E7,YE,YF,YG,YH,YI,YJ,YK,YL,YM,YN,YO,YP,YQ,YR,YS,CI,YT,YU,YV,YW,YX,YY,E6,E5,E4,E3,CK,MJ,MI,MH,MG,MF,ME,MD,MC,MB,CJ,MA,Mz,ES,ER,EP,EO,EN,EM,EL,EK,EJ,EI,EH,EG,EF,ED,EC,My,EB,Mx,EA,Y1,Ez,Ey,Mw,Mv,Y2,Y5,Y6,Y7,Y8,Y9,Za,Ff,Fe,Zb,Ei,Zc,Eh,zJ,Fc,Fb,Zd,Ze,Zf,Zg,Zh,Zi,Zj,Zk,Zl,Zm,Zn,Zo,Zp,Zq,Mu,Zr,Zs,Zt,Zu,Zv,Zw,Zx,Zy,LJ,vx,LI,Eg,Fa,v8,E9,LH,ZA,LG,K3,LF,CH,ZD,E8,LD,LC,HK,LP,LO,ZE,ZF,ZH,D0,Ef,LN,Ee,Ed,Ec,Eb,En,Em,El,K2,ZJ,ZK,ZL,ZM,ZN,ZO,ZP,ZQ,ZR,ZS,ZT,ZU,Fm,Fl,Fk,Fj,Fi,LM,ZV,ZW,LL,ZX,ZY,ZZ,Z0,Z3,Fh,LK,Z4,Z5,Z6,Z7,Z8,Z9,abv,acH,adY,ad1,aea,aej,aeK,aeQ,aeT,afL,afO,afQ,agt,ag4,ahl,aht,ahU,air,ais,aiE,L7,aiN,L6,Fg,ai0,aja,ajY,ak3,amY,FQ,FP,anX,anY,aob,aof,aog,apb,apt,apV,ara,ari,Ft,arD,arE,arN,arX,asf,asS,asT,as0,ati,atl,ato,aug,auo,aup,auy,Fs,auN,au2,avK,awt,awu,aww,awy,awC,awE,aw0,aw2,axk,axn,axo,axp,axq,axr,axy,trivial⟩
noncomputable def vQ(facts:a1->List PV->Option PV)(ju:a1->a1->Nat):lL:=⟨sS Dz,facts,fun _ _ _=>none,ju,fun _ _ _=>none⟩
theorem aAK{facts:a1->List PV->Option PV}{ju:a1->a1->Nat}(h:∀f vs v,facts f vs=some v->az prog f vs v):l9 prog (vQ facts ju):=by
 refine⟨mix,fun f fn hf=>Ca Fp hf,fun f vs v hk=>h f vs v hk,fun f args H v H' hk=>?_,fun f args H aj v hk=>?_⟩
 ·simp only[vQ]at hk;cases hk
 ·simp only[vQ]at hk;cases hk
noncomputable def O4(facts:a1->List PV->Option PV)(ju:a1->a1->Nat)(f:a1)(vs:List PV):Option PV:=nB prog nf (vQ facts ju) (jk prog nf (vQ facts ju) 20) f vs
theorem Kz{facts:a1->List PV->Option PV}{ju:a1->a1->Nat}(h:∀f vs v,facts f vs=some v->az prog f vs v){f:a1}{vs:List PV}{v:PV}(a:O4 facts ju f vs=some v):az prog f vs v:=reckon 20 (aAK h) a
def noF:a1->List PV->Option PV:=fun _ _=>none
def oZ:PV:=.st 372 ((cc 256).map fun i=>.bool (bX i))
theorem JC(c:Nat)(hc:c<256):az prog 370 [.b6 oZ,.int .u8 c] (.bool (bX c)):=by
 refine aM nf Fs mix (by simp[f370]) ?_;have a:(cc 256)[c]?=some c:=cv hc;simp[f370,oZ,a,hc]
theorem R0(s:List Nat)(h:s.length<=1048576)(g:∀c∈s,c<256):az prog 339 [.str s,.b6 oZ] (.str (kr s)):=by
 refine aM nf FQ mix (by simp[f339]) ?_;simp[f339];refine lp (α:=List Nat) (fun r=>⟨[(1,.p (.b6 oZ)),(0,.p (.str r))],[]⟩) (fun r=>kr r=kr s/\r.length<=s.length/\∀c∈r,c<256) (fun r=>r.length) s (by exact⟨rfl,ee _,g⟩) ?_;rintro r ⟨a,f,b⟩;cases r with
 |nil=>
  have e:kr s=[]:=by rw[<-a];rfl
  simp[e]
 |cons x r=>
  have hx:=b x (by simp);have i:kr (x::r)=if bX x=true then kr r else x::r:=by
   rw[kr,cy];split<;>rfl
  rw[i]at a;have j:(0:Int)<(r.length:Int)+1:=by omega
  simp[j];refine c2 (JC x hx) ?_;cases d:bX x
  ·rw[d]at a;simp[<-a]
  ·rw[d]at a;simp;exact rd r ⟨by simpa using a,by simp at f;omega,fun c hc=>b c (by simp[hc])⟩ (h1:=by simp)
theorem RA(s:List Nat)(h:s.length<=1048576)(i:∀c∈s,c<256):az prog 340 [.str s,.b6 oZ] (.str (iu s)):=by
 refine aM nf FP mix (by simp[f340]) ?_;simp[f340];refine lp (α:=List Nat) (fun r=>⟨[(1,.p (.b6 oZ)),(0,.p (.str r))],[]⟩) (fun r=>iu r=iu s/\r.length<=s.length/\∀c∈r,c<256) (fun r=>r.length) s (by exact⟨rfl,ee _,i⟩) ?_;rintro r ⟨a,b,d⟩;rcases List.eq_nil_or_concat r with rfl|⟨t,x,rfl⟩
 ·have e:iu s=[]:=by rw[<-a];rfl
  simp[e]
 ·simp only[List.concat_eq_append]at a b d⊢;have hx:=d x (by simp);have j:iu (t++[x])=if bX x=true then iu t else t++[x]:=by
   rw[iu,List.reverse_append,List.reverse_cons,b3,dk,List.singleton_append,cy]
   split
   ·rfl
   ·simp
  rw[j]at a;have k:(0:Int)<(t.length:Int)+1:=by omega
  have g:a3.wrap (t.length:Int)=t.length:=aN _ (by omega) (by simp at b;omega);simp[k,g];refine c2 (JC x hx) ?_;cases f:bX x
  ·rw[f]at a;simp[<-a]
  ·rw[f]at a;simp[g];exact rd t ⟨by simpa using a,by simp at b;omega,fun c hc=>d c (by simp[hc])⟩ (h1:=by simp)
def vC:List Nat:=[48,49,50,51,52,53,54,55,56,57]
theorem UP:az prog 338 [.str vC] (.aE [oZ,.bool true]):=Kz (facts:=noF) (ju:=fun _ _=>0) (fun _ _ _ h=>by cases h) (by kernel_rfl)
theorem aDM:cE prog 373=some (.st 372 (a9 256 (.bool false))):=by kernel_rfl
theorem Wc(s:List Nat)(h:s.length<=1048576)(d:∀c∈s,c<256):az prog 295 [.str s,.str vC] (.str (kr (iu s))):=by
 refine aM nf LL mix (by simp[f295]) ?_
 by_cases b:s=[]
 ·subst b;simp[f295,vC,kr,iu]
 simp[f295,vC,b];refine c1 UP ?_;have g:(iu s).length<=s.length:=by
  rw[iu,List.length_reverse];have:=(ck bX (l:=s.reverse)).length_le;simpa using this
 have f:∀c∈iu s,c<256:=by
  intro c hc;rw[iu,List.mem_reverse]at hc;exact d c (by simpa using(ck bX (l:=s.reverse)).subset hc)
 simp[aDM];have a:aJ oZ=.agg 372:=rfl;refine⟨⟨⟨a.symm,by rw[a];intro e;cases e⟩,a.symm⟩,?_⟩;refine cp (RA s h d) (by simp;exact⟨rfl,rfl⟩) ?_;simp;refine cp (R0 (iu s) (by omega) f) (by simp;exact⟨rfl,rfl⟩) ?_;simp
def bN:List Int->Int
 |[]=>0
 |e::r=>if e=0 then bN r else e
def bt(b:Bool)(e:Int):Int:=if b=true then e else 0
theorem Wd(a:List Int)(h:a.length<=1048576):az prog 253 [.seq (a.map (.int .i64))] (.int .i64 (bN a)):=by
 refine aM nf LD mix (by simp[f253]) ?_;simp[f253];refine lp (α:=Nat) (fun i=>⟨[(7,.p (.int .i64 i)),(6,.p (.int .i64 a.length)),(5,.p (.seq (a.map (.int .i64))))],[]⟩) (fun i=>i<=a.length/\bN (a.drop i)=bN a) (fun i=>a.length-i) 0 (by simp) ?_;rintro i ⟨d,b⟩;simp
 by_cases hi:i<a.length
 ·rw[bk hi]at b;have c:=cH (i:=i) (by omega);simp[hi]
  by_cases he:a[i]=0
  ·simp[bN,he]at b;simp[he,c];exact rd (i+1) ⟨hi,b⟩
  ·simp[bN,he]at b;simp[he,<-b]
 ·have:i=a.length:=by omega
  subst this;simp[bN]at b;simp[<-b]
theorem nE(a:List Int)(h:a.length<=1048576):az prog 78 [.seq (a.map (.int .i64))] (.int .i64 (bN a)):=by
 refine aM nf Og mix (by simp[f78]) ?_;simp[f78];refine lp (α:=Nat) (fun i=>⟨[(7,.p (.int .i64 i)),(6,.p (.int .i64 a.length)),(5,.p (.seq (a.map (.int .i64))))],[]⟩) (fun i=>i<=a.length/\bN (a.drop i)=bN a) (fun i=>a.length-i) 0 (by simp) ?_;rintro i ⟨d,b⟩;simp
 by_cases hi:i<a.length
 ·rw[bk hi]at b;have c:=cH (i:=i) (by omega);simp[hi]
  by_cases he:a[i]=0
  ·simp[bN,he]at b;simp[he,c];exact rd (i+1) ⟨hi,b⟩
  ·simp[bN,he]at b;simp[he,<-b]
 ·have:i=a.length:=by omega
  subst this;simp[bN]at b;simp[<-b]
theorem uN(b:Bool)(e:Int):az prog 254 [.bool b,.int .i64 e] (.int .i64 (bt b e)):=by
 refine aM nf LC mix (by simp[f254]) ?_;cases b<;>simp[f254,bt]
theorem iO(b:Bool)(e:Int):az prog 79 [.bool b,.int .i64 e] (.int .i64 (bt b e)):=by
 refine aM nf Oh mix (by simp[f79]) ?_;cases b<;>simp[f79,bt]
theorem Lj(s:List Nat)(h:s.length<=1048576)(i:∀c∈s,c<256):az prog 252 [.str s] (.bool (dm s)):=by
 have f:=Wc s h i;have g:=SY s;rw[show vC=[48,49,50,51,52,53,54,55,56,57]from rfl]at f;refine aM nf E8 mix (by simp[f252]) ?_;generalize kr (iu s)=t at*;cases s with
 |nil=>simp[f252,dm]
 |cons c r=>
  have hc:=i c (by simp)
  by_cases b:t=[]
  ·have d:=g.1 b;have e:dm (c::r)=(decide (¬c=48)||decide (r=[])):=by
    rw[dm,d]
    by_cases a:c=48
    ·subst a;simp
    ·simp[a]
   rw[e];clear e d g
   by_cases a:c=48
   ·cases r with
    |nil=>
     simp[f252];refine c2 f ?_;simp[b,a]
    |cons x r=>
     simp[f252];refine c2 f ?_;simp[b,a]
   ·have j:¬(c:Int)=48:=by omega
    simp[f252];refine c2 f ?_;simp[b,a,j]
  ·have d:¬(c::r).all bX=true:=mt g.2 b;have a:(c::r).all bX=false:=by simpa using d
   have e:dm (c::r)=false:=by rw[dm,a];simp
   rw[e];clear e d a g;simp[f252];refine c2 f ?_;simp[b]
theorem X2{a b:Nat}:(decide (jt (eh a b) 1≠0))=decide (gc a b≠1):=by
 rw[decide_eq_decide,jt,eh,a4,a4]
 split
 ·simp;omega
 ·split
  ·simp;omega
  ·simp;omega
theorem Dm{s:List Nat}(h:s.all bX=true)(c:s.length<=700):okW (aV s:Nat):=by
 have a:=iR _ s rfl h;have b:aV s<2^kR:=ec a (I3 (by have:kR=2800:=rfl;omega));exact gK (k:=kR) (by rw[a4];exact b) (by have:kB=100000:=rfl;have:kR=2800:=rfl;omega)
theorem vt(s:List Nat)(h:s.length<=1048576)(K:∀c∈s,c<256):az prog 174 [.str s] (.int .i64 (bI s)):=by
 have X:=VM s;have A:=MZ (cF s) 47 (ei (nS s).1 h);rw[show(bS 47 (cF s)).1=bA s from rfl,show(bS 47 (cF s)).2.1=bJ s from rfl,show(bS 47 (cF s)).2.2=dP s from rfl]at A;refine aM nf Mz mix (by simp[f174]) ?_;simp[f174,-bh];rw[bh];simp[-bh];rw[bh];simp[-bh];refine c2 X ?_;simp[-bh];rw[bh];simp[-bh];refine c2 A ?_;simp[-bh];have ab:=(nS s).1;have q:=nZ 47 (cF s);have ad:(bA s).length<=1048576:=by have:=q.1;rw[bA];omega
 have ac:(bJ s).length<=1048576:=by have:=q.2.1;rw[bJ];omega
 have W:∀c∈bA s,c<256:=fun c hc=>K c ((nS s).2 c (q.2.2.1 c hc));have V:∀c∈bJ s,c<256:=fun c hc=>K c ((nS s).2 c (q.2.2.2 c hc));clear q ab;have Z:=Lj (bA s) ad W;have Y:=Lj (bJ s) ac V;obtain⟨m,B⟩:∃m,m=(dm (bA s)&&!(bP s&&decide (bA s=[48]))):=⟨_,rfl⟩
 obtain⟨f2,k⟩:∃f2,f2=(m&&(!dP s||(dm (bJ s)&&decide (bJ s≠[48])&&decide (bJ s≠[49])))):=⟨_,rfl⟩
 have L:bI s=if f2=false then 1 else if 600<(bA s).length\/600<(bJ s).length then 4 else if dP s=true/\gc (aV (bA s)) (aV (bJ s))≠1 then 1 else 0:=by rw[k,B];rfl
 rw[L];clear L A;generalize dP s=fr at*;refine join (fun s'=>aK s'.env 8=.p (.bool m)/\aK s'.env 7=.p (.bool fr)/\aK s'.env 6=.p (.str (bJ s))/\aK s'.env 5=.p (.str (bA s))/\s'.heap=[]) ?_ ?_
 ·simp;refine c1 Z ?_;rw[B];cases dm (bA s)
  ·simp
  ·cases bP s
   ·simp
   ·by_cases r:bA s=[48]
    ·simp[r]
    ·simp[r]
 rintro⟨I,aa⟩ ⟨d,f,g,i,t⟩;dsimp only at d f g i t;subst t;refine join (fun s'=>aK s'.env 8=.p (.bool f2)/\aK s'.env 7=.p (.bool fr)/\aK s'.env 6=.p (.str (bJ s))/\aK s'.env 5=.p (.str (bA s))/\s'.heap=[]) ?_ ?_
 ·rw[k];cases fr
  ·simp[d,f,g,i]
  ·cases m
   ·simp[d,f,g,i]
   ·simp[d,f,g,i];refine c1 Y ?_;cases dm (bJ s)
    ·simp[d,f,g,i]
    ·by_cases r:bJ s=[48]
     ·simp[d,f,g,i,r]
     ·by_cases N:bJ s=[49]
      ·simp[d,f,g,i,N]
      ·simp[d,f,g,i,r,N]
 clear d f g i I;rintro⟨I,aa⟩ ⟨d,f,g,i,t⟩;dsimp only at d f g i t;subst t;have head:∀(n v:Bool),az prog 253 [.seq [.int .i64 (bt n 1),.int .i64 (bt v 4)]] (.int .i64 (if n=true then 1 else if v=true then 4 else 0)):=fun n v=>by
  have:=Wd [bt n 1,bt v 4] (by simp);cases n<;>cases v<;>exact this
 have H:=uN (!f2) 1;have R:=uN true 4;have wf:=uN false 4;have J:=head (!f2) true;have U:=head (!f2) false;have O:(600<(bA s).length)↔(600:Int)<((bA s).length:Nat):=by omega
 have P:(600<(bJ s).length)↔(600:Int)<((bJ s).length:Nat):=by omega
 by_cases u:(600:Int)<((bA s).length:Nat)
 ·simp[d,f,g,i];refine c2 H ?_;simp[d,f,g,i,u];refine c2 R ?_;simp;refine cp J (by simp;exact⟨rfl,rfl⟩) ?_;cases f2
  ·simp
  ·simp[O.2 u]
 by_cases x:(600:Int)<((bJ s).length:Nat)
 ·simp[d,f,g,i];refine c2 H ?_;simp[d,f,g,i,u,x];refine c2 R ?_;simp;refine cp J (by simp;exact⟨rfl,rfl⟩) ?_;cases f2
  ·simp
  ·simp[P.2 x]
 have E:¬600<(bA s).length:=mt O.1 u;have F:¬600<(bJ s).length:=mt P.1 x;have Q:=uN false 1;have ag:=uN true 1;simp[d,f,g,i];refine c2 H ?_;simp[d,f,g,i,u,x];refine c2 wf ?_;simp;refine cp U (by simp;exact⟨rfl,rfl⟩) ?_;cases f2
 ·simp
 cases fr
 ·simp[d,f,g,i,E,F];refine c2 Q ?_;simp[bt];exact⟨by omega,by omega⟩
 have j:dm (bA s)=true/\dm (bJ s)=true:=by
  cases S:dm (bA s)
  ·rw[B,S]at k;simp at k
  cases T:dm (bJ s)
  ·rw[T]at k;simp at k
  exact⟨rfl,rfl⟩
 obtain⟨ae,G⟩:=Bb j.1;obtain⟨af,n4⟩:=Bb j.2;have y:=yl (bA s) (by rw[G];exact iH j.1) (by rw[G];omega);have z:=yl (bJ s) (by rw[n4];exact iH j.2) (by rw[n4];omega);rw[ae,G]at y;rw[af,n4]at z;simp only[a0,if_false]at y z;have C:=MV (.mk' (aV (bA s):Nat)) (.mk' (aV (bJ s):Nat)) (Dm (iH j.1) (by omega)) (Dm (iH j.2) (by omega));rw[NI.gY,NI.gY]at C;have D:=qM 1;rw[Kh]at D;have hc:=MU (.mk' (eh (aV (bA s):Nat) (aV (bJ s):Nat))) (.mk' 1) (pM (Dm (iH j.2) (by omega)) (by rw[NI.gY,eh,a4,a4,a4];exact Nat.gcd_le_right _ (xw j.2 (fun e=>by rw[e]at k;simp at k)))) (by rw[okW];decide);rw[NI.gY,NI.gY]at hc;have M:=X2 (a:=aV (bA s)) (b:=aV (bJ s));generalize jt (eh (aV (bA s):Nat) (aV (bJ s):Nat)) 1=o at*
 by_cases l:gc (aV (bA s)) (aV (bJ s))=1
 ·have w:o=0:=by simpa[l]using M
  simp[d,f,g,i,E,F,l];refine c1 y ?_;simp[d,f,g,i];refine c1 z ?_;simp;refine c2 C ?_;simp;refine c1 D ?_;simp;refine c2 hc ?_;simp[w];refine c2 Q ?_;simp[bt];rw[if_neg (by omega),if_pos l]
 ·have w:¬o=0:=by simpa[l]using M
  simp[d,f,g,i,E,F,l];refine c1 y ?_;simp[d,f,g,i];refine c1 z ?_;simp;refine c2 C ?_;simp;refine c1 D ?_;simp;refine c2 hc ?_;simp[w];refine c2 ag ?_ (h1:=by simp[w]);simp[bt];rw[if_neg (by omega),if_neg l]
def fB(s:List Nat):Prop:=s.length<=1048576/\∀c∈s,c<256
theorem VL(l:List (List Nat)):az prog 301 [.seq (l.map .str)] (.func 352 [] [.b6 (.seq (l.map .str))]):=by
 refine aM nf Fh mix (by simp[f301]) ?_;simp[f301];exact bw.refl _
def Dc(s:List Nat):List PV:=[.int .i64 (bI s)]
theorem Vo(l:List (List Nat))(q:l.length<=1000000)(hs:∀s∈l,fB s):Stream prog 352 [] [.b6 (.seq (l.map .str))] (l.map Dc):=by
 intro b k c H' hk d o f;refine jj nf Ft mix (by simp[f352]) ?_;rw[b5]at hk;have g:∀i(h:i<l.length),(l.map Dc)[i]?=some (Dc l[i]):=fun i h=>by rw[b1,a8 h];rfl
 simp[f352];refine lp (α:=Nat) (fun i=>⟨[(7,.p (.int .i64 i)),(6,.p (.int .i64 l.length)),(5,.p (.seq (l.map .str))),(0,.map b)],c i⟩) (fun i=>i<=k) (fun i=>l.length-i) 0 (by simp) ?_ (hr:=by simp;exact(d 0 (by omega)).2) (hr2:=(d 0 (by omega)).1);intro i hi;have n:=cH (i:=i) (by omega)
 by_cases a:i<l.length
 ·have hc:=vt l[i] (hs _ (b4 a)).1 (hs _ (b4 a)).2;have gD:(i<k/\gV prog b (c i) [.p (.int .i64 (bI l[i]))] (c (i+1)) (.p (.bool true)))\/gV prog b (c i) [.p (.int .i64 (bI l[i]))] H' (.p (.bool false)):=by
   by_cases e:i<k
   ·exact .inl ⟨e,o i _ e (g i a)⟩
   ·have:i=k:=by omega
    subst this;rcases f with⟨e1,_⟩|⟨y,e1,e2⟩
    ·rw[b5]at e1;omega
    ·rw[g i a]at e1;injection e1 with e1;subst e1;exact .inr e2
  simp[a];refine c1 hc ?_;simp;rcases gD with⟨e,hY⟩|hY
  ·refine⟨c (i+1),_,hY,?_⟩;simp[n];exact rd (i+1) e (h1:=by omega) (hr:=by simp;exact(d (i+1) (by omega)).2) (hr2:=(d (i+1) (by omega)).1)
  ·refine⟨H',_,hY,?_⟩;simp
 ·have m:i=l.length:=by omega
  have j:k=l.length:=by omega
  rcases f with⟨e1,e2⟩|⟨y,e1,e2⟩
  ·simp[a,e2,m,j]
  ·rw[j,List.getElem?_eq_none (by simp)]at e1;cases e1
theorem AZ(p:Nat->Bool):∀n,∃k,k<=n/\(∀j,j<k->p j=true)/\(k=n\/(k<n/\p k=false))
 |0=>⟨0,ee _,fun j h=>by omega,.inl rfl⟩
 |n+1=>by
  obtain⟨k,f,b,a⟩:=AZ p n;rcases a with a|⟨a,d⟩
  ·subst a;cases c:p k
   ·exact⟨k,by omega,b,.inr ⟨by omega,c⟩⟩
   ·refine⟨k+1,ee _,fun j g=>?_,.inl rfl⟩
    by_cases e:j=k
    ·subst e;exact c
    ·exact b j (by omega)
  ·exact⟨k,by omega,b,.inr ⟨by omega,d⟩⟩
def lA(l:List (List Nat))(i:Nat):Int:=match l[i]? with
 |some s=>bI s
 |none=>0
theorem HB:∀(l:List (List Nat))(k:Nat),(∀j,j<k->lA l j=0)->bN (l.map bI)=bN ((l.drop k).map bI)
 |[],k,_=>by simp
 |s::l,0,_=>rfl
 |s::l,k+1,h=>by
  have a:=h 0 (by omega);have b:bI s=0:=a;rw[be,bN,if_pos b,List.drop_succ_cons];exact HB l k fun j c=>h (j+1) (by omega)
theorem Sx(l:List (List Nat))(c:l.length<=1000000)(hs:∀s∈l,fB s):az prog 268 [.seq (l.map .str)] (.int .i64 (bN (l.map bI))):=by
 refine aM nf En mix (by simp[f268]) ?_;simp[f268];refine c1 (VL l) ?_;simp;have aH:=Vo l c hs;obtain⟨k,hk,g,d⟩:=AZ (fun i=>decide (lA l i=0)) l.length;have r:∀j,j<k->lA l j=0:=fun j q=>by simpa using g j q
 have f:=HB l k r;refine rf2 aH rfl (by simp) (fun L _=>[.box false (.p (.int .i64 0)),.loop L]) (fun L i=>[.box false (.p (.int .i64 (lA l (i-1)))),.loop (L.dn .ret)]) (fun i=>decide (lA l i=0)) .ret k (by simpa using hk) g (by simpa using d) (fun L=>rfl) ?_ ?_ (fun L=>rfl) ?_ ?_
 ·intro L b i hi;clear b;refine⟨rfl,by simp,fun _ c=>?_⟩;simp at c⊢;exact c
 ·intro L b i x hi hx;have t:x=[.int .i64 (lA l i)]:=by
   rw[b1]at hx;unfold lA;cases h:l[i]? with
   |none=>rw[h]at hx;cases hx
   |some s=>rw[h]at hx;injection hx with hx;rw[<-hx];rfl
  subst t;rw[em];refine vY nf mix b rfl rfl (by kernel_rfl) ?_;have m:=congrArg ef.env b;dsimp only at m;clear b;generalize lA l i=e
  by_cases he:e=0
  ·subst he;simp;exact .inl rfl
  ·simp[he];exact .inl rfl
 ·intro a L;have a:k=l.length:=by simpa using a
  rw[f,a];simp[bN]
 ·intro a L;have a:k<l.length:=by simpa using a
  have o:¬lA l k=0:=by
   rcases d with u|⟨_,n⟩
   ·omega
   ·simpa using n
  have e1:lA l k=bI l[k]:=by unfold lA;rw[a8 a]
  rw[f,bk a,be,bN,<-e1,if_neg o];simp[jl]
structure fy where
 x:List Nat
 y:List Nat
def ff(p:fy):PV:=.st 41 [.str p.x,.str p.y]
def lI(p:fy):Prop:=fB p.x/\fB p.y
def dA(p:fy):Int:=bN [bI p.x,bI p.y]
@[simp] theorem aHF(p:fy):aJ (ff p)=.agg 41:=rfl
@[simp] theorem aFW(p:fy):cj (ff p)=[.str p.x,.str p.y]:=rfl
@[simp] theorem aFi:prog.cellsOf 41=2:=by kernel_rfl
theorem QQ(p:fy)(a:lI p):az prog 190 [.seq [ff p]] (.int .i64 (dA p)):=by
 have hc:=Sx [p.x,p.y] (by simp) (by intro s hs;simp at hs;rcases hs with rfl|rfl;exact a.1;exact a.2);refine aM nf My mix (by simp[f190]) ?_;simp[f190];refine lp (α:=Nat) (fun i=>⟨[(8,.p (.int .i64 i)),(7,.p (.int .i64 1)),(6,.p (.seq [ff p])),(0,.p (.seq [ff p]))],[]⟩) (fun i=>i=0\/(i=1/\dA p=0)) (fun i=>1-i) 0 (.inl rfl) ?_;rintro i h;rcases h with rfl|⟨rfl,h⟩
 ·simp[ad];refine cp hc (by simp;exact⟨rfl,rfl⟩) ?_;have b:a3.wrap 1=1:=rfl;rw[show bN (dp bI [p.x,p.y])=dA p from rfl]
  by_cases h:dA p=0
  ·simp[h,b];exact rd 1 (.inr ⟨rfl,h⟩)
  ·simp[h]
 ·simp[h]
theorem wz(p:fy)(a:lI p):az prog 106 [ff p] (.int .i64 (dA p)):=by
 refine aM nf Mj mix (by simp[f106]) ?_;simp[f106,ad];refine cp (QQ p a) (by simp;exact⟨rfl,rfl⟩) ?_;simp
open Go.Proofs Go.Proofs.YtgpphcmkjhklgaaGreatDoor
section
variable{H:Type}{W:World}{aa:Nat->Prop}
theorem Yk{d:a2 H}(h:∃cs,aU prog W aa (bC prog 8 3 d) cs)(_hb:Rows.uptoBulk d<=1048576):∃z:Int,bC prog 8 3 d=.int .i64 z/\True:=by
 obtain⟨cs,h⟩:=h;obtain⟨z,a⟩:=tK (n:=7) d cs h;exact⟨z,a,trivial⟩
theorem sU{n:Nat}{d:a2 H}(h:∃cs,aU prog W aa (bC prog (n+1) 29 d) cs)(a:Rows.uptoBulk d<=1048576):∃s:List Nat,bC prog (n+1) 29 d=.str s/\fB s:=by
 obtain⟨cs,h⟩:=h;cases d with
 |lit l=>
  cases l with
  |string bytes=>
   refine⟨bytes.map (·.toNat),by simp only[bC,DC],?_,?_⟩
   ·rw[Rows.uptoBulk]at a;rw[b5];omega
   ·intro c hc;obtain⟨u,_,rfl⟩:=b0.1 hc;exact u.toNat_lt
  |_=>simp only[bC,DC,aU]at h
 |_=>simp only[bC,DC,aU]at h
theorem aDU:∃a b:Field,prog.underlying 42=some (.struct #[a,b])/\a.type=29/\b.type=29:=⟨_,_,underlying42,rfl,rfl⟩
theorem Pd:prog.underlyingId 42=41:=by kernel_rfl
theorem T3{m n:Nat}(q:m=n+1){d:a2 H}(h:∃cs,aU prog W aa (bC prog (m+1) 42 d) cs)(e:Rows.uptoBulk d<=1048576):∃p:fy,bC prog (m+1) 42 d=ff p/\lI p:=by
 obtain⟨cs,h⟩:=h;obtain⟨f0,f1,i,t0,t1⟩:=aDU;cases d with
 |agg l=>
  have g:∀x∈l,Rows.uptoBulk x<=1048576:=fun x hx=>by
   have:=qL.vp hx;rw[Rows.uptoBulk]at e;omega
  simp only[bC,i,aU]at h⊢;obtain⟨t,s,f,c,_⟩:=h;rw[Pd,aDb]at f;cases f
  match l,c with
  |[],c=>simp[aY]at c
  |[x],c=>simp[aY]at c
  |x::y::r,c=>
   simp only[List.zip_cons_cons,be,aY,List.zip_nil_left,dz,t0,t1]at c⊢;obtain⟨c0,_,_,g1,_,c1,_,_,g2,_⟩:=c;subst q;obtain⟨a,j,o⟩:=sU ⟨c0,g1⟩ (g x (by simp));obtain⟨b,k,e⟩:=sU ⟨c1,g2⟩ (g y (by simp));exact⟨⟨a,b⟩,by rw[j,k,Pd];rfl,o,e⟩
 |_=>simp only[bC,i,aU]at h
theorem Q2{n:Nat}{d:a2 H}(h:∃cs,aU prog W aa (bC prog (n+2) 42 d) cs)(a:Rows.uptoBulk d<=1048576):∃p:fy,bC prog (n+2) 42 d=ff p/\lI p:=T3 rfl h a
end
def bT:Nat:=1000000000
theorem aX:2<=bT:=by decide
def iP(l:List Nat):List PV:=l.map fun x:Nat=>.int .i64 x
theorem O8(w:List Nat):eS prog 1 (w.map (AV.p∘fun x:Nat=>PV.int .i64 x)):=by
 rw[uf];intro v a;obtain⟨x,_,rfl⟩:=b0.1 a;simp[ad,aJ,bB]
def eT(n:Nat):PV:=.seq ((aq bT n).map fun x:Nat=>.int .i64 x)
theorem yN:aq bT 0=[]:=by simp[aq,ml]
theorem mM{n:Nat}(b:0<n)(h:n<bT):aq bT n=[n]:=by
 have a:=iV aX (m:=1) (n:=n) (by rw[ge];exact h);rw[<-a,row,List.range_one,be,dz,ae,e8,fl,e7 h];have:=uc [] n (by omega)
 rwa [dk]at this
theorem uo{n:Nat}:aq bT n=[]↔n=0:=by
 constructor
 ·intro h;have:=bY aX n;rw[h,List.length_nil,e8]at this;omega
 ·rintro rfl;exact yN
theorem sv(w:List Nat)(h:w.length<=1048576):az prog 265 [.seq (iP w)] (.seq (iP (dT w))):=by
 refine aM nf Ed mix (by simp[f265]) ?_;simp only[iP];simp[f265];refine lp (α:=Nat) (fun i=>⟨[(0,.p (.seq ((w.take i).map fun x:Nat=>.int .i64 x)))],[]⟩) (fun i=>i<=w.length/\dT w=dT (w.take i)) (fun i=>i) w.length (by simp) ?_;rintro i ⟨k1,k2⟩;have k:(w.take i).length=i:=by rw[c9];omega
 by_cases hi:0<i
 ·obtain⟨j,rfl⟩:∃j,i=j+1:=⟨i-1,by omega⟩
  have f:a3.wrap (j:Int)=j:=aN _ (by omega) (by omega);have a:j<w.length:=by omega
  have e:(0:Int)<(j:Int)+1:=by omega
  have k3:=k2;rw[bi a]at k2;have c:min (j+1) w.length=j+1:=by omega
  have d:min ((j:Int)+1) (w.length:Int)=j+1:=by omega
  have g:¬w=[]:=by rintro rfl;simp at a
  by_cases b:w[j]=0
  ·rw[b,Af]at k2;simp[e,f,a,b,c,d,g];refine⟨by rw[<-bv];exact O8 _,?_⟩;refine rd j ⟨by omega,k2⟩ (he:=?_);rw[<-bv,<-bv,List.take_take,Nat.min_eq_left (by omega)];simp
  ·rw[uc _ _ b,<-bi a]at k2;simp[e,f,a,b,c,d,g];rw[k2,bv];exact bw.refl _
 ·obtain rfl:i=0:=by omega
  simp[dT]at k2;simp[k2]
def eG(z:Int):PV:=.st 166 [.bool (decide (z<0)),eT z.natAbs]
@[simp] theorem aHn(z:Int):aJ (eG z)=.agg 166:=rfl
@[simp] theorem aFT(z:Int):cj (eG z)=[.bool (decide (z<0)),eT z.natAbs]:=rfl
@[simp] theorem aIh(n:Nat):aJ (eT n)=.leaf:=rfl
theorem Bf(neg:Bool)(w:List Nat)(n:Nat)(c:dT w=aq bT n)(h:w.length<=1048576):az prog 256 [.bool neg,.seq (iP w)] (eG (if neg=true then -(n:Int)else n)):=by
 have a:=sv w h;rw[c]at a;refine aM nf LP mix (by simp[f256]) ?_;have b:(if neg=true then -(n:Int)else n).natAbs=n:=by cases neg<;>simp
 rw[eG,b,eT];have d:=uo (n:=n);have e:decide ((if neg=true then -(n:Int)else n)<0)=(neg&&decide (0<(aq bT n).length)):=by
  cases neg
  ·simp
  ·simp;rw[a5,Ne,d];omega
 rw[e];simp only[iP]at a⊢;generalize aq bT n=x at*;cases neg
 ·simp[f256];refine c1 a ?_;simp[ad]
 ·simp[f256];refine c1 a ?_;simp[ad]
  done
theorem GZ{a b:Nat}(h:(aq bT a).length<(aq bT b).length):a<b:=by
 have d:=bY aX a;rcases en a b with c|c
 ·exact c
 ·have:=dE aX (aq bT a).length b (ed c d);omega
theorem G8{a b i:Nat}(h:a/bT^(i+1)=b/bT^(i+1))(e:ae bT a i<ae bT b i):a<b:=by
 rw[ew,<-eo,<-eo]at h;have e1:=ej (a/bT^i) bT;have e2:=ej (b/bT^i) bT;rw[ae,ae]at e;rw[h]at e1;rcases en a b with d|d
 ·exact d
 ·have:=Nat.div_le_div_right (c:=bT^i) d;omega
theorem UL{a b i:Nat}(h:a/bT^(i+1)=b/bT^(i+1))(c:ae bT a i=ae bT b i):a/bT^i=b/bT^i:=by
 rw[ew,<-eo,<-eo]at h;have e1:=ej (a/bT^i) bT;have e2:=ej (b/bT^i) bT;rw[ae,ae]at c;rw[h]at e1;omega
theorem Hg(a b:Nat)(E:(aq bT a).length<=1048576)(F:(aq bT b).length<=1048576):az prog 263 [eT a,eT b] (.int .i64 (fu a b)):=by
 refine aM nf LN mix (by simp[f263]) ?_
 by_cases l:(aq bT a).length=(aq bT b).length
 case neg=>
  have q:¬((aq bT a).length:Int)=(aq bT b).length:=by omega
  by_cases A:(aq bT a).length<(aq bT b).length
  ·have m:((aq bT a).length:Int)<(aq bT b).length:=by omega
   have:=GZ A;have hc:fu a b= -1:=if_pos this;simp[f263,eT,q,m,hc]
  ·have m:¬((aq bT a).length:Int)<(aq bT b).length:=by omega
   have:=GZ (a:=b) (b:=a) (by omega);have hc:fu a b=1:=by rw[fu,if_neg (by omega),if_pos this]
   simp[f263,eT,q,m,hc]
 have t:∀i(h:i<(aq bT a).length),(aq bT a)[i]?=some (ae bT a i):=fun i h=>by rw[a8 h,dX aX h]
 have v:∀i(h:i<(aq bT b).length),(aq bT b)[i]?=some (ae bT b i):=fun i h=>by rw[a8 h,dX aX h]
 have u:∀i(h:i<(aq bT a).length),(aq bT a)[i]=ae bT a i:=fun i h=>dX aX h;have w:∀i(h:i<(aq bT b).length),(aq bT b)[i]=ae bT b i:=fun i h=>dX aX h;have s:=bY aX a;have o:=bY aX b;rw[<-l]at o;have z:a/bT^(aq bT a).length=b/bT^(aq bT a).length:=by rw[eq s,eq o]
 simp only[eT];generalize aq bT a=x at*;generalize aq bT b=y at*;have D:a3.wrap ((y.length:Int)-1)=y.length-1:=aN _ (by omega) (by omega);simp[f263,l,D];refine lp (α:=Nat) (fun i=>⟨[(5,.p (.int .i64 ((i:Int)-1))),(1,.p (.seq (y.map fun x:Nat=>.int .i64 x))),(0,.p (.seq (x.map fun x:Nat=>.int .i64 x)))],[]⟩) (fun i=>i<=y.length/\a/bT^i=b/bT^i) (fun i=>i) y.length ⟨ee _,by rw[<-l];exact z⟩ ?_;rintro i ⟨k1,k2⟩
 by_cases hi:0<i
 ·obtain⟨j,rfl⟩:∃j,i=j+1:=⟨i-1,by omega⟩
  have c:j<x.length:=by omega
  have d:j<y.length:=by omega
  have C:a3.wrap ((j:Int)-1)=j-1:=aN _ (by omega) (by omega);have e:=t j c;have g:=v j d;have f:=u j c;have k:=w j d
  by_cases hq:ae bT a j=ae bT b j
  ·simp[c,d,e,g,f,k,hq,C];exact rd j ⟨by omega,UL k2 hq⟩
  ·have r:¬(ae bT a j:Int)=ae bT b j:=by omega
   by_cases n:ae bT a j<ae bT b j
   ·have:=G8 k2 n;have hc:fu a b= -1:=if_pos this;simp[c,d,e,g,f,k,r,n,hc]
   ·have:=G8 k2.symm (show ae bT b j<ae bT a j by omega);have B:ae bT b j<ae bT a j:=by omega
    have hc:fu a b=1:=by rw[fu,if_neg (by omega),if_pos this]
    simp[c,d,e,g,f,k,r,n,B,hc]
 ·obtain rfl:i=0:=by omega
  rw[e8,fl,fl]at k2;have hc:fu a b=0:=by rw[fu,if_neg (by omega),if_neg (by omega)]
  simp[hc]
theorem VA{n i:Nat}(h:(aq bT n).length<=i):ae bT n i=0:=iT (ec (bY aX n) (eb (by decide) h))
theorem B4(a i:Nat):az prog 302 [eT a,.int .i64 i] (.int .i64 (ae bT a i:Nat)):=by
 refine aM nf LK mix (by simp[f302]) ?_
 by_cases h:i<(aq bT a).length
 ·have b:(aq bT a)[i]=ae bT a i:=dX aX h;rw[eT,<-b];generalize aq bT a=x at*;simp[f302,h]
 ·rw[VA (by omega),eT];generalize aq bT a=x at*;simp[f302,h]
def dR(i n:Nat):List AV:=(cc i).map fun j=>.p (.int .i64 (ae bT n j:Nat))
theorem pD(i n:Nat):dR (i+1) n=dR i n++[.p (.int .i64 (ae bT n i:Nat))]:=by
 rw[dR,List.range_succ,List.map_append];rfl
theorem gU(i n:Nat):(dR i n).length=i:=by simp[dR]
@[simp] theorem aHc{N:Nat×Nat->Prop}{n i:Nat}:aQ N (dR i n)=True:=by
 rw[cq,eq_iff_iff,iff_true];intro v a;simp only[dR,b0]at a;obtain⟨x,_,rfl⟩:=a;trivial
theorem Kb(i n:Nat):eB (dR i n)=some ((row bT i n).map fun x:Nat=>.int .i64 x):=by
 have:dR i n=(row bT i n).map (AV.p∘fun x:Nat=>PV.int .i64 x):=by
  rw[dR,row,ea];rfl
 rw[this];exact Iv
theorem Ls(i n:Nat):dR i n=(row bT i n).map (AV.p∘fun x:Nat=>PV.int .i64 x):=by
 rw[dR,row,ea];rfl
theorem VV{n i:Nat}(h:n<bT^i)(a:i=0\/bT^(i-1)<=n):row bT i n=aq bT n:=by
 have b:(aq bT n).length=i:=by
  have c:=dE aX i n h;rcases a with rfl|a
  ·omega
  ·have:=HC aX a;omega
 have:=XE aX n;rw[b]at this;exact this.symm
theorem Wy(a b:Nat)(I:(aq bT a).length<=1000000)(J:(aq bT b).length<=1000000):az prog 270 [eT a,eT b] (eT (a+b)):=by
 refine aM nf El mix (by simp[f270]) ?_;have v:=bY aX a;have w:=bY aX b;have C:∀i,i<(aq bT a).length->bT^i<=a:=fun i h=>by
  rcases en a (bT^i)with c|c
  ·have:=dE aX i a c;omega
  ·exact c
 have D:∀i,i<(aq bT b).length->bT^i<=b:=fun i h=>by
  rcases en b (bT^i)with c|c
  ·have:=dE aX i b c;omega
  ·exact c
 have A:∀i,0<cQ bT a b i->bT^i<=a+b:=fun i h=>by
  rw[cQ]at h;have c:bT^i<=a% bT^i+b% bT^i:=by
   rcases en (a% bT^i+b% bT^i) (bT^i)with d|d
   ·rw[eq d]at h;omega
   ·exact d
  have:=gm a (bT^i);have:=gm b (bT^i);omega
 have f:=fun i=>B4 a i;have g:=fun i=>B4 b i;have B:∀i,(aq bT a).length<=i->(aq bT b).length<=i->cQ bT a b i=0->a+b<bT^i:=fun i c d s=>by
  have l:=ec v (eb (show 0<bT by decide) c);have m:=ec w (eb (show 0<bT by decide) d);rw[cQ,e7 l,e7 m]at s;rcases en (a+b) (bT^i)with e|e
  ·exact e
  ·have:=Nat.div_pos e (fb (show 0<bT by decide));omega
 have E:∃M,M=max (aq bT a).length (aq bT b).length:=⟨_,rfl⟩
 obtain⟨M,H⟩:=E;simp only[eT]at f g⊢;have F:=fun i h d=>VV (n:=a+b) (i:=i) h d;generalize aq bT (a+b)=z at*;generalize aq bT a=x at*;generalize aq bT b=y at*;simp[f270];refine lp (α:=Nat) (fun i=>⟨[(7,.p (.int .i64 i)),(6,.p (.int .i64 (cQ bT a b i:Nat))),(5,.sl 0 i 1 0 i),(1,.p (.seq (y.map fun x:Nat=>.int .i64 x))),(0,.p (.seq (x.map fun x:Nat=>.int .i64 x)))],[.arr .grow i 1 (dR i (a+b))]⟩)
  (fun i=>i<=M+1/\(i=0\/bT^(i-1)<=a+b)) (fun i=>M+1-i) 0 ⟨by omega,.inl rfl⟩ ?_ (he:=by simp[wR,dR]) (hh:=by simp[dR])
 rintro i ⟨k1,k2⟩;have o:=cH (i:=i) (by omega);have K:=kP aX a b i;obtain⟨l,m⟩:=pq aX a b i;have N:=bZ aX a i;have O:=bZ aX b i;have t:bT=1000000000:=rfl;have q:a3.wrap ((ae bT a i:Int)+ae bT b i)=ae bT a i+ae bT b i:=aN _ (by omega) (by omega);have r:a3.wrap ((ae bT a i:Int)+ae bT b i+cQ bT a b i)=ae bT a i+ae bT b i+cQ bT a b i:=aN _ (by omega) (by omega);have d1:((ae bT a i:Int)+ae bT b i+cQ bT a b i).tmod 1000000000=(ae bT (a+b) i:Nat):=by
  rw[Int.tmod_eq_emod_of_nonneg (by omega),<-l,t];omega
 have d2:((ae bT a i:Int)+ae bT b i+cQ bT a b i).tdiv 1000000000=(cQ bT a b (i+1):Nat):=by
  rw[Int.tdiv_eq_ediv_of_nonneg (by omega),<-m,t];omega
 have d3:a3.wrap (cQ bT a b (i+1):Nat)=(cQ bT a b (i+1):Nat):=by have:=kP aX a b (i+1);exact aN _ (by omega) (by omega)
 have j:b2 i (dR i (a+b))=dR i (a+b):=a6 (by rw[gU];exact ee _)
 by_cases hx:i<x.length
 ·simp[hx];refine c2 (f i) ?_;simp;refine c2 (g i) ?_;simp[q,r,d1,d2,d3,gU,j,<-pD];refine⟨by simp only[cU];omega,?_⟩;refine rd (i+1) ⟨by omega,.inr (by rw[em];exact ei (C i hx) (by omega))⟩ (by omega) (he:=by simp[o])
 by_cases k:i<y.length
 ·simp[hx,k];refine c2 (f i) ?_;simp;refine c2 (g i) ?_;simp[q,r,d1,d2,d3,gU,j,<-pD];refine⟨by simp only[cU];omega,?_⟩;refine rd (i+1) ⟨by omega,.inr (by rw[em];exact ei (D i k) (by omega))⟩ (by omega) (he:=by simp[o])
 by_cases hc:0<cQ bT a b i
 ·have L:i=M:=by
   rcases en M i with h|h
   ·have e0:=pq aX a b M;have c:ae bT a M=0:=iT (ec v (eb (by decide) (by omega)));have d:ae bT b M=0:=iT (ec w (eb (by decide) (by omega)));have s:=kP aX a b M;have e:i=M+1:=by omega
    subst e;rw[c,d]at e0;rw[<-e0.2,eq (by omega)]at hc;omega
   ·omega
  simp[hx,k,hc];refine c2 (f i) ?_;simp;refine c2 (g i) ?_;simp[q,r,d1,d2,d3,gU,j,<-pD];refine⟨by simp only[cU];omega,?_⟩;refine rd (i+1) ⟨by omega,.inr (by rw[em];exact A i hc)⟩ (by omega) (he:=by simp[o])
 ·have u:cQ bT a b i=0:=by omega
  have G:=F i (B i (by omega) (by omega) u) k2;rw[<-G];simp[hx,k,u];refine⟨by rw[gU];exact ee _,?_⟩;rw[j,Ls];simp
theorem Lh(a b:Nat)(A:b<=a)(F:(aq bT a).length<=1000000):az prog 271 [eT a,eT b] (eT (a-b)):=by
 refine aM nf K2 mix (by simp[f271]) ?_;have D:=bY aX a;have j:=fun i=>B4 b i;have B:∀i(h:i<(aq bT a).length),(aq bT a)[i]?=some (ae bT a i):=fun i h=>by rw[a8 h,dX aX h]
 have C:∀i(h:i<(aq bT a).length),(aq bT a)[i]=ae bT a i:=fun i h=>dX aX h;have E:dT (row bT (aq bT a).length (a-b))=aq bT (a-b):=iV aX (ed (Nat.sub_le a b) D);have e:=sv (row bT (aq bT a).length (a-b)) (by rw[KB];omega);rw[E]at e;simp only[eT]at j⊢;simp only[iP]at e;generalize aq bT (a-b)=z at*;generalize aq bT a=x at*;generalize aq bT b=y at*;simp[f271];refine lp (α:=Nat) (fun i=>⟨[(7,.p (.int .i64 i)),(6,.p (.int .i64 (eQ bT a b i:Nat))),(5,.sl 0 i 1 0 i),(1,.p (.seq (y.map fun x:Nat=>.int .i64 x))),(0,.p (.seq (x.map fun x:Nat=>.int .i64 x)))],[.arr .grow i 1 (dR i (a-b))]⟩)
  (fun i=>i<=x.length) (fun i=>x.length-i) 0 (by simp) ?_ (he:=by simp[Ae,dR]) (hh:=by simp[dR])
 intro i k1;have s:=cH (i:=i) (by omega);have r:b2 i (dR i (a-b))=dR i (a-b):=a6 (by rw[gU];exact ee _);have G:bT=1000000000:=rfl;have J:=bZ aX a i;have K:=bZ aX b i;have L:=bZ aX (a-b) i;have M:eQ bT a b i<=1:=by rw[eQ];split<;>omega
 have u:a3.wrap ((ae bT a i:Int)-ae bT b i)=ae bT a i-ae bT b i:=aN _ (by omega) (by omega);have n:a3.wrap ((ae bT a i:Int)-ae bT b i-eQ bT a b i)=ae bT a i-ae bT b i-eQ bT a b i:=aN _ (by omega) (by omega)
 by_cases hx:i<x.length
 ·have o:=B i hx;have q:=C i hx;rcases I4 aX A i with⟨v,g,w⟩|⟨v,g,w⟩
  ·have m:(ae bT a i:Int)-ae bT b i-eQ bT a b i<0:=by omega
   have f:a3.wrap ((ae bT a i:Int)-ae bT b i-eQ bT a b i+1000000000)=(ae bT (a-b) i:Nat):=by rw[aN _ (by omega) (by omega)];omega
   simp[hx,o,q];refine e2 (j i) ?_;simp[u,n,m,f,gU,r,<-pD];refine⟨by simp only[cU];omega,?_⟩;refine rd (i+1) hx (he:=by simp[s,g])
  ·have m:¬(ae bT a i:Int)-ae bT b i-eQ bT a b i<0:=by omega
   have f:(ae bT a i:Int)-ae bT b i-eQ bT a b i=(ae bT (a-b) i:Nat):=by omega
   rw[f]at m n;simp[hx,o,q];refine e2 (j i) ?_;simp[u,n,f,gU,r,<-pD];refine⟨by simp only[cU];omega,?_⟩;refine rd (i+1) hx (he:=by simp[s,g])
 ·have:i=x.length:=by omega
  subst this;have k:=Ls x.length (a-b);have d:(row bT x.length (a-b)).length=x.length:=KB;generalize row bT x.length (a-b)=l at e k d;have H:b2 x.length l=l:=a6 (by omega);rcases l with _|⟨c,t⟩
  ·simp at d;simp[k];refine cp e (by simp[<-d];exact⟨rfl,rfl⟩) ?_;simp
  ·have I:b2 x.length (PV.int .i64 c::dp (fun x:Nat=>PV.int .i64 x) t)=PV.int .i64 c::dp (fun x:Nat=>PV.int .i64 x) t:=a6 (by simp at d⊢;omega);simp at d;simp[k];refine cp e (by simp[<-d];exact⟨rfl,rfl⟩) ?_;simp
def cS(n:Nat)(f:Nat->Nat):List AV:=(cc n).map fun j=>.p (.int .i64 (f j:Nat))
theorem uD(n:Nat)(f:Nat->Nat):(cS n f).length=n:=by simp[cS]
theorem I8(n:Nat):a9 n (AV.p (.int .i64 0))=cS n fun _=>0:=by
 apply dg (by simp[cS]);intro i a b;simp[cS]
theorem rZ{n j:Nat}(f:Nat->Nat)(h:j<n):(cS n f)[j]?=some (.p (.int .i64 (f j:Nat))):=by
 rw[cS,b1,cv h];rfl
theorem BE{n i:Nat}(f g:Nat->Nat)(h:∀j,j<n->j≠i->g j=f j):(cS n f).set i (.p (.int .i64 (g i:Nat)))=cS n g:=by
 apply dg (by simp[cS]);intro j c b;rw[uD]at b;rw[List.getElem_set];simp only[cS,List.getElem_map,List.getElem_range]
 by_cases a:i=j
 ·subst a;rw[if_pos rfl]
 ·rw[if_neg a,h j b (fun e=>a e.symm)]
@[simp] theorem aG8{N:Nat×Nat->Prop}{n:Nat}{f:Nat->Nat}:aQ N (cS n f)=True:=by
 rw[cq,eq_iff_iff,iff_true];intro v a;simp only[cS,b0]at a;obtain⟨x,_,rfl⟩:=a;trivial
theorem xH{n:Nat}{f g:Nat->Nat}(h:∀j,j<n->f j=g j):cS n f=cS n g:=by
 rw[cS,cS];apply List.map_congr_left;intro j a;rw[h j (List.mem_range.1 a)]
end Go.al
