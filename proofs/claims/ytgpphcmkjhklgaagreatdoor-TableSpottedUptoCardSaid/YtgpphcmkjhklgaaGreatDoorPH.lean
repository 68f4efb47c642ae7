import Derived.Test.YtgpphcmkjhklgaaGreatDoorPG
import Derived.Test.YtgpphcmkjhklgaaGreatDoorThE
import Derived.Test.YtgpphcmkjhklgaaGreatDoorPE
import Derived.Lib.AtoiAll
import Derived.Test.YtgpphcmkjhklgaaGreatDoorPC
/- Parts of a proof. -/
set_option linter.unusedSimpArgs false
set_option linter.unusedVariables false
set_option linter.unusedSectionVars false
open Go.Proofs.Tryz
open Bool renaming and_eq_true->aT, false_eq_true->a0
open Go renaming FuncId->a1, DataW->a2
open Go.IntKind renaming i64->a3
open Int renaming natAbs_natCast->a4
open List renaming length_pos_iff->a5, take_of_length_le->a6, length_singleton->a7, getElem?_eq_getElem->a8, replicate->a9, length_append->bb, map_cons->be, drop_eq_getElem_cons->bi, take_succ_eq_append_getElem->bk, append_nil->bl, take_append_drop->bo, map_take->bv, mem_map->b0, getElem?_map->b1, take->b2, reverse_nil->b3, getElem_mem->b4, length_map->b5, foldl_cons->cb, range->cc, all_cons->ce, dropWhile_sublist->ck, getElem?_range->cv, flatten_append->cx, dropWhile_cons->cy, mem_singleton->c6, length_take->c9, length_cons->da, flatten_nil->db, ext_getElem->dg, nil_append->dk, mem_append->dl, map->dp, mem_cons->dq, map_nil->dz, map_map->ea
open Nat renaming pow_le_pow_right->eb, lt_of_lt_of_le->ec, lt_of_le_of_lt->ed, le_refl->ee, le_trans->ei, div_add_mod->ej, add_sub_cancel->em, lt_or_ge->en, div_div_eq_div_mul->eo, div_eq_of_lt->eq, pow_succ->ew, mul_assoc->e6, lt_trans->e7, mod_eq_of_lt->e8, pow_zero->e9, mul_comm->fa, pow_pos->fb, mul_le_mul_right->fd, div_one->fl, pow_le_pow_left->fm, div_mul_le_self->fv, div_lt_self->fZ, add_assoc->gb, gcd->gc, pow_one->ge, pow_mul->gg, add_mul->gi, mod_lt->gj, mod_le->gm
open Option.some renaming injEq->gt
open UInt8 renaming ofNat->gx
namespace Go.ag
open Go.Proofs
set_option linter.unusedSectionVars false
theorem B8:dO prog 224=some [1,1]:=by kernel_rfl
section
variable{w:World}{ad ai:Nat->Prop}{β:Bd}{H:Heap}
theorem Uu{al:Nat}{c0 c1 v:Value}{T:TypeId}(h:w.heap[al]?=some (.cells #[c0,c1] T (0,0))):w.setCell ⟨al,0,none⟩ v=w.setRow al #[v,c1]:=by
 obtain⟨d,a⟩:=Array.getElem?_eq_some_iff.1 h;unfold World.setCell World.setRow;congr 1;apply Array.ext
 ·simp
 ·intro i b c;simp only[Array.getElem_modify]
  by_cases hi:al=i
  ·subst hi;simp[a]
  ·simp[hi]
theorem TX{t x:AV}{cs:Array Value}(g:t=gW 224 [.p .dJ,x]\/t=.st 224 [.p .dJ,x])(h:bp prog w ad β H t cs.toList):∃y,cs=#[.pointer none,y]/\bp prog w ad β H x [y]:=by
 have a:bp prog w ad β H (.st 224 [.p .dJ,x]) cs.toList:=by
  rcases g with rfl|rfl
  ·exact MB.1 h
  ·exact h
 simp only[bp,B8,gt]at a;obtain⟨l,k,rfl,b,d⟩:=a;simp only[bM,bp,aS]at b;obtain⟨c,i,rfl,rfl,_,c2,j,rfl,e,f,rfl⟩:=b
 match c2,f with
 |[y],_=>exact⟨y,Array.ext' (by simpa using d),e⟩
theorem TQ{b:Nat}{x:AV}{cs:Array Value}(h:bp prog w ad β H (.st 224 [.ptr b [],x]) cs.toList):∃v y,cs=#[v,y]/\bN prog β H (.ptr b []) v:=by
 simp only[bp,B8,gt]at h;obtain⟨l,j,rfl,a,d⟩:=h;simp only[bM,bp]at a;obtain⟨c,g,rfl,⟨v,rfl,f⟩,_,c2,i,rfl,k,e,rfl⟩:=a
 match c2,e with
 |[y],_=>exact⟨v,y,Array.ext' (by simpa using d),f⟩
end
theorem Fc{H:Heap}{b:Nat}{t x:AV}(f:H[b]?=some (.box false t))(i:t=gW 224 [.p .dJ,x]\/t= .st 224 [.p .dJ,x]):
 cB prog 225 H [.ptr b []] (H.set b (.box false (.st 224 [.ptr b [],x]))) (.p (.aE [])):=by
 refine⟨iO func225 (by kernel_rfl),fun w ad ai β J g j K=>?_⟩;simp only[bB,az]at j;obtain⟨v,vs,rfl,⟨_,I,L,M,rfl,m,B⟩,rfl⟩:=j;simp only[gd,gt]at m;subst m;obtain⟨rfl,rfl⟩:=B (.inl ⟨false,t,f⟩);obtain⟨cs,T,k1,k2,k3,_,k5⟩:=g.cC b _ f;have F:aa t=.agg 224:=by
  rcases i with rfl|rfl
  ·exact C2 _ _
  ·rfl
 have q:T=225:=by
  rw[F]at k5;exact dy (by simpa[ji,Gl.bx,arN]using k5)
 subst q;obtain⟨y,rfl,G⟩:=TX i k2;have o:¬ad (β.al b)/\¬ai (β.al b):=by simpa[cz]using k3
 refine(TL (β.al b) w (by simp[World.cell?,k1]) (by simp[World.shape?,k1]) (by simp[World.frozen?,k1])).mono ?_;rintro e w' ⟨rfl,rfl⟩;rw[Uu k1];have aK:cj β H β (H.set b (.box false (.st 224 [.ptr b [],x]))):=pZ f (.inl ⟨_,_,_,_,rfl,rfl⟩);have ak:∀z,aH H z->aH (H.set b (.box false (.st 224 [.ptr b [],x]))) z:=mg f (fun _ h=>h);have r:b<H.length:=(List.getElem?_eq_some_iff.1 f).1;have u:(H.set b (.box false (.st 224 [.ptr b [],x])))[b]?=some (.box false (.st 224 [.ptr b [],x])):=List.getElem?_set_self r;have n:aD (aH H) x:=by
  have:=g.refs b _ f;rcases i with rfl|rfl
  ·simp only[Obj.refs]at this;unfold gW at this
   split at this
   ·rename_i l d;have d:=me d
    match l,d with
    |[a,c],d=>simp at d;rw[d.2];simp[aD]
    |[],d=>simp at d
    |[_],d=>simp at d
    |_::_::_::_,d=>simp at d
   ·simp only[aD,aV]at this;exact this.2.1
  ·simp only[Obj.refs,aD,aV]at this;exact this.2.1
 have E:∀k,ad k->(w.setRow (β.al b) #[.pointer (some ⟨β.al b,0,none⟩),y]).heap[k]?=w.heap[k]?:=fun k A=>setRow_other w _ k _ (fun s=>o.1 (s▸A));have D:Obj.refs (aH (H.set b (.box false (.st 224 [.ptr b [],x])))) (.box false (.st 224 [.ptr b [],x])):=by
  simp only[Obj.refs,aD,aV,and_true];exact⟨⟨_,u,trivial⟩,aD.mono ak _ n⟩
 have C:=rp g f trivial (o':=.box false (.st 224 [.ptr b [],x])) trivial (fun _ h=>h) k1 (new:=#[.pointer (some ⟨β.al b,0,none⟩),y]) o aK
  ⟨_,225,setRow_heap w _ _ _ 225 _ k1,by
   simp only[bp,B8,gt];refine⟨_,[[.pointer (some ⟨β.al b,0,none⟩)],[y]],rfl,?_,rfl⟩;simp only[bM,bp];exact⟨_,_,rfl,⟨_,rfl,⟨rfl,_,_,0,rfl,rfl,fun _=>⟨rfl,rfl⟩⟩⟩,rfl,_,_,rfl,bp.mono (fun _ x=>x) E aK _ _ n G,rfl,rfl⟩,k3,by simp,by simp[aa,ji,Gl.bx]⟩ D
 exact⟨_,β,ad,rfl,C,by simp[az,aC,bw],by simp[aD]⟩
theorem P0{H:Heap}{b:Nat}{x:AV}(c:H[b]?=some (.box false (.st 224 [.ptr b [],x]))):cB prog 225 H [.ptr b []] H (.p (.aE [])):=by
 refine⟨iO func225 (by kernel_rfl),fun w ad ai β l g f m=>?_⟩;simp only[bB,az]at f;obtain⟨v,vs,rfl,⟨_,j,n,i,rfl,a,d⟩,rfl⟩:=f;simp only[gd,gt]at a;subst a;obtain⟨rfl,rfl⟩:=d (.inl ⟨false,_,c⟩);obtain⟨cs,T,k1,k2,k3,_,k5⟩:=g.cC b _ c;obtain⟨v,y,rfl,h⟩:=TQ k2;simp only[bN,bR]at h;obtain⟨_,k,o,i,rfl,a,d⟩:=h;simp only[gd,gt]at a;subst a;obtain⟨rfl,rfl⟩:=d (.inl ⟨false,_,c⟩);refine(TK (β.al b) w (by simp[World.cell?,k1])).mono ?_;rintro e w' ⟨rfl,rfl⟩;exact⟨_,β,ad,rfl,bY.refl g,by simp[az,aC,bw],by simp[aD]⟩
set_option maxHeartbeats 4000000
set_option maxRecDepth 100000
@[simp] theorem gu8:(Gl.u8:TypeId)=5:=(rfl)
def dM(t:List Nat):List AV:=t.map fun(c:Nat)=>AV.p (.int .u8 (c:Int))
theorem xj(t:List Nat):(dM t).length=t.length:=by simp[dM]
theorem aHm(a t:List Nat):dM (a++t)=dM a++dM t:=by simp[dM]
theorem DN:∀t:List Nat,fe prog 1 (dM t)
 |[]=>by simp[dM,fe]
 |c::t=>by
  have:=DN t;simp only[dM,be]at this⊢;simp[fe];exact this
theorem Kc:∀(t:List Nat),(∀c∈t,c<256)->bytesOf (dM t)=some t
 |[],_=>rfl
 |c::t,a=>by
  have b:=a c (by simp);have:=Kc t fun c hc=>a c (by simp[hc]);show bytesOf (.p (.int .u8 (c:Int))::dM t)=some (c::t);rw[bytesOf,if_pos ⟨by omega,by omega⟩,this];simp
theorem P1(t:List Nat)(a:t≠[])(h:t.length<=1048576):cB prog 151 [.box false (.p (.st 224 [.dJ,.aW]))] [.ptr 0 [],.p (.str t)]
 [.box false (.st 224 [.ptr 0 [],.sl 1 0 1 0 t.length]),.arr .bytes 0 1 (dM t)] (.p (.aE [.int .i64 t.length,.fV])):=by
 refine fJ nf EP mix (by simp[f151]) ?_;simp[f151];refine ci (Fc (b:=0) (t:=.p (.st 224 [.dJ,.aW])) (x:=.p .aW) rfl (.inl rfl)) ?_;simp;refine⟨⟨DN t,by simp only[di];omega⟩,?_⟩;simp[a,dM]
theorem P2(a t:List Nat)(v n:Nat)(f:n=a.length)(c:t≠[])(h:t.length<=1048576)(e:a.length<=1048576):cB prog 151 [.box false (.st 224 [.ptr 0 [],.sl 1 v 1 0 n]),.arr .bytes v 1 (dM a)] [.ptr 0 [],.p (.str t)]
 [.box false (.st 224 [.ptr 0 [],.sl 1 (v+1) 1 0 (n+t.length)]),.arr .bytes (v+1) 1 (dM (a++t))] (.p (.aE [.int .i64 t.length,.fV])):=by
 refine fJ nf EP mix (by simp[f151]) ?_;simp[f151];refine ci (P0 (b:=0) (x:=.sl 1 v 1 0 n) rfl) ?_;simp;refine⟨⟨DN t,by rw[xj];omega,by rw[xj];simp only[di];omega⟩,?_⟩;have d:b2 n (dM a)=dM a:=a6 (by rw[xj];omega);simp[c,d,aHm];exact .inl rfl
theorem ari(a:List Nat)(v n:Nat)(b:n=a.length)(d:a≠[])(g:a.length<=1048576)(e:∀c∈a,c<256):cB prog 229 [.box false (.st 224 [.ptr 0 [],.sl 1 v 1 0 n]),.arr .bytes v 1 (dM a)] [.ptr 0 []]
 [.box false (.st 224 [.ptr 0 [],.sl 1 v 1 0 n]),.dead] (.p (.str a)):=by
 refine fJ nf Pc mix (by simp[f229]) ?_;have f:0<a.length:=a5.2 d;simp[f229];refine abw (aw:=v) (es:=dM a) rfl rfl (by rw[b];exact f) (by simp[dM,b]) ?_;simp;refine adY (aw:=v) (es:=dM a) (l:=a) rfl rfl rfl (by omega) (by simp[xj,b]) (by omega) rfl ?_ ?_ ?_ ?_
 ·kernel_rfl
 ·kernel_rfl
 ·rw[a6 (by rw[xj];simp[b])];exact Kc a e
 simp
 repeat' with_reducible refine And.intro ?_ ?_
 all_goals rfl
theorem Dh{σ:Nat->Nat}:∀{a b:List AV},cR σ (a++b)=cR σ a++cR σ b
 |[],b=>by simp[cR]
 |x::a,b=>by simp[cR,Dh (a:=a)]
theorem AP:au wB tB=[tB]:=uF (by decide) (by decide)
theorem Xz(a:NI)(hs:a.sm=true):aA prog 250 [eI a] (.str (bL a.v)):=by
 refine aG nf EO mix (by simp[f250]) ?_;have b:=NI.qx hs;simp[f250,aa,mq hs,nm hs,dC,cW];refine c1 (Ip a.v b.1 b.2) ?_;simp
theorem Nw{m k A L:Nat}(e:0<m)(h:m*tB^k<=A)(a:A<wB^L):k<64*L:=by
 have b:2^k<=tB^k:=fm (by decide) k;have c:tB^k<=m*tB^k:=Nat.le_mul_of_pos_left _ e;rw[show wB=2^64 from rfl,<-gg]at a;have d:2^k<2^(64*L):=ed (ei b (ei c h)) a
 rwa [Nat.pow_lt_pow_iff_right (by decide)]at d
theorem Xy(a:NI)(hs:a.sm=false)(Z:okW a.v)(ax:(bc a.v.natAbs).length<=1000000):aA prog 250 [eI a] (.str (bL a.v)):=by
 have N:=n8 (eI a) a.v (mv a);have aL:=NI.AD (a:=a) (by rw[hs];decide);have aj:=ec (cq bh a.v.natAbs) (eb (show 0<wB by decide) (n6 Z));obtain⟨c,cs,G⟩:=ov hs;refine aG nf EO mix (by simp[f250]) ?_;simp[f250,aa,G,dC,cW];refine c1 N ?_;simp;refine sU (fun s'=>∃b:List (List Nat),jC 0 b=jC a.v.natAbs []/\(∀p∈b,p≠[]/\p.length<=18)/\b≠[]/\b.length<=57600000/\aN s'.env 3=.p (.bool (decide (a.v<0)))/\aN s'.env 6=.sl 2 b.length 1 0 b.length/\∃o,s'.heap=[.hole,o,.arr .grow b.length 1 (b.map fun p=>.p (.str p))]) ?_ ?_
 ·refine lp (α:=Nat×List (List Nat)×Bool) (fun x=>⟨[(6,.sl 2 x.2.1.length 1 0 x.2.1.length),(5,.sl 1 0 1 0 1),(4,.p (eN x.1)),(3,.p (.bool (decide (a.v<0))))],[.hole,.arr (if x.2.2=true then .frozen else .exact) 0 1 [.p (.int .u64 1000000000000000000)],.arr .grow x.2.1.length 1 (x.2.1.map fun p=>.p (.str p))]⟩)
   (fun x=>x.1<=a.v.natAbs/\jC x.1 x.2.1=jC a.v.natAbs []/\(∀p∈x.2.1,p≠[]/\p.length<=18)/\x.2.1.length<=57600000/\x.1*tB^x.2.1.length<=a.v.natAbs) (fun x=>x.1) (a.v.natAbs,[],false) ⟨ee _,rfl,by simp,by simp,by simp⟩ ?_
  rintro⟨m,b,f⟩ ⟨k1,k2,k3,k5,k4⟩;dsimp only at k1 k2 k3 k5 k4;rcases f with _|_
  ·simp only[a0,if_false];have ay:(au wB m).length<=900000:=by
    have:=dQ bh _ _ (ed k1 (cq bh a.v.natAbs));have:=n6 Z;omega
   by_cases hm:m=0
   ·subst hm;have ac:b≠[]:=by
     rintro rfl;rw[jC,jC,if_pos rfl,if_neg (by omega)]at k2;have:=Ab a.v.natAbs;rw[b3,db,bl,bl]at k2;rw[<-k2]at this;simp at this
    simp[eN,lJ];refine⟨b,k2,k3,ac,k5,?_⟩;simp
   ·have d:=Ds m tB (by decide) (by omega) (by rw[AP];decide);have ab:au wB m≠[]:=mt tX.1 hm;have C:0<(au wB m).length:=a5.2 ab;have aK:=Lp hm b;have B:∀p∈b++[eJ m],p≠[]/\p.length<=18:=by
     intro p N;rcases dl.1 N with h|h
     ·exact k3 p h
     ·rw[c6.1 h];exact⟨Kp m,Kq m⟩
    have A:m/tB<m:=fZ (by omega) (by decide);have aB:=Nw (show 0<m by omega) k4 aj;have w:m/tB*tB^(b++[eJ m]).length<=a.v.natAbs:=by
     rw[bb,a7,ew,fa (tB^b.length),<-e6];exact ei (fd _ (fv _ _)) k4
    have y:(b++[eJ m]).length<=57600000:=by rw[bb,a7];omega
    have r:m% tB<tB:=gj _ (by decide);have Q:m/tB=0->m% tB=m:=fun h=>by have:=ej m tB;rw[h]at this;omega
    simp only[eN]at d⊢;rw[AP]at d;have P:=tX (n:=m/tB);have L:=PH (m% tB) (e7 r (by decide));have q:=PI [48] (18-(bc (m% tB)).length) (by omega) (by simp;omega);have aC:=D0 r;have ad:=Rv r;rw[Dg]at q;have l:eJ m=if m/tB=0 then bc (m% tB)else a9 (18-(bc (m% tB)).length) 48++bc (m% tB):=by
     rw[eJ,ad];split
     ·rename_i h;rw[Q h]
     ·rfl
    have s:a3.wrap (18-((bc (m% tB)).length:Int))=(18-(bc (m% tB)).length:Nat):=by rw[aO _ (by omega) (by omega)];omega
    have aF:((18-(bc (m% tB)).length:Nat):Int)=18-((bc (m% tB)).length:Int):=by omega
    have u:∀t,t=eJ m->(b.map fun p=>AV.p (.str p))++[AV.p (.str t)]=(b++[eJ m]).map fun p=>AV.p (.str p):=fun t e=>by rw[e];simp
    by_cases F:m% tB=0
    ·have j:¬m/tB=0:=fun h=>hm (by rw[<-Q h];exact F);have E:0<(au wB (m/tB)).length:=a5.2 (mt P.1 j);have e:a9 (18-(bc (m% tB)).length) 48++bc (m% tB)=eJ m:=by rw[l,if_neg j]
     rw[F,mT]at e q s;rw[F,lJ]at d;simp only[a7]at e q s;have hf:=u _ e;generalize D:au wB (m/tB)=ai at*;simp[C];refine cp d (by simp;exact⟨rfl,rfl⟩) ?_ (h1:=by simp[tB]);simp[E,s];refine c2 q ?_;simp;refine⟨by simp only[di];omega,?_⟩;refine rd (m/tB,b++[eJ m],true) ⟨by omega,by rw[aK];exact k2,by simpa using B,y,w⟩ A (he:=by simp[D]) (hh:=by simp only[<-hf];simp) (hr2:=by simp only[<-hf];simp)
    ·have af:au wB (m% tB)=[m% tB]:=uF (by omega) (e7 r (by decide));rw[af]at d
     by_cases j:m/tB=0
     ·have e:bc (m% tB)=eJ m:=by rw[l,if_pos j]
      have hf:=u _ e;rw[j,lJ]at d;simp[C];refine cp d (by simp;exact⟨rfl,rfl⟩) ?_ (h1:=by simp[tB]);simp;refine c2 L ?_;simp;refine⟨by simp only[di];omega,?_⟩;refine rd (m/tB,b++[eJ m],true) ⟨by omega,by rw[aK];exact k2,by simpa using B,y,w⟩ A (he:=by simp[j,lJ]) (hh:=by simp only[<-hf];simp) (hr2:=by simp only[<-hf];simp)
     ·have E:0<(au wB (m/tB)).length:=a5.2 (mt P.1 j);have e:a9 (18-(bc (m% tB)).length) 48++bc (m% tB)=eJ m:=by rw[l,if_neg j]
      have hf:=u _ e;generalize D:au wB (m/tB)=ai at*;simp[C];refine cp d (by simp;exact⟨rfl,rfl⟩) ?_ (h1:=by simp[tB]);simp;refine c2 L ?_;simp[E,s];refine c2 q ?_;simp;refine⟨by omega,by simp only[di];omega,?_⟩;refine rd (m/tB,b++[eJ m],true) ⟨by omega,by rw[aK];exact k2,by simpa using B,y,w⟩ A (he:=by simp[D]) (hh:=by simp only[<-hf];simp) (hr2:=by simp only[<-hf];simp)
  ·simp only[if_true];have ay:(au wB m).length<=900000:=by
    have:=dQ bh _ _ (ed k1 (cq bh a.v.natAbs));have:=n6 Z;omega
   by_cases hm:m=0
   ·subst hm;have ac:b≠[]:=by
     rintro rfl;rw[jC,jC,if_pos rfl,if_neg (by omega)]at k2;have:=Ab a.v.natAbs;rw[b3,db,bl,bl]at k2;rw[<-k2]at this;simp at this
    simp[eN,lJ];refine⟨b,k2,k3,ac,k5,?_⟩;simp
   ·have d:=Ds m tB (by decide) (by omega) (by rw[AP];decide);have ab:au wB m≠[]:=mt tX.1 hm;have C:0<(au wB m).length:=a5.2 ab;have aK:=Lp hm b;have B:∀p∈b++[eJ m],p≠[]/\p.length<=18:=by
     intro p N;rcases dl.1 N with h|h
     ·exact k3 p h
     ·rw[c6.1 h];exact⟨Kp m,Kq m⟩
    have A:m/tB<m:=fZ (by omega) (by decide);have aB:=Nw (show 0<m by omega) k4 aj;have w:m/tB*tB^(b++[eJ m]).length<=a.v.natAbs:=by
     rw[bb,a7,ew,fa (tB^b.length),<-e6];exact ei (fd _ (fv _ _)) k4
    have y:(b++[eJ m]).length<=57600000:=by rw[bb,a7];omega
    have r:m% tB<tB:=gj _ (by decide);have Q:m/tB=0->m% tB=m:=fun h=>by have:=ej m tB;rw[h]at this;omega
    simp only[eN]at d⊢;rw[AP]at d;have P:=tX (n:=m/tB);have L:=PH (m% tB) (e7 r (by decide));have q:=PI [48] (18-(bc (m% tB)).length) (by omega) (by simp;omega);have aC:=D0 r;have ad:=Rv r;rw[Dg]at q;have l:eJ m=if m/tB=0 then bc (m% tB)else a9 (18-(bc (m% tB)).length) 48++bc (m% tB):=by
     rw[eJ,ad];split
     ·rename_i h;rw[Q h]
     ·rfl
    have s:a3.wrap (18-((bc (m% tB)).length:Int))=(18-(bc (m% tB)).length:Nat):=by rw[aO _ (by omega) (by omega)];omega
    have aF:((18-(bc (m% tB)).length:Nat):Int)=18-((bc (m% tB)).length:Int):=by omega
    have u:∀t,t=eJ m->(b.map fun p=>AV.p (.str p))++[AV.p (.str t)]=(b++[eJ m]).map fun p=>AV.p (.str p):=fun t e=>by rw[e];simp
    by_cases F:m% tB=0
    ·have j:¬m/tB=0:=fun h=>hm (by rw[<-Q h];exact F);have E:0<(au wB (m/tB)).length:=a5.2 (mt P.1 j);have e:a9 (18-(bc (m% tB)).length) 48++bc (m% tB)=eJ m:=by rw[l,if_neg j]
     rw[F,mT]at e q s;rw[F,lJ]at d;simp only[a7]at e q s;have hf:=u _ e;generalize D:au wB (m/tB)=ai at*;simp[C];refine cp d (by simp;exact⟨rfl,rfl⟩) ?_ (h1:=by simp[tB]);simp[E,s];refine c2 q ?_;simp;refine⟨by simp only[di];omega,?_⟩;refine rd (m/tB,b++[eJ m],true) ⟨by omega,by rw[aK];exact k2,by simpa using B,y,w⟩ A (he:=by simp[D]) (hh:=by simp only[<-hf];simp) (hr2:=by simp only[<-hf];simp)
    ·have af:au wB (m% tB)=[m% tB]:=uF (by omega) (e7 r (by decide));rw[af]at d
     by_cases j:m/tB=0
     ·have e:bc (m% tB)=eJ m:=by rw[l,if_pos j]
      have hf:=u _ e;rw[j,lJ]at d;simp[C];refine cp d (by simp;exact⟨rfl,rfl⟩) ?_ (h1:=by simp[tB]);simp;refine c2 L ?_;simp;refine⟨by simp only[di];omega,?_⟩;refine rd (m/tB,b++[eJ m],true) ⟨by omega,by rw[aK];exact k2,by simpa using B,y,w⟩ A (he:=by simp[j,lJ]) (hh:=by simp only[<-hf];simp) (hr2:=by simp only[<-hf];simp)
     ·have E:0<(au wB (m/tB)).length:=a5.2 (mt P.1 j);have e:a9 (18-(bc (m% tB)).length) 48++bc (m% tB)=eJ m:=by rw[l,if_neg j]
      have hf:=u _ e;generalize D:au wB (m/tB)=ai at*;simp[C];refine cp d (by simp;exact⟨rfl,rfl⟩) ?_ (h1:=by simp[tB]);simp;refine c2 L ?_;simp[E,s];refine c2 q ?_;simp;refine⟨by omega,by simp only[di];omega,?_⟩;refine rd (m/tB,b++[eJ m],true) ⟨by omega,by rw[aK];exact k2,by simpa using B,y,w⟩ A (he:=by simp[D]) (hh:=by simp only[<-hf];simp) (hr2:=by simp only[<-hf];simp)
 ·rintro⟨aI,aM⟩ ⟨b,q1,aH,V,q4,ar,T,o,am⟩;dsimp only at ar T am;subst am;have aD:0<b.length:=a5.2 V;have ae:bc a.v.natAbs=b.reverse.flatten:=by rw[<-Xo,q1,jC,if_neg (by omega)];simp
  obtain⟨neg,M⟩:∃neg:Bool,neg=decide (a.v<0):=⟨_,rfl⟩
  obtain⟨S,O⟩:∃S:List Nat,S=if neg=true then[45]else[]:=⟨_,rfl⟩
  have an:bL a.v=S++b.reverse.flatten:=by
   rw[bL,<-ae,O,M]
   by_cases h:a.v<0
   ·simp[h]
   ·simp[h]
  obtain⟨g,J⟩:∃g:Nat->List Nat,g=fun k=>S++(b.reverse.take k).flatten:=⟨_,rfl⟩
  have K:g b.length=bL a.v:=by rw[J,an];dsimp only;rw[a6 (by simp)]
  have aE:∀k,(b.reverse.take k).flatten.length<=1000000:=fun k=>by
   have av:b.reverse.flatten=(b.reverse.take k).flatten++(b.reverse.drop k).flatten:=by rw[<-cx,bo]
   rw[ae,av,bb]at ax;omega
  have aP:S.length<=1:=by rw[O];split<;>simp
  have X:∀k,(g k).length<=1000001:=fun k=>by rw[J];dsimp only;rw[bb];have:=aE k;omega
  have l:∀k(h:k<b.length),g (k+1)=g k++b[b.length-1-k]'(by omega):=fun k h=>by
   rw[J];dsimp only;rw[bk (by simpa using h),cx,List.getElem_reverse,<-List.append_assoc];simp
  have aw:∀c∈bL a.v,c<256:=by
   intro c hc;rw[bL]at hc;have d:=oF a.v.natAbs;rw[List.all_eq_true]at d
   split at hc
   ·rcases dq.1 hc with h|h
    ·omega
    ·exact Mo (d c h)
   ·exact Mo (d c hc)
  have ag:a3.wrap ((b.length:Int)-1)=b.length-1:=aO _ (by omega) (by omega);have ak:∀i(h:i<b.length),b[i]≠[]/\b[i].length<=18:=fun i h=>aH _ (b4 h);have H:=ari (g b.length) (if neg=true then b.length else b.length-1) (g b.length).length rfl (by rw[K,an];intro h;rw[List.append_eq_nil_iff,<-ae]at h;have:=Ab a.v.natAbs;rw[h.2]at this;simp at this) (by have:=X b.length;omega) (by rw[K];exact aw);simp[ar,T,ag]
  by_cases U:a.v<0
  ·rw[decide_eq_true U]at M;subst M;have az:g 0=[45]:=by rw[J,O];simp
   simp only[if_true]at H;simp[U];refine cf (P1 [45] (by simp) (by simp)) [3] ?_;simp[bf,sig,T,ag];refine lp (α:=Nat) (fun k=>⟨[(11,.p (.int .i64 ((b.length:Int)-1-k))),(10,.ptr 3 []),(6,.sl 2 b.length 1 0 b.length)],[.hole,.hole,.arr .grow b.length 1 (b.map fun p=>.p (.str p)),.box false (.st 224 [.ptr 3 [],.sl 4 k 1 0 (g k).length]),.arr .bytes k 1 (dM (g k))]⟩)
    (fun k=>k<=b.length) (fun k=>b.length-k) 0 (by simp) ?_ (he:=by simp[T]) (hh:=by simp[az,dM]) (hr2:=by simp[dM])
   intro k hk
   by_cases z:k<b.length
   ·have G:a3.wrap ((b.length:Int)-1-k-1)=b.length-1-(k+1:Nat):=by rw[aO _ (by omega) (by omega)];omega
    have e1:((b.length:Int)-1-k).toNat=b.length-1-k:=by omega
    have I:(k:Int)<=(b.length:Int)-1:=by omega
    have R:b.length-1-k<b.length:=by omega
    have hx:=ak _ R;have ah:=P2 (g k) (b[b.length-1-k]) k (g k).length rfl hx.1 (by omega) (by have:=X k;omega);simp[I,e1,R,V];refine cf ah [3,4] ?_ (ak:=by simp[sig,dM]) (aJ:=by simp[sig]) (hr:=by simp[dM]);simp[sig,dM,bf,G,Dh];refine rd (k+1) z (he:=by simp[l k z]) (hh:=by simp[l k z,dM]) (hr2:=by simp[dM])
   ·have Y:k=b.length:=by omega
    subst Y;have W:¬(b.length:Int)<=(b.length:Int)-1:=by omega
    simp[W];refine cf H [3,4] ?_ (ak:=by simp[sig,dM]) (aJ:=by simp[sig]) (hr:=by simp[dM]);simp[sig,bf,K]
  ·rw[decide_eq_false U]at M;subst M;simp only[a0,if_false]at H O;have al:g 1=b[b.length-1]:=by rw[l 0 aD,J];simp[O]
   have aq:b.length-1<b.length:=by omega
   have ap:=ak _ aq;have ao:=P1 (b[b.length-1]) ap.1 (by omega);rw[<-al]at ao ap;simp[U,ag]
   refine lp (α:=Option Nat) (fun st=>match st with
     |none=>⟨[(11,.p (.int .i64 ((b.length:Int)-1))),(10,.ptr 3 []),(6,.sl 2 b.length 1 0 b.length)],[.hole,.hole,.arr .grow b.length 1 (b.map fun p=>.p (.str p)),.box false (.p (.st 224 [.dJ,.aW]))]⟩
     |some k=>⟨[(11,.p (.int .i64 ((b.length:Int)-1-(k+1)))),(10,.ptr 3 []),(6,.sl 2 b.length 1 0 b.length)],[.hole,.hole,.arr .grow b.length 1 (b.map fun p=>.p (.str p)),.box false (.st 224 [.ptr 3 [],.sl 4 k 1 0 (g (k+1)).length]),.arr .bytes k 1 (dM (g (k+1)))]⟩)
    (fun st=>match st with
     |none=>True
     |some k=>k+1<=b.length) (fun st=>match st with
     |none=>b.length+1
     |some k=>b.length-(k+1)) none trivial ?_ (he:=by simp[T])
   intro st hk;cases st with
   |none=>
    have G:a3.wrap ((b.length:Int)-1-1)=b.length-1-(0+1):=by rw[aO _ (by omega) (by omega)];omega
    have e1:((b.length:Int)-1).toNat=b.length-1:=by omega
    have I:(1:Int)<=(b.length:Int):=by omega
    simp[I,e1,aq,V,<-al];refine cf ao [3] ?_;simp[bf,sig,G];refine rd (some 0) (by show 0+1<=b.length;omega) (by show b.length-(0+1)<b.length+1;omega) (he:=by simp) (hh:=by simp[dM]) (hr2:=by simp[dM])
   |some k=>
    have hk:k+1<=b.length:=hk
    by_cases z:k+1<b.length
    ·have G:a3.wrap ((b.length:Int)-1-(k+1)-1)=b.length-1-(k+1+1):=by rw[aO _ (by omega) (by omega)];omega
     have e1:((b.length:Int)-1-(k+1)).toNat=b.length-1-(k+1):=by omega
     have I:(k:Int)+1<=(b.length:Int)-1:=by omega
     have R:b.length-1-(k+1)<b.length:=by omega
     have hx:=ak _ R;have ah:=P2 (g (k+1)) (b[b.length-1-(k+1)]) k (g (k+1)).length rfl hx.1 (by omega) (by have:=X (k+1);omega);simp[I,e1,R,V];refine cf ah [3,4] ?_ (ak:=by simp[sig,dM]) (aJ:=by simp[sig]) (hr:=by simp[dM]);simp[sig,dM,bf,G,Dh];refine rd (some (k+1)) z (by show b.length-(k+1+1)<b.length-(k+1);omega) (he:=by simp[l (k+1) z]) (hh:=by simp[l (k+1) z,dM]) (hr2:=by simp[dM])
    ·have Y:b.length=k+1:=by omega
     have W:¬(k:Int)+1<=(b.length:Int)-1:=by omega
     rw[Y]at H K;rw[em]at H;simp[W];refine cf H [3,4] ?_ (ak:=by simp[sig,dM]) (aJ:=by simp[sig]) (hr:=by simp[dM]);simp[sig,bf,K]
theorem Dt(a:NI)(c:okW a.v)(b:(bc a.v.natAbs).length<=1000000):aA prog 250 [eI a] (.str (bL a.v)):=by
 rcases h:a.sm with _|_
 ·exact Xy a h c b
 ·exact Xz a h
open Go
theorem K6:∀(r:List Nat)(a:Nat),a<=r.foldl (fun n c=>n*10+(c-48)) a
 |[],a=>ee _
 |x::r,a=>ei (show a<=a*10+(x-48)by omega) (K6 r _)
theorem KQ:∀(d:List Nat)(a:Nat),d.all cm=true->d.foldl (fun n c=>n*10+(c-48)) a<1000000000000000000->Lib.parseUint10 a (d.map gx)=.ok (d.foldl (fun n c=>n*10+(c-48)) a)
 |[],a,_,_=>rfl
 |c::r,a,h,b=>by
  simp only[ce,aT]at h;have hc:=h.1;simp only[cm,aT,decide_eq_true_eq]at hc;have f:=K6 r (a*10+(c-48));rw[cb]at b⊢;have e:(gx c).toNat=c:=by simp;omega
  rw[be,Lib.parseUint10,e,if_pos hc,if_neg (by omega),if_neg (by omega)];exact KQ r _ h.2 b
theorem Yv{d:List Nat}(h:d.all cm=true)(b:d≠[])(f:d.length<=18):Lib.atoiAll (d.map gx)=.ok (aZ d):=by
 have i:=jq _ d rfl h;have j:10^d.length<=10^18:=eb (by omega) f;cases d with
 |nil=>exact(b rfl).elim
 |cons c r=>
  have hc:=(aT ..▸(ce▸h):cm c=true/\r.all cm=true).1;simp only[cm,aT,decide_eq_true_eq]at hc;have e:(gx c).toNat=c:=by simp;omega
  have g:aZ (c::r)<1000000000000000000:=by omega
  have a:=KQ (c::r) 0 h g;rw[<-aZ]at a;rw[be]at a;rw[be,Lib.atoiAll];simp only[e];rw[if_neg (by omega),Lib.parseMag,if_neg (by simp),a];dsimp only;rw[if_neg (by omega),if_neg (by omega),if_neg (by omega)]
theorem C1:∀(b:List Nat)(x:Nat),b.foldl (fun n c=>n*10+(c-48)) x=x*10^b.length+aZ b
 |[],x=>by simp[aZ]
 |c::b,x=>by
  rw[aZ,cb,cb,C1 b,C1 b (0*10+(c-48)),da,ew,gi,e6,fa 10];simp[gb]
theorem Lm(a b:List Nat):aZ (a++b)=aZ a*10^b.length+aZ b:=by
 rw[aZ,List.foldl_append,C1];rfl
theorem MJ(k:Nat):10^k<=2^(4*k):=by
 rw[gg];exact fm (by decide) k
theorem Lt{a K:Nat}(h:4*a<=K):10^a<=2^K:=ei (MJ a) (eb (by decide) h)
theorem xE{n k:Nat}(h:n<2^k)(hk:k<=3*1000000):(bc n).length<=1000000:=
 ym h hk (by decide)
theorem z8(a:NF)(h:bI kB a.q):aA prog 168 [eF a] (.str (bn a.q)):=by
 have f:kB=100000:=rfl;have w:=C6 a;have c:=Dt a.num (gZ h.1 qW) (xE h.1 (by omega));have d:=Dt a.den (gZ (by rw[ki];exact h.2) qW) (xE (by rw[ki];exact h.2) (by omega));rw[lI]at c;rw[jx,wK]at d;have g:=xE h.1 (show kB<=3*1000000 by omega);have i:=xE h.2 (show kB<=3*1000000 by omega);have j:=DO a.q.num;refine aG nf Pn mix (by simp[f168]) ?_;rw[bn]
 by_cases b:a.q.den=1
 ·have e:a.fB=true:=by simp[NF.fB,b]
  rw[e]at w;rw[if_pos b];simp[f168];refine c1 w ?_;simp[aa];refine c1 c ?_;simp
 ·have e:a.fB=false:=by simp[NF.fB,b]
  rw[e]at w;rw[if_neg b];simp[f168];refine c1 w ?_;simp[aa];refine e1 c ?_;simp[aa];refine⟨by omega,?_⟩;refine e1 d ?_;simp;omega
def kR:Nat:=2800
theorem AG(s:List Nat)(i:(cU s).all cm=true)(E:(cU s).length<=700):aA prog 185 [.str s] (eI (.mk' (if bZ s=true then -(aZ (cU s):Int)else aZ (cU s)))):=by
 refine aG nf GW mix (by simp[f185]) ?_;simp[f185];refine c2 (YR s) ?_;simp;refine c2 (KS s) ?_;simp;generalize cU s=d at*;generalize bZ s=neg at*;have w:fj 0=eI (.mk' 0):=(oC (by decide) (by decide)).symm;rw[show PV.st 130 [.int .i64 0,.aW]=eI (.mk' 0)from w];refine lp (α:=List Nat×NI) (fun x=>⟨[(4,.ptr 1 []),(3,.p (.bool neg)),(2,.ptr 0 []),(0,.p (.str x.1))],[.box false (.p (eI (.mk' 0))),.box false (.p (eI x.2))]⟩)
  (fun x=>∃m:Nat,x.2.v=m/\m*10^x.1.length+aZ x.1=aZ d/\x.1.all cm=true/\x.1.length<=700/\m<2^kR) (fun x=>x.1.length) (d,.mk' 0) ⟨0,rfl,by simp,i,E,fb (by decide)⟩ ?_
 rintro⟨r,o⟩ ⟨m,k1,k2,k3,k4,k5⟩;dsimp only at k1 k2 k3 k4 k5;have S:kR=2800:=rfl;have c:o.v.natAbs<2^kR:=by rw[k1,a4];exact k5
 have I:okW o.v:=gZ c (by have:kB=100000:=rfl;omega)
 by_cases f:r=[]
 ·subst f;have u:o.v=aZ d:=by rw[k1];simp[aZ]at k2⊢;omega
  cases neg
  ·have e:eI (.mk' (aZ d:Nat))=eI o:=nt (by rw[NI.iv,u]) (fun h=>by rw[NI.iv]at h;omega);simp;rw[e];simp[aa]
  ·have e:eI (.mk' (-(aZ d:Nat)))=eI o.neg:=by rw[NI.neg,u]
   simp;rw[e];refine c1 (uU o I) ?_;simp[aa]
 ·have L:0<r.length:=a5.2 f;obtain⟨n,U⟩:∃n,n=min 18 r.length:=⟨_,rfl⟩
  have j:n<=r.length:=by omega
  have V:0<n:=by omega
  have G:n<=18:=by omega
  have H:(if(r.length:Int)<18 then(r.length:Int)else 18)=n:=by split<;>omega
  have g:(r.take n).length=n:=by rw[c9];omega
  have a:=k3;rw[<-bo n r,List.all_append,aT]at a;have N:=jq _ (r.take n) rfl a.1;have C:=Ir (r.take n) (aZ (r.take n)) (Yv a.1 (by intro e;rw[e]at g;simp at g;omega) (by omega)) (by omega);rw[g]at N;have q:10^n<=10^18:=eb (by decide) G;have z:10^n<wB^1:=by rw[ge];exact ed q (by decide)
  have A:((10^n:Nat):Int).natAbs<2^64:=by rw[a4];exact ed q (by decide)
  have O:=dQ bh 1 _ z;have W:=zP c;have P:kB=100000:=rfl;have X:=jq _ d rfl i;have Q:10^d.length<=2^kR:=Lt (by have:kR=2800:=rfl;omega);have J:=Y9 (.of 10) n (10^n) (by decide) rfl (by omega) (by decide) (by omega);have F:=A5 o (.mk' (10^n:Nat)) (by rw[NI.iv,a4];omega);have B:=yh (o.mul (.mk' (10^n:Nat))) (.of (aZ (r.take n):Nat)) (gZ (pV (x:=o.v) (y:=((10^n:Nat):Int)) c A) (by omega)) (gZ (k:=64) (show((aZ (r.take n):Nat):Int).natAbs<2^64 by rw[a4];omega) (by omega));have l:=sS (aZ (r.take n):Nat);rw[<-uX (by omega) (by omega)]at l;have t:=sS 10;rw[<-uX (by decide) (by decide)]at t;have M:aZ r=aZ (r.take n)*10^(r.drop n).length+aZ (r.drop n):=by rw[<-Lm,bo]
  have K:r.length=n+(r.drop n).length:=by rw[List.length_drop];omega
  have D:(m*10^n+aZ (r.take n))*10^(r.drop n).length+aZ (r.drop n)=aZ d:=by
   rw[<-k2,M,K,Nat.pow_add,gi,e6,gb]
  generalize 10^n=T at*;generalize Y:aZ (r.take n)=b at*;have R:m*T+b<=aZ d:=by
   have:=Nat.le_mul_of_pos_right (m*T+b) (show 0<10^(r.drop n).length from fb (by decide));omega
  simp[f,L,H];refine⟨j,?_⟩;refine c1 C ?_;simp;refine e1 t ?_;simp;refine e2 J ?_;simp[aa];refine e2 F ?_;simp;refine e1 l ?_;simp;refine e2 B ?_;simp[aa];refine⟨rfl,j,?_⟩;refine rd (r.drop n,(o.mul (.mk' T)).add (.of b)) ⟨m*T+b,by rw[NI.sM,NI.mn,NI.iv,k1];rfl,D,a.2,by dsimp only;omega,by omega⟩ (by dsimp only;omega)
theorem Dn{s:List Nat}(h:dF s=true):bZ s=false/\cU s=s:=by
 have b:=jf h;have:bZ s=false:=by
  rw[bZ,decide_eq_false_iff_not];intro a;cases s with
  |nil=>simp at a
  |cons c r=>
   simp at a;subst a;rw[ce,aT]at b;simp[cm]at b
 exact⟨this,by rw[cU,this];rfl⟩
theorem K9(s:List Nat):bZ (b9 47 s).1=bZ s/\cU (b9 47 s).1=bH s/\(b9 47 s).2.1=bQ s/\(b9 47 s).2.2=et s:=by
 cases s with
 |nil=>exact⟨rfl,rfl,rfl,rfl⟩
 |cons c r=>
  by_cases h:c=45
  ·subst h;have e:b9 47 (45::r)=(45::(b9 47 r).1,(b9 47 r).2.1,(b9 47 r).2.2):=by rw[b9,if_neg (by decide)]
   rw[e];exact⟨rfl,rfl,rfl,rfl⟩
  ·have b:bZ (c::r)=false:=by rw[bZ,decide_eq_false_iff_not];simpa using h
   have a:cU (c::r)=c::r:=by rw[cU,b];rfl
   have d:bZ (b9 47 (c::r)).1=false:=by
    rw[bZ,decide_eq_false_iff_not,b9]
    split
    ·simp
    ·simpa using h
   refine⟨by rw[b,d],?_,?_,?_⟩
   ·rw[cU,d,bH,a];rfl
   ·rw[bQ,a]
   ·rw[et,a]
theorem YK{s:List Nat}(h:bK s=0):dF (bH s)=true/\(bH s).length<=600/\(bQ s).length<=600/\(et s=true->dF (bQ s)=true):=by
 unfold bK at h
 split at h
 ·cases h
 rename_i a
 split at h
 ·cases h
 rename_i d;have a:jN s=true:=by simpa using a
 simp only[jN,aT,Bool.or_eq_true,Bool.not_eq_true']at a;refine⟨a.1.1,by omega,by omega,fun c=>?_⟩;rcases a.2 with b|b
 ·rw[c]at b;cases b
 ·exact b.1.1
theorem Ty(z:Int):cU (bL z)=bc z.natAbs:=by
 have:=(zE z []).2;simpa using this
theorem qf(c:Nat):∀s:List Nat,(b9 c s).1.length<=s.length/\(b9 c s).2.1.length<=s.length/\(∀x∈(b9 c s).1,x∈s)/\(∀x∈(b9 c s).2.1,x∈s)
 |[]=>by simp[b9]
 |y::r=>by
  have a:=qf c r;rw[b9]
  split
  ·simp;intro x hx;exact .inr hx
  ·simp only[da,dq];refine⟨by omega,by omega,?_,fun x hx=>.inr (a.2.2.2 x hx)⟩;rintro x (rfl|hx)
   ·exact .inl rfl
   ·exact .inr (a.2.2.1 x hx)
theorem pW(s:List Nat):(cU s).length<=s.length/\∀x∈cU s,x∈s:=by
 rw[cU]
 split
 ·exact⟨by simp,fun x hx=>List.mem_of_mem_tail hx⟩
 ·exact⟨ee _,fun _ h=>h⟩
theorem jP(s:List Nat)(h:bK s=0)(n:s.length<=1048576):aA prog 93 [.str s] (eF ⟨aL s,false⟩):=by
 obtain⟨l,t,u,m⟩:=YK h;obtain⟨o,f,p,q⟩:=K9 s;obtain⟨q1,r,a⟩:=fU h;have b:=PG s 47 n;rw[p,q]at b;have c:=AG (b9 47 s).1 (by rw[f];exact jf l) (by rw[f];omega);rw[o,f]at c;have j:eI (NF.mk (aL s) false).num=eI (.mk' (if bZ s=true then -(aZ (bH s):Int)else aZ (bH s))):=by
  show eI ⟨(aL s).num,false⟩=_;rw[r];rfl
 rw[<-j]at c;refine aG nf Q8 mix (by simp[f93]) ?_;cases hf:et s
 ·rw[hf]at b a;simp only[a0,if_false]at a;have e:(NF.mk (aL s) false).den=.mk' 1:=by
   show NI.mk' ((aL s).den:Int)=_;rw[a];rfl
  have i:=Ec (NF.mk (aL s) false).num;have k:eF (.whole (NF.mk (aL s) false).num)=eF ⟨aL s,false⟩:=by
   rw[eF,eF,e];rfl
  rw[k]at i;simp[f93];refine c2 b ?_;simp;refine c1 c ?_;simp;refine c1 i ?_;simp[aa]
 ·rw[hf]at b a;simp only[if_true]at a;have g:=m hf;obtain⟨d1,d2⟩:=Dn g;have d:=AG (bQ s) (by rw[d2];exact jf g) (by rw[d2];omega);rw[d1,d2]at d;simp only[a0,if_false]at d;have e:eI (NF.mk (aL s) false).den=eI (.mk' (aZ (bQ s):Nat)):=by
   show eI (NI.mk' ((aL s).den:Int))=_;rw[a]
  rw[<-e]at d;rw[eF];simp[f93];refine c2 b ?_;simp;refine c1 c ?_;simp;refine c1 d ?_;simp[aa]
def kN(n:Nat):Bool:=decide (600<(bc n).length)
theorem OV(a:NI)(h:a.v.natAbs<2^kB):aA prog 249 [eI a] (.bool (kN a.v.natAbs)):=by
 have l:kB=100000:=rfl;have d:=gZ h qW;have g:=Y3 a d;have i:=Dt a d (xE h (by omega));have c:=KS (bL a.v);rw[Ty]at c;refine aG nf Oj mix (by simp[f249]) ?_;simp[f249];refine c1 g ?_
 by_cases j:1800<oD a.v.natAbs
 ·have b:(1800:Int)<(oD a.v.natAbs:Nat):=by omega
  have e:decide ((600:Int)<((bc a.v.natAbs).length:Nat))=kN a.v.natAbs:=by rw[kN,decide_eq_decide];omega
  simp[b];refine c1 i ?_;simp;refine c2 c ?_;simp[kN];omega
 ·have f:=ec (LN a.v.natAbs) (eb (show 0<2 by decide) (show oD a.v.natAbs<=3*600 by omega));have k:=Ad f (by decide);have e:kN a.v.natAbs=false:=by rw[kN,decide_eq_false_iff_not];omega
  have b:¬(1800:Int)<(oD a.v.natAbs:Nat):=by omega
  simp[b,e]
def yy(q:Rat):Bool:=kN q.num.natAbs||kN q.den
theorem Ah(a:NF)(h:bI kB a.q):aA prog 167 [eF a] (.bool (yy a.q)):=by
 have b:=OV a.num h.1;have c:=OV a.den (by rw[ki];exact h.2);rw[lI]at b;rw[ki]at c;refine aG nf Po mix (by simp[f167]) ?_;rw[yy];cases hc:kN a.q.num.natAbs
 ·rw[hc]at b;simp[f167,aa];refine c1 b ?_;simp[aa];refine c1 c ?_;simp
 ·rw[hc]at b;simp[f167,aa];refine c1 b ?_;simp
def u4:List (Nat×Func)->a1->Option Func
 |[],_=>none
 |(i,g)::r,f=>bif Nat.beq i f then some g else u4 r f
def BK(P:Program):List (Nat×Func)->Prop
 |[]=>True
 |p::r=>aq P p.1 p.2/\BK P r
theorem Eh{P:Program}:∀{l:List (Nat×Func)},BK P l->∀{f:Nat}{fn:Func},u4 l f=some fn->aq P f fn
 |[],_,f,fn,h=>by simp[u4]at h
 |(i,g)::r,a,f,fn,h=>by
  simp only[u4,Bool.cond_eq_ite]at h
  split at h
  ·rename_i hf;simp only[gt]at h;subst h;rw[<-Nat.eq_of_beq_eq_true hf];exact a.1
  ·exact Eh a.2 h
noncomputable def FQ:List (Nat×Func):=[(2,f2),(3,f3),(4,f4),(5,f5),(6,f6),(7,f7),(8,f8),(9,f9),(10,f10),(11,f11),(12,f12),(13,f13),(14,f14),(15,f15),(16,f16),(17,f17),(18,f18),(19,f19),(20,f20),(21,f21),(22,f22),(23,f23),(24,f24),(25,f25),(26,f26),(27,f27),(28,f28),(29,f29),(30,f30),(31,f31),(32,f32),(33,f33),(34,f34),(35,f35),(36,f36),(37,f37),(38,f38),(39,f39),(40,f40),(41,f41),(42,f42),(43,f43),(44,f44),(45,f45),(46,f46),(47,f47),(48,f48),(49,f49),(50,f50),(51,f51),(52,f52),(53,f53),(54,f54),(55,f55),(56,f56),(57,f57),(58,f58),(59,f59),(60,f60),(61,f61),(62,f62),(63,f63),(64,f64),(65,f65),(66,f66),(67,f67),(68,f68),(69,f69),(70,f70),(71,f71),(72,f72),(73,f73),(74,f74),(75,f75),(76,f76),(77,f77),(78,f78),(79,f79),(80,f80),(81,f81),(82,f82),(83,f83),(84,f84),(85,f85),(86,f86),(87,f87),(88,f88),(89,f89),(90,f90),(91,f91),(92,f92),(93,f93),(94,f94),(95,f95),(96,f96),(97,f97),(98,f98),(99,f99),(100,f100),(101,f101),(102,f102),(103,f103),(104,f104),(105,f105),(106,f106),(107,f107),(108,f108),(109,f109),(110,f110),(111,f111),(112,f112),(113,f113),(114,f114),(115,f115),(116,f116),(117,f117),(118,f118),(119,f119),(120,f120),(121,f121),(122,f122),(123,f123),(124,f124),(125,f125),(126,f126),(127,f127),(128,f128),(129,f129),(130,f130),(131,f131),(132,f132),(133,f133),(134,f134),(135,f135),(136,f136),(137,f137),(138,f138),(139,f139),(140,f140),(141,f141),(142,f142),(143,f143),(144,f144),(145,f145),(146,f146),(147,f147),(148,f148),(149,f149),(150,f150),(151,f151),(152,f152),(153,f153),(154,f154),(155,f155),(156,f156),(157,f157),(158,f158),(159,f159),(160,f160),(161,f161),(162,f162),(163,f163),(164,f164),(165,f165),(166,f166),(167,f167),(168,f168),(169,f169),(170,f170),(171,f171),(172,f172),(173,f173),(174,f174),(175,f175),(176,f176),(177,f177),(178,f178),(179,f179),(180,f180),(181,f181),(182,f182),(183,f183),(184,f184),(185,f185),(186,f186),(187,f187),(188,f188),(189,f189),(190,f190),(191,f191),(192,f192),(193,f193),(194,f194),(195,f195),(196,f196),(197,f197),(198,f198),(199,f199),(200,f200),(201,f201),(202,f202),(203,f203),(204,f204),(205,f205),(206,f206),(207,f207),(208,f208),(209,f209),(210,f210),(211,f211),(212,f212),(213,f213),(214,f214),(215,f215),(216,f216),(217,f217),(218,f218),(219,f219),(220,f220),(221,f221),(222,f222),(223,f223),(224,f224),(225,f225),(226,f226),(227,f227),(228,f228),(229,f229),(230,f230),(231,f231),(232,f232),(233,f233),(234,f234),(235,f235),(236,f236),(237,f237),(238,f238),(239,f239),(240,f240),(241,f241),(242,f242),(243,f243),(244,f244),(245,f245),(246,f246),(247,f247),(248,f248),(249,f249),(250,f250),(251,f251),(252,f252),(253,f253),(254,f254),(255,f255),(256,f256),(257,f257),(258,f258),(259,f259),(260,f260),(261,f261),(262,f262),(263,f263),(264,f264),(265,f265),(266,f266),(267,f267),(268,f268),(269,f269),(270,f270),(271,f271),(272,f272),(273,f273),(274,f274),(275,f275),(276,f276),(277,f277),(279,f279),(280,f280),(281,f281),(282,f282),(283,f283),(284,f284),(286,f286),(288,f288),(289,f289),(290,f290),(291,f291),(292,f292),(293,f293),(294,f294),(295,f295),(296,f296),(297,f297),(298,f298),(299,f299),(300,f300),(301,f301),(302,f302),(303,f303),(304,f304),(305,f305),(306,f306),(307,f307),(308,f308),(309,f309),(310,f310),(311,f311),(312,f312),(313,f313),(314,f314),(315,f315),(316,f316),(317,f317),(318,f318),(319,f319),(320,f320),(322,f322),(323,f323),(324,f324),(325,f325),(326,f326),(327,f327),(328,f328),(329,f329),(330,f330),(331,f331),(332,f332),(333,f333),(334,f334),(335,f335),(336,f336),(337,f337),(338,f338),(339,f339),(340,f340),(341,f341),(342,f342),(343,f343),(345,f345),(346,f346),(347,f347),(348,f348),(349,f349),(350,f350),(351,f351),(352,f352),(353,f353),(354,f354),(355,f355),(356,f356),(357,f357),(358,f358),(359,f359),(360,f360),(362,f362),(363,f363),(364,f364),(365,f365),(366,f366),(367,f367),(369,f369),(370,f370),(371,f371),(372,f372),(374,f374),(375,f375),(376,f376),(377,f377),(378,f378),(379,f379),(380,f380),(381,f381),(382,f382),(383,f383),(384,f384),(385,f385),(386,f386),(387,f387),(388,f388),(420,f420)]
theorem HH:BK prog FQ:=⟨axM,Fo,mE,sW,jR,aDc,aDl,Fp,aww,Qc,awC,Fj,Qd,Qe,Qf,Qg,Fk,Fl,Qh,Qi,Qj,Qk,Ql,Qm,Qn,Qo,Fm,Qp,Qq,Qr,Qs,Qt,y6,Qu,Qv,Qw,Qx,aCu,aCv,aCB,Qy,aCE,aCG,aCK,aCO,aCP,aCV,Qz,QA,QB,QC,aCW,aCX,QD,QE,QF,QG,QH,aC0,aC1,aC2,aC3,aC4,aC7,aC8,aDb,QI,QJ,QK,QL,QM,QN,QO,QP,QQ,QR,QS,QT,QU,QV,QW,QX,QY,QZ,Q0,Q1,Q2,Q3,Q5,Q6,Q7,Q8,Q9,y7,Ra,Rb,Rc,Rd,GH,GG,GF,GD,O1,GC,O0,GB,GA,He,Hd,Hc,G9,G8,G7,OZ,OY,OX,Pv,OW,Pu,awD,awE,aw0,H7,aw2,axn,H6,IG,H5,H4,B9,H3,HZ,HY,Hp,axo,axp,axq,axr,axs,axt,axu,axw,axy,axz,axA,axB,axC,axD,axE,EP,axF,axG,axH,axI,axJ,axK,Ho,Hn,Hm,Hl,ET,Ps,Pr,Pq,Pp,Po,Pn,Pm,Pk,Pj,ES,Ph,Pg,G6,G5,G4,G3,G2,G1,G0,GZ,GY,GX,GW,GV,GU,GS,GR,Pf,GQ,Pe,GP,GO,GN,GM,Pd,ER,IA,IF,Hj,axN,axO,axP,axR,Hx,Hw,axS,Gt,BV,Gs,B4,Hv,Hu,axU,axW,axX,ax2,aya,ayb,ayc,ayd,aye,ayf,ayg,ayh,ayA,ayC,Pc,ayD,ayE,ayF,ayG,ayT,ayU,ayV,ay5,On,yl,Om,Gr,Ht,yR,Hr,Ol,azj,Ok,Nz,Oj,EO,azk,Hq,Oi,Oh,Kg,Ow,Ov,azl,azm,azo,Gc,Gq,Ou,Gp,Gn,Gm,Gk,Gx,Gw,Gv,Ny,azp,azq,azr,azs,azt,azu,azv,azw,azx,azy,azz,azA,HF,HE,HC,HB,HA,Ot,azB,azC,Oq,azD,azE,azF,azG,azH,Hz,Oo,azI,azJ,azK,azL,azM,azO,azP,azQ,azR,azS,azV,azW,azX,azY,azZ,az0,az1,az2,az3,az4,az5,az7,az8,az9,aAa,aAc,OM,aAe,OL,Hy,aAf,aAg,aAh,aAi,aAj,Io,Im,aAm,aAn,aAo,aAq,aAr,aAs,aAt,aAu,aAx,aAy,HK,aAB,aAC,aAD,aAE,aAF,aAG,aAH,aAI,aAJ,aAO,aAV,aAW,aA1,aBg,aBh,HJ,aBz,aBF,aBL,aBP,aBT,aBV,aBX,aBY,aB7,aB9,aCa,aCl,aCn,aCp,aCq,aCr,aCs,aCD,trivial⟩
noncomputable def yD(facts:a1->List PV->Option PV)(jV:a1->a1->Nat):mI:=⟨u4 FQ,facts,fun _ _ _=>none,jV,fun _ _ _=>none⟩
theorem aFB{facts:a1->List PV->Option PV}{jV:a1->a1->Nat}(h:∀f vs v,facts f vs=some v->aA prog f vs v):mZ prog (yD facts jV):=by
 refine⟨mix,fun f fn hf=>Eh HH hf,fun f vs v hk=>h f vs v hk,fun f args H v H' hk=>?_,fun f args H ak v hk=>?_⟩
 ·simp only[yD]at hk;cases hk
 ·simp only[yD]at hk;cases hk
noncomputable def RD(facts:a1->List PV->Option PV)(jV:a1->a1->Nat)(f:a1)(vs:List PV):Option PV:=pB prog nf (yD facts jV) (jL prog nf (yD facts jV) 20) f vs
theorem M7{facts:a1->List PV->Option PV}{jV:a1->a1->Nat}(h:∀f vs v,facts f vs=some v->aA prog f vs v){f:a1}{vs:List PV}{v:PV}(a:RD facts jV f vs=some v):aA prog f vs v:=reckon 20 (aFB h) a
def noF:a1->List PV->Option PV:=fun _ _=>none
def rh:PV:=.st 372 ((cc 256).map fun i=>.bool (cm i))
theorem L6(c:Nat)(hc:c<256):aA prog 370 [.cw rh,.int .u8 c] (.bool (cm c)):=by
 refine aG nf HJ mix (by simp[f370]) ?_;have a:(cc 256)[c]?=some c:=cv hc;simp[f370,rh,a,hc]
theorem UU(s:List Nat)(h:s.length<=1048576)(g:∀c∈s,c<256):aA prog 339 [.str s,.cw rh] (.str (lH s)):=by
 refine aG nf Io mix (by simp[f339]) ?_;simp[f339];refine lp (α:=List Nat) (fun r=>⟨[(1,.p (.cw rh)),(0,.p (.str r))],[]⟩) (fun r=>lH r=lH s/\r.length<=s.length/\∀c∈r,c<256) (fun r=>r.length) s (by exact⟨rfl,ee _,g⟩) ?_;rintro r ⟨a,f,b⟩;cases r with
 |nil=>
  have e:lH s=[]:=by rw[<-a];rfl
  simp[e]
 |cons x r=>
  have hx:=b x (by simp);have i:lH (x::r)=if cm x=true then lH r else x::r:=by
   rw[lH,cy];split<;>rfl
  rw[i]at a;have j:(0:Int)<(r.length:Int)+1:=by omega
  simp[j];refine c2 (L6 x hx) ?_;cases d:cm x
  ·rw[d]at a;simp[<-a]
  ·rw[d]at a;simp;exact rd r ⟨by simpa using a,by simp at f;omega,fun c hc=>b c (by simp[hc])⟩ (h1:=by simp)
theorem Ux(s:List Nat)(h:s.length<=1048576)(i:∀c∈s,c<256):aA prog 340 [.str s,.cw rh] (.str (iT s)):=by
 refine aG nf Im mix (by simp[f340]) ?_;simp[f340];refine lp (α:=List Nat) (fun r=>⟨[(1,.p (.cw rh)),(0,.p (.str r))],[]⟩) (fun r=>iT r=iT s/\r.length<=s.length/\∀c∈r,c<256) (fun r=>r.length) s (by exact⟨rfl,ee _,i⟩) ?_;rintro r ⟨a,b,d⟩;rcases List.eq_nil_or_concat r with rfl|⟨t,x,rfl⟩
 ·have e:iT s=[]:=by rw[<-a];rfl
  simp[e]
 ·simp only[List.concat_eq_append]at a b d⊢;have hx:=d x (by simp);have j:iT (t++[x])=if cm x=true then iT t else t++[x]:=by
   rw[iT,List.reverse_append,List.reverse_cons,b3,dk,List.singleton_append,cy]
   split
   ·rfl
   ·simp
  rw[j]at a;have k:(0:Int)<(t.length:Int)+1:=by omega
  have g:a3.wrap (t.length:Int)=t.length:=aO _ (by omega) (by simp at b;omega);simp[k,g];refine c2 (L6 x hx) ?_;cases f:cm x
  ·rw[f]at a;simp[<-a]
  ·rw[f]at a;simp[g];exact rd t ⟨by simpa using a,by simp at b;omega,fun c hc=>d c (by simp[hc])⟩ (h1:=by simp)
def yo:List Nat:=[48,49,50,51,52,53,54,55,56,57]
theorem Xx:aA prog 338 [.str yo] (.aE [rh,.bool true]):=M7 (facts:=noF) (jV:=fun _ _=>0) (fun _ _ _ h=>by cases h) (by kernel_rfl)
theorem aHl:cO prog 373=some (.st 372 (a9 256 (.bool false))):=by kernel_rfl
theorem YP(s:List Nat)(h:s.length<=1048576)(d:∀c∈s,c<256):aA prog 295 [.str s,.str yo] (.str (lH (iT s))):=by
 refine aG nf Oq mix (by simp[f295]) ?_
 by_cases b:s=[]
 ·subst b;simp[f295,yo,lH,iT]
 simp[f295,yo,b];refine c1 Xx ?_;have g:(iT s).length<=s.length:=by
  rw[iT,List.length_reverse];have:=(ck cm (l:=s.reverse)).length_le;simpa using this
 have f:∀c∈iT s,c<256:=by
  intro c hc;rw[iT,List.mem_reverse]at hc;exact d c (by simpa using(ck cm (l:=s.reverse)).subset hc)
 simp[aHl];have a:aM rh=.agg 372:=rfl;refine⟨⟨⟨a.symm,by rw[a];intro e;cases e⟩,a.symm⟩,?_⟩;refine cp (Ux s h d) (by simp;exact⟨rfl,rfl⟩) ?_;simp;refine cp (UU (iT s) (by omega) f) (by simp;exact⟨rfl,rfl⟩) ?_;simp
def bt:List Int->Int
 |[]=>0
 |e::r=>if e=0 then bt r else e
def aX(b:Bool)(e:Int):Int:=if b=true then e else 0
theorem YQ(a:List Int)(h:a.length<=1048576):aA prog 253 [.seq (a.map (.int .i64))] (.int .i64 (bt a)):=by
 refine aG nf Oi mix (by simp[f253]) ?_;simp[f253];refine lp (α:=Nat) (fun i=>⟨[(7,.p (.int .i64 i)),(6,.p (.int .i64 a.length)),(5,.p (.seq (a.map (.int .i64))))],[]⟩) (fun i=>i<=a.length/\bt (a.drop i)=bt a) (fun i=>a.length-i) 0 (by simp) ?_;rintro i ⟨d,b⟩;simp
 by_cases hi:i<a.length
 ·rw[bi hi]at b;have c:=ct (i:=i) (by omega);simp[hi]
  by_cases he:a[i]=0
  ·simp[bt,he]at b;simp[he,c];exact rd (i+1) ⟨hi,b⟩
  ·simp[bt,he]at b;simp[he,<-b]
 ·have:i=a.length:=by omega
  subst this;simp[bt]at b;simp[<-b]
theorem lj(a:List Int)(h:a.length<=1048576):aA prog 78 [.seq (a.map (.int .i64))] (.int .i64 (bt a)):=by
 refine aG nf QS mix (by simp[f78]) ?_;simp[f78];refine lp (α:=Nat) (fun i=>⟨[(7,.p (.int .i64 i)),(6,.p (.int .i64 a.length)),(5,.p (.seq (a.map (.int .i64))))],[]⟩) (fun i=>i<=a.length/\bt (a.drop i)=bt a) (fun i=>a.length-i) 0 (by simp) ?_;rintro i ⟨d,b⟩;simp
 by_cases hi:i<a.length
 ·rw[bi hi]at b;have c:=ct (i:=i) (by omega);simp[hi]
  by_cases he:a[i]=0
  ·simp[bt,he]at b;simp[he,c];exact rd (i+1) ⟨hi,b⟩
  ·simp[bt,he]at b;simp[he,<-b]
 ·have:i=a.length:=by omega
  subst this;simp[bt]at b;simp[<-b]
theorem yk(a:List Int)(h:a.length<=1048576):aA prog 20 [.seq (a.map (.int .i64))] (.int .i64 (bt a)):=by
 refine aG nf Qh mix (by simp[f20]) ?_;simp[f20];refine lp (α:=Nat) (fun i=>⟨[(7,.p (.int .i64 i)),(6,.p (.int .i64 a.length)),(5,.p (.seq (a.map (.int .i64))))],[]⟩) (fun i=>i<=a.length/\bt (a.drop i)=bt a) (fun i=>a.length-i) 0 (by simp) ?_;rintro i ⟨d,b⟩;simp
 by_cases hi:i<a.length
 ·rw[bi hi]at b;have c:=ct (i:=i) (by omega);simp[hi]
  by_cases he:a[i]=0
  ·simp[bt,he]at b;simp[he,c];exact rd (i+1) ⟨hi,b⟩
  ·simp[bt,he]at b;simp[he,<-b]
 ·have:i=a.length:=by omega
  subst this;simp[bt]at b;simp[<-b]
theorem xq(b:Bool)(e:Int):aA prog 254 [.bool b,.int .i64 e] (.int .i64 (aX b e)):=by
 refine aG nf Oh mix (by simp[f254]) ?_;cases b<;>simp[f254,aX]
theorem gH(b:Bool)(e:Int):aA prog 79 [.bool b,.int .i64 e] (.int .i64 (aX b e)):=by
 refine aG nf QT mix (by simp[f79]) ?_;cases b<;>simp[f79,aX]
theorem NX(s:List Nat)(h:s.length<=1048576)(i:∀c∈s,c<256):aA prog 252 [.str s] (.bool (dF s)):=by
 have f:=YP s h i;have g:=VK s;rw[show yo=[48,49,50,51,52,53,54,55,56,57]from rfl]at f;refine aG nf Hq mix (by simp[f252]) ?_;generalize lH (iT s)=t at*;cases s with
 |nil=>simp[f252,dF]
 |cons c r=>
  have hc:=i c (by simp)
  by_cases b:t=[]
  ·have d:=g.1 b;have e:dF (c::r)=(decide (¬c=48)||decide (r=[])):=by
    rw[dF,d]
    by_cases a:c=48
    ·subst a;simp
    ·simp[a]
   rw[e];clear e d g
   by_cases a:c=48
   ·cases r with
    |nil=>
     simp[f252];refine c2 f ?_;simp[b,a]
    |cons x r=>
     simp[f252];refine c2 f ?_;simp[b,a]
   ·have j:¬(c:Int)=48:=by omega
    simp[f252];refine c2 f ?_;simp[b,a,j]
  ·have d:¬(c::r).all cm=true:=mt g.2 b;have a:(c::r).all cm=false:=by simpa using d
   have e:dF (c::r)=false:=by rw[dF,a];simp
   rw[e];clear e d a g;simp[f252];refine c2 f ?_;simp[b]
theorem arD{a b:Nat}:(decide (jU (eM a b) 1≠0))=decide (gc a b≠1):=by
 rw[decide_eq_decide,jU,eM,a4,a4]
 split
 ·simp;omega
 ·split
  ·simp;omega
  ·simp;omega
theorem FD{s:List Nat}(h:s.all cm=true)(c:s.length<=700):okW (aZ s:Nat):=by
 have a:=jq _ s rfl h;have b:aZ s<2^kR:=ec a (Lt (by have:kR=2800:=rfl;omega));exact gZ (k:=kR) (by rw[a4];exact b) (by have:kB=100000:=rfl;have:kR=2800:=rfl;omega)
theorem yg(s:List Nat)(h:s.length<=1048576)(K:∀c∈s,c<256):aA prog 174 [.str s] (.int .i64 (bK s)):=by
 have X:=Yr s;have A:=PG (cU s) 47 (ei (pW s).1 h);rw[show(b9 47 (cU s)).1=bH s from rfl,show(b9 47 (cU s)).2.1=bQ s from rfl,show(b9 47 (cU s)).2.2=et s from rfl]at A;refine aG nf Pg mix (by simp[f174]) ?_;simp[f174,-bm];rw[bm];simp[-bm];rw[bm];simp[-bm];refine c2 X ?_;simp[-bm];rw[bm];simp[-bm];refine c2 A ?_;simp[-bm];have ab:=(pW s).1;have q:=qf 47 (cU s);have ad:(bH s).length<=1048576:=by have:=q.1;rw[bH];omega
 have ac:(bQ s).length<=1048576:=by have:=q.2.1;rw[bQ];omega
 have W:∀c∈bH s,c<256:=fun c hc=>K c ((pW s).2 c (q.2.2.1 c hc));have V:∀c∈bQ s,c<256:=fun c hc=>K c ((pW s).2 c (q.2.2.2 c hc));clear q ab;have Z:=NX (bH s) ad W;have Y:=NX (bQ s) ac V;obtain⟨m,B⟩:∃m,m=(dF (bH s)&&!(bZ s&&decide (bH s=[48]))):=⟨_,rfl⟩
 obtain⟨f2,k⟩:∃f2,f2=(m&&(!et s||(dF (bQ s)&&decide (bQ s≠[48])&&decide (bQ s≠[49])))):=⟨_,rfl⟩
 have L:bK s=if f2=false then 1 else if 600<(bH s).length\/600<(bQ s).length then 4 else if et s=true/\gc (aZ (bH s)) (aZ (bQ s))≠1 then 1 else 0:=by rw[k,B];rfl
 rw[L];clear L A;generalize et s=fr at*;refine join (fun s'=>aN s'.env 8=.p (.bool m)/\aN s'.env 7=.p (.bool fr)/\aN s'.env 6=.p (.str (bQ s))/\aN s'.env 5=.p (.str (bH s))/\s'.heap=[]) ?_ ?_
 ·simp;refine c1 Z ?_;rw[B];cases dF (bH s)
  ·simp
  ·cases bZ s
   ·simp
   ·by_cases r:bH s=[48]
    ·simp[r]
    ·simp[r]
 rintro⟨I,aa⟩ ⟨d,f,g,i,t⟩;dsimp only at d f g i t;subst t;refine join (fun s'=>aN s'.env 8=.p (.bool f2)/\aN s'.env 7=.p (.bool fr)/\aN s'.env 6=.p (.str (bQ s))/\aN s'.env 5=.p (.str (bH s))/\s'.heap=[]) ?_ ?_
 ·rw[k];cases fr
  ·simp[d,f,g,i]
  ·cases m
   ·simp[d,f,g,i]
   ·simp[d,f,g,i];refine c1 Y ?_;cases dF (bQ s)
    ·simp[d,f,g,i]
    ·by_cases r:bQ s=[48]
     ·simp[d,f,g,i,r]
     ·by_cases N:bQ s=[49]
      ·simp[d,f,g,i,N]
      ·simp[d,f,g,i,r,N]
 clear d f g i I;rintro⟨I,aa⟩ ⟨d,f,g,i,t⟩;dsimp only at d f g i t;subst t;have head:∀(n v:Bool),aA prog 253 [.seq [.int .i64 (aX n 1),.int .i64 (aX v 4)]] (.int .i64 (if n=true then 1 else if v=true then 4 else 0)):=fun n v=>by
  have:=YQ [aX n 1,aX v 4] (by simp);cases n<;>cases v<;>exact this
 have H:=xq (!f2) 1;have R:=xq true 4;have wf:=xq false 4;have J:=head (!f2) true;have U:=head (!f2) false;have O:(600<(bH s).length)↔(600:Int)<((bH s).length:Nat):=by omega
 have P:(600<(bQ s).length)↔(600:Int)<((bQ s).length:Nat):=by omega
 by_cases u:(600:Int)<((bH s).length:Nat)
 ·simp[d,f,g,i];refine c2 H ?_;simp[d,f,g,i,u];refine c2 R ?_;simp;refine cp J (by simp;exact⟨rfl,rfl⟩) ?_;cases f2
  ·simp
  ·simp[O.2 u]
 by_cases x:(600:Int)<((bQ s).length:Nat)
 ·simp[d,f,g,i];refine c2 H ?_;simp[d,f,g,i,u,x];refine c2 R ?_;simp;refine cp J (by simp;exact⟨rfl,rfl⟩) ?_;cases f2
  ·simp
  ·simp[P.2 x]
 have E:¬600<(bH s).length:=mt O.1 u;have F:¬600<(bQ s).length:=mt P.1 x;have Q:=xq false 1;have ag:=xq true 1;simp[d,f,g,i];refine c2 H ?_;simp[d,f,g,i,u,x];refine c2 wf ?_;simp;refine cp U (by simp;exact⟨rfl,rfl⟩) ?_;cases f2
 ·simp
 cases fr
 ·simp[d,f,g,i,E,F];refine c2 Q ?_;simp[aX];exact⟨by omega,by omega⟩
 have j:dF (bH s)=true/\dF (bQ s)=true:=by
  cases S:dF (bH s)
  ·rw[B,S]at k;simp at k
  cases T:dF (bQ s)
  ·rw[T]at k;simp at k
  exact⟨rfl,rfl⟩
 obtain⟨ae,G⟩:=Dn j.1;obtain⟨af,n4⟩:=Dn j.2;have y:=AG (bH s) (by rw[G];exact jf j.1) (by rw[G];omega);have z:=AG (bQ s) (by rw[n4];exact jf j.2) (by rw[n4];omega);rw[ae,G]at y;rw[af,n4]at z;simp only[a0,if_false]at y z;have C:=PD (.mk' (aZ (bH s):Nat)) (.mk' (aZ (bQ s):Nat)) (FD (jf j.1) (by omega)) (FD (jf j.2) (by omega));rw[NI.iv,NI.iv]at C;have D:=sS 1;rw[ML]at D;have hc:=PC (.mk' (eM (aZ (bH s):Nat) (aZ (bQ s):Nat))) (.mk' 1) (rP (FD (jf j.2) (by omega)) (by rw[NI.iv,eM,a4,a4,a4];exact Nat.gcd_le_right _ (zR j.2 (fun e=>by rw[e]at k;simp at k)))) (by rw[okW];decide);rw[NI.iv,NI.iv]at hc;have M:=arD (a:=aZ (bH s)) (b:=aZ (bQ s));generalize jU (eM (aZ (bH s):Nat) (aZ (bQ s):Nat)) 1=o at*
 by_cases l:gc (aZ (bH s)) (aZ (bQ s))=1
 ·have w:o=0:=by simpa[l]using M
  simp[d,f,g,i,E,F,l];refine c1 y ?_;simp[d,f,g,i];refine c1 z ?_;simp;refine c2 C ?_;simp;refine c1 D ?_;simp;refine c2 hc ?_;simp[w];refine c2 Q ?_;simp[aX];rw[if_neg (by omega),if_pos l]
 ·have w:¬o=0:=by simpa[l]using M
  simp[d,f,g,i,E,F,l];refine c1 y ?_;simp[d,f,g,i];refine c1 z ?_;simp;refine c2 C ?_;simp;refine c1 D ?_;simp;refine c2 hc ?_;simp[w];refine c2 ag ?_ (h1:=by simp[w]);simp[aX];rw[if_neg (by omega),if_neg l]
def fW(s:List Nat):Prop:=s.length<=1048576/\∀c∈s,c<256
theorem Yq(l:List (List Nat)):aA prog 301 [.seq (l.map .str)] (.func 352 [] [.cw (.seq (l.map .str))]):=by
 refine aG nf Hz mix (by simp[f301]) ?_;simp[f301];exact bG.refl _
def Ft(s:List Nat):List PV:=[.int .i64 (bK s)]
theorem X3(l:List (List Nat))(q:l.length<=1000000)(hs:∀s∈l,fW s):Stream prog 352 [] [.cw (.seq (l.map .str))] (l.map Ft):=by
 intro b k c H' hk d o f;refine fJ nf HK mix (by simp[f352]) ?_;rw[b5]at hk;have g:∀i(h:i<l.length),(l.map Ft)[i]?=some (Ft l[i]):=fun i h=>by rw[b1,a8 h];rfl
 simp[f352];refine lp (α:=Nat) (fun i=>⟨[(7,.p (.int .i64 i)),(6,.p (.int .i64 l.length)),(5,.p (.seq (l.map .str))),(0,.map b)],c i⟩) (fun i=>i<=k) (fun i=>l.length-i) 0 (by simp) ?_ (hr:=by simp;exact(d 0 (by omega)).2) (hr2:=(d 0 (by omega)).1);intro i hi;have n:=ct (i:=i) (by omega)
 by_cases a:i<l.length
 ·have hc:=yg l[i] (hs _ (b4 a)).1 (hs _ (b4 a)).2;have gS:(i<k/\iq prog b (c i) [.p (.int .i64 (bK l[i]))] (c (i+1)) (.p (.bool true)))\/iq prog b (c i) [.p (.int .i64 (bK l[i]))] H' (.p (.bool false)):=by
   by_cases e:i<k
   ·exact .inl ⟨e,o i _ e (g i a)⟩
   ·have:i=k:=by omega
    subst this;rcases f with⟨e1,_⟩|⟨y,e1,e2⟩
    ·rw[b5]at e1;omega
    ·rw[g i a]at e1;injection e1 with e1;subst e1;exact .inr e2
  simp[a];refine c1 hc ?_;simp;rcases gS with⟨e,hY⟩|hY
  ·refine⟨c (i+1),_,hY,?_⟩;simp[n];exact rd (i+1) e (h1:=by omega) (hr:=by simp;exact(d (i+1) (by omega)).2) (hr2:=(d (i+1) (by omega)).1)
  ·refine⟨H',_,hY,?_⟩;simp
 ·have m:i=l.length:=by omega
  have j:k=l.length:=by omega
  rcases f with⟨e1,e2⟩|⟨y,e1,e2⟩
  ·simp[a,e2,m,j]
  ·rw[j,List.getElem?_eq_none (by simp)]at e1;cases e1
theorem Db(p:Nat->Bool):∀n,∃k,k<=n/\(∀j,j<k->p j=true)/\(k=n\/(k<n/\p k=false))
 |0=>⟨0,ee _,fun j h=>by omega,.inl rfl⟩
 |n+1=>by
  obtain⟨k,f,b,a⟩:=Db p n;rcases a with a|⟨a,d⟩
  ·subst a;cases c:p k
   ·exact⟨k,by omega,b,.inr ⟨by omega,c⟩⟩
   ·refine⟨k+1,ee _,fun j g=>?_,.inl rfl⟩
    by_cases e:j=k
    ·subst e;exact c
    ·exact b j (by omega)
  ·exact⟨k,by omega,b,.inr ⟨by omega,d⟩⟩
def mu(l:List (List Nat))(i:Nat):Int:=match l[i]? with
 |some s=>bK s
 |none=>0
theorem J9:∀(l:List (List Nat))(k:Nat),(∀j,j<k->mu l j=0)->bt (l.map bK)=bt ((l.drop k).map bK)
 |[],k,_=>by simp
 |s::l,0,_=>rfl
 |s::l,k+1,h=>by
  have a:=h 0 (by omega);have b:bK s=0:=a;rw[be,bt,if_pos b,List.drop_succ_cons];exact J9 l k fun j c=>h (j+1) (by omega)
theorem Vo(l:List (List Nat))(c:l.length<=1000000)(hs:∀s∈l,fW s):aA prog 268 [.seq (l.map .str)] (.int .i64 (bt (l.map bK))):=by
 refine aG nf Gx mix (by simp[f268]) ?_;simp[f268];refine c1 (Yq l) ?_;simp;have aK:=X3 l c hs;obtain⟨k,hk,g,d⟩:=Db (fun i=>decide (mu l i=0)) l.length;have r:∀j,j<k->mu l j=0:=fun j q=>by simpa using g j q
 have f:=J9 l k r;refine rf2 aK rfl (by simp) (fun L _=>[.box false (.p (.int .i64 0)),.loop L]) (fun L i=>[.box false (.p (.int .i64 (mu l (i-1)))),.loop (L.dn .ret)]) (fun i=>decide (mu l i=0)) .ret k (by simpa using hk) g (by simpa using d) (fun L=>rfl) ?_ ?_ (fun L=>rfl) ?_ ?_
 ·intro L b i hi;clear b;refine⟨rfl,by simp,fun _ c=>?_⟩;simp at c⊢;exact c
 ·intro L b i x hi hx;have t:x=[.int .i64 (mu l i)]:=by
   rw[b1]at hx;unfold mu;cases h:l[i]? with
   |none=>rw[h]at hx;cases hx
   |some s=>rw[h]at hx;injection hx with hx;rw[<-hx];rfl
  subst t;rw[em];refine vK nf mix b rfl rfl (by kernel_rfl) ?_;have m:=congrArg ek.env b;dsimp only at m;clear b;generalize mu l i=e
  by_cases he:e=0
  ·subst he;simp;exact .inl rfl
  ·simp[he];exact .inl rfl
 ·intro a L;have a:k=l.length:=by simpa using a
  rw[f,a];simp[bt]
 ·intro a L;have a:k<l.length:=by simpa using a
  have o:¬mu l k=0:=by
   rcases d with u|⟨_,n⟩
   ·omega
   ·simpa using n
  have e1:mu l k=bK l[k]:=by unfold mu;rw[a8 a]
  rw[f,bi a,be,bt,<-e1,if_neg o];simp[jM]
structure dU where
 x:List Nat
 y:List Nat
def du(p:dU):PV:=.st 41 [.str p.x,.str p.y]
def jk(p:dU):Prop:=fW p.x/\fW p.y
def bX(p:dU):Int:=bt [bK p.x,bK p.y]
@[simp] theorem aL8(p:dU):aM (du p)=.agg 41:=rfl
@[simp] theorem aK0(p:dU):cH (du p)=[.str p.x,.str p.y]:=rfl
@[simp] theorem aKl:prog.cellsOf 41=2:=by kernel_rfl
theorem TP(p:dU)(a:jk p):aA prog 190 [.seq [du p]] (.int .i64 (bX p)):=by
 have hc:=Vo [p.x,p.y] (by simp) (by intro s hs;simp at hs;rcases hs with rfl|rfl;exact a.1;exact a.2);refine aG nf Pf mix (by simp[f190]) ?_;simp[f190];refine lp (α:=Nat) (fun i=>⟨[(8,.p (.int .i64 i)),(7,.p (.int .i64 1)),(6,.p (.seq [du p])),(0,.p (.seq [du p]))],[]⟩) (fun i=>i=0\/(i=1/\bX p=0)) (fun i=>1-i) 0 (.inl rfl) ?_;rintro i h;rcases h with rfl|⟨rfl,h⟩
 ·simp[aa];refine cp hc (by simp;exact⟨rfl,rfl⟩) ?_;have b:a3.wrap 1=1:=rfl;rw[show bt (dp bK [p.x,p.y])=bX p from rfl]
  by_cases h:bX p=0
  ·simp[h,b];exact rd 1 (.inr ⟨rfl,h⟩)
  ·simp[h]
 ·simp[h]
theorem ru(p:dU)(a:jk p):aA prog 106 [du p] (.int .i64 (bX p)):=by
 refine aG nf O0 mix (by simp[f106]) ?_;simp[f106,aa];refine cp (TP p a) (by simp;exact⟨rfl,rfl⟩) ?_;simp
open Go.Proofs Go.Proofs.YtgpphcmkjhklgaaGreatDoor
section
variable{H:Type}{W:World}{ad:Nat->Prop}
theorem awt{d:a2 H}(h:∃cs,aS prog W ad (bF prog 8 3 d) cs)(_hb:Rows.uptoBulk d<=1048576):∃z:Int,bF prog 8 3 d=.int .i64 z/\True:=by
 obtain⟨cs,h⟩:=h;obtain⟨z,a⟩:=vN (n:=7) d cs h;exact⟨z,a,trivial⟩
theorem yj{n:Nat}{d:a2 H}(h:∃cs,aS prog W ad (bF prog (n+1) 29 d) cs)(a:Rows.uptoBulk d<=1048576):∃s:List Nat,bF prog (n+1) 29 d=.str s/\fW s:=by
 obtain⟨cs,h⟩:=h;cases d with
 |lit l=>
  cases l with
  |string bytes=>
   refine⟨bytes.map (·.toNat),by simp only[bF,FU],?_,?_⟩
   ·rw[Rows.uptoBulk]at a;rw[b5];omega
   ·intro c hc;obtain⟨u,_,rfl⟩:=b0.1 hc;exact u.toNat_lt
  |_=>simp only[bF,FU,aS]at h
 |_=>simp only[bF,FU,aS]at h
theorem aJO:∃a b:Field,prog.underlying 42=some (.struct #[a,b])/\a.type=29/\b.type=29:=⟨_,_,underlying42,rfl,rfl⟩
theorem RQ:prog.underlyingId 42=41:=by kernel_rfl
theorem WL{m n:Nat}(q:m=n+1){d:a2 H}(h:∃cs,aS prog W ad (bF prog (m+1) 42 d) cs)(e:Rows.uptoBulk d<=1048576):∃p:dU,bF prog (m+1) 42 d=du p/\jk p:=by
 obtain⟨cs,h⟩:=h;obtain⟨f0,f1,i,t0,t1⟩:=aJO;cases d with
 |agg l=>
  have g:∀x∈l,Rows.uptoBulk x<=1048576:=fun x hx=>by
   have:=lK.u3 hx;rw[Rows.uptoBulk]at e;omega
  simp only[bF,i,aS]at h⊢;obtain⟨t,s,f,c,_⟩:=h;rw[RQ,aGO]at f;cases f
  match l,c with
  |[],c=>simp[bd]at c
  |[x],c=>simp[bd]at c
  |x::y::r,c=>
   simp only[List.zip_cons_cons,be,bd,List.zip_nil_left,dz,t0,t1]at c⊢;obtain⟨c0,_,_,g1,_,c1,_,_,g2,_⟩:=c;subst q;obtain⟨a,j,o⟩:=yj ⟨c0,g1⟩ (g x (by simp));obtain⟨b,k,e⟩:=yj ⟨c1,g2⟩ (g y (by simp));exact⟨⟨a,b⟩,by rw[j,k,RQ];rfl,o,e⟩
 |_=>simp only[bF,i,aS]at h
theorem Ak{n:Nat}{d:a2 H}(h:∃cs,aS prog W ad (bF prog (n+2) 42 d) cs)(a:Rows.uptoBulk d<=1048576):∃p:dU,bF prog (n+2) 42 d=du p/\jk p:=WL rfl h a
theorem Pt{d:a2 H}(h:∃cs,aS prog W ad (bF prog 8 42 d) cs)(b:Rows.uptoBulk d<=1048576):∃p:dU,bF prog 8 42 d=du p/\True/\jk p:=by
 obtain⟨p,e,a⟩:=Ak (n:=6) h b;exact⟨p,e,trivial,a⟩
end
def bT:Nat:=1000000000
theorem ba:2<=bT:=by decide
def iP(l:List Nat):List PV:=l.map fun x:Nat=>.int .i64 x
theorem RH(w:List Nat):fe prog 1 (w.map (AV.p∘fun x:Nat=>PV.int .i64 x)):=by
 rw[wO];intro v a;obtain⟨x,_,rfl⟩:=b0.1 a;simp[aa,aM,bJ]
def eT(n:Nat):PV:=.seq ((au bT n).map fun x:Nat=>.int .i64 x)
theorem Bc:au bT 0=[]:=by simp[au,ny]
theorem nW{n:Nat}(b:0<n)(h:n<bT):au bT n=[n]:=by
 have a:=jv ba (m:=1) (n:=n) (by rw[ge];exact h);rw[<-a,row,List.range_one,be,dz,ae,e9,fl,e8 h];have:=wL [] n (by omega)
 rwa [dk]at this
theorem wV{n:Nat}:au bT n=[]↔n=0:=by
 constructor
 ·intro h;have:=cq ba n;rw[h,List.length_nil,e9]at this;omega
 ·rintro rfl;exact Bc
theorem uH(w:List Nat)(h:w.length<=1048576):aA prog 265 [.seq (iP w)] (.seq (iP (eA w))):=by
 refine aG nf Gn mix (by simp[f265]) ?_;simp only[iP];simp[f265];refine lp (α:=Nat) (fun i=>⟨[(0,.p (.seq ((w.take i).map fun x:Nat=>.int .i64 x)))],[]⟩) (fun i=>i<=w.length/\eA w=eA (w.take i)) (fun i=>i) w.length (by simp) ?_;rintro i ⟨k1,k2⟩;have k:(w.take i).length=i:=by rw[c9];omega
 by_cases hi:0<i
 ·obtain⟨j,rfl⟩:∃j,i=j+1:=⟨i-1,by omega⟩
  have f:a3.wrap (j:Int)=j:=aO _ (by omega) (by omega);have a:j<w.length:=by omega
  have e:(0:Int)<(j:Int)+1:=by omega
  have k3:=k2;rw[bk a]at k2;have c:min (j+1) w.length=j+1:=by omega
  have d:min ((j:Int)+1) (w.length:Int)=j+1:=by omega
  have g:¬w=[]:=by rintro rfl;simp at a
  by_cases b:w[j]=0
  ·rw[b,Cz]at k2;simp[e,f,a,b,c,d,g];refine⟨by rw[<-bv];exact RH _,?_⟩;refine rd j ⟨by omega,k2⟩ (he:=?_);rw[<-bv,<-bv,List.take_take,Nat.min_eq_left (by omega)];simp
  ·rw[wL _ _ b,<-bk a]at k2;simp[e,f,a,b,c,d,g];rw[k2,bv];exact bG.refl _
 ·obtain rfl:i=0:=by omega
  simp[eA]at k2;simp[k2]
def eG(z:Int):PV:=.st 166 [.bool (decide (z<0)),eT z.natAbs]
@[simp] theorem aL4(z:Int):aM (eG z)=.agg 166:=rfl
@[simp] theorem aKX(z:Int):cH (eG z)=[.bool (decide (z<0)),eT z.natAbs]:=rfl
@[simp] theorem aMc(n:Nat):aM (eT n)=.leaf:=rfl
theorem Dq(neg:Bool)(w:List Nat)(n:Nat)(c:eA w=au bT n)(h:w.length<=1048576):aA prog 256 [.bool neg,.seq (iP w)] (eG (if neg=true then -(n:Int)else n)):=by
 have a:=uH w h;rw[c]at a;refine aG nf Ow mix (by simp[f256]) ?_;have b:(if neg=true then -(n:Int)else n).natAbs=n:=by cases neg<;>simp
 rw[eG,b,eT];have d:=wV (n:=n);have e:decide ((if neg=true then -(n:Int)else n)<0)=(neg&&decide (0<(au bT n).length)):=by
  cases neg
  ·simp
  ·simp;rw[a5,Ne,d];omega
 rw[e];simp only[iP]at a⊢;generalize au bT n=x at*;cases neg
 ·simp[f256];refine c1 a ?_;simp[aa]
 ·simp[f256];refine c1 a ?_;simp[aa]
  done
theorem JC{a b:Nat}(h:(au bT a).length<(au bT b).length):a<b:=by
 have d:=cq ba a;rcases en a b with c|c
 ·exact c
 ·have:=dQ ba (au bT a).length b (ed c d);omega
theorem JL{a b i:Nat}(h:a/bT^(i+1)=b/bT^(i+1))(e:ae bT a i<ae bT b i):a<b:=by
 rw[ew,<-eo,<-eo]at h;have e1:=ej (a/bT^i) bT;have e2:=ej (b/bT^i) bT;rw[ae,ae]at e;rw[h]at e1;rcases en a b with d|d
 ·exact d
 ·have:=Nat.div_le_div_right (c:=bT^i) d;omega
theorem Xt{a b i:Nat}(h:a/bT^(i+1)=b/bT^(i+1))(c:ae bT a i=ae bT b i):a/bT^i=b/bT^i:=by
 rw[ew,<-eo,<-eo]at h;have e1:=ej (a/bT^i) bT;have e2:=ej (b/bT^i) bT;rw[ae,ae]at c;rw[h]at e1;omega
theorem JR(a b:Nat)(E:(au bT a).length<=1048576)(F:(au bT b).length<=1048576):aA prog 263 [eT a,eT b] (.int .i64 (fL a b)):=by
 refine aG nf Ou mix (by simp[f263]) ?_
 by_cases l:(au bT a).length=(au bT b).length
 case neg=>
  have q:¬((au bT a).length:Int)=(au bT b).length:=by omega
  by_cases A:(au bT a).length<(au bT b).length
  ·have m:((au bT a).length:Int)<(au bT b).length:=by omega
   have:=JC A;have hc:fL a b= -1:=if_pos this;simp[f263,eT,q,m,hc]
  ·have m:¬((au bT a).length:Int)<(au bT b).length:=by omega
   have:=JC (a:=b) (b:=a) (by omega);have hc:fL a b=1:=by rw[fL,if_neg (by omega),if_pos this]
   simp[f263,eT,q,m,hc]
 have t:∀i(h:i<(au bT a).length),(au bT a)[i]?=some (ae bT a i):=fun i h=>by rw[a8 h,eD ba h]
 have v:∀i(h:i<(au bT b).length),(au bT b)[i]?=some (ae bT b i):=fun i h=>by rw[a8 h,eD ba h]
 have u:∀i(h:i<(au bT a).length),(au bT a)[i]=ae bT a i:=fun i h=>eD ba h;have w:∀i(h:i<(au bT b).length),(au bT b)[i]=ae bT b i:=fun i h=>eD ba h;have s:=cq ba a;have o:=cq ba b;rw[<-l]at o;have z:a/bT^(au bT a).length=b/bT^(au bT a).length:=by rw[eq s,eq o]
 simp only[eT];generalize au bT a=x at*;generalize au bT b=y at*;have D:a3.wrap ((y.length:Int)-1)=y.length-1:=aO _ (by omega) (by omega);simp[f263,l,D];refine lp (α:=Nat) (fun i=>⟨[(5,.p (.int .i64 ((i:Int)-1))),(1,.p (.seq (y.map fun x:Nat=>.int .i64 x))),(0,.p (.seq (x.map fun x:Nat=>.int .i64 x)))],[]⟩) (fun i=>i<=y.length/\a/bT^i=b/bT^i) (fun i=>i) y.length ⟨ee _,by rw[<-l];exact z⟩ ?_;rintro i ⟨k1,k2⟩
 by_cases hi:0<i
 ·obtain⟨j,rfl⟩:∃j,i=j+1:=⟨i-1,by omega⟩
  have c:j<x.length:=by omega
  have d:j<y.length:=by omega
  have C:a3.wrap ((j:Int)-1)=j-1:=aO _ (by omega) (by omega);have e:=t j c;have g:=v j d;have f:=u j c;have k:=w j d
  by_cases hq:ae bT a j=ae bT b j
  ·simp[c,d,e,g,f,k,hq,C];exact rd j ⟨by omega,Xt k2 hq⟩
  ·have r:¬(ae bT a j:Int)=ae bT b j:=by omega
   by_cases n:ae bT a j<ae bT b j
   ·have:=JL k2 n;have hc:fL a b= -1:=if_pos this;simp[c,d,e,g,f,k,r,n,hc]
   ·have:=JL k2.symm (show ae bT b j<ae bT a j by omega);have B:ae bT b j<ae bT a j:=by omega
    have hc:fL a b=1:=by rw[fL,if_neg (by omega),if_pos this]
    simp[c,d,e,g,f,k,r,n,B,hc]
 ·obtain rfl:i=0:=by omega
  rw[e9,fl,fl]at k2;have hc:fL a b=0:=by rw[fL,if_neg (by omega),if_neg (by omega)]
  simp[hc]
theorem Yf{n i:Nat}(h:(au bT n).length<=i):ae bT n i=0:=jt (ec (cq ba n) (eb (by decide) h))
theorem Eb(a i:Nat):aA prog 302 [eT a,.int .i64 i] (.int .i64 (ae bT a i:Nat)):=by
 refine aG nf Oo mix (by simp[f302]) ?_
 by_cases h:i<(au bT a).length
 ·have b:(au bT a)[i]=ae bT a i:=eD ba h;rw[eT,<-b];generalize au bT a=x at*;simp[f302,h]
 ·rw[Yf (by omega),eT];generalize au bT a=x at*;simp[f302,h]
def ez(i n:Nat):List AV:=(cc i).map fun j=>.p (.int .i64 (ae bT n j:Nat))
theorem rH(i n:Nat):ez (i+1) n=ez i n++[.p (.int .i64 (ae bT n i:Nat))]:=by
 rw[ez,List.range_succ,List.map_append];rfl
theorem im(i n:Nat):(ez i n).length=i:=by simp[ez]
@[simp] theorem aLU{N:Nat×Nat->Prop}{n i:Nat}:aV N (ez i n)=True:=by
 rw[cJ,eq_iff_iff,iff_true];intro v a;simp only[ez,b0]at a;obtain⟨x,_,rfl⟩:=a;trivial
theorem MF(i n:Nat):eU (ez i n)=some ((row bT i n).map fun x:Nat=>.int .i64 x):=by
 have:ez i n=(row bT i n).map (AV.p∘fun x:Nat=>PV.int .i64 x):=by
  rw[ez,row,ea];rfl
 rw[this];exact KZ
theorem N7(i n:Nat):ez i n=(row bT i n).map (AV.p∘fun x:Nat=>PV.int .i64 x):=by
 rw[ez,row,ea];rfl
theorem YA{n i:Nat}(h:n<bT^i)(a:i=0\/bT^(i-1)<=n):row bT i n=au bT n:=by
 have b:(au bT n).length=i:=by
  have c:=dQ ba i n h;rcases a with rfl|a
  ·omega
  ·have:=Ka ba a;omega
 have:=aeQ ba n;rw[b]at this;exact this.symm
theorem Za(a b:Nat)(I:(au bT a).length<=1000000)(J:(au bT b).length<=1000000):aA prog 270 [eT a,eT b] (eT (a+b)):=by
 refine aG nf Gv mix (by simp[f270]) ?_;have v:=cq ba a;have w:=cq ba b;have C:∀i,i<(au bT a).length->bT^i<=a:=fun i h=>by
  rcases en a (bT^i)with c|c
  ·have:=dQ ba i a c;omega
  ·exact c
 have D:∀i,i<(au bT b).length->bT^i<=b:=fun i h=>by
  rcases en b (bT^i)with c|c
  ·have:=dQ ba i b c;omega
  ·exact c
 have A:∀i,0<dh bT a b i->bT^i<=a+b:=fun i h=>by
  rw[dh]at h;have c:bT^i<=a% bT^i+b% bT^i:=by
   rcases en (a% bT^i+b% bT^i) (bT^i)with d|d
   ·rw[eq d]at h;omega
   ·exact d
  have:=gm a (bT^i);have:=gm b (bT^i);omega
 have f:=fun i=>Eb a i;have g:=fun i=>Eb b i;have B:∀i,(au bT a).length<=i->(au bT b).length<=i->dh bT a b i=0->a+b<bT^i:=fun i c d s=>by
  have l:=ec v (eb (show 0<bT by decide) c);have m:=ec w (eb (show 0<bT by decide) d);rw[dh,e8 l,e8 m]at s;rcases en (a+b) (bT^i)with e|e
  ·exact e
  ·have:=Nat.div_pos e (fb (show 0<bT by decide));omega
 have E:∃M,M=max (au bT a).length (au bT b).length:=⟨_,rfl⟩
 obtain⟨M,H⟩:=E;simp only[eT]at f g⊢;have F:=fun i h d=>YA (n:=a+b) (i:=i) h d;generalize au bT (a+b)=z at*;generalize au bT a=x at*;generalize au bT b=y at*;simp[f270];refine lp (α:=Nat) (fun i=>⟨[(7,.p (.int .i64 i)),(6,.p (.int .i64 (dh bT a b i:Nat))),(5,.sl 0 i 1 0 i),(1,.p (.seq (y.map fun x:Nat=>.int .i64 x))),(0,.p (.seq (x.map fun x:Nat=>.int .i64 x)))],[.arr .grow i 1 (ez i (a+b))]⟩)
  (fun i=>i<=M+1/\(i=0\/bT^(i-1)<=a+b)) (fun i=>M+1-i) 0 ⟨by omega,.inl rfl⟩ ?_ (he:=by simp[zn,ez]) (hh:=by simp[ez])
 rintro i ⟨k1,k2⟩;have o:=ct (i:=i) (by omega);have K:=l9 ba a b i;obtain⟨l,m⟩:=rC ba a b i;have N:=cr ba a i;have O:=cr ba b i;have t:bT=1000000000:=rfl;have q:a3.wrap ((ae bT a i:Int)+ae bT b i)=ae bT a i+ae bT b i:=aO _ (by omega) (by omega);have r:a3.wrap ((ae bT a i:Int)+ae bT b i+dh bT a b i)=ae bT a i+ae bT b i+dh bT a b i:=aO _ (by omega) (by omega);have d1:((ae bT a i:Int)+ae bT b i+dh bT a b i).tmod 1000000000=(ae bT (a+b) i:Nat):=by
  rw[Int.tmod_eq_emod_of_nonneg (by omega),<-l,t];omega
 have d2:((ae bT a i:Int)+ae bT b i+dh bT a b i).tdiv 1000000000=(dh bT a b (i+1):Nat):=by
  rw[Int.tdiv_eq_ediv_of_nonneg (by omega),<-m,t];omega
 have d3:a3.wrap (dh bT a b (i+1):Nat)=(dh bT a b (i+1):Nat):=by have:=l9 ba a b (i+1);exact aO _ (by omega) (by omega)
 have j:b2 i (ez i (a+b))=ez i (a+b):=a6 (by rw[im];exact ee _)
 by_cases hx:i<x.length
 ·simp[hx];refine c2 (f i) ?_;simp;refine c2 (g i) ?_;simp[q,r,d1,d2,d3,im,j,<-rH];refine⟨by simp only[di];omega,?_⟩;refine rd (i+1) ⟨by omega,.inr (by rw[em];exact ei (C i hx) (by omega))⟩ (by omega) (he:=by simp[o])
 by_cases k:i<y.length
 ·simp[hx,k];refine c2 (f i) ?_;simp;refine c2 (g i) ?_;simp[q,r,d1,d2,d3,im,j,<-rH];refine⟨by simp only[di];omega,?_⟩;refine rd (i+1) ⟨by omega,.inr (by rw[em];exact ei (D i k) (by omega))⟩ (by omega) (he:=by simp[o])
 by_cases hc:0<dh bT a b i
 ·have L:i=M:=by
   rcases en M i with h|h
   ·have e0:=rC ba a b M;have c:ae bT a M=0:=jt (ec v (eb (by decide) (by omega)));have d:ae bT b M=0:=jt (ec w (eb (by decide) (by omega)));have s:=l9 ba a b M;have e:i=M+1:=by omega
    subst e;rw[c,d]at e0;rw[<-e0.2,eq (by omega)]at hc;omega
   ·omega
  simp[hx,k,hc];refine c2 (f i) ?_;simp;refine c2 (g i) ?_;simp[q,r,d1,d2,d3,im,j,<-rH];refine⟨by simp only[di];omega,?_⟩;refine rd (i+1) ⟨by omega,.inr (by rw[em];exact A i hc)⟩ (by omega) (he:=by simp[o])
 ·have u:dh bT a b i=0:=by omega
  have G:=F i (B i (by omega) (by omega) u) k2;rw[<-G];simp[hx,k,u];refine⟨by rw[im];exact ee _,?_⟩;rw[j,N7];simp
theorem NU(a b:Nat)(A:b<=a)(F:(au bT a).length<=1000000):aA prog 271 [eT a,eT b] (eT (a-b)):=by
 refine aG nf Ny mix (by simp[f271]) ?_;have D:=cq ba a;have j:=fun i=>Eb b i;have B:∀i(h:i<(au bT a).length),(au bT a)[i]?=some (ae bT a i):=fun i h=>by rw[a8 h,eD ba h]
 have C:∀i(h:i<(au bT a).length),(au bT a)[i]=ae bT a i:=fun i h=>eD ba h;have E:eA (row bT (au bT a).length (a-b))=au bT (a-b):=jv ba (ed (Nat.sub_le a b) D);have e:=uH (row bT (au bT a).length (a-b)) (by rw[M9];omega);rw[E]at e;simp only[eT]at j⊢;simp only[iP]at e;generalize au bT (a-b)=z at*;generalize au bT a=x at*;generalize au bT b=y at*;simp[f271];refine lp (α:=Nat) (fun i=>⟨[(7,.p (.int .i64 i)),(6,.p (.int .i64 (fp bT a b i:Nat))),(5,.sl 0 i 1 0 i),(1,.p (.seq (y.map fun x:Nat=>.int .i64 x))),(0,.p (.seq (x.map fun x:Nat=>.int .i64 x)))],[.arr .grow i 1 (ez i (a-b))]⟩)
  (fun i=>i<=x.length) (fun i=>x.length-i) 0 (by simp) ?_ (he:=by simp[Cy,ez]) (hh:=by simp[ez])
 intro i k1;have s:=ct (i:=i) (by omega);have r:b2 i (ez i (a-b))=ez i (a-b):=a6 (by rw[im];exact ee _);have G:bT=1000000000:=rfl;have J:=cr ba a i;have K:=cr ba b i;have L:=cr ba (a-b) i;have M:fp bT a b i<=1:=by rw[fp];split<;>omega
 have u:a3.wrap ((ae bT a i:Int)-ae bT b i)=ae bT a i-ae bT b i:=aO _ (by omega) (by omega);have n:a3.wrap ((ae bT a i:Int)-ae bT b i-fp bT a b i)=ae bT a i-ae bT b i-fp bT a b i:=aO _ (by omega) (by omega)
 by_cases hx:i<x.length
 ·have o:=B i hx;have q:=C i hx;rcases Lu ba A i with⟨v,g,w⟩|⟨v,g,w⟩
  ·have m:(ae bT a i:Int)-ae bT b i-fp bT a b i<0:=by omega
   have f:a3.wrap ((ae bT a i:Int)-ae bT b i-fp bT a b i+1000000000)=(ae bT (a-b) i:Nat):=by rw[aO _ (by omega) (by omega)];omega
   simp[hx,o,q];refine e2 (j i) ?_;simp[u,n,m,f,im,r,<-rH];refine⟨by simp only[di];omega,?_⟩;refine rd (i+1) hx (he:=by simp[s,g])
  ·have m:¬(ae bT a i:Int)-ae bT b i-fp bT a b i<0:=by omega
   have f:(ae bT a i:Int)-ae bT b i-fp bT a b i=(ae bT (a-b) i:Nat):=by omega
   rw[f]at m n;simp[hx,o,q];refine e2 (j i) ?_;simp[u,n,f,im,r,<-rH];refine⟨by simp only[di];omega,?_⟩;refine rd (i+1) hx (he:=by simp[s,g])
 ·have:i=x.length:=by omega
  subst this;have k:=N7 x.length (a-b);have d:(row bT x.length (a-b)).length=x.length:=M9;generalize row bT x.length (a-b)=l at e k d;have H:b2 x.length l=l:=a6 (by omega);rcases l with _|⟨c,t⟩
  ·simp at d;simp[k];refine cp e (by simp[<-d];exact⟨rfl,rfl⟩) ?_;simp
  ·have I:b2 x.length (PV.int .i64 c::dp (fun x:Nat=>PV.int .i64 x) t)=PV.int .i64 c::dp (fun x:Nat=>PV.int .i64 x) t:=a6 (by simp at d⊢;omega);simp at d;simp[k];refine cp e (by simp[<-d];exact⟨rfl,rfl⟩) ?_;simp
def dm(n:Nat)(f:Nat->Nat):List AV:=(cc n).map fun j=>.p (.int .i64 (f j:Nat))
theorem xf(n:Nat)(f:Nat->Nat):(dm n f).length=n:=by simp[dm]
theorem Ly(n:Nat):a9 n (AV.p (.int .i64 0))=dm n fun _=>0:=by
 apply dg (by simp[dm]);intro i a b;simp[dm]
theorem uv{n j:Nat}(f:Nat->Nat)(h:j<n):(dm n f)[j]?=some (.p (.int .i64 (f j:Nat))):=by
 rw[dm,b1,cv h];rfl
theorem DM{n i:Nat}(f g:Nat->Nat)(h:∀j,j<n->j≠i->g j=f j):(dm n f).set i (.p (.int .i64 (g i:Nat)))=dm n g:=by
 apply dg (by simp[dm]);intro j c b;rw[xf]at b;rw[List.getElem_set];simp only[dm,List.getElem_map,List.getElem_range]
 by_cases a:i=j
 ·subst a;rw[if_pos rfl]
 ·rw[if_neg a,h j b (fun e=>a e.symm)]
@[simp] theorem aLT{N:Nat×Nat->Prop}{n:Nat}{f:Nat->Nat}:aV N (dm n f)=True:=by
 rw[cJ,eq_iff_iff,iff_true];intro v a;simp only[dm,b0]at a;obtain⟨x,_,rfl⟩:=a;trivial
theorem z6{n:Nat}{f g:Nat->Nat}(h:∀j,j<n->f j=g j):dm n f=dm n g:=by
 rw[dm,dm];apply List.map_congr_left;intro j a;rw[h j (List.mem_range.1 a)]
end Go.ag
