import Derived.Test.YtanjnahmbanmaaaGreatDoorPG
import Derived.Test.YtanjnahmbanmaaaGreatDoorThE
import Derived.Test.YtanjnahmbanmaaaGreatDoorPE
import Derived.Lib.AtoiAll
import Derived.Test.YtanjnahmbanmaaaGreatDoorThD
import Derived.Test.YtanjnahmbanmaaaGreatDoorPC
/- Parts of a proof. -/
set_option linter.unusedSimpArgs false
set_option linter.unusedVariables false
set_option linter.unusedSectionVars false
open Go.Proofs.Tryz
open Bool renaming and_eq_true->aT, false_eq_true->a0
open Go renaming FuncId->a1, DataW->a2
open Go.IntKind renaming i64->a3
open Int renaming natAbs_natCast->a4
open List renaming length_pos_iff->a5, take_of_length_le->a6, length_singleton->a7, drop_eq_getElem_cons->a8, getElem?_eq_getElem->a9, replicate->bb, length_append->bd, map_cons->be, take_succ_eq_append_getElem->bi, append_nil->bl, take_append_drop->bo, map_take->bp, mem_map->bv, getElem?_map->b0, take->b1, reverse_nil->b2, getElem_mem->b3, length_map->b4, foldl_cons->b5, range->cb, all_cons->cc, dropWhile_sublist->ce, getElem?_range->ck, flatten_append->cv, dropWhile_cons->cx, mem_singleton->cy, length_take->c6, length_cons->c9, flatten_nil->da, ext_getElem->db, nil_append->dg, mem_append->dk, map->dl, mem_cons->dp, map_nil->dq, map_map->dx
open Nat renaming pow_le_pow_right->dy, lt_of_lt_of_le->dz, lt_of_le_of_lt->ea, le_refl->eb, le_trans->ec, div_add_mod->ed, add_sub_cancel->ee, lt_or_ge->ei, div_div_eq_div_mul->ej, div_eq_of_lt->em, pow_succ->en, mul_assoc->eo, lt_trans->eq, mod_eq_of_lt->ew, pow_zero->e6, mul_comm->e7, pow_pos->e8, mul_le_mul_right->e9, div_one->fb, pow_le_pow_left->fd, div_mul_le_self->fl, div_lt_self->fm, add_assoc->fv, gcd->gb, pow_one->gc, pow_mul->ge, add_mul->gg, mod_lt->gi, mod_le->gj
open Option.some renaming injEq->gm
open UInt8 renaming ofNat->gt
namespace Go.az
open Go.Proofs
set_option linter.unusedSectionVars false
theorem Cg:du prog 359=some [1,1]:=by kernel_rfl
section
variable{w:World}{aa ah:Nat->Prop}{β:Bd}{H:aj}
theorem Ro{al:Nat}{c0 c1 v:Value}{T:TypeId}(h:w.heap[al]?=some (.cells #[c0,c1] T (0,0))):w.setCell ⟨al,0,none⟩ v=w.setRow al #[v,c1]:=by
 obtain⟨d,a⟩:=Array.getElem?_eq_some_iff.1 h;unfold World.setCell World.setRow;congr 1;apply Array.ext
 ·simp
 ·intro i b c;simp only[Array.getElem_modify]
  by_cases hi:al=i
  ·subst hi;simp[a]
  ·simp[hi]
theorem QQ{t x:AV}{cs:Array Value}(g:t=gO 359 [.p .dJ,x]\/t=.st 359 [.p .dJ,x])(h:bh prog w aa β H t cs.toList):∃y,cs=#[.pointer none,y]/\bh prog w aa β H x [y]:=by
 have a:bh prog w aa β H (.st 359 [.p .dJ,x]) cs.toList:=by
  rcases g with rfl|rfl
  ·exact Jp.1 h
  ·exact h
 simp only[bh,Cg,gm]at a;obtain⟨l,k,rfl,b,d⟩:=a;simp only[bG,bh,aV]at b;obtain⟨c,i,rfl,rfl,_,c2,j,rfl,e,f,rfl⟩:=b
 match c2,f with
 |[y],_=>exact⟨y,Array.ext' (by simpa using d),e⟩
theorem QJ{b:Nat}{x:AV}{cs:Array Value}(h:bh prog w aa β H (.st 359 [.ptr b [],x]) cs.toList):∃v y,cs=#[v,y]/\bJ prog β H (.ptr b []) v:=by
 simp only[bh,Cg,gm]at h;obtain⟨l,j,rfl,a,d⟩:=h;simp only[bG,bh]at a;obtain⟨c,g,rfl,⟨v,rfl,f⟩,_,c2,i,rfl,k,e,rfl⟩:=a
 match c2,e with
 |[y],_=>exact⟨v,y,Array.ext' (by simpa using d),f⟩
end
theorem Ye{H:aj}{b:Nat}{t x:AV}(f:H[b]?=some (.box false t))(i:t=gO 359 [.p .dJ,x]\/t= .st 359 [.p .dJ,x]):
 de prog 342 H [.ptr b []] (H.set b (.box false (.st 359 [.ptr b [],x]))) (.p (.aA [])):=by
 refine⟨jP func342 (by kernel_rfl),fun w aa ah β J g j K=>?_⟩;simp only[bD,aw]at j;obtain⟨v,vs,rfl,⟨_,I,L,M,rfl,m,B⟩,rfl⟩:=j;simp only[fS,gm]at m;subst m;obtain⟨rfl,rfl⟩:=B (.inl ⟨false,t,f⟩);obtain⟨cs,T,k1,k2,k3,_,k5⟩:=g.cr b _ f;have F:ad t=.agg 359:=by
  rcases i with rfl|rfl
  ·exact AW _ _
  ·rfl
 have q:T=360:=by
  rw[F]at k5;exact c8 (by simpa[iY,Gl.bx,Yl]using k5)
 subst q;obtain⟨y,rfl,G⟩:=QQ i k2;have o:¬aa (β.al b)/\¬ah (β.al b):=by simpa[cm]using k3
 refine(QE (β.al b) w (by simp[World.cell?,k1]) (by simp[World.shape?,k1]) (by simp[World.frozen?,k1])).mono ?_;rintro e w' ⟨rfl,rfl⟩;rw[Ro k1];have aK:cd β H β (H.set b (.box false (.st 359 [.ptr b [],x]))):=nY f (.inl ⟨_,_,_,_,rfl,rfl⟩);have ak:∀z,aF H z->aF (H.set b (.box false (.st 359 [.ptr b [],x]))) z:=ly f (fun _ h=>h);have r:b<H.length:=(List.getElem?_eq_some_iff.1 f).1;have u:(H.set b (.box false (.st 359 [.ptr b [],x])))[b]?=some (.box false (.st 359 [.ptr b [],x])):=List.getElem?_set_self r;have n:aD (aF H) x:=by
  have:=g.refs b _ f;rcases i with rfl|rfl
  ·simp only[Obj.refs]at this;unfold gO at this
   split at this
   ·rename_i l d;have d:=lr d
    match l,d with
    |[a,c],d=>simp at d;rw[d.2];simp[aD]
    |[],d=>simp at d
    |[_],d=>simp at d
    |_::_::_::_,d=>simp at d
   ·simp only[aD,aU]at this;exact this.2.1
  ·simp only[Obj.refs,aD,aU]at this;exact this.2.1
 have E:∀k,aa k->(w.setRow (β.al b) #[.pointer (some ⟨β.al b,0,none⟩),y]).heap[k]?=w.heap[k]?:=fun k A=>setRow_other w _ k _ (fun s=>o.1 (s▸A));have D:Obj.refs (aF (H.set b (.box false (.st 359 [.ptr b [],x])))) (.box false (.st 359 [.ptr b [],x])):=by
  simp only[Obj.refs,aD,aU,and_true];exact⟨⟨_,u,trivial⟩,aD.mono ak _ n⟩
 have C:=o9 g f trivial (o':=.box false (.st 359 [.ptr b [],x])) trivial (fun _ h=>h) k1 (new:=#[.pointer (some ⟨β.al b,0,none⟩),y]) o aK
  ⟨_,360,setRow_heap w _ _ _ 360 _ k1,by
   simp only[bh,Cg,gm];refine⟨_,[[.pointer (some ⟨β.al b,0,none⟩)],[y]],rfl,?_,rfl⟩;simp only[bG,bh];exact⟨_,_,rfl,⟨_,rfl,⟨rfl,_,_,0,rfl,rfl,fun _=>⟨rfl,rfl⟩⟩⟩,rfl,_,_,rfl,bh.mono (fun _ x=>x) E aK _ _ n G,rfl,rfl⟩,k3,by simp,by simp[ad,iY,Gl.bx]⟩ D
 exact⟨_,β,aa,rfl,C,by simp[aw,aB,bE],by simp[aD]⟩
theorem Yf{H:aj}{b:Nat}{x:AV}(c:H[b]?=some (.box false (.st 359 [.ptr b [],x]))):de prog 342 H [.ptr b []] H (.p (.aA [])):=by
 refine⟨jP func342 (by kernel_rfl),fun w aa ah β l g f m=>?_⟩;simp only[bD,aw]at f;obtain⟨v,vs,rfl,⟨_,j,n,i,rfl,a,d⟩,rfl⟩:=f;simp only[fS,gm]at a;subst a;obtain⟨rfl,rfl⟩:=d (.inl ⟨false,_,c⟩);obtain⟨cs,T,k1,k2,k3,_,k5⟩:=g.cr b _ c;obtain⟨v,y,rfl,h⟩:=QJ k2;simp only[bJ,bM]at h;obtain⟨_,k,o,i,rfl,a,d⟩:=h;simp only[fS,gm]at a;subst a;obtain⟨rfl,rfl⟩:=d (.inl ⟨false,_,c⟩);refine(QD (β.al b) w (by simp[World.cell?,k1])).mono ?_;rintro e w' ⟨rfl,rfl⟩;exact⟨_,β,aa,rfl,bP.refl g,by simp[aw,aB,bE],by simp[aD]⟩
set_option maxHeartbeats 4000000
set_option maxRecDepth 100000
@[simp] theorem gu8:(Gl.u8:TypeId)=5:=(rfl)
def dH(t:List Nat):List AV:=t.map fun(c:Nat)=>AV.p (.int .u8 (c:Int))
theorem uj(t:List Nat):(dH t).length=t.length:=by simp[dH]
theorem aGN(a t:List Nat):dH (a++t)=dH a++dH t:=by simp[dH]
theorem BL:∀t:List Nat,eZ prog 1 (dH t)
 |[]=>by simp[dH,eZ]
 |c::t=>by
  have:=BL t;simp only[dH,be]at this⊢;simp[eZ];exact this
theorem GL:∀(t:List Nat),(∀c∈t,c<256)->bytesOf (dH t)=some t
 |[],_=>rfl
 |c::t,a=>by
  have b:=a c (by simp);have:=GL t fun c hc=>a c (by simp[hc]);show bytesOf (.p (.int .u8 (c:Int))::dH t)=some (c::t);rw[bytesOf,if_pos ⟨by omega,by omega⟩,this];simp
theorem NK(t:List Nat)(a:t≠[])(h:t.length<=1048576):de prog 305 [.box false (.p (.st 359 [.dJ,.aL]))] [.ptr 0 [],.p (.str t)]
 [.box false (.st 359 [.ptr 0 [],.sl 1 0 1 0 t.length]),.arr .bytes 0 1 (dH t)] (.p (.aA [.int .i64 t.length,.fZ])):=by
 refine jk nf Cy mix (by simp[f305]) ?_;simp[f305];refine ci (Ye (b:=0) (t:=.p (.st 359 [.dJ,.aL])) (x:=.p .aL) rfl (.inl rfl)) ?_;simp;refine⟨⟨BL t,by simp only[cN];omega⟩,?_⟩;simp[a,dH]
theorem NL(a t:List Nat)(v n:Nat)(f:n=a.length)(c:t≠[])(h:t.length<=1048576)(e:a.length<=1048576):de prog 305 [.box false (.st 359 [.ptr 0 [],.sl 1 v 1 0 n]),.arr .bytes v 1 (dH a)] [.ptr 0 [],.p (.str t)]
 [.box false (.st 359 [.ptr 0 [],.sl 1 (v+1) 1 0 (n+t.length)]),.arr .bytes (v+1) 1 (dH (a++t))] (.p (.aA [.int .i64 t.length,.fZ])):=by
 refine jk nf Cy mix (by simp[f305]) ?_;simp[f305];refine ci (Yf (b:=0) (x:=.sl 1 v 1 0 n) rfl) ?_;simp;refine⟨⟨BL t,by rw[uj];omega,by rw[uj];simp only[cN];omega⟩,?_⟩;have d:b1 n (dH a)=dH a:=a6 (by rw[uj];omega);simp[c,d,aGN];exact .inl rfl
theorem Yi(a:List Nat)(v n:Nat)(b:n=a.length)(d:a≠[])(g:a.length<=1048576)(e:∀c∈a,c<256):de prog 306 [.box false (.st 359 [.ptr 0 [],.sl 1 v 1 0 n]),.arr .bytes v 1 (dH a)] [.ptr 0 []]
 [.box false (.st 359 [.ptr 0 [],.sl 1 v 1 0 n]),.dead] (.p (.str a)):=by
 refine jk nf Lh mix (by simp[f306]) ?_;have f:0<a.length:=a5.2 d;simp[f306];refine XG (ar:=v) (es:=dH a) rfl rfl (by rw[b];exact f) (by simp[dH,b]) ?_;simp;refine XI (ar:=v) (es:=dH a) (l:=a) rfl rfl rfl (by omega) (by simp[uj,b]) (by omega) rfl ?_ ?_ ?_ ?_
 ·kernel_rfl
 ·kernel_rfl
 ·rw[a6 (by rw[uj];simp[b])];exact GL a e
 simp
 repeat' with_reducible refine And.intro ?_ ?_
 all_goals rfl
theorem Bb{σ:Nat->Nat}:∀{a b:List AV},cG σ (a++b)=cG σ a++cG σ b
 |[],b=>by simp[cG]
 |x::a,b=>by simp[cG,Bb (a:=a)]
theorem yb:aq wB tB=[tB]:=rW (by decide) (by decide)
theorem UK(a:NI)(hs:a.sm=true):au prog 248 [eI a] (.str (bI a.v)):=by
 refine aM nf CA mix (by simp[f248]) ?_;have b:=NI.oy hs;simp[f248,ad,lG hs,ml hs,dm,cH];refine c1 (WG a.v b.1 b.2) ?_;simp
theorem Kh{m k A L:Nat}(e:0<m)(h:m*tB^k<=A)(a:A<wB^L):k<64*L:=by
 have b:2^k<=tB^k:=fd (by decide) k;have c:tB^k<=m*tB^k:=Nat.le_mul_of_pos_left _ e;rw[show wB=2^64 from rfl,<-ge]at a;have d:2^k<2^(64*L):=ea (ec b (ec c h)) a
 rwa [Nat.pow_lt_pow_iff_right (by decide)]at d
theorem UJ(a:NI)(hs:a.sm=false)(W:okW a.v)(av:(aY a.v.natAbs).length<=1000000):au prog 248 [eI a] (.str (bI a.v)):=by
 have L:=mW (eI a) a.v (lJ a);have aF:=NI.xU (a:=a) (by rw[hs];decide);have ag:=dz (bY bc a.v.natAbs) (dy (show 0<wB by decide) (mT W));obtain⟨c,cs,w1⟩:=nr hs;refine aM nf CA mix (by simp[f248]) ?_;simp[f248,ad,w1,dm,cH];refine c1 L ?_;simp;refine qP (fun s'=>∃b:List (List Nat),ju 0 b=ju a.v.natAbs []/\(∀p∈b,p≠[]/\p.length<=18)/\b≠[]/\b.length<=57600000/\aN s'.env 3=.p (.bool (decide (a.v<0)))/\aN s'.env 6=.sl 2 b.length 1 0 b.length/\∃o,s'.heap=[.hole,o,.arr .grow b.length 1 (b.map fun p=>.p (.str p))]) ?_ ?_
 ·refine lp (α:=Nat×List (List Nat)×Bool) (fun x=>⟨[(6,.sl 2 x.2.1.length 1 0 x.2.1.length),(5,.sl 1 0 1 0 1),(4,.p (eN x.1)),(3,.p (.bool (decide (a.v<0))))],[.hole,.arr (if x.2.2=true then .frozen else .exact) 0 1 [.p (.int .u64 1000000000000000000)],.arr .grow x.2.1.length 1 (x.2.1.map fun p=>.p (.str p))]⟩)
   (fun x=>x.1<=a.v.natAbs/\ju x.1 x.2.1=ju a.v.natAbs []/\(∀p∈x.2.1,p≠[]/\p.length<=18)/\x.2.1.length<=57600000/\x.1*tB^x.2.1.length<=a.v.natAbs) (fun x=>x.1) (a.v.natAbs,[],false) ⟨eb _,rfl,by simp,by simp,by simp⟩ ?_
  rintro⟨m,b,f⟩ ⟨k1,k2,k3,k5,k4⟩;dsimp only at k1 k2 k3 k5 k4;rcases f with _|_
  ·simp only[a0,if_false];have aw:(aq wB m).length<=900000:=by
    have:=dN bc _ _ (ea k1 (bY bc a.v.natAbs));have:=mT W;omega
   by_cases hm:m=0
   ·subst hm;have Y:b≠[]:=by
     rintro rfl;rw[ju,ju,if_pos rfl,if_neg (by omega)]at k2;have:=xC a.v.natAbs;rw[b2,da,bl,bl]at k2;rw[<-k2]at this;simp at this
    simp[eN,kK];refine⟨b,k2,k3,Y,k5,?_⟩;simp
   ·have d:=Bo m tB (by decide) (by omega) (by rw[yb];decide);have X:aq wB m≠[]:=mt ru.1 hm;have C:0<(aq wB m).length:=a5.2 X;have aK:=H5 hm b;have B:∀p∈b++[ez m],p≠[]/\p.length<=18:=by
     intro p L;rcases dk.1 L with h|h
     ·exact k3 p h
     ·rw[cy.1 h];exact⟨G0 m,G1 m⟩
    have A:m/tB<m:=fm (by omega) (by decide);have ay:=Kh (show 0<m by omega) k4 ag;have w:m/tB*tB^(b++[ez m]).length<=a.v.natAbs:=by
     rw[bd,a7,en,e7 (tB^b.length),<-eo];exact ec (e9 _ (fl _ _)) k4
    have y:(b++[ez m]).length<=57600000:=by rw[bd,a7];omega
    have r:m%tB<tB:=gi _ (by decide);have O:m/tB=0->m%tB=m:=fun h=>by have:=ed m tB;rw[h]at this;omega
    simp only[eN]at d⊢;rw[yb]at d;have N:=ru (n:=m/tB);have J:=Nl (m%tB) (eq r (by decide));have q:=Nn [48] (18-(aY (m%tB)).length) (by omega) (by simp;omega);have az:=B0 r;have Z:=OW r;rw[Ba]at q;have l:ez m=if m/tB=0 then aY (m%tB)else bb (18-(aY (m%tB)).length) 48++aY (m%tB):=by
     rw[ez,Z];split
     ·rename_i h;rw[O h]
     ·rfl
    have s:a3.wrap (18-((aY (m%tB)).length:Int))=(18-(aY (m%tB)).length:Nat):=by rw[aO _ (by omega) (by omega)];omega
    have aC:((18-(aY (m%tB)).length:Nat):Int)=18-((aY (m%tB)).length:Int):=by omega
    have u:∀t,t=ez m->(b.map fun p=>AV.p (.str p))++[AV.p (.str t)]=(b++[ez m]).map fun p=>AV.p (.str p):=fun t e=>by rw[e];simp
    by_cases F:m%tB=0
    ·have j:¬m/tB=0:=fun h=>hm (by rw[<-O h];exact F);have E:0<(aq wB (m/tB)).length:=a5.2 (mt N.1 j);have e:bb (18-(aY (m%tB)).length) 48++aY (m%tB)=ez m:=by rw[l,if_neg j]
     rw[F,pD]at e q s;rw[F,kK]at d;simp only[a7]at e q s;have hf:=u _ e;generalize D:aq wB (m/tB)=af at*;simp[C];refine cp d (by simp;exact⟨rfl,rfl⟩) ?_ (h1:=by simp[tB]);simp[E,s];refine c2 q ?_;simp;refine⟨by simp only[cN];omega,?_⟩;refine rd (m/tB,b++[ez m],true) ⟨by omega,by rw[aK];exact k2,by simpa using B,y,w⟩ A (he:=by simp[D]) (hh:=by simp only[<-hf];simp) (hr2:=by simp only[<-hf];simp)
    ·have ab:aq wB (m%tB)=[m%tB]:=rW (by omega) (eq r (by decide));rw[ab]at d
     by_cases j:m/tB=0
     ·have e:aY (m%tB)=ez m:=by rw[l,if_pos j]
      have hf:=u _ e;rw[j,kK]at d;simp[C];refine cp d (by simp;exact⟨rfl,rfl⟩) ?_ (h1:=by simp[tB]);simp;refine c2 J ?_;simp;refine⟨by simp only[cN];omega,?_⟩;refine rd (m/tB,b++[ez m],true) ⟨by omega,by rw[aK];exact k2,by simpa using B,y,w⟩ A (he:=by simp[j,kK]) (hh:=by simp only[<-hf];simp) (hr2:=by simp only[<-hf];simp)
     ·have E:0<(aq wB (m/tB)).length:=a5.2 (mt N.1 j);have e:bb (18-(aY (m%tB)).length) 48++aY (m%tB)=ez m:=by rw[l,if_neg j]
      have hf:=u _ e;generalize D:aq wB (m/tB)=af at*;simp[C];refine cp d (by simp;exact⟨rfl,rfl⟩) ?_ (h1:=by simp[tB]);simp;refine c2 J ?_;simp[E,s];refine c2 q ?_;simp;refine⟨by omega,by simp only[cN];omega,?_⟩;refine rd (m/tB,b++[ez m],true) ⟨by omega,by rw[aK];exact k2,by simpa using B,y,w⟩ A (he:=by simp[D]) (hh:=by simp only[<-hf];simp) (hr2:=by simp only[<-hf];simp)
  ·simp only[if_true];have aw:(aq wB m).length<=900000:=by
    have:=dN bc _ _ (ea k1 (bY bc a.v.natAbs));have:=mT W;omega
   by_cases hm:m=0
   ·subst hm;have Y:b≠[]:=by
     rintro rfl;rw[ju,ju,if_pos rfl,if_neg (by omega)]at k2;have:=xC a.v.natAbs;rw[b2,da,bl,bl]at k2;rw[<-k2]at this;simp at this
    simp[eN,kK];refine⟨b,k2,k3,Y,k5,?_⟩;simp
   ·have d:=Bo m tB (by decide) (by omega) (by rw[yb];decide);have X:aq wB m≠[]:=mt ru.1 hm;have C:0<(aq wB m).length:=a5.2 X;have aK:=H5 hm b;have B:∀p∈b++[ez m],p≠[]/\p.length<=18:=by
     intro p L;rcases dk.1 L with h|h
     ·exact k3 p h
     ·rw[cy.1 h];exact⟨G0 m,G1 m⟩
    have A:m/tB<m:=fm (by omega) (by decide);have ay:=Kh (show 0<m by omega) k4 ag;have w:m/tB*tB^(b++[ez m]).length<=a.v.natAbs:=by
     rw[bd,a7,en,e7 (tB^b.length),<-eo];exact ec (e9 _ (fl _ _)) k4
    have y:(b++[ez m]).length<=57600000:=by rw[bd,a7];omega
    have r:m%tB<tB:=gi _ (by decide);have O:m/tB=0->m%tB=m:=fun h=>by have:=ed m tB;rw[h]at this;omega
    simp only[eN]at d⊢;rw[yb]at d;have N:=ru (n:=m/tB);have J:=Nl (m%tB) (eq r (by decide));have q:=Nn [48] (18-(aY (m%tB)).length) (by omega) (by simp;omega);have az:=B0 r;have Z:=OW r;rw[Ba]at q;have l:ez m=if m/tB=0 then aY (m%tB)else bb (18-(aY (m%tB)).length) 48++aY (m%tB):=by
     rw[ez,Z];split
     ·rename_i h;rw[O h]
     ·rfl
    have s:a3.wrap (18-((aY (m%tB)).length:Int))=(18-(aY (m%tB)).length:Nat):=by rw[aO _ (by omega) (by omega)];omega
    have aC:((18-(aY (m%tB)).length:Nat):Int)=18-((aY (m%tB)).length:Int):=by omega
    have u:∀t,t=ez m->(b.map fun p=>AV.p (.str p))++[AV.p (.str t)]=(b++[ez m]).map fun p=>AV.p (.str p):=fun t e=>by rw[e];simp
    by_cases F:m%tB=0
    ·have j:¬m/tB=0:=fun h=>hm (by rw[<-O h];exact F);have E:0<(aq wB (m/tB)).length:=a5.2 (mt N.1 j);have e:bb (18-(aY (m%tB)).length) 48++aY (m%tB)=ez m:=by rw[l,if_neg j]
     rw[F,pD]at e q s;rw[F,kK]at d;simp only[a7]at e q s;have hf:=u _ e;generalize D:aq wB (m/tB)=af at*;simp[C];refine cp d (by simp;exact⟨rfl,rfl⟩) ?_ (h1:=by simp[tB]);simp[E,s];refine c2 q ?_;simp;refine⟨by simp only[cN];omega,?_⟩;refine rd (m/tB,b++[ez m],true) ⟨by omega,by rw[aK];exact k2,by simpa using B,y,w⟩ A (he:=by simp[D]) (hh:=by simp only[<-hf];simp) (hr2:=by simp only[<-hf];simp)
    ·have ab:aq wB (m%tB)=[m%tB]:=rW (by omega) (eq r (by decide));rw[ab]at d
     by_cases j:m/tB=0
     ·have e:aY (m%tB)=ez m:=by rw[l,if_pos j]
      have hf:=u _ e;rw[j,kK]at d;simp[C];refine cp d (by simp;exact⟨rfl,rfl⟩) ?_ (h1:=by simp[tB]);simp;refine c2 J ?_;simp;refine⟨by simp only[cN];omega,?_⟩;refine rd (m/tB,b++[ez m],true) ⟨by omega,by rw[aK];exact k2,by simpa using B,y,w⟩ A (he:=by simp[j,kK]) (hh:=by simp only[<-hf];simp) (hr2:=by simp only[<-hf];simp)
     ·have E:0<(aq wB (m/tB)).length:=a5.2 (mt N.1 j);have e:bb (18-(aY (m%tB)).length) 48++aY (m%tB)=ez m:=by rw[l,if_neg j]
      have hf:=u _ e;generalize D:aq wB (m/tB)=af at*;simp[C];refine cp d (by simp;exact⟨rfl,rfl⟩) ?_ (h1:=by simp[tB]);simp;refine c2 J ?_;simp[E,s];refine c2 q ?_;simp;refine⟨by omega,by simp only[cN];omega,?_⟩;refine rd (m/tB,b++[ez m],true) ⟨by omega,by rw[aK];exact k2,by simpa using B,y,w⟩ A (he:=by simp[D]) (hh:=by simp only[<-hf];simp) (hr2:=by simp only[<-hf];simp)
 ·rintro⟨aE,aG⟩ ⟨b,q1,aD,T,q4,ao,R,o,ai⟩;dsimp only at ao R ai;subst ai;have aA:0<b.length:=a5.2 T;have aa:aY a.v.natAbs=b.reverse.flatten:=by rw[<-Uz,q1,ju,if_neg (by omega)];simp
  obtain⟨neg,K⟩:∃neg:Bool,neg=decide (a.v<0):=⟨_,rfl⟩
  obtain⟨Q,M⟩:∃Q:List Nat,Q=if neg=true then[45]else[]:=⟨_,rfl⟩
  have aj:bI a.v=Q++b.reverse.flatten:=by
   rw[bI,<-aa,M,K]
   by_cases h:a.v<0
   ·simp[h]
   ·simp[h]
  obtain⟨g,H⟩:∃g:Nat->List Nat,g=fun k=>Q++(b.reverse.take k).flatten:=⟨_,rfl⟩
  have I:g b.length=bI a.v:=by rw[H,aj];dsimp only;rw[a6 (by simp)]
  have aB:∀k,(b.reverse.take k).flatten.length<=1000000:=fun k=>by
   have ap:b.reverse.flatten=(b.reverse.take k).flatten++(b.reverse.drop k).flatten:=by rw[<-cv,bo]
   rw[aa,ap,bd]at av;omega
  have aH:Q.length<=1:=by rw[M];split<;>simp
  have U:∀k,(g k).length<=1000001:=fun k=>by rw[H];dsimp only;rw[bd];have:=aB k;omega
  have l:∀k(h:k<b.length),g (k+1)=g k++b[b.length-1-k]'(by omega):=fun k h=>by
   rw[H];dsimp only;rw[bi (by simpa using h),cv,List.getElem_reverse,<-List.append_assoc];simp
  have ar:∀c∈bI a.v,c<256:=by
   intro c hc;rw[bI]at hc;have d:=qj a.v.natAbs;rw[List.all_eq_true]at d
   split at hc
   ·rcases dp.1 hc with h|h
    ·omega
    ·exact Jb (d c h)
   ·exact Jb (d c hc)
  have ac:a3.wrap ((b.length:Int)-1)=b.length-1:=aO _ (by omega) (by omega);have ak:∀i(h:i<b.length),b[i]≠[]/\b[i].length<=18:=fun i h=>aD _ (b3 h);have G:=Yi (g b.length) (if neg=true then b.length else b.length-1) (g b.length).length rfl (by rw[I,aj];intro h;rw[List.append_eq_nil_iff,<-aa]at h;have:=xC a.v.natAbs;rw[h.2]at this;simp at this) (by have:=U b.length;omega) (by rw[I];exact ar);simp[ao,R,ac]
  by_cases S:a.v<0
  ·rw[decide_eq_true S]at K;subst K;have ax:g 0=[45]:=by rw[H,M];simp
   simp only[if_true]at G;simp[S];refine cf (NK [45] (by simp) (by simp)) [3] ?_;simp[bk,sig,R,ac];refine lp (α:=Nat) (fun k=>⟨[(11,.p (.int .i64 ((b.length:Int)-1-k))),(10,.ptr 3 []),(6,.sl 2 b.length 1 0 b.length)],[.hole,.hole,.arr .grow b.length 1 (b.map fun p=>.p (.str p)),.box false (.st 359 [.ptr 3 [],.sl 4 k 1 0 (g k).length]),.arr .bytes k 1 (dH (g k))]⟩)
    (fun k=>k<=b.length) (fun k=>b.length-k) 0 (by simp) ?_ (he:=by simp[R]) (hh:=by simp[ax,dH]) (hr2:=by simp[dH])
   intro k hk
   by_cases z:k<b.length
   ·have w1:a3.wrap ((b.length:Int)-1-k-1)=b.length-1-(k+1:Nat):=by rw[aO _ (by omega) (by omega)];omega
    have e1:((b.length:Int)-1-k).toNat=b.length-1-k:=by omega
    have g1:(k:Int)<=(b.length:Int)-1:=by omega
    have P:b.length-1-k<b.length:=by omega
    have hx:=ak _ P;have ae:=NL (g k) (b[b.length-1-k]) k (g k).length rfl hx.1 (by omega) (by have:=U k;omega);simp[g1,e1,P,T];refine cf ae [3,4] ?_ (ak:=by simp[sig,dH]) (aI:=by simp[sig]) (hr:=by simp[dH]);simp[sig,dH,bk,w1,Bb];refine rd (k+1) z (he:=by simp[l k z]) (hh:=by simp[l k z,dH]) (hr2:=by simp[dH])
   ·have V:k=b.length:=by omega
    subst V;have g2:¬(b.length:Int)<=(b.length:Int)-1:=by omega
    simp[g2];refine cf G [3,4] ?_ (ak:=by simp[sig,dH]) (aI:=by simp[sig]) (hr:=by simp[dH]);simp[sig,bk,I]
  ·rw[decide_eq_false S]at K;subst K;simp only[a0,if_false]at G M;have ah:g 1=b[b.length-1]:=by rw[l 0 aA,H];simp[M]
   have an:b.length-1<b.length:=by omega
   have am:=ak _ an;have al:=NK (b[b.length-1]) am.1 (by omega);rw[<-ah]at al am;simp[S,ac]
   refine lp (α:=Option Nat) (fun st=>match st with
    |none=>⟨[(11,.p (.int .i64 ((b.length:Int)-1))),(10,.ptr 3 []),(6,.sl 2 b.length 1 0 b.length)],[.hole,.hole,.arr .grow b.length 1 (b.map fun p=>.p (.str p)),.box false (.p (.st 359 [.dJ,.aL]))]⟩
    |some k=>⟨[(11,.p (.int .i64 ((b.length:Int)-1-(k+1)))),(10,.ptr 3 []),(6,.sl 2 b.length 1 0 b.length)],[.hole,.hole,.arr .grow b.length 1 (b.map fun p=>.p (.str p)),.box false (.st 359 [.ptr 3 [],.sl 4 k 1 0 (g (k+1)).length]),.arr .bytes k 1 (dH (g (k+1)))]⟩)
    (fun st=>match st with
     |none=>True
     |some k=>k+1<=b.length) (fun st=>match st with
     |none=>b.length+1
     |some k=>b.length-(k+1)) none trivial ?_ (he:=by simp[R])
   intro st hk;cases st with
   |none=>
    have w1:a3.wrap ((b.length:Int)-1-1)=b.length-1-(0+1):=by rw[aO _ (by omega) (by omega)];omega
    have e1:((b.length:Int)-1).toNat=b.length-1:=by omega
    have g1:(1:Int)<=(b.length:Int):=by omega
    simp[g1,e1,an,T,<-ah];refine cf al [3] ?_;simp[bk,sig,w1];refine rd (some 0) (by show 0+1<=b.length;omega) (by show b.length-(0+1)<b.length+1;omega) (he:=by simp) (hh:=by simp[dH]) (hr2:=by simp[dH])
   |some k=>
    have hk:k+1<=b.length:=hk
    by_cases z:k+1<b.length
    ·have w1:a3.wrap ((b.length:Int)-1-(k+1)-1)=b.length-1-(k+1+1):=by rw[aO _ (by omega) (by omega)];omega
     have e1:((b.length:Int)-1-(k+1)).toNat=b.length-1-(k+1):=by omega
     have g1:(k:Int)+1<=(b.length:Int)-1:=by omega
     have P:b.length-1-(k+1)<b.length:=by omega
     have hx:=ak _ P;have ae:=NL (g (k+1)) (b[b.length-1-(k+1)]) k (g (k+1)).length rfl hx.1 (by omega) (by have:=U (k+1);omega);simp[g1,e1,P,T];refine cf ae [3,4] ?_ (ak:=by simp[sig,dH]) (aI:=by simp[sig]) (hr:=by simp[dH]);simp[sig,dH,bk,w1,Bb];refine rd (some (k+1)) z (by show b.length-(k+1+1)<b.length-(k+1);omega) (he:=by simp[l (k+1) z]) (hh:=by simp[l (k+1) z,dH]) (hr2:=by simp[dH])
    ·have V:b.length=k+1:=by omega
     have g2:¬(k:Int)+1<=(b.length:Int)-1:=by omega
     rw[V]at G I;rw[ee]at G;simp[g2];refine cf G [3,4] ?_ (ak:=by simp[sig,dH]) (aI:=by simp[sig]) (hr:=by simp[dH]);simp[sig,bk,I]
theorem Bp(a:NI)(c:okW a.v)(b:(aY a.v.natAbs).length<=1000000):au prog 248 [eI a] (.str (bI a.v)):=by
 rcases h:a.sm with _|_
 ·exact UJ a h c b
 ·exact UK a h
open Go
theorem HI:∀(r:List Nat)(a:Nat),a<=r.foldl (fun n c=>n*10+(c-48)) a
 |[],a=>eb _
 |x::r,a=>ec (show a<=a*10+(x-48)by omega) (HI r _)
theorem Hr:∀(d:List Nat)(a:Nat),d.all b6=true->d.foldl (fun n c=>n*10+(c-48)) a<1000000000000000000->Lib.parseUint10 a (d.map gt)=.ok (d.foldl (fun n c=>n*10+(c-48)) a)
 |[],a,_,_=>rfl
 |c::r,a,h,b=>by
  simp only[cc,aT]at h;have hc:=h.1;simp only[b6,aT,decide_eq_true_eq]at hc;have f:=HI r (a*10+(c-48));rw[b5]at b⊢;have e:(gt c).toNat=c:=by simp;omega
  rw[be,Lib.parseUint10,e,if_pos hc,if_neg (by omega),if_neg (by omega)];exact Hr r _ h.2 b
theorem VK{d:List Nat}(h:d.all b6=true)(b:d≠[])(f:d.length<=18):Lib.atoiAll (d.map gt)=.ok (aW d):=by
 have i:=jf _ d rfl h;have j:10^d.length<=10^18:=dy (by omega) f;cases d with
 |nil=>exact(b rfl).elim
 |cons c r=>
  have hc:=(aT ..▸(cc▸h):b6 c=true/\r.all b6=true).1;simp only[b6,aT,decide_eq_true_eq]at hc;have e:(gt c).toNat=c:=by simp;omega
  have g:aW (c::r)<1000000000000000000:=by omega
  have a:=Hr (c::r) 0 h g;rw[<-aW]at a;rw[be]at a;rw[be,Lib.atoiAll];simp only[e];rw[if_neg (by omega),Lib.parseMag,if_neg (by simp),a];dsimp only;rw[if_neg (by omega),if_neg (by omega),if_neg (by omega)]
theorem AR:∀(b:List Nat)(x:Nat),b.foldl (fun n c=>n*10+(c-48)) x=x*10^b.length+aW b
 |[],x=>by simp[aW]
 |c::b,x=>by
  rw[aW,b5,b5,AR b,AR b (0*10+(c-48)),c9,en,gg,eo,e7 10];simp[fv]
theorem HY(a b:List Nat):aW (a++b)=aW a*10^b.length+aW b:=by
 rw[aW,List.foldl_append,AR];rfl
theorem Jw(k:Nat):10^k<=2^(4*k):=by
 rw[ge];exact fd (by decide) k
theorem H9{a K:Nat}(h:4*a<=K):10^a<=2^K:=ec (Jw a) (dy (by decide) h)
theorem uH{n k:Nat}(h:n<2^k)(hk:k<=3*1000000):(aY n).length<=1000000:=
 vh h hk (by decide)
theorem Bf(a:NF)(h:bt kB a.q):au prog 164 [eF a] (.str (br a.q)):=by
 have f:kB=100000:=rfl;have w:=AZ a;have c:=Bp a.num (gQ h.1 oR) (uH h.1 (by omega));have d:=Bp a.den (gQ (by rw[jN];exact h.2) oR) (uH (by rw[jN];exact h.2) (by omega));rw[kI]at c;rw[jl,tI]at d;have g:=uH h.1 (show kB<=3*1000000 by omega);have i:=uH h.2 (show kB<=3*1000000 by omega);have j:=BM a.q.num;refine aM nf MX mix (by simp[f164]) ?_;rw[br]
 by_cases b:a.q.den=1
 ·have e:a.fp=true:=by simp[NF.fp,b]
  rw[e]at w;rw[if_pos b];simp[f164];refine c1 w ?_;simp[ad];refine c1 c ?_;simp
 ·have e:a.fp=false:=by simp[NF.fp,b]
  rw[e]at w;rw[if_neg b];simp[f164];refine c1 w ?_;simp[ad];refine e1 c ?_;simp[ad];refine⟨by omega,?_⟩;refine e1 d ?_;simp;omega
def kR:Nat:=2800
theorem xX(s:List Nat)(i:(cM s).all b6=true)(E:(cM s).length<=700):au prog 251 [.str s] (eI (.mk' (if bO s=true then -(aW (cM s):Int)else aW (cM s)))):=by
 refine aM nf K0 mix (by simp[f251]) ?_;simp[f251];refine c2 (V8 s) ?_;simp;refine c2 (Hu s) ?_;simp;generalize cM s=d at*;generalize bO s=neg at*;have w:eU 0=eI (.mk' 0):=(ny (by decide) (by decide)).symm;rw[show PV.st 128 [.int .i64 0,.aL]=eI (.mk' 0)from w];refine lp (α:=List Nat×NI) (fun x=>⟨[(4,.ptr 1 []),(3,.p (.bool neg)),(2,.ptr 0 []),(0,.p (.str x.1))],[.box false (.p (eI (.mk' 0))),.box false (.p (eI x.2))]⟩)
  (fun x=>∃m:Nat,x.2.v=m/\m*10^x.1.length+aW x.1=aW d/\x.1.all b6=true/\x.1.length<=700/\m<2^kR) (fun x=>x.1.length) (d,.mk' 0) ⟨0,rfl,by simp,i,E,e8 (by decide)⟩ ?_
 rintro⟨r,o⟩ ⟨m,k1,k2,k3,k4,k5⟩;dsimp only at k1 k2 k3 k4 k5;have S:kR=2800:=rfl;have c:o.v.natAbs<2^kR:=by rw[k1,a4];exact k5
 have I:okW o.v:=gQ c (by have:kB=100000:=rfl;omega)
 by_cases f:r=[]
 ·subst f;have u:o.v=aW d:=by rw[k1];simp[aW]at k2⊢;omega
  cases neg
  ·have e:eI (.mk' (aW d:Nat))=eI o:=mu (by rw[NI.im,u]) (fun h=>by rw[NI.im]at h;omega);simp;rw[e];simp[ad]
  ·have e:eI (.mk' (-(aW d:Nat)))=eI o.neg:=by rw[NI.neg,u]
   simp;rw[e];refine c1 (sB o I) ?_;simp[ad]
 ·have L:0<r.length:=a5.2 f;obtain⟨n,U⟩:∃n,n=min 18 r.length:=⟨_,rfl⟩
  have j:n<=r.length:=by omega
  have V:0<n:=by omega
  have G:n<=18:=by omega
  have H:(if(r.length:Int)<18 then(r.length:Int)else 18)=n:=by split<;>omega
  have g:(r.take n).length=n:=by rw[c6];omega
  have a:=k3;rw[<-bo n r,List.all_append,aT]at a;have N:=jf _ (r.take n) rfl a.1;have C:=Wx (r.take n) (aW (r.take n)) (VK a.1 (by intro e;rw[e]at g;simp at g;omega) (by omega)) (by omega);rw[g]at N;have q:10^n<=10^18:=dy (by decide) G;have z:10^n<wB^1:=by rw[gc];exact ea q (by decide)
  have A:((10^n:Nat):Int).natAbs<2^64:=by rw[a4];exact ea q (by decide)
  have O:=dN bc 1 _ z;have W:=xg c;have P:kB=100000:=rfl;have X:=jf _ d rfl i;have Q:10^d.length<=2^kR:=H9 (by have:kR=2800:=rfl;omega);have J:=Wr (.of 10) n (10^n) (by decide) rfl (by omega) (by decide) (by omega);have F:=yy o (.mk' (10^n:Nat)) (by rw[NI.im,a4];omega);have B:=vf (o.mul (.mk' (10^n:Nat))) (.of (aW (r.take n):Nat)) (gQ (nV (x:=o.v) (y:=((10^n:Nat):Int)) c A) (by omega)) (gQ (k:=64) (show((aW (r.take n):Nat):Int).natAbs<2^64 by rw[a4];omega) (by omega));have l:=qM (aW (r.take n):Nat);rw[<-sF (by omega) (by omega)]at l;have t:=qM 10;rw[<-sF (by decide) (by decide)]at t;have M:aW r=aW (r.take n)*10^(r.drop n).length+aW (r.drop n):=by rw[<-HY,bo]
  have K:r.length=n+(r.drop n).length:=by rw[List.length_drop];omega
  have D:(m*10^n+aW (r.take n))*10^(r.drop n).length+aW (r.drop n)=aW d:=by
   rw[<-k2,M,K,Nat.pow_add,gg,eo,fv]
  generalize 10^n=T at*;generalize Y:aW (r.take n)=b at*;have R:m*T+b<=aW d:=by
   have:=Nat.le_mul_of_pos_right (m*T+b) (show 0<10^(r.drop n).length from e8 (by decide));omega
  simp[f,L,H];refine⟨j,?_⟩;refine c1 C ?_;simp;refine e1 t ?_;simp;refine e2 J ?_;simp[ad];refine e2 F ?_;simp;refine e1 l ?_;simp;refine e2 B ?_;simp[ad];refine⟨rfl,j,?_⟩;refine rd (r.drop n,(o.mul (.mk' T)).add (.of b)) ⟨m*T+b,by rw[NI.qD,NI.lF,NI.im,k1];rfl,D,a.2,by dsimp only;omega,by omega⟩ (by dsimp only;omega)
theorem Bj{s:List Nat}(h:dC s=true):bO s=false/\cM s=s:=by
 have b:=jB h;have:bO s=false:=by
  rw[bO,decide_eq_false_iff_not];intro a;cases s with
  |nil=>simp at a
  |cons c r=>
   simp at a;subst a;rw[cc,aT]at b;simp[b6]at b
 exact⟨this,by rw[cM,this];rfl⟩
theorem HL(s:List Nat):bO (bS 47 s).1=bO s/\cM (bS 47 s).1=bC s/\(bS 47 s).2.1=bK s/\(bS 47 s).2.2=ek s:=by
 cases s with
 |nil=>exact⟨rfl,rfl,rfl,rfl⟩
 |cons c r=>
  by_cases h:c=45
  ·subst h;have e:bS 47 (45::r)=(45::(bS 47 r).1,(bS 47 r).2.1,(bS 47 r).2.2):=by rw[bS,if_neg (by decide)]
   rw[e];exact⟨rfl,rfl,rfl,rfl⟩
  ·have b:bO (c::r)=false:=by rw[bO,decide_eq_false_iff_not];simpa using h
   have a:cM (c::r)=c::r:=by rw[cM,b];rfl
   have d:bO (bS 47 (c::r)).1=false:=by
    rw[bO,decide_eq_false_iff_not,bS]
    split
    ·simp
    ·simpa using h
   refine⟨by rw[b,d],?_,?_,?_⟩
   ·rw[cM,d,bC,a];rfl
   ·rw[bK,a]
   ·rw[ek,a]
theorem VY{s:List Nat}(h:bU s=0):dC (bC s)=true/\(bC s).length<=600/\(bK s).length<=600/\(ek s=true->dC (bK s)=true):=by
 unfold bU at h
 split at h
 ·cases h
 rename_i a
 split at h
 ·cases h
 rename_i d;have a:mr s=true:=by simpa using a
 simp only[mr,aT,Bool.or_eq_true,Bool.not_eq_true']at a;refine⟨a.1.1,by omega,by omega,fun c=>?_⟩;rcases a.2 with b|b
 ·rw[c]at b;cases b
 ·exact b.1.1
theorem Qq(z:Int):cM (bI z)=aY z.natAbs:=by
 have:=(wV z []).2;simpa using this
theorem rJ(c:Nat):∀s:List Nat,(bS c s).1.length<=s.length/\(bS c s).2.1.length<=s.length/\(∀x∈(bS c s).1,x∈s)/\(∀x∈(bS c s).2.1,x∈s)
 |[]=>by simp[bS]
 |y::r=>by
  have a:=rJ c r;rw[bS]
  split
  ·simp;intro x hx;exact .inr hx
  ·simp only[c9,dp];refine⟨by omega,by omega,?_,fun x hx=>.inr (a.2.2.2 x hx)⟩;rintro x (rfl|hx)
   ·exact .inl rfl
   ·exact .inr (a.2.2.1 x hx)
theorem nW(s:List Nat):(cM s).length<=s.length/\∀x∈cM s,x∈s:=by
 rw[cM]
 split
 ·exact⟨by simp,fun x hx=>List.mem_of_mem_tail hx⟩
 ·exact⟨eb _,fun _ h=>h⟩
theorem kM(s:List Nat)(h:bU s=0)(n:s.length<=1048576):au prog 166 [.str s] (eF ⟨aZ s,false⟩):=by
 obtain⟨l,t,u,m⟩:=VY h;obtain⟨o,f,p,q⟩:=HL s;obtain⟨q1,r,a⟩:=iV h;have b:=Nk s 47 n;rw[p,q]at b;have c:=xX (bS 47 s).1 (by rw[f];exact jB l) (by rw[f];omega);rw[o,f]at c;have j:eI (NF.mk (aZ s) false).num=eI (.mk' (if bO s=true then -(aW (bC s):Int)else aW (bC s))):=by
  show eI ⟨(aZ s).num,false⟩=_;rw[r];rfl
 rw[<-j]at c;refine aM nf MV mix (by simp[f166]) ?_;cases hf:ek s
 ·rw[hf]at b a;simp only[a0,if_false]at a;have e:(NF.mk (aZ s) false).den=.mk' 1:=by
   show NI.mk' ((aZ s).den:Int)=_;rw[a];rfl
  have i:=B9 (NF.mk (aZ s) false).num;have k:eF (.whole (NF.mk (aZ s) false).num)=eF ⟨aZ s,false⟩:=by
   rw[eF,eF,e];rfl
  rw[k]at i;simp[f166];refine c2 b ?_;simp;refine c1 c ?_;simp;refine c1 i ?_;simp[ad]
 ·rw[hf]at b a;simp only[if_true]at a;have g:=m hf;obtain⟨d1,d2⟩:=Bj g;have d:=xX (bK s) (by rw[d2];exact jB g) (by rw[d2];omega);rw[d1,d2]at d;simp only[a0,if_false]at d;have e:eI (NF.mk (aZ s) false).den=eI (.mk' (aW (bK s):Nat)):=by
   show eI (NI.mk' ((aZ s).den:Int))=_;rw[a]
  rw[<-e]at d;rw[eF];simp[f166];refine c2 b ?_;simp;refine c1 c ?_;simp;refine c1 d ?_;simp[ad]
def kf(n:Nat):Bool:=decide (600<(aY n).length)
theorem Md(a:NI)(h:a.v.natAbs<2^kB):au prog 192 [eI a] (.bool (kf a.v.natAbs)):=by
 have l:kB=100000:=rfl;have d:=gQ h oR;have g:=Wj a d;have i:=Bp a d (uH h (by omega));have c:=Hu (bI a.v);rw[Qq]at c;refine aM nf ML mix (by simp[f192]) ?_;simp[f192];refine c1 g ?_
 by_cases j:1800<nA a.v.natAbs
 ·have b:(1800:Int)<(nA a.v.natAbs:Nat):=by omega
  have e:decide ((600:Int)<((aY a.v.natAbs).length:Nat))=kf a.v.natAbs:=by rw[kf,decide_eq_decide];omega
  simp[b];refine c1 i ?_;simp;refine c2 c ?_;simp[kf];omega
 ·have f:=dz (Ix a.v.natAbs) (dy (show 0<2 by decide) (show nA a.v.natAbs<=3*600 by omega));have k:=Gt f (by decide);have e:kf a.v.natAbs=false:=by rw[kf,decide_eq_false_iff_not];omega
  have b:¬(1800:Int)<(nA a.v.natAbs:Nat):=by omega
  simp[b,e]
def vr(q:Rat):Bool:=kf q.num.natAbs||kf q.den
theorem Bq(a:NF)(h:bt kB a.q):au prog 106 [eF a] (.bool (vr a.q)):=by
 have b:=Md a.num h.1;have c:=Md a.den (by rw[jN];exact h.2);rw[kI]at b;rw[jN]at c;refine aM nf Mo mix (by simp[f106]) ?_;rw[vr];cases hc:kf a.q.num.natAbs
 ·rw[hc]at b;simp[f106,ad];refine c1 b ?_;simp[ad];refine c1 c ?_;simp
 ·rw[hc]at b;simp[f106,ad];refine c1 b ?_;simp
def u9:List (Nat×Func)->a1->Option Func
 |[],_=>none
 |(i,g)::r,f=>bif Nat.beq i f then some g else u9 r f
def zn(P:Program):List (Nat×Func)->Prop
 |[]=>True
 |p::r=>an P p.1 p.2/\zn P r
theorem I7{P:Program}:∀{l:List (Nat×Func)},zn P l->∀{f:Nat}{fn:Func},u9 l f=some fn->an P f fn
 |[],_,f,fn,h=>by simp[u9]at h
 |(i,g)::r,a,f,fn,h=>by
  simp only[u9,Bool.cond_eq_ite]at h
  split at h
  ·rename_i hf;simp only[gm]at h;subst h;rw[<-Nat.eq_of_beq_eq_true hf];exact a.1
  ·exact I7 a.2 h
noncomputable def Pc:List (Nat×Func):=[(2,f2),(3,f3),(4,f4),(5,f5),(6,f6),(7,f7),(8,f8),(9,f9),(10,f10),(11,f11),(12,f12),(13,f13),(14,f14),(15,f15),(16,f16),(17,f17),(18,f18),(19,f19),(20,f20),(21,f21),(22,f22),(23,f23),(24,f24),(25,f25),(26,f26),(27,f27),(28,f28),(29,f29),(30,f30),(31,f31),(32,f32),(33,f33),(34,f34),(35,f35),(36,f36),(37,f37),(38,f38),(39,f39),(40,f40),(41,f41),(42,f42),(43,f43),(44,f44),(45,f45),(46,f46),(47,f47),(48,f48),(49,f49),(50,f50),(51,f51),(52,f52),(53,f53),(54,f54),(55,f55),(56,f56),(57,f57),(58,f58),(59,f59),(60,f60),(61,f61),(62,f62),(63,f63),(64,f64),(65,f65),(66,f66),(67,f67),(68,f68),(69,f69),(70,f70),(71,f71),(72,f72),(73,f73),(74,f74),(75,f75),(76,f76),(77,f77),(78,f78),(79,f79),(80,f80),(81,f81),(82,f82),(83,f83),(84,f84),(85,f85),(86,f86),(87,f87),(88,f88),(89,f89),(90,f90),(91,f91),(92,f92),(93,f93),(94,f94),(95,f95),(96,f96),(97,f97),(98,f98),(99,f99),(100,f100),(101,f101),(102,f102),(103,f103),(104,f104),(105,f105),(106,f106),(107,f107),(108,f108),(109,f109),(110,f110),(111,f111),(112,f112),(113,f113),(114,f114),(115,f115),(116,f116),(117,f117),(118,f118),(119,f119),(120,f120),(121,f121),(122,f122),(123,f123),(124,f124),(125,f125),(126,f126),(127,f127),(128,f128),(129,f129),(130,f130),(131,f131),(132,f132),(133,f133),(134,f134),(135,f135),(136,f136),(137,f137),(138,f138),(139,f139),(140,f140),(141,f141),(142,f142),(143,f143),(144,f144),(145,f145),(146,f146),(147,f147),(148,f148),(149,f149),(150,f150),(151,f151),(152,f152),(153,f153),(154,f154),(155,f155),(156,f156),(157,f157),(158,f158),(159,f159),(160,f160),(161,f161),(162,f162),(163,f163),(164,f164),(165,f165),(166,f166),(167,f167),(168,f168),(169,f169),(170,f170),(171,f171),(172,f172),(173,f173),(174,f174),(175,f175),(176,f176),(177,f177),(178,f178),(179,f179),(180,f180),(181,f181),(182,f182),(183,f183),(184,f184),(185,f185),(186,f186),(187,f187),(188,f188),(189,f189),(190,f190),(191,f191),(192,f192),(193,f193),(194,f194),(195,f195),(196,f196),(197,f197),(198,f198),(199,f199),(200,f200),(201,f201),(202,f202),(203,f203),(204,f204),(205,f205),(206,f206),(207,f207),(208,f208),(209,f209),(210,f210),(211,f211),(212,f212),(213,f213),(214,f214),(215,f215),(216,f216),(217,f217),(218,f218),(219,f219),(220,f220),(221,f221),(222,f222),(223,f223),(224,f224),(225,f225),(226,f226),(227,f227),(228,f228),(229,f229),(230,f230),(231,f231),(232,f232),(233,f233),(234,f234),(235,f235),(236,f236),(237,f237),(238,f238),(239,f239),(240,f240),(241,f241),(242,f242),(243,f243),(244,f244),(245,f245),(246,f246),(247,f247),(248,f248),(249,f249),(250,f250),(251,f251),(252,f252),(253,f253),(254,f254),(255,f255),(256,f256),(257,f257),(258,f258),(259,f259),(260,f260),(261,f261),(262,f262),(263,f263),(264,f264),(265,f265),(266,f266),(267,f267),(268,f268),(269,f269),(270,f270),(271,f271),(272,f272),(273,f273),(274,f274),(275,f275),(276,f276),(277,f277),(278,f278),(279,f279),(280,f280),(281,f281),(282,f282),(283,f283),(284,f284),(285,f285),(286,f286),(287,f287),(288,f288),(289,f289),(290,f290),(291,f291),(292,f292),(293,f293),(294,f294),(295,f295),(296,f296),(297,f297),(298,f298),(299,f299),(300,f300),(301,f301),(302,f302),(303,f303),(304,f304),(305,f305),(306,f306),(307,f307),(308,f308),(309,f309),(310,f310),(311,f311),(313,f313),(314,f314),(315,f315),(316,f316),(317,f317),(318,f318),(319,f319),(320,f320),(321,f321),(322,f322),(323,f323),(324,f324),(325,f325),(326,f326),(327,f327),(328,f328),(329,f329),(330,f330),(331,f331),(332,f332),(333,f333),(334,f334),(335,f335),(336,f336),(337,f337),(338,f338),(339,f339),(340,f340),(341,f341),(342,f342),(343,f343),(344,f344),(345,f345),(346,f346),(347,f347),(348,f348),(349,f349),(351,f351),(352,f352),(353,f353),(354,f354),(355,f355),(356,f356),(357,f357),(358,f358),(360,f360),(362,f362),(363,f363),(364,f364),(365,f365),(366,f366),(367,f367),(368,f368),(369,f369),(370,f370),(371,f371),(372,f372),(373,f373),(374,f374),(375,f375),(376,f376),(377,f377),(378,f378),(379,f379),(382,f382),(383,f383),(384,f384),(385,f385),(386,f386),(387,f387),(388,f388),(389,f389),(390,f390),(391,f391),(392,f392),(393,f393),(394,f394),(395,f395),(396,f396),(397,f397),(398,f398),(432,f432)]
theorem aGy:zn prog Pc:=⟨Zf,Z1,C4,azW,az3,aAf,aAk,Ow,Yy,Yz,YD,NZ,YX,N1,Za,N2,N3,Zd,N4,Zp,N5,vY,N6,N7,N8,N9,Oa,ZX,Z2,Z6,Z9,aeT,ag4,anS,arD,avK,azm,azA,azM,azO,azP,azQ,azS,azU,azV,Ob,Oc,Od,Oe,Of,azX,Og,azY,azZ,Oh,az0,az1,az2,az4,az5,az7,az8,az9,aAa,aAb,aAc,aAd,aAe,aAg,aAh,Oi,Oj,aAi,Ok,Ol,Om,On,aAj,Oo,aAl,aAm,Oq,aAn,aAo,aAp,Ot,Ou,Ov,Ox,aAq,aAr,aAs,Oy,aAt,Oz,aAu,OA,OB,EH,EG,EF,EE,Mp,ED,Mo,EC,EB,Ff,Fe,Fc,Fb,Fa,E9,Mn,Mm,Ml,YA,YC,M6,YE,YF,YG,YH,YI,YJ,YK,YL,YM,YN,YO,YP,YQ,YR,YS,YT,YU,YV,YW,YY,YZ,Y0,Y1,Y2,Mk,Mj,CB,Mi,Mh,Mg,Mf,Me,Y3,Y4,Y5,Y6,Y7,Y8,Y9,Zb,Zc,MZ,MY,MX,MW,MV,MU,MT,MS,MR,MQ,MP,MO,MN,E8,E7,E6,E5,E4,E3,E0,EZ,EY,EX,EW,EV,EU,ET,ES,MM,ER,ML,EP,EO,EN,EM,MK,MJ,Ze,Zg,Zh,Zi,Zj,Zk,Zl,Zm,Zn,Zo,Ee,Ed,Ec,Zq,Zr,Zs,zI,Zt,Zu,Zv,Zw,Zx,Zy,Zz,ZA,ZC,ZD,ZE,ZF,ZG,MI,MH,MG,MF,ME,MD,MC,MB,MA,K7,K6,K5,Eb,ZH,ZI,ZJ,K4,ye,K3,CA,K2,K1,K0,ZK,KZ,KY,uL,Ly,Lx,Lw,Lv,Ea,zH,D9,Lu,D8,D7,D6,D5,Eu,Et,Es,Cz,Er,Lt,ZL,ZM,ZN,Ep,Eo,En,Em,ZO,ZP,ZQ,ZR,ZS,ZT,ZU,ZV,ZW,ZY,ZZ,Ls,Lr,Lq,Lp,Lo,Ln,Z0,Lm,Ll,Z3,Lj,Li,Z4,Cy,Lh,Lg,Lf,Z5,Z7,Le,Ld,Lc,Z8,Lb,La,K9,El,K8,L3,LZ,aba,abw,acH,Ek,Ej,adY,aeF,LY,LX,LW,afF,LV,afL,LU,LS,afO,afP,ahU,ais,aiN,LR,ai0,aja,akw,ak3,amY,LQ,Ei,anY,aof,aog,apV,ap2,aqk,ara,asf,asS,asT,as0,ato,aug,aup,auy,auN,aww,awD,LP,LO,awE,ayH,ayU,ayV,azk,azl,azo,azq,azu,azv,LN,azw,azy,azz,azB,azC,azD,azF,azG,azH,azJ,azK,azL,azR,trivial⟩
noncomputable def vB(a:a1->List PV->Option PV)(kS:a1->a1->Nat):mF:=⟨u9 Pc,a,fun _ _ _=>none,kS,fun _ _ _=>none⟩
theorem aFJ{a:a1->List PV->Option PV}{kS:a1->a1->Nat}(h:∀f vs v,a f vs=some v->au prog f vs v):nm prog (vB a kS):=by
 refine⟨mix,fun f fn hf=>I7 aGy hf,fun f vs v hk=>h f vs v hk,fun f args H v H' hk=>?_,fun f args H ak v hk=>?_⟩
 ·simp only[vB]at hk;cases hk
 ·simp only[vB]at hk;cases hk
noncomputable def O5(a:a1->List PV->Option PV)(kS:a1->a1->Nat)(f:a1)(vs:List PV):Option PV:=oV prog nf (vB a kS) (jS prog nf (vB a kS) 20) f vs
theorem JR{facts:a1->List PV->Option PV}{kS:a1->a1->Nat}(h:∀f vs v,facts f vs=some v->au prog f vs v){f:a1}{vs:List PV}{v:PV}(a:O5 facts kS f vs=some v):au prog f vs v:=reckon 20 (aFJ h) a
def noF:a1->List PV->Option PV:=fun _ _=>none
def oW:PV:=.st 410 ((cb 256).map fun i=>.bool (b6 i))
theorem IP(c:Nat)(hc:c<256):au prog 386 [.bZ oW,.int .u8 c] (.bool (b6 c)):=by
 refine aM nf LN mix (by simp[f386]) ?_;have a:(cb 256)[c]?=some c:=ck hc;simp[f386,oW,a,hc]
theorem RQ(s:List Nat)(h:s.length<=1048576)(g:∀c∈s,c<256):au prog 372 [.str s,.bZ oW] (.str (kH s)):=by
 refine aM nf LP mix (by simp[f372]) ?_;simp[f372];refine lp (α:=List Nat) (fun r=>⟨[(1,.p (.bZ oW)),(0,.p (.str r))],[]⟩) (fun r=>kH r=kH s/\r.length<=s.length/\∀c∈r,c<256) (fun r=>r.length) s (by exact⟨rfl,eb _,g⟩) ?_;rintro r ⟨a,f,b⟩;cases r with
 |nil=>
  have e:kH s=[]:=by rw[<-a];rfl
  simp[e]
 |cons x r=>
  have hx:=b x (by simp);have i:kH (x::r)=if b6 x=true then kH r else x::r:=by
   rw[kH,cx];split<;>rfl
  rw[i]at a;have j:(0:Int)<(r.length:Int)+1:=by omega
  simp[j];refine c2 (IP x hx) ?_;cases d:b6 x
  ·rw[d]at a;simp[<-a]
  ·rw[d]at a;simp;exact rd r ⟨by simpa using a,by simp at f;omega,fun c hc=>b c (by simp[hc])⟩ (h1:=by simp)
theorem Rr(s:List Nat)(h:s.length<=1048576)(g:∀c∈s,c<256):au prog 373 [.str s,.bZ oW] (.str (iH s)):=by
 refine aM nf LO mix (by simp[f373]) ?_;simp[f373];refine lp (α:=List Nat) (fun r=>⟨[(1,.p (.bZ oW)),(0,.p (.str r))],[]⟩) (fun r=>iH r=iH s/\r.length<=s.length/\∀c∈r,c<256) (fun r=>r.length) s (by exact⟨rfl,eb _,g⟩) ?_;rintro r ⟨a,b,d⟩;rcases List.eq_nil_or_concat r with rfl|⟨t,x,rfl⟩
 ·have e:iH s=[]:=by rw[<-a];rfl
  simp[e]
 ·simp only[List.concat_eq_append]at a b d⊢;have hx:=d x (by simp);have i:iH (t++[x])=if b6 x=true then iH t else t++[x]:=by
   rw[iH,List.reverse_append,List.reverse_cons,b2,dg,List.singleton_append,cx]
   split
   ·rfl
   ·simp
  rw[i]at a;have j:(0:Int)<(t.length:Int)+1:=by omega
  have w1:a3.wrap (t.length:Int)=t.length:=aO _ (by omega) (by simp at b;omega);simp[j,w1];refine c2 (IP x hx) ?_;cases f:b6 x
  ·rw[f]at a;simp[<-a]
  ·rw[f]at a;simp[w1];exact rd t ⟨by simpa using a,by simp at b;omega,fun c hc=>d c (by simp[hc])⟩ (h1:=by simp)
def vi:List Nat:=[48,49,50,51,52,53,54,55,56,57]
theorem UI:au prog 371 [.str vi] (.aA [oW,.bool true]):=JR (facts:=noF) (kS:=fun _ _=>0) (fun _ _ _ h=>by cases h) (by kernel_rfl)
theorem aGM:ch prog 411=some (.st 410 (bb 256 (.bool false))):=by kernel_rfl
theorem V6(s:List Nat)(h:s.length<=1048576)(d:∀c∈s,c<256):au prog 349 [.str s,.str vi] (.str (kH (iH s))):=by
 refine aM nf LQ mix (by simp[f349]) ?_
 by_cases b:s=[]
 ·subst b;simp[f349,vi,kH,iH]
 simp[f349,vi,b];refine c1 UI ?_;have g:(iH s).length<=s.length:=by
  rw[iH,List.length_reverse];have:=(ce b6 (l:=s.reverse)).length_le;simpa using this
 have f:∀c∈iH s,c<256:=by
  intro c hc;rw[iH,List.mem_reverse]at hc;exact d c (by simpa using(ce b6 (l:=s.reverse)).subset hc)
 simp[aGM];have a:aJ oW=.agg 410:=rfl;refine⟨⟨⟨a.symm,by rw[a];intro e;cases e⟩,a.symm⟩,?_⟩;refine cp (Rr s h d) (by simp;exact⟨rfl,rfl⟩) ?_;simp;refine cp (RQ (iH s) (by omega) f) (by simp;exact⟨rfl,rfl⟩) ?_;simp
def bB:List Int->Int
 |[]=>0
 |e::r=>if e=0 then bB r else e
def bf(b:Bool)(e:Int):Int:=if b=true then e else 0
theorem V7(a:List Int)(h:a.length<=1048576):au prog 317 [.seq (a.map (.int .i64))] (.int .i64 (bB a)):=by
 refine aM nf La mix (by simp[f317]) ?_;simp[f317];refine lp (α:=Nat) (fun i=>⟨[(7,.p (.int .i64 i)),(6,.p (.int .i64 a.length)),(5,.p (.seq (a.map (.int .i64))))],[]⟩) (fun i=>i<=a.length/\bB (a.drop i)=bB a) (fun i=>a.length-i) 0 (by simp) ?_;rintro i ⟨d,b⟩;simp
 by_cases hi:i<a.length
 ·rw[a8 hi]at b;have c:=cQ (i:=i) (by omega);simp[hi]
  by_cases he:a[i]=0
  ·simp[bB,he]at b;simp[he,c];exact rd (i+1) ⟨hi,b⟩
  ·simp[bB,he]at b;simp[he,<-b]
 ·have:i=a.length:=by omega
  subst this;simp[bB]at b;simp[<-b]
theorem Ai(a:List Int)(h:a.length<=1048576):au prog 73 [.seq (a.map (.int .i64))] (.int .i64 (bB a)):=by
 refine aM nf Oj mix (by simp[f73]) ?_;simp[f73];refine lp (α:=Nat) (fun i=>⟨[(7,.p (.int .i64 i)),(6,.p (.int .i64 a.length)),(5,.p (.seq (a.map (.int .i64))))],[]⟩) (fun i=>i<=a.length/\bB (a.drop i)=bB a) (fun i=>a.length-i) 0 (by simp) ?_;rintro i ⟨d,b⟩;simp
 by_cases hi:i<a.length
 ·rw[a8 hi]at b;have c:=cQ (i:=i) (by omega);simp[hi]
  by_cases he:a[i]=0
  ·simp[bB,he]at b;simp[he,c];exact rd (i+1) ⟨hi,b⟩
  ·simp[bB,he]at b;simp[he,<-b]
 ·have:i=a.length:=by omega
  subst this;simp[bB]at b;simp[<-b]
theorem tx(a:List Int)(h:a.length<=1048576):au prog 175 [.seq (a.map (.int .i64))] (.int .i64 (bB a)):=by
 refine aM nf E8 mix (by simp[f175]) ?_;simp[f175];refine lp (α:=Nat) (fun i=>⟨[(7,.p (.int .i64 i)),(6,.p (.int .i64 a.length)),(5,.p (.seq (a.map (.int .i64))))],[]⟩) (fun i=>i<=a.length/\bB (a.drop i)=bB a) (fun i=>a.length-i) 0 (by simp) ?_;rintro i ⟨d,b⟩;simp
 by_cases hi:i<a.length
 ·rw[a8 hi]at b;have c:=cQ (i:=i) (by omega);simp[hi]
  by_cases he:a[i]=0
  ·simp[bB,he]at b;simp[he,c];exact rd (i+1) ⟨hi,b⟩
  ·simp[bB,he]at b;simp[he,<-b]
 ·have:i=a.length:=by omega
  subst this;simp[bB]at b;simp[<-b]
theorem KX(a:List Int)(h:a.length<=1048576):au prog 15 [.seq (a.map (.int .i64))] (.int .i64 (bB a)):=by
 refine aM nf N1 mix (by simp[f15]) ?_;simp[f15];refine lp (α:=Nat) (fun i=>⟨[(7,.p (.int .i64 i)),(6,.p (.int .i64 a.length)),(5,.p (.seq (a.map (.int .i64))))],[]⟩) (fun i=>i<=a.length/\bB (a.drop i)=bB a) (fun i=>a.length-i) 0 (by simp) ?_;rintro i ⟨d,b⟩;simp
 by_cases hi:i<a.length
 ·rw[a8 hi]at b;have c:=cQ (i:=i) (by omega);simp[hi]
  by_cases he:a[i]=0
  ·simp[bB,he]at b;simp[he,c];exact rd (i+1) ⟨hi,b⟩
  ·simp[bB,he]at b;simp[he,<-b]
 ·have:i=a.length:=by omega
  subst this;simp[bB]at b;simp[<-b]
theorem uv(b:Bool)(e:Int):au prog 318 [.bool b,.int .i64 e] (.int .i64 (bf b e)):=by
 refine aM nf K9 mix (by simp[f318]) ?_;cases b<;>simp[f318,bf]
theorem Fg(b:Bool)(e:Int):au prog 83 [.bool b,.int .i64 e] (.int .i64 (bf b e)):=by
 refine aM nf Oq mix (by simp[f83]) ?_;cases b<;>simp[f83,bf]
theorem jv(b:Bool)(e:Int):au prog 176 [.bool b,.int .i64 e] (.int .i64 (bf b e)):=by
 refine aM nf E7 mix (by simp[f176]) ?_;cases b<;>simp[f176,bf]
theorem Kz(s:List Nat)(h:s.length<=1048576)(i:∀c∈s,c<256):au prog 316 [.str s] (.bool (dC s)):=by
 have f:=V6 s h i;have g:=SO s;rw[show vi=[48,49,50,51,52,53,54,55,56,57]from rfl]at f;refine aM nf Lb mix (by simp[f316]) ?_;generalize kH (iH s)=t at*;cases s with
 |nil=>simp[f316,dC]
 |cons c r=>
  have hc:=i c (by simp)
  by_cases b:t=[]
  ·have d:=g.1 b;have e:dC (c::r)=(decide (¬c=48)||decide (r=[])):=by
    rw[dC,d]
    by_cases a:c=48
    ·subst a;simp
    ·simp[a]
   rw[e];clear e d g
   by_cases a:c=48
   ·cases r with
    |nil=>
     simp[f316];refine c2 f ?_;simp[b,a]
    |cons x r=>
     simp[f316];refine c2 f ?_;simp[b,a]
   ·have j:¬(c:Int)=48:=by omega
    simp[f316];refine c2 f ?_;simp[b,a,j]
  ·have d:¬(c::r).all b6=true:=mt g.2 b;have a:(c::r).all b6=false:=by simpa using d
   have e:dC (c::r)=false:=by rw[dC,a];simp
   rw[e];clear e d a g;simp[f316];refine c2 f ?_;simp[b]
theorem Yj{a b:Nat}:(decide (jG (eB a b) 1≠0))=decide (gb a b≠1):=by
 rw[decide_eq_decide,jG,eB,a4,a4]
 split
 ·simp;omega
 ·split
  ·simp;omega
  ·simp;omega
theorem De{s:List Nat}(h:s.all b6=true)(c:s.length<=700):okW (aW s:Nat):=by
 have a:=jf _ s rfl h;have b:aW s<2^kR:=dz a (H9 (by have:kR=2800:=rfl;omega));exact gQ (k:=kR) (by rw[a4];exact b) (by have:kB=100000:=rfl;have:kR=2800:=rfl;omega)
theorem yo(s:List Nat)(h:s.length<=1048576)(K:∀c∈s,c<256):au prog 263 [.str s] (.int .i64 (bU s)):=by
 have X:=VF s;have A:=Nk (cM s) 47 (ec (nW s).1 h);rw[show(bS 47 (cM s)).1=bC s from rfl,show(bS 47 (cM s)).2.1=bK s from rfl,show(bS 47 (cM s)).2.2=ek s from rfl]at A;refine aM nf Lu mix (by simp[f263]) ?_;simp[f263,-aH];rw[aH];simp[-aH];rw[aH];simp[-aH];refine c2 X ?_;simp[-aH];rw[aH];simp[-aH];refine c2 A ?_;simp[-aH];have ab:=(nW s).1;have q:=rJ 47 (cM s);have ad:(bC s).length<=1048576:=by have:=q.1;rw[bC];omega
 have ac:(bK s).length<=1048576:=by have:=q.2.1;rw[bK];omega
 have W:∀c∈bC s,c<256:=fun c hc=>K c ((nW s).2 c (q.2.2.1 c hc));have V:∀c∈bK s,c<256:=fun c hc=>K c ((nW s).2 c (q.2.2.2 c hc));clear q ab;have Z:=Kz (bC s) ad W;have Y:=Kz (bK s) ac V;obtain⟨m,B⟩:∃m,m=(dC (bC s)&&!(bO s&&decide (bC s=[48]))):=⟨_,rfl⟩
 obtain⟨f2,k⟩:∃f2,f2=(m&&(!ek s||(dC (bK s)&&decide (bK s≠[48])&&decide (bK s≠[49])))):=⟨_,rfl⟩
 have L:bU s=if f2=false then 1 else if 600<(bC s).length\/600<(bK s).length then 4 else if ek s=true/\gb (aW (bC s)) (aW (bK s))≠1 then 1 else 0:=by rw[k,B];rfl
 rw[L];clear L A;generalize ek s=fr at*;refine join (fun s'=>aN s'.env 8=.p (.bool m)/\aN s'.env 7=.p (.bool fr)/\aN s'.env 6=.p (.str (bK s))/\aN s'.env 5=.p (.str (bC s))/\s'.heap=[]) ?_ ?_
 ·simp;refine c1 Z ?_;rw[B];cases dC (bC s)
  ·simp
  ·cases bO s
   ·simp
   ·by_cases r:bC s=[48]
    ·simp[r]
    ·simp[r]
 rintro⟨I,aa⟩ ⟨d,f,g,i,t⟩;dsimp only at d f g i t;subst t;refine join (fun s'=>aN s'.env 8=.p (.bool f2)/\aN s'.env 7=.p (.bool fr)/\aN s'.env 6=.p (.str (bK s))/\aN s'.env 5=.p (.str (bC s))/\s'.heap=[]) ?_ ?_
 ·rw[k];cases fr
  ·simp[d,f,g,i]
  ·cases m
   ·simp[d,f,g,i]
   ·simp[d,f,g,i];refine c1 Y ?_;cases dC (bK s)
    ·simp[d,f,g,i]
    ·by_cases r:bK s=[48]
     ·simp[d,f,g,i,r]
     ·by_cases N:bK s=[49]
      ·simp[d,f,g,i,N]
      ·simp[d,f,g,i,r,N]
 clear d f g i I;rintro⟨I,aa⟩ ⟨d,f,g,i,t⟩;dsimp only at d f g i t;subst t;have head:∀(n v:Bool),au prog 317 [.seq [.int .i64 (bf n 1),.int .i64 (bf v 4)]] (.int .i64 (if n=true then 1 else if v=true then 4 else 0)):=fun n v=>by
  have:=V7 [bf n 1,bf v 4] (by simp);cases n<;>cases v<;>exact this
 have w0:=uv (!f2) 1;have R:=uv true 4;have wf:=uv false 4;have J:=head (!f2) true;have U:=head (!f2) false;have O:(600<(bC s).length)↔(600:Int)<((bC s).length:Nat):=by omega
 have P:(600<(bK s).length)↔(600:Int)<((bK s).length:Nat):=by omega
 by_cases u:(600:Int)<((bC s).length:Nat)
 ·simp[d,f,g,i];refine c2 w0 ?_;simp[d,f,g,i,u];refine c2 R ?_;simp;refine cp J (by simp;exact⟨rfl,rfl⟩) ?_;cases f2
  ·simp
  ·simp[O.2 u]
 by_cases x:(600:Int)<((bK s).length:Nat)
 ·simp[d,f,g,i];refine c2 w0 ?_;simp[d,f,g,i,u,x];refine c2 R ?_;simp;refine cp J (by simp;exact⟨rfl,rfl⟩) ?_;cases f2
  ·simp
  ·simp[P.2 x]
 have E:¬600<(bC s).length:=mt O.1 u;have F:¬600<(bK s).length:=mt P.1 x;have Q:=uv false 1;have ag:=uv true 1;simp[d,f,g,i];refine c2 w0 ?_;simp[d,f,g,i,u,x];refine c2 wf ?_;simp;refine cp U (by simp;exact⟨rfl,rfl⟩) ?_;cases f2
 ·simp
 cases fr
 ·simp[d,f,g,i,E,F];refine c2 Q ?_;simp[bf];exact⟨by omega,by omega⟩
 have j:dC (bC s)=true/\dC (bK s)=true:=by
  cases S:dC (bC s)
  ·rw[B,S]at k;simp at k
  cases T:dC (bK s)
  ·rw[T]at k;simp at k
  exact⟨rfl,rfl⟩
 obtain⟨ae,G⟩:=Bj j.1;obtain⟨af,H⟩:=Bj j.2;have y:=xX (bC s) (by rw[G];exact jB j.1) (by rw[G];omega);have z:=xX (bK s) (by rw[H];exact jB j.2) (by rw[H];omega);rw[ae,G]at y;rw[af,H]at z;simp only[a0,if_false]at y z;have C:=Ng (.mk' (aW (bC s):Nat)) (.mk' (aW (bK s):Nat)) (De (jB j.1) (by omega)) (De (jB j.2) (by omega));rw[NI.im,NI.im]at C;have D:=qM 1;rw[Jy]at D;have hc:=Nf (.mk' (eB (aW (bC s):Nat) (aW (bK s):Nat))) (.mk' 1) (pO (De (jB j.2) (by omega)) (by rw[NI.im,eB,a4,a4,a4];exact Nat.gcd_le_right _ (xk j.2 (fun e=>by rw[e]at k;simp at k)))) (by rw[okW];decide);rw[NI.im,NI.im]at hc;have M:=Yj (a:=aW (bC s)) (b:=aW (bK s));generalize jG (eB (aW (bC s):Nat) (aW (bK s):Nat)) 1=o at*
 by_cases l:gb (aW (bC s)) (aW (bK s))=1
 ·have w:o=0:=by simpa[l]using M
  simp[d,f,g,i,E,F,l];refine c1 y ?_;simp[d,f,g,i];refine c1 z ?_;simp;refine c2 C ?_;simp;refine c1 D ?_;simp;refine c2 hc ?_;simp[w];refine c2 Q ?_;simp[bf];rw[if_neg (by omega),if_pos l]
 ·have w:¬o=0:=by simpa[l]using M
  simp[d,f,g,i,E,F,l];refine c1 y ?_;simp[d,f,g,i];refine c1 z ?_;simp;refine c2 C ?_;simp;refine c1 D ?_;simp;refine c2 hc ?_;simp[w];refine c2 ag ?_ (h1:=by simp[w]);simp[bf];rw[if_neg (by omega),if_neg l]
def jn(s:List Nat):Prop:=s.length<=1048576/\∀c∈s,c<256
theorem VE(l:List (List Nat)):au prog 307 [.seq (l.map .str)] (.func 343 [] [.bZ (.seq (l.map .str))]):=by
 refine aM nf Lg mix (by simp[f307]) ?_;simp[f307];exact bw.refl _
def C6(s:List Nat):List PV:=[.int .i64 (bU s)]
theorem Vh(l:List (List Nat))(q:l.length<=1000000)(hs:∀s∈l,jn s):Stream prog 343 [] [.bZ (.seq (l.map .str))] (l.map C6):=by
 intro b k c H' hk d o f;refine jk nf LR mix (by simp[f343]) ?_;rw[b4]at hk;have g:∀i(h:i<l.length),(l.map C6)[i]?=some (C6 l[i]):=fun i h=>by rw[b0,a9 h];rfl
 simp[f343];refine lp (α:=Nat) (fun i=>⟨[(7,.p (.int .i64 i)),(6,.p (.int .i64 l.length)),(5,.p (.seq (l.map .str))),(0,.map b)],c i⟩) (fun i=>i<=k) (fun i=>l.length-i) 0 (by simp) ?_ (hr:=by simp;exact(d 0 (by omega)).2) (hr2:=(d 0 (by omega)).1);intro i hi;have n:=cQ (i:=i) (by omega)
 by_cases a:i<l.length
 ·have hc:=yo l[i] (hs _ (b3 a)).1 (hs _ (b3 a)).2;have gJ:(i<k/\fh prog b (c i) [.p (.int .i64 (bU l[i]))] (c (i+1)) (.p (.bool true)))\/fh prog b (c i) [.p (.int .i64 (bU l[i]))] H' (.p (.bool false)):=by
   by_cases e:i<k
   ·exact .inl ⟨e,o i _ e (g i a)⟩
   ·have:i=k:=by omega
    subst this;rcases f with⟨e1,_⟩|⟨y,e1,e2⟩
    ·rw[b4]at e1;omega
    ·rw[g i a]at e1;injection e1 with e1;subst e1;exact .inr e2
  simp[a];refine c1 hc ?_;simp;rcases gJ with⟨e,hY⟩|hY
  ·refine⟨c (i+1),_,hY,?_⟩;simp[n];exact rd (i+1) e (h1:=by omega) (hr:=by simp;exact(d (i+1) (by omega)).2) (hr2:=(d (i+1) (by omega)).1)
  ·refine⟨H',_,hY,?_⟩;simp
 ·have m:i=l.length:=by omega
  have j:k=l.length:=by omega
  rcases f with⟨e1,e2⟩|⟨y,e1,e2⟩
  ·simp[a,e2,m,j]
  ·rw[j,List.getElem?_eq_none (by simp)]at e1;cases e1
theorem xw(p:Nat->Bool):∀n,∃k,k<=n/\(∀j,j<k->p j=true)/\(k=n\/(k<n/\p k=false))
 |0=>⟨0,eb _,fun j h=>by omega,.inl rfl⟩
 |n+1=>by
  obtain⟨k,f,b,a⟩:=xw p n;rcases a with a|⟨a,d⟩
  ·subst a;cases c:p k
   ·exact⟨k,by omega,b,.inr ⟨by omega,c⟩⟩
   ·refine⟨k+1,eb _,fun j g=>?_,.inl rfl⟩
    by_cases e:j=k
    ·subst e;exact c
    ·exact b j (by omega)
  ·exact⟨k,by omega,b,.inr ⟨by omega,d⟩⟩
def lI(l:List (List Nat))(i:Nat):Int:=match l[i]? with
 |some s=>bU s
 |none=>0
theorem GI:∀(l:List (List Nat))(k:Nat),(∀j,j<k->lI l j=0)->bB (l.map bU)=bB ((l.drop k).map bU)
 |[],k,_=>by simp
 |s::l,0,_=>rfl
 |s::l,k+1,h=>by
  have a:=h 0 (by omega);have b:bU s=0:=a;rw[be,bB,if_pos b,List.drop_succ_cons];exact GI l k fun j c=>h (j+1) (by omega)
theorem So(l:List (List Nat))(c:l.length<=1000000)(hs:∀s∈l,jn s):au prog 249 [.seq (l.map .str)] (.int .i64 (bB (l.map bU))):=by
 refine aM nf K2 mix (by simp[f249]) ?_;simp[f249];refine c1 (VE l) ?_;simp;have aK:=Vh l c hs;obtain⟨k,hk,g,d⟩:=xw (fun i=>decide (lI l i=0)) l.length;have r:∀j,j<k->lI l j=0:=fun j q=>by simpa using g j q
 have f:=GI l k r;refine rf2 aK rfl (by simp) (fun L _=>[.box false (.p (.int .i64 0)),.loop L]) (fun L i=>[.box false (.p (.int .i64 (lI l (i-1)))),.loop (L.dn .ret)]) (fun i=>decide (lI l i=0)) .ret k (by simpa using hk) g (by simpa using d) (fun L=>rfl) ?_ ?_ (fun L=>rfl) ?_ ?_
 ·intro L b i hi;clear b;refine⟨rfl,by simp,fun _ c=>?_⟩;simp at c⊢;exact c
 ·intro L b i x hi hx;have t:x=[.int .i64 (lI l i)]:=by
   rw[b0]at hx;unfold lI;cases h:l[i]? with
   |none=>rw[h]at hx;cases hx
   |some s=>rw[h]at hx;injection hx with hx;rw[<-hx];rfl
  subst t;rw[ee];refine nN nf mix b rfl rfl (by kernel_rfl) ?_;have m:=congrArg dD.env b;dsimp only at m;clear b;generalize lI l i=e
  by_cases he:e=0
  ·subst he;simp;exact .inl rfl
  ·simp[he];exact .inl rfl
 ·intro a L;have a:k=l.length:=by simpa using a
  rw[f,a];simp[bB]
 ·intro a L;have a:k<l.length:=by simpa using a
  have o:¬lI l k=0:=by
   rcases d with u|⟨_,n⟩
   ·omega
   ·simpa using n
  have e1:lI l k=bU l[k]:=by unfold lI;rw[a9 a]
  rw[f,a8 a,be,bB,<-e1,if_neg o];simp[iW]
structure cW where
 x:List Nat
 y:List Nat
def dA(p:cW):PV:=.st 23 [.str p.x,.str p.y]
def ir(p:cW):Prop:=jn p.x/\jn p.y
def dE(p:cW):Int:=bB [bU p.x,bU p.y]
@[simp] theorem aJ0(p:cW):aJ (dA p)=.agg 23:=rfl
@[simp] theorem aIG(p:cW):bV (dA p)=[.str p.x,.str p.y]:=rfl
@[simp] theorem aHQ:prog.cellsOf 23=2:=by kernel_rfl
theorem QI(p:cW)(a:ir p):au prog 165 [.seq [dA p]] (.int .i64 (dE p)):=by
 have hc:=So [p.x,p.y] (by simp) (by intro s hs;simp at hs;rcases hs with rfl|rfl;exact a.1;exact a.2);refine aM nf MW mix (by simp[f165]) ?_;simp[f165];refine lp (α:=Nat) (fun i=>⟨[(8,.p (.int .i64 i)),(7,.p (.int .i64 1)),(6,.p (.seq [dA p])),(0,.p (.seq [dA p]))],[]⟩) (fun i=>i=0\/(i=1/\dE p=0)) (fun i=>1-i) 0 (.inl rfl) ?_;rintro i h;rcases h with rfl|⟨rfl,h⟩
 ·simp[ad];refine cp hc (by simp;exact⟨rfl,rfl⟩) ?_;have b:a3.wrap 1=1:=rfl;rw[show bB (dl bU [p.x,p.y])=dE p from rfl]
  by_cases h:dE p=0
  ·simp[h,b];exact rd 1 (.inr ⟨rfl,h⟩)
  ·simp[h]
 ·simp[h]
theorem v7(p:cW)(a:ir p):au prog 75 [dA p] (.int .i64 (dE p)):=by
 refine aM nf Ok mix (by simp[f75]) ?_;simp[f75,ad];refine cp (QI p a) (by simp;exact⟨rfl,rfl⟩) ?_;simp
open Go.Proofs Go.Proofs.YtanjnahmbanmaaaGreatDoor
section
variable{H:Type}{W:World}{aa:Nat->Prop}
theorem yx{n:Nat}{d:a2 H}(h:∃cs,aV prog W aa (bH prog (n+1) 22 d) cs)(a:Rows.uptoBulk d<=1048576):∃s:List Nat,bH prog (n+1) 22 d=.str s/\jn s:=by
 obtain⟨cs,h⟩:=h;cases d with
 |lit l=>
  cases l with
  |string bytes=>
   refine⟨bytes.map (·.toNat),by simp only[bH,Ds],?_,?_⟩
   ·rw[Rows.uptoBulk]at a;rw[b4];omega
   ·intro c hc;obtain⟨u,_,rfl⟩:=bv.1 hc;exact u.toNat_lt
  |_=>simp only[bH,Ds,aV]at h
 |_=>simp only[bH,Ds,aV]at h
theorem aGS:∃a b:Field,prog.underlying 24=some (.struct #[a,b])/\a.type=22/\b.type=22:=⟨_,_,underlying24,rfl,rfl⟩
theorem Pf:prog.underlyingId 24=23:=by kernel_rfl
theorem TT{m n:Nat}(q:m=n+1){d:a2 H}(h:∃cs,aV prog W aa (bH prog (m+1) 24 d) cs)(e:Rows.uptoBulk d<=1048576):∃p:cW,bH prog (m+1) 24 d=dA p/\ir p:=by
 obtain⟨cs,h⟩:=h;obtain⟨f0,f1,i,t0,t1⟩:=aGS;cases d with
 |agg l=>
  have g:∀x∈l,Rows.uptoBulk x<=1048576:=fun x hx=>by
   have:=sN.yl hx;rw[Rows.uptoBulk]at e;omega
  simp only[bH,i,aV]at h⊢;obtain⟨t,s,f,c,_⟩:=h;rw[Pf,aGu]at f;cases f
  match l,c with
  |[],c=>simp[bg]at c
  |[x],c=>simp[bg]at c
  |x::y::r,c=>
   simp only[List.zip_cons_cons,be,bg,List.zip_nil_left,dq,t0,t1]at c⊢;obtain⟨c0,_,_,g1,_,c1,_,_,g2,_⟩:=c;subst q;obtain⟨a,j,o⟩:=yx ⟨c0,g1⟩ (g x (by simp));obtain⟨b,k,e⟩:=yx ⟨c1,g2⟩ (g y (by simp));exact⟨⟨a,b⟩,by rw[j,k,Pf];rfl,o,e⟩
 |_=>simp only[bH,i,aV]at h
theorem GO{n:Nat}{d:a2 H}(h:∃cs,aV prog W aa (bH prog (n+2) 24 d) cs)(a:Rows.uptoBulk d<=1048576):∃p:cW,bH prog (n+2) 24 d=dA p/\ir p:=TT rfl h a
theorem M0{d:a2 H}(h:∃cs,aV prog W aa (bH prog 8 24 d) cs)(b:Rows.uptoBulk d<=1048576):∃p:cW,bH prog 8 24 d=dA p/\True/\ir p:=by
 obtain⟨p,e,a⟩:=GO (n:=6) h b;exact⟨p,e,trivial,a⟩
end
def bT:Nat:=1000000000
theorem aX:2<=bT:=by decide
def iP(l:List Nat):List PV:=l.map fun x:Nat=>.int .i64 x
theorem O9(w:List Nat):eZ prog 1 (w.map (AV.p∘fun x:Nat=>PV.int .i64 x)):=by
 rw[tM];intro v a;obtain⟨x,_,rfl⟩:=bv.1 a;simp[ad,aJ,bA]
def eT(n:Nat):PV:=.seq ((aq bT n).map fun x:Nat=>.int .i64 x)
theorem yF:aq bT 0=[]:=by simp[aq,my]
theorem mP{n:Nat}(b:0<n)(h:n<bT):aq bT n=[n]:=by
 have a:=ji aX (m:=1) (n:=n) (by rw[gc];exact h);rw[<-a,row,List.range_one,be,dq,ae,e6,fb,ew h];have:=tJ [] n (by omega)
 rwa [dg]at this
theorem tT{n:Nat}:aq bT n=[]↔n=0:=by
 constructor
 ·intro h;have:=bY aX n;rw[h,List.length_nil,e6]at this;omega
 ·rintro rfl;exact yF
theorem rY(w:List Nat)(h:w.length<=1048576):au prog 296 [.seq (iP w)] (.seq (iP (eg w))):=by
 refine aM nf Lo mix (by simp[f296]) ?_;simp only[iP];simp[f296];refine lp (α:=Nat) (fun i=>⟨[(0,.p (.seq ((w.take i).map fun x:Nat=>.int .i64 x)))],[]⟩) (fun i=>i<=w.length/\eg w=eg (w.take i)) (fun i=>i) w.length (by simp) ?_;rintro i ⟨k1,k2⟩;have k:(w.take i).length=i:=by rw[c6];omega
 by_cases hi:0<i
 ·obtain⟨j,rfl⟩:∃j,i=j+1:=⟨i-1,by omega⟩
  have f:a3.wrap (j:Int)=j:=aO _ (by omega) (by omega);have a:j<w.length:=by omega
  have e:(0:Int)<(j:Int)+1:=by omega
  have k3:=k2;rw[bi a]at k2;have c:min (j+1) w.length=j+1:=by omega
  have d:min ((j:Int)+1) (w.length:Int)=j+1:=by omega
  have g:¬w=[]:=by rintro rfl;simp at a
  by_cases b:w[j]=0
  ·rw[b,An]at k2;simp[e,f,a,b,c,d,g];refine⟨by rw[<-bp];exact O9 _,?_⟩;refine rd j ⟨by omega,k2⟩ (he:=?_);rw[<-bp,<-bp,List.take_take,Nat.min_eq_left (by omega)];simp
  ·rw[tJ _ _ b,<-bi a]at k2;simp[e,f,a,b,c,d,g];rw[k2,bp];exact bw.refl _
 ·obtain rfl:i=0:=by omega
  simp[eg]at k2;simp[k2]
def eG(z:Int):PV:=.st 222 [.bool (decide (z<0)),eT z.natAbs]
@[simp] theorem aJR(z:Int):aJ (eG z)=.agg 222:=rfl
@[simp] theorem aIy(z:Int):bV (eG z)=[.bool (decide (z<0)),eT z.natAbs]:=rfl
@[simp] theorem aJ5(n:Nat):aJ (eT n)=.leaf:=rfl
theorem Bm(neg:Bool)(w:List Nat)(n:Nat)(c:eg w=aq bT n)(h:w.length<=1048576):au prog 239 [.bool neg,.seq (iP w)] (eG (if neg=true then -(n:Int)else n)):=by
 have a:=rY w h;rw[c]at a;refine aM nf K6 mix (by simp[f239]) ?_;have b:(if neg=true then -(n:Int)else n).natAbs=n:=by cases neg<;>simp
 rw[eG,b,eT];have d:=tT (n:=n);have e:decide ((if neg=true then -(n:Int)else n)<0)=(neg&&decide (0<(aq bT n).length)):=by
  cases neg
  ·simp
  ·simp;rw[a5,Ne,d];omega
 rw[e];simp only[iP]at a⊢;generalize aq bT n=x at*;cases neg
 ·simp[f239];refine c1 a ?_;simp[ad]
 ·simp[f239];refine c1 a ?_;simp[ad]
  done
theorem F5{a b:Nat}(h:(aq bT a).length<(aq bT b).length):a<b:=by
 have d:=bY aX a;rcases ei a b with c|c
 ·exact c
 ·have:=dN aX (aq bT a).length b (ea c d);omega
theorem Ge{a b i:Nat}(h:a/bT^(i+1)=b/bT^(i+1))(e:ae bT a i<ae bT b i):a<b:=by
 rw[en,<-ej,<-ej]at h;have e1:=ed (a/bT^i) bT;have e2:=ed (b/bT^i) bT;rw[ae,ae]at e;rw[h]at e1;rcases ei a b with d|d
 ·exact d
 ·have:=Nat.div_le_div_right (c:=bT^i) d;omega
theorem UE{a b i:Nat}(h:a/bT^(i+1)=b/bT^(i+1))(c:ae bT a i=ae bT b i):a/bT^i=b/bT^i:=by
 rw[en,<-ej,<-ej]at h;have e1:=ed (a/bT^i) bT;have e2:=ed (b/bT^i) bT;rw[ae,ae]at c;rw[h]at e1;omega
theorem Gm(a b:Nat)(E:(aq bT a).length<=1048576)(F:(aq bT b).length<=1048576):au prog 293 [eT a,eT b] (.int .i64 (fE a b)):=by
 refine aM nf Lr mix (by simp[f293]) ?_
 by_cases l:(aq bT a).length=(aq bT b).length
 case neg=>
  have q:¬((aq bT a).length:Int)=(aq bT b).length:=by omega
  by_cases A:(aq bT a).length<(aq bT b).length
  ·have m:((aq bT a).length:Int)<(aq bT b).length:=by omega
   have:=F5 A;have hc:fE a b= -1:=if_pos this;simp[f293,eT,q,m,hc]
  ·have m:¬((aq bT a).length:Int)<(aq bT b).length:=by omega
   have:=F5 (a:=b) (b:=a) (by omega);have hc:fE a b=1:=by rw[fE,if_neg (by omega),if_pos this]
   simp[f293,eT,q,m,hc]
 have t:∀i(h:i<(aq bT a).length),(aq bT a)[i]?=some (ae bT a i):=fun i h=>by rw[a9 h,et aX h]
 have v:∀i(h:i<(aq bT b).length),(aq bT b)[i]?=some (ae bT b i):=fun i h=>by rw[a9 h,et aX h]
 have u:∀i(h:i<(aq bT a).length),(aq bT a)[i]=ae bT a i:=fun i h=>et aX h;have w:∀i(h:i<(aq bT b).length),(aq bT b)[i]=ae bT b i:=fun i h=>et aX h;have s:=bY aX a;have o:=bY aX b;rw[<-l]at o;have z:a/bT^(aq bT a).length=b/bT^(aq bT a).length:=by rw[em s,em o]
 simp only[eT];generalize aq bT a=x at*;generalize aq bT b=y at*;have D:a3.wrap ((y.length:Int)-1)=y.length-1:=aO _ (by omega) (by omega);simp[f293,l,D];refine lp (α:=Nat) (fun i=>⟨[(5,.p (.int .i64 ((i:Int)-1))),(1,.p (.seq (y.map fun x:Nat=>.int .i64 x))),(0,.p (.seq (x.map fun x:Nat=>.int .i64 x)))],[]⟩) (fun i=>i<=y.length/\a/bT^i=b/bT^i) (fun i=>i) y.length ⟨eb _,by rw[<-l];exact z⟩ ?_;rintro i ⟨k1,k2⟩
 by_cases hi:0<i
 ·obtain⟨j,rfl⟩:∃j,i=j+1:=⟨i-1,by omega⟩
  have c:j<x.length:=by omega
  have d:j<y.length:=by omega
  have C:a3.wrap ((j:Int)-1)=j-1:=aO _ (by omega) (by omega);have e:=t j c;have g:=v j d;have f:=u j c;have k:=w j d
  by_cases hq:ae bT a j=ae bT b j
  ·simp[c,d,e,g,f,k,hq,C];exact rd j ⟨by omega,UE k2 hq⟩
  ·have r:¬(ae bT a j:Int)=ae bT b j:=by omega
   by_cases n:ae bT a j<ae bT b j
   ·have:=Ge k2 n;have hc:fE a b= -1:=if_pos this;simp[c,d,e,g,f,k,r,n,hc]
   ·have:=Ge k2.symm (show ae bT b j<ae bT a j by omega);have B:ae bT b j<ae bT a j:=by omega
    have hc:fE a b=1:=by rw[fE,if_neg (by omega),if_pos this]
    simp[c,d,e,g,f,k,r,n,B,hc]
 ·obtain rfl:i=0:=by omega
  rw[e6,fb,fb]at k2;have hc:fE a b=0:=by rw[fE,if_neg (by omega),if_neg (by omega)]
  simp[hc]
theorem Vt{n i:Nat}(h:(aq bT n).length<=i):ae bT n i=0:=jh (dz (bY aX n) (dy (by decide) h))
theorem B8(a i:Nat):au prog 330 [eT a,.int .i64 i] (.int .i64 (ae bT a i:Nat)):=by
 refine aM nf LY mix (by simp[f330]) ?_
 by_cases h:i<(aq bT a).length
 ·have g1:(aq bT a)[i]=ae bT a i:=et aX h;rw[eT,<-g1];generalize aq bT a=x at*;simp[f330,h]
 ·rw[Vt (by omega),eT];generalize aq bT a=x at*;simp[f330,h]
def dZ(i n:Nat):List AV:=(cb i).map fun j=>.p (.int .i64 (ae bT n j:Nat))
theorem pG(i n:Nat):dZ (i+1) n=dZ i n++[.p (.int .i64 (ae bT n i:Nat))]:=by
 rw[dZ,List.range_succ,List.map_append];rfl
theorem ib(i n:Nat):(dZ i n).length=i:=by simp[dZ]
@[simp] theorem aJF{N:Nat×Nat->Prop}{n i:Nat}:aU N (dZ i n)=True:=by
 rw[cK,eq_iff_iff,iff_true];intro v a;simp only[dZ,bv]at a;obtain⟨x,_,rfl⟩:=a;trivial
theorem Jt(i n:Nat):dW (dZ i n)=some ((row bT i n).map fun x:Nat=>.int .i64 x):=by
 have:dZ i n=(row bT i n).map (AV.p∘fun x:Nat=>PV.int .i64 x):=by
  rw[dZ,row,dx];rfl
 rw[this];exact Hz
theorem KJ(i n:Nat):dZ i n=(row bT i n).map (AV.p∘fun x:Nat=>PV.int .i64 x):=by
 rw[dZ,row,dx];rfl
theorem VP{n i:Nat}(h:n<bT^i)(a:i=0\/bT^(i-1)<=n):row bT i n=aq bT n:=by
 have b:(aq bT n).length=i:=by
  have c:=dN aX i n h;rcases a with rfl|a
  ·omega
  ·have:=GJ aX a;omega
 have:=XM aX n;rw[b]at this;exact this.symm
theorem Wv(a b:Nat)(I:(aq bT a).length<=1000000)(J:(aq bT b).length<=1000000):au prog 292 [eT a,eT b] (eT (a+b)):=by
 refine aM nf Ls mix (by simp[f292]) ?_;have v:=bY aX a;have w:=bY aX b;have C:∀i,i<(aq bT a).length->bT^i<=a:=fun i h=>by
  rcases ei a (bT^i)with c|c
  ·have:=dN aX i a c;omega
  ·exact c
 have D:∀i,i<(aq bT b).length->bT^i<=b:=fun i h=>by
  rcases ei b (bT^i)with c|c
  ·have:=dN aX i b c;omega
  ·exact c
 have A:∀i,0<cS bT a b i->bT^i<=a+b:=fun i h=>by
  rw[cS]at h;have c:bT^i<=a%bT^i+b%bT^i:=by
   rcases ei (a%bT^i+b%bT^i) (bT^i)with d|d
   ·rw[em d]at h;omega
   ·exact d
  have:=gj a (bT^i);have:=gj b (bT^i);omega
 have f:=fun i=>B8 a i;have g:=fun i=>B8 b i;have B:∀i,(aq bT a).length<=i->(aq bT b).length<=i->cS bT a b i=0->a+b<bT^i:=fun i c d s=>by
  have g1:=dz v (dy (show 0<bT by decide) c);have g2:=dz w (dy (show 0<bT by decide) d);rw[cS,ew g1,ew g2]at s;rcases ei (a+b) (bT^i)with e|e
  ·exact e
  ·have:=Nat.div_pos e (e8 (show 0<bT by decide));omega
 have E:∃M,M=max (aq bT a).length (aq bT b).length:=⟨_,rfl⟩
 obtain⟨M,H⟩:=E;simp only[eT]at f g⊢;have F:=fun i h d=>VP (n:=a+b) (i:=i) h d;generalize aq bT (a+b)=z at*;generalize aq bT a=x at*;generalize aq bT b=y at*;simp[f292];refine lp (α:=Nat) (fun i=>⟨[(7,.p (.int .i64 i)),(6,.p (.int .i64 (cS bT a b i:Nat))),(5,.sl 0 i 1 0 i),(1,.p (.seq (y.map fun x:Nat=>.int .i64 x))),(0,.p (.seq (x.map fun x:Nat=>.int .i64 x)))],[.arr .grow i 1 (dZ i (a+b))]⟩)
  (fun i=>i<=M+1/\(i=0\/bT^(i-1)<=a+b)) (fun i=>M+1-i) 0 ⟨by omega,.inl rfl⟩ ?_ (he:=by simp[wK,dZ]) (hh:=by simp[dZ])
 rintro i ⟨k1,k2⟩;have q:=cQ (i:=i) (by omega);have K:=lg aX a b i;obtain⟨g1,g2⟩:=pz aX a b i;have N:=b8 aX a i;have O:=b8 aX b i;have t:bT=1000000000:=rfl;have w1:a3.wrap ((ae bT a i:Int)+ae bT b i)=ae bT a i+ae bT b i:=aO _ (by omega) (by omega);have r:a3.wrap ((ae bT a i:Int)+ae bT b i+cS bT a b i)=ae bT a i+ae bT b i+cS bT a b i:=aO _ (by omega) (by omega);have l:((ae bT a i:Int)+ae bT b i+cS bT a b i).tmod 1000000000=(ae bT (a+b) i:Nat):=by
  rw[Int.tmod_eq_emod_of_nonneg (by omega),<-g1,t];omega
 have m:((ae bT a i:Int)+ae bT b i+cS bT a b i).tdiv 1000000000=(cS bT a b (i+1):Nat):=by
  rw[Int.tdiv_eq_ediv_of_nonneg (by omega),<-g2,t];omega
 have o:a3.wrap (cS bT a b (i+1):Nat)=(cS bT a b (i+1):Nat):=by have:=lg aX a b (i+1);exact aO _ (by omega) (by omega)
 have j:b1 i (dZ i (a+b))=dZ i (a+b):=a6 (by rw[ib];exact eb _)
 by_cases hx:i<x.length
 ·simp[hx];refine c2 (f i) ?_;simp;refine c2 (g i) ?_;simp[w1,r,l,m,o,ib,j,<-pG];refine⟨by simp only[cN];omega,?_⟩;refine rd (i+1) ⟨by omega,.inr (by rw[ee];exact ec (C i hx) (by omega))⟩ (by omega) (he:=by simp[q])
 by_cases k:i<y.length
 ·simp[hx,k];refine c2 (f i) ?_;simp;refine c2 (g i) ?_;simp[w1,r,l,m,o,ib,j,<-pG];refine⟨by simp only[cN];omega,?_⟩;refine rd (i+1) ⟨by omega,.inr (by rw[ee];exact ec (D i k) (by omega))⟩ (by omega) (he:=by simp[q])
 by_cases hc:0<cS bT a b i
 ·have L:i=M:=by
   rcases ei M i with h|h
   ·have e0:=pz aX a b M;have c:ae bT a M=0:=jh (dz v (dy (by decide) (by omega)));have d:ae bT b M=0:=jh (dz w (dy (by decide) (by omega)));have s:=lg aX a b M;have e:i=M+1:=by omega
    subst e;rw[c,d]at e0;rw[<-e0.2,em (by omega)]at hc;omega
   ·omega
  simp[hx,k,hc];refine c2 (f i) ?_;simp;refine c2 (g i) ?_;simp[w1,r,l,m,o,ib,j,<-pG];refine⟨by simp only[cN];omega,?_⟩;refine rd (i+1) ⟨by omega,.inr (by rw[ee];exact A i hc)⟩ (by omega) (he:=by simp[q])
 ·have u:cS bT a b i=0:=by omega
  have G:=F i (B i (by omega) (by omega) u) k2;rw[<-G];simp[hx,k,u];refine⟨by rw[ib];exact eb _,?_⟩;rw[j,KJ];simp
theorem Kx(a b:Nat)(w:b<=a)(E:(aq bT a).length<=1000000):au prog 294 [eT a,eT b] (eT (a-b)):=by
 refine aM nf Lq mix (by simp[f294]) ?_;have C:=bY aX a;have j:=fun i=>B8 b i;have A:∀i(h:i<(aq bT a).length),(aq bT a)[i]?=some (ae bT a i):=fun i h=>by rw[a9 h,et aX h]
 have B:∀i(h:i<(aq bT a).length),(aq bT a)[i]=ae bT a i:=fun i h=>et aX h;have D:eg (row bT (aq bT a).length (a-b))=aq bT (a-b):=ji aX (ea (Nat.sub_le a b) C);have e:=rY (row bT (aq bT a).length (a-b)) (by rw[JT];omega);rw[D]at e;simp only[eT]at j⊢;simp only[iP]at e;generalize aq bT (a-b)=z at*;generalize aq bT a=x at*;generalize aq bT b=y at*;simp[f294];refine lp (α:=Nat) (fun i=>⟨[(7,.p (.int .i64 i)),(6,.p (.int .i64 (eX bT a b i:Nat))),(5,.sl 0 i 1 0 i),(1,.p (.seq (y.map fun x:Nat=>.int .i64 x))),(0,.p (.seq (x.map fun x:Nat=>.int .i64 x)))],[.arr .grow i 1 (dZ i (a-b))]⟩)
  (fun i=>i<=x.length) (fun i=>x.length-i) 0 (by simp) ?_ (he:=by simp[Al,dZ]) (hh:=by simp[dZ])
 intro i k1;have s:=cQ (i:=i) (by omega);have r:b1 i (dZ i (a-b))=dZ i (a-b):=a6 (by rw[ib];exact eb _);have F:bT=1000000000:=rfl;have I:=b8 aX a i;have J:=b8 aX b i;have K:=b8 aX (a-b) i;have L:eX bT a b i<=1:=by rw[eX];split<;>omega
 have w1:a3.wrap ((ae bT a i:Int)-ae bT b i)=ae bT a i-ae bT b i:=aO _ (by omega) (by omega);have n:a3.wrap ((ae bT a i:Int)-ae bT b i-eX bT a b i)=ae bT a i-ae bT b i-eX bT a b i:=aO _ (by omega) (by omega)
 by_cases hx:i<x.length
 ·have o:=A i hx;have q:=B i hx;rcases Ia aX w i with⟨u,g,v⟩|⟨u,g,v⟩
  ·have m:(ae bT a i:Int)-ae bT b i-eX bT a b i<0:=by omega
   have f:a3.wrap ((ae bT a i:Int)-ae bT b i-eX bT a b i+1000000000)=(ae bT (a-b) i:Nat):=by rw[aO _ (by omega) (by omega)];omega
   simp[hx,o,q];refine e2 (j i) ?_;simp[w1,n,m,f,ib,r,<-pG];refine⟨by simp only[cN];omega,?_⟩;refine rd (i+1) hx (he:=by simp[s,g])
  ·have m:¬(ae bT a i:Int)-ae bT b i-eX bT a b i<0:=by omega
   have f:(ae bT a i:Int)-ae bT b i-eX bT a b i=(ae bT (a-b) i:Nat):=by omega
   rw[f]at m n;simp[hx,o,q];refine e2 (j i) ?_;simp[w1,n,f,ib,r,<-pG];refine⟨by simp only[cN];omega,?_⟩;refine rd (i+1) hx (he:=by simp[s,g])
 ·have:i=x.length:=by omega
  subst this;have k:=KJ x.length (a-b);have d:(row bT x.length (a-b)).length=x.length:=JT;generalize row bT x.length (a-b)=l at e k d;have G:b1 x.length l=l:=a6 (by omega);rcases l with _|⟨c,t⟩
  ·simp at d;simp[k];refine cp e (by simp[<-d];exact⟨rfl,rfl⟩) ?_;simp
  ·have H:b1 x.length (PV.int .i64 c::dl (fun x:Nat=>PV.int .i64 x) t)=PV.int .i64 c::dl (fun x:Nat=>PV.int .i64 x) t:=a6 (by simp at d⊢;omega);simp at d;simp[k];refine cp e (by simp[<-d];exact⟨rfl,rfl⟩) ?_;simp
def cU(n:Nat)(f:Nat->Nat):List AV:=(cb n).map fun j=>.p (.int .i64 (f j:Nat))
theorem ug(n:Nat)(f:Nat->Nat):(cU n f).length=n:=by simp[cU]
theorem Ii(n:Nat):bb n (AV.p (.int .i64 0))=cU n fun _=>0:=by
 apply db (by simp[cU]);intro i a b;simp[cU]
theorem rP{n j:Nat}(f:Nat->Nat)(h:j<n):(cU n f)[j]?=some (.p (.int .i64 (f j:Nat))):=by
 rw[cU,b0,ck h];rfl
theorem BK{n i:Nat}(f g:Nat->Nat)(h:∀j,j<n->j≠i->g j=f j):(cU n f).set i (.p (.int .i64 (g i:Nat)))=cU n g:=by
 apply db (by simp[cU]);intro j c b;rw[ug]at b;rw[List.getElem_set];simp only[cU,List.getElem_map,List.getElem_range]
 by_cases a:i=j
 ·subst a;rw[if_pos rfl]
 ·rw[if_neg a,h j b (fun e=>a e.symm)]
@[simp] theorem aJE{N:Nat×Nat->Prop}{n:Nat}{f:Nat->Nat}:aU N (cU n f)=True:=by
 rw[cK,eq_iff_iff,iff_true];intro v a;simp only[cU,bv]at a;obtain⟨x,_,rfl⟩:=a;trivial
theorem xy{n:Nat}{f g:Nat->Nat}(h:∀j,j<n->f j=g j):cU n f=cU n g:=by
 rw[cU,cU];apply List.map_congr_left;intro j a;rw[h j (List.mem_range.1 a)]
end Go.az
