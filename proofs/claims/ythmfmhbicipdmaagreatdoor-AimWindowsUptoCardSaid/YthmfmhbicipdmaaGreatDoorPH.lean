import Derived.Test.YthmfmhbicipdmaaGreatDoorPG
import Derived.Test.YthmfmhbicipdmaaGreatDoorThE
import Derived.Test.YthmfmhbicipdmaaGreatDoorPE
import Derived.Lib.AtoiAll
import Derived.Test.YthmfmhbicipdmaaGreatDoorThD
/- Parts of a proof. -/
set_option linter.unusedSimpArgs false
set_option linter.unusedVariables false
set_option linter.unusedSectionVars false
open Go.Proofs.Tryz
open Bool renaming and_eq_true->aT, false_eq_true->a2
open Go renaming FuncId->a3
open Go.IntKind renaming i64->a4
open Int renaming natAbs_natCast->a5
open List renaming length_pos_iff->a6, take_of_length_le->a7, length_singleton->a8, getElem?_eq_getElem->a9, replicate->bb, length_append->be, map_cons->bi, drop_eq_getElem_cons->bl, take_succ_eq_append_getElem->bo, append_nil->bp, take_append_drop->bv, map_take->bI, mem_map->bV, getElem?_map->b2, take->b3, reverse_nil->b4, getElem_mem->b5, length_map->cb, foldl_cons->cc, range->ce, all_cons->ch, dropWhile_sublist->ck, getElem?_range->cv, flatten_append->cx, dropWhile_cons->cy, mem_singleton->c6, length_take->c9, length_cons->da, flatten_nil->db, ext_getElem->dg, nil_append->dk, mem_append->dl, map->dp, mem_cons->dq, map_nil->dz, map_map->ea
open Nat renaming pow_le_pow_right->eb, lt_of_lt_of_le->ec, lt_of_le_of_lt->ed, le_refl->ee, le_trans->ei, div_add_mod->ej, add_sub_cancel->em, lt_or_ge->en, div_div_eq_div_mul->eo, div_eq_of_lt->eq, pow_succ->ew, mul_assoc->e6, lt_trans->e7, mod_eq_of_lt->e8, pow_zero->e9, mul_comm->fb, pow_pos->fd, mul_le_mul_right->fl, div_one->fm, pow_le_pow_left->fv, div_mul_le_self->fw, div_lt_self->gb, add_assoc->gc, gcd->ge, pow_one->gg, pow_mul->gi, add_mul->gj, mod_lt->gm, mod_le->gt
open Option.some renaming injEq->gw
open UInt8 renaming ofNat->gx
namespace Go.ah
open Go.Proofs
set_option linter.unusedSectionVars false
theorem BK:dD prog 353=some [1,1]:=by kernel_rfl
section
variable{w:World}{ad ai:Nat->Prop}{β:Bd}{H:an}
theorem Vq{au:Nat}{c0 c1 v:Value}{T:TypeId}(h:w.heap[au]?=some (.cells #[c0,c1] T (0,0))):w.setCell ⟨au,0,none⟩ v=w.setRow au #[v,c1]:=by
 obtain⟨d,a⟩:=Array.getElem?_eq_some_iff.1 h;unfold World.setCell World.setRow;congr 1;apply Array.ext
 ·simp
 ·intro i b c;simp only[Array.getElem_modify]
  by_cases hi:au=i
  ·subst hi;simp[a]
  ·simp[hi]
theorem UU{t x:AV}{cs:Array Value}(g:t=iw 353 [.p .dM,x]\/t=.st 353 [.p .dM,x])(h:br prog w ad β H t cs.toList):∃y,cs=#[.pointer none,y]/\br prog w ad β H x [y]:=by
 have a:br prog w ad β H (.st 353 [.p .dM,x]) cs.toList:=by
  rcases g with rfl|rfl
  ·exact Nd.1 h
  ·exact h
 simp only[br,BK,gw]at a;obtain⟨l,k,rfl,b,d⟩:=a;simp only[bM,br,aW]at b;obtain⟨c,i,rfl,rfl,_,c2,j,rfl,e,f,rfl⟩:=b
 match c2,f with
 |[y],_=>exact⟨y,Array.ext' (by simpa using d),e⟩
theorem UN{b:Nat}{x:AV}{cs:Array Value}(h:br prog w ad β H (.st 353 [.ptr b [],x]) cs.toList):∃v y,cs=#[v,y]/\bO prog β H (.ptr b []) v:=by
 simp only[br,BK,gw]at h;obtain⟨l,j,rfl,a,d⟩:=h;simp only[bM,br]at a;obtain⟨c,g,rfl,⟨v,rfl,f⟩,_,c2,i,rfl,k,e,rfl⟩:=a
 match c2,e with
 |[y],_=>exact⟨v,y,Array.ext' (by simpa using d),f⟩
end
theorem azV{H:an}{b:Nat}{t x:AV}(f:H[b]?=some (.box false t))(i:t=iw 353 [.p .dM,x]\/t= .st 353 [.p .dM,x]):
 cA prog 338 H [.ptr b []] (H.set b (.box false (.st 353 [.ptr b [],x]))) (.p (.aE [])):=by
 refine⟨kJ func338 (by kernel_rfl),fun w ad ai β J g j K=>?_⟩;simp only[bJ,aD]at j;obtain⟨v,vs,rfl,⟨_,I,L,M,rfl,m,B⟩,rfl⟩:=j;simp only[gu,gw]at m;subst m;obtain⟨rfl,rfl⟩:=B (.inl ⟨false,t,f⟩);obtain⟨cs,T,k1,k2,k3,_,k5⟩:=g.cO b _ f;have F:aa t=.agg 353:=by
  rcases i with rfl|rfl
  ·exact CC _ _
  ·rfl
 have q:T=354:=by
  rw[F]at k5;exact dx (by simpa[jA,Gl.bx,az9]using k5)
 subst q;obtain⟨y,rfl,G⟩:=UU i k2;have o:¬ad (β.au b)/\¬ai (β.au b):=by simpa[cK]using k3
 refine(UI (β.au b) w (by simp[World.cell?,k1]) (by simp[World.shape?,k1]) (by simp[World.frozen?,k1])).mono ?_;rintro e w' ⟨rfl,rfl⟩;rw[Vq k1];have aO:cC β H β (H.set b (.box false (.st 353 [.ptr b [],x]))):=pE f (.inl ⟨_,_,_,_,rfl,rfl⟩);have aq:∀z,aJ H z->aJ (H.set b (.box false (.st 353 [.ptr b [],x]))) z:=mr f (fun _ h=>h);have r:b<H.length:=(List.getElem?_eq_some_iff.1 f).1;have u:(H.set b (.box false (.st 353 [.ptr b [],x])))[b]?=some (.box false (.st 353 [.ptr b [],x])):=List.getElem?_set_self r;have n:aG (aJ H) x:=by
  have:=g.refs b _ f;rcases i with rfl|rfl
  ·simp only[Obj.refs]at this;unfold iw at this
   split at this
   ·rename_i l d;have d:=mn d
    match l,d with
    |[a,c],d=>simp at d;rw[d.2];simp[aG]
    |[],d=>simp at d
    |[_],d=>simp at d
    |_::_::_::_,d=>simp at d
   ·simp only[aG,ba]at this;exact this.2.1
  ·simp only[Obj.refs,aG,ba]at this;exact this.2.1
 have E:∀k,ad k->(w.setRow (β.au b) #[.pointer (some ⟨β.au b,0,none⟩),y]).heap[k]?=w.heap[k]?:=fun k A=>setRow_other w _ k _ (fun s=>o.1 (s▸A));have D:Obj.refs (aJ (H.set b (.box false (.st 353 [.ptr b [],x])))) (.box false (.st 353 [.ptr b [],x])):=by
  simp only[Obj.refs,aG,ba,and_true];exact⟨⟨_,u,trivial⟩,aG.mono aq _ n⟩
 have C:=qM g f trivial (o':=.box false (.st 353 [.ptr b [],x])) trivial (fun _ h=>h) k1 (new:=#[.pointer (some ⟨β.au b,0,none⟩),y]) o aO
  ⟨_,354,setRow_heap w _ _ _ 354 _ k1,by
   simp only[br,BK,gw];refine⟨_,[[.pointer (some ⟨β.au b,0,none⟩)],[y]],rfl,?_,rfl⟩;simp only[bM,br];exact⟨_,_,rfl,⟨_,rfl,⟨rfl,_,_,0,rfl,rfl,fun _=>⟨rfl,rfl⟩⟩⟩,rfl,_,_,rfl,br.mono (fun _ x=>x) E aO _ _ n G,rfl,rfl⟩,k3,by simp,by simp[aa,jA,Gl.bx]⟩ D
 exact⟨_,β,ad,rfl,C,by simp[aD,aF,bL],by simp[aG]⟩
theorem azW{H:an}{b:Nat}{x:AV}(c:H[b]?=some (.box false (.st 353 [.ptr b [],x]))):cA prog 338 H [.ptr b []] H (.p (.aE [])):=by
 refine⟨kJ func338 (by kernel_rfl),fun w ad ai β l g f m=>?_⟩;simp only[bJ,aD]at f;obtain⟨v,vs,rfl,⟨_,j,n,i,rfl,a,d⟩,rfl⟩:=f;simp only[gu,gw]at a;subst a;obtain⟨rfl,rfl⟩:=d (.inl ⟨false,_,c⟩);obtain⟨cs,T,k1,k2,k3,_,k5⟩:=g.cO b _ c;obtain⟨v,y,rfl,h⟩:=UN k2;simp only[bO,bU]at h;obtain⟨_,k,o,i,rfl,a,d⟩:=h;simp only[gu,gw]at a;subst a;obtain⟨rfl,rfl⟩:=d (.inl ⟨false,_,c⟩);refine(UH (β.au b) w (by simp[World.cell?,k1])).mono ?_;rintro e w' ⟨rfl,rfl⟩;exact⟨_,β,ad,rfl,b6.refl g,by simp[aD,aF,bL],by simp[aG]⟩
set_option maxHeartbeats 4000000
set_option maxRecDepth 100000
@[simp] theorem gu8:(Gl.u8:TypeId)=5:=(rfl)
def dL(t:List Nat):List AV:=t.map fun(c:Nat)=>AV.p (.int .u8 (c:Int))
theorem vV(t:List Nat):(dL t).length=t.length:=by simp[dL]
theorem aLi(a t:List Nat):dL (a++t)=dL a++dL t:=by simp[dL]
theorem Dl:∀t:List Nat,eZ prog 1 (dL t)
 |[]=>by simp[dL,eZ]
 |c::t=>by
  have:=Dl t;simp only[dL,bi]at this⊢;simp[eZ];exact this
theorem Kz:∀(t:List Nat),(∀c∈t,c<256)->bytesOf (dL t)=some t
 |[],_=>rfl
 |c::t,a=>by
  have b:=a c (by simp);have:=Kz t fun c hc=>a c (by simp[hc]);show bytesOf (.p (.int .u8 (c:Int))::dL t)=some (c::t);rw[bytesOf,if_pos ⟨by omega,by omega⟩,this];simp
theorem Ra(t:List Nat)(a:t≠[])(h:t.length<=1048576):cA prog 299 [.box false (.p (.st 353 [.dM,.aP]))] [.ptr 0 [],.p (.str t)]
 [.box false (.st 353 [.ptr 0 [],.sl 1 0 1 0 t.length]),.arr .bytes 0 1 (dL t)] (.p (.aE [.int .i64 t.length,.gB])):=by
 refine fh nf Eo mix (by simp[f299]) ?_;simp[f299];refine ci (azV (b:=0) (t:=.p (.st 353 [.dM,.aP])) (x:=.p .aP) rfl (.inl rfl)) ?_;simp;refine⟨⟨Dl t,by simp only[cN];omega⟩,?_⟩;simp[a,dL]
theorem Rb(a t:List Nat)(v n:Nat)(f:n=a.length)(c:t≠[])(h:t.length<=1048576)(e:a.length<=1048576):cA prog 299 [.box false (.st 353 [.ptr 0 [],.sl 1 v 1 0 n]),.arr .bytes v 1 (dL a)] [.ptr 0 [],.p (.str t)]
 [.box false (.st 353 [.ptr 0 [],.sl 1 (v+1) 1 0 (n+t.length)]),.arr .bytes (v+1) 1 (dL (a++t))] (.p (.aE [.int .i64 t.length,.gB])):=by
 refine fh nf Eo mix (by simp[f299]) ?_;simp[f299];refine ci (azW (b:=0) (x:=.sl 1 v 1 0 n) rfl) ?_;simp;refine⟨⟨Dl t,by rw[vV];omega,by rw[vV];simp only[cN];omega⟩,?_⟩;have d:b3 n (dL a)=dL a:=a7 (by rw[vV];omega);simp[c,d,aLi];exact .inl rfl
theorem az2(a:List Nat)(v n:Nat)(b:n=a.length)(d:a≠[])(g:a.length<=1048576)(e:∀c∈a,c<256):cA prog 300 [.box false (.st 353 [.ptr 0 [],.sl 1 v 1 0 n]),.arr .bytes v 1 (dL a)] [.ptr 0 []]
 [.box false (.st 353 [.ptr 0 [],.sl 1 v 1 0 n]),.dead] (.p (.str a)):=by
 refine fh nf Pf mix (by simp[f300]) ?_;have f:0<a.length:=a6.2 d;simp[f300];refine azs (aC:=v) (es:=dL a) rfl rfl (by rw[b];exact f) (by simp[dL,b]) ?_;simp;refine azu (aC:=v) (es:=dL a) (l:=a) rfl rfl rfl (by omega) (by simp[vV,b]) (by omega) rfl ?_ ?_ ?_ ?_
 ·kernel_rfl
 ·kernel_rfl
 ·rw[a7 (by rw[vV];simp[b])];exact Kz a e
 simp
 repeat' with_reducible refine And.intro ?_ ?_
 all_goals rfl
theorem CS{σ:Nat->Nat}:∀{a b:List AV},cU σ (a++b)=cU σ a++cU σ b
 |[],b=>by simp[cU]
 |x::a,b=>by simp[cU,CS (a:=a)]
theorem zX:aB wB tB=[tB]:=tX (by decide) (by decide)
theorem Yx(a:NI)(hs:a.sm=true):ar prog 240 [eI a] (.str (bN a.v)):=by
 refine aI nf En mix (by simp[f240]) ?_;have b:=NI.pV hs;simp[f240,aa,mz hs,nu hs,dE,cW];refine c1 (aof a.v b.1 b.2) ?_;simp
theorem Oe{m k A L:Nat}(e:0<m)(h:m*tB^k<=A)(a:A<wB^L):k<64*L:=by
 have b:2^k<=tB^k:=fv (by decide) k;have c:tB^k<=m*tB^k:=Nat.le_mul_of_pos_left _ e;rw[show wB=2^64 from rfl,<-gi]at a;have d:2^k<2^(64*L):=ed (ei b (ei c h)) a
 rwa [Nat.pow_lt_pow_iff_right (by decide)]at d
theorem Yw(a:NI)(hs:a.sm=false)(W:okW a.v)(au:(bh a.v.natAbs).length<=1000000):ar prog 240 [eI a] (.str (bN a.v)):=by
 have L:=oi (eI a) a.v (mC a);have aF:=NI.zN (a:=a) (by rw[hs];decide);have ag:=ec (cm bn a.v.natAbs) (eb (show 0<wB by decide) (nZ W));obtain⟨c,cs,w1⟩:=oG hs;refine aI nf En mix (by simp[f240]) ?_;simp[f240,aa,w1,dE,cW];refine c1 L ?_;simp;refine sC (fun s'=>∃b:List (List Nat),jT 0 b=jT a.v.natAbs []/\(∀p∈b,p≠[]/\p.length<=18)/\b≠[]/\b.length<=57600000/\aS s'.env 3=.p (.bool (decide (a.v<0)))/\aS s'.env 6=.sl 2 b.length 1 0 b.length/\∃o,s'.heap=[.hole,o,.arr .grow b.length 1 (b.map fun p=>.p (.str p))]) ?_ ?_
 ·refine lp (α:=Nat×List (List Nat)×Bool) (fun x=>⟨[(6,.sl 2 x.2.1.length 1 0 x.2.1.length),(5,.sl 1 0 1 0 1),(4,.p (eN x.1)),(3,.p (.bool (decide (a.v<0))))],[.hole,.arr (if x.2.2=true then .frozen else .exact) 0 1 [.p (.int .u64 1000000000000000000)],.arr .grow x.2.1.length 1 (x.2.1.map fun p=>.p (.str p))]⟩)
   (fun x=>x.1<=a.v.natAbs/\jT x.1 x.2.1=jT a.v.natAbs []/\(∀p∈x.2.1,p≠[]/\p.length<=18)/\x.2.1.length<=57600000/\x.1*tB^x.2.1.length<=a.v.natAbs) (fun x=>x.1) (a.v.natAbs,[],false) ⟨ee _,rfl,by simp,by simp,by simp⟩ ?_
  rintro⟨m,b,f⟩ ⟨k1,k2,k3,k5,k4⟩;dsimp only at k1 k2 k3 k5 k4;rcases f with _|_
  ·simp only[a2,if_false];have av:(aB wB m).length<=900000:=by
    have:=dO bn _ _ (ed k1 (cm bn a.v.natAbs));have:=nZ W;omega
   by_cases hm:m=0
   ·subst hm;have Y:b≠[]:=by
     rintro rfl;rw[jT,jT,if_pos rfl,if_neg (by omega)]at k2;have:=zt a.v.natAbs;rw[b4,db,bp,bp]at k2;rw[<-k2]at this;simp at this
    simp[eN,lS];refine⟨b,k2,k3,Y,k5,?_⟩;simp
   ·have d:=C2 m tB (by decide) (by omega) (by rw[zX];decide);have X:aB wB m≠[]:=mt tt.1 hm;have C:0<(aB wB m).length:=a6.2 X;have aO:=LU hm b;have B:∀p∈b++[eE m],p≠[]/\p.length<=18:=by
     intro p L;rcases dl.1 L with h|h
     ·exact k3 p h
     ·rw[c6.1 h];exact⟨KQ m,KR m⟩
    have A:m/tB<m:=gb (by omega) (by decide);have ax:=Oe (show 0<m by omega) k4 ag;have w:m/tB*tB^(b++[eE m]).length<=a.v.natAbs:=by
     rw[be,a8,ew,fb (tB^b.length),<-e6];exact ei (fl _ (fw _ _)) k4
    have y:(b++[eE m]).length<=57600000:=by rw[be,a8];omega
    have r:m% tB<tB:=gm _ (by decide);have O:m/tB=0->m% tB=m:=fun h=>by have:=ej m tB;rw[h]at this;omega
    simp only[eN]at d⊢;rw[zX]at d;have N:=tt (n:=m/tB);have J:=QL (m% tB) (e7 r (by decide));have q:=QM [48] (18-(bh (m% tB)).length) (by omega) (by simp;omega);have ay:=DA r;have Z:=Sl r;rw[CR]at q;have l:eE m=if m/tB=0 then bh (m% tB)else bb (18-(bh (m% tB)).length) 48++bh (m% tB):=by
     rw[eE,Z];split
     ·rename_i h;rw[O h]
     ·rfl
    have s:a4.wrap (18-((bh (m% tB)).length:Int))=(18-(bh (m% tB)).length:Nat):=by rw[aQ _ (by omega) (by omega)];omega
    have aC:((18-(bh (m% tB)).length:Nat):Int)=18-((bh (m% tB)).length:Int):=by omega
    have u:∀t,t=eE m->(b.map fun p=>AV.p (.str p))++[AV.p (.str t)]=(b++[eE m]).map fun p=>AV.p (.str p):=fun t e=>by rw[e];simp
    by_cases F:m% tB=0
    ·have j:¬m/tB=0:=fun h=>hm (by rw[<-O h];exact F);have E:0<(aB wB (m/tB)).length:=a6.2 (mt N.1 j);have e:bb (18-(bh (m% tB)).length) 48++bh (m% tB)=eE m:=by rw[l,if_neg j]
     rw[F,q7]at e q s;rw[F,lS]at d;simp only[a8]at e q s;have hf:=u _ e;generalize D:aB wB (m/tB)=af at*;simp[C];refine cp d (by simp;exact⟨rfl,rfl⟩) ?_ (h1:=by simp[tB]);simp[E,s];refine c2 q ?_;simp;refine⟨by simp only[cN];omega,?_⟩;refine rd (m/tB,b++[eE m],true) ⟨by omega,by rw[aO];exact k2,by simpa using B,y,w⟩ A (he:=by simp[D]) (hh:=by simp only[<-hf];simp) (hr2:=by simp only[<-hf];simp)
    ·have ac:aB wB (m% tB)=[m% tB]:=tX (by omega) (e7 r (by decide));rw[ac]at d
     by_cases j:m/tB=0
     ·have e:bh (m% tB)=eE m:=by rw[l,if_pos j]
      have hf:=u _ e;rw[j,lS]at d;simp[C];refine cp d (by simp;exact⟨rfl,rfl⟩) ?_ (h1:=by simp[tB]);simp;refine c2 J ?_;simp;refine⟨by simp only[cN];omega,?_⟩;refine rd (m/tB,b++[eE m],true) ⟨by omega,by rw[aO];exact k2,by simpa using B,y,w⟩ A (he:=by simp[j,lS]) (hh:=by simp only[<-hf];simp) (hr2:=by simp only[<-hf];simp)
     ·have E:0<(aB wB (m/tB)).length:=a6.2 (mt N.1 j);have e:bb (18-(bh (m% tB)).length) 48++bh (m% tB)=eE m:=by rw[l,if_neg j]
      have hf:=u _ e;generalize D:aB wB (m/tB)=af at*;simp[C];refine cp d (by simp;exact⟨rfl,rfl⟩) ?_ (h1:=by simp[tB]);simp;refine c2 J ?_;simp[E,s];refine c2 q ?_;simp;refine⟨by omega,by simp only[cN];omega,?_⟩;refine rd (m/tB,b++[eE m],true) ⟨by omega,by rw[aO];exact k2,by simpa using B,y,w⟩ A (he:=by simp[D]) (hh:=by simp only[<-hf];simp) (hr2:=by simp only[<-hf];simp)
  ·simp only[if_true];have av:(aB wB m).length<=900000:=by
    have:=dO bn _ _ (ed k1 (cm bn a.v.natAbs));have:=nZ W;omega
   by_cases hm:m=0
   ·subst hm;have Y:b≠[]:=by
     rintro rfl;rw[jT,jT,if_pos rfl,if_neg (by omega)]at k2;have:=zt a.v.natAbs;rw[b4,db,bp,bp]at k2;rw[<-k2]at this;simp at this
    simp[eN,lS];refine⟨b,k2,k3,Y,k5,?_⟩;simp
   ·have d:=C2 m tB (by decide) (by omega) (by rw[zX];decide);have X:aB wB m≠[]:=mt tt.1 hm;have C:0<(aB wB m).length:=a6.2 X;have aO:=LU hm b;have B:∀p∈b++[eE m],p≠[]/\p.length<=18:=by
     intro p L;rcases dl.1 L with h|h
     ·exact k3 p h
     ·rw[c6.1 h];exact⟨KQ m,KR m⟩
    have A:m/tB<m:=gb (by omega) (by decide);have ax:=Oe (show 0<m by omega) k4 ag;have w:m/tB*tB^(b++[eE m]).length<=a.v.natAbs:=by
     rw[be,a8,ew,fb (tB^b.length),<-e6];exact ei (fl _ (fw _ _)) k4
    have y:(b++[eE m]).length<=57600000:=by rw[be,a8];omega
    have r:m% tB<tB:=gm _ (by decide);have O:m/tB=0->m% tB=m:=fun h=>by have:=ej m tB;rw[h]at this;omega
    simp only[eN]at d⊢;rw[zX]at d;have N:=tt (n:=m/tB);have J:=QL (m% tB) (e7 r (by decide));have q:=QM [48] (18-(bh (m% tB)).length) (by omega) (by simp;omega);have ay:=DA r;have Z:=Sl r;rw[CR]at q;have l:eE m=if m/tB=0 then bh (m% tB)else bb (18-(bh (m% tB)).length) 48++bh (m% tB):=by
     rw[eE,Z];split
     ·rename_i h;rw[O h]
     ·rfl
    have s:a4.wrap (18-((bh (m% tB)).length:Int))=(18-(bh (m% tB)).length:Nat):=by rw[aQ _ (by omega) (by omega)];omega
    have aC:((18-(bh (m% tB)).length:Nat):Int)=18-((bh (m% tB)).length:Int):=by omega
    have u:∀t,t=eE m->(b.map fun p=>AV.p (.str p))++[AV.p (.str t)]=(b++[eE m]).map fun p=>AV.p (.str p):=fun t e=>by rw[e];simp
    by_cases F:m% tB=0
    ·have j:¬m/tB=0:=fun h=>hm (by rw[<-O h];exact F);have E:0<(aB wB (m/tB)).length:=a6.2 (mt N.1 j);have e:bb (18-(bh (m% tB)).length) 48++bh (m% tB)=eE m:=by rw[l,if_neg j]
     rw[F,q7]at e q s;rw[F,lS]at d;simp only[a8]at e q s;have hf:=u _ e;generalize D:aB wB (m/tB)=af at*;simp[C];refine cp d (by simp;exact⟨rfl,rfl⟩) ?_ (h1:=by simp[tB]);simp[E,s];refine c2 q ?_;simp;refine⟨by simp only[cN];omega,?_⟩;refine rd (m/tB,b++[eE m],true) ⟨by omega,by rw[aO];exact k2,by simpa using B,y,w⟩ A (he:=by simp[D]) (hh:=by simp only[<-hf];simp) (hr2:=by simp only[<-hf];simp)
    ·have ac:aB wB (m% tB)=[m% tB]:=tX (by omega) (e7 r (by decide));rw[ac]at d
     by_cases j:m/tB=0
     ·have e:bh (m% tB)=eE m:=by rw[l,if_pos j]
      have hf:=u _ e;rw[j,lS]at d;simp[C];refine cp d (by simp;exact⟨rfl,rfl⟩) ?_ (h1:=by simp[tB]);simp;refine c2 J ?_;simp;refine⟨by simp only[cN];omega,?_⟩;refine rd (m/tB,b++[eE m],true) ⟨by omega,by rw[aO];exact k2,by simpa using B,y,w⟩ A (he:=by simp[j,lS]) (hh:=by simp only[<-hf];simp) (hr2:=by simp only[<-hf];simp)
     ·have E:0<(aB wB (m/tB)).length:=a6.2 (mt N.1 j);have e:bb (18-(bh (m% tB)).length) 48++bh (m% tB)=eE m:=by rw[l,if_neg j]
      have hf:=u _ e;generalize D:aB wB (m/tB)=af at*;simp[C];refine cp d (by simp;exact⟨rfl,rfl⟩) ?_ (h1:=by simp[tB]);simp;refine c2 J ?_;simp[E,s];refine c2 q ?_;simp;refine⟨by omega,by simp only[cN];omega,?_⟩;refine rd (m/tB,b++[eE m],true) ⟨by omega,by rw[aO];exact k2,by simpa using B,y,w⟩ A (he:=by simp[D]) (hh:=by simp only[<-hf];simp) (hr2:=by simp only[<-hf];simp)
 ·rintro⟨aE,aG⟩ ⟨b,q1,aD,T,q4,an,R,o,ai⟩;dsimp only at an R ai;subst ai;have az:0<b.length:=a6.2 T;have ab:bh a.v.natAbs=b.reverse.flatten:=by rw[<-Ym,q1,jT,if_neg (by omega)];simp
  obtain⟨neg,K⟩:∃neg:Bool,neg=decide (a.v<0):=⟨_,rfl⟩
  obtain⟨Q,M⟩:∃Q:List Nat,Q=if neg=true then[45]else[]:=⟨_,rfl⟩
  have aj:bN a.v=Q++b.reverse.flatten:=by
   rw[bN,<-ab,M,K]
   by_cases h:a.v<0
   ·simp[h]
   ·simp[h]
  obtain⟨g,H⟩:∃g:Nat->List Nat,g=fun k=>Q++(b.reverse.take k).flatten:=⟨_,rfl⟩
  have I:g b.length=bN a.v:=by rw[H,aj];dsimp only;rw[a7 (by simp)]
  have aA:∀k,(b.reverse.take k).flatten.length<=1000000:=fun k=>by
   have ao:b.reverse.flatten=(b.reverse.take k).flatten++(b.reverse.drop k).flatten:=by rw[<-cx,bv]
   rw[ab,ao,be]at au;omega
  have aH:Q.length<=1:=by rw[M];split<;>simp
  have U:∀k,(g k).length<=1000001:=fun k=>by rw[H];dsimp only;rw[be];have:=aA k;omega
  have l:∀k(h:k<b.length),g (k+1)=g k++b[b.length-1-k]'(by omega):=fun k h=>by
   rw[H];dsimp only;rw[bo (by simpa using h),cx,List.getElem_reverse,<-List.append_assoc];simp
  have ap:∀c∈bN a.v,c<256:=by
   intro c hc;rw[bN]at hc;have d:=rQ a.v.natAbs;rw[List.all_eq_true]at d
   split at hc
   ·rcases dq.1 hc with h|h
    ·omega
    ·exact MV (d c h)
   ·exact MV (d c hc)
  have ad:a4.wrap ((b.length:Int)-1)=b.length-1:=aQ _ (by omega) (by omega);have aq:∀i(h:i<b.length),b[i]≠[]/\b[i].length<=18:=fun i h=>aD _ (b5 h);have G:=az2 (g b.length) (if neg=true then b.length else b.length-1) (g b.length).length rfl (by rw[I,aj];intro h;rw[List.append_eq_nil_iff,<-ab]at h;have:=zt a.v.natAbs;rw[h.2]at this;simp at this) (by have:=U b.length;omega) (by rw[I];exact ap);simp[an,R,ad]
  by_cases S:a.v<0
  ·rw[decide_eq_true S]at K;subst K;have aw:g 0=[45]:=by rw[H,M];simp
   simp only[if_true]at G;simp[S];refine cf (Ra [45] (by simp) (by simp)) [3] ?_;simp[bf,sig,R,ad];refine lp (α:=Nat) (fun k=>⟨[(11,.p (.int .i64 ((b.length:Int)-1-k))),(10,.ptr 3 []),(6,.sl 2 b.length 1 0 b.length)],[.hole,.hole,.arr .grow b.length 1 (b.map fun p=>.p (.str p)),.box false (.st 353 [.ptr 3 [],.sl 4 k 1 0 (g k).length]),.arr .bytes k 1 (dL (g k))]⟩)
    (fun k=>k<=b.length) (fun k=>b.length-k) 0 (by simp) ?_ (he:=by simp[R]) (hh:=by simp[aw,dL]) (hr2:=by simp[dL])
   intro k hk
   by_cases z:k<b.length
   ·have w1:a4.wrap ((b.length:Int)-1-k-1)=b.length-1-(k+1:Nat):=by rw[aQ _ (by omega) (by omega)];omega
    have e1:((b.length:Int)-1-k).toNat=b.length-1-k:=by omega
    have g1:(k:Int)<=(b.length:Int)-1:=by omega
    have P:b.length-1-k<b.length:=by omega
    have hx:=aq _ P;have ae:=Rb (g k) (b[b.length-1-k]) k (g k).length rfl hx.1 (by omega) (by have:=U k;omega);simp[g1,e1,P,T];refine cf ae [3,4] ?_ (aq:=by simp[sig,dL]) (aM:=by simp[sig]) (hr:=by simp[dL]);simp[sig,dL,bf,w1,CS];refine rd (k+1) z (he:=by simp[l k z]) (hh:=by simp[l k z,dL]) (hr2:=by simp[dL])
   ·have V:k=b.length:=by omega
    subst V;have g2:¬(b.length:Int)<=(b.length:Int)-1:=by omega
    simp[g2];refine cf G [3,4] ?_ (aq:=by simp[sig,dL]) (aM:=by simp[sig]) (hr:=by simp[dL]);simp[sig,bf,I]
  ·rw[decide_eq_false S]at K;subst K;simp only[a2,if_false]at G M;have ah:g 1=b[b.length-1]:=by rw[l 0 az,H];simp[M]
   have am:b.length-1<b.length:=by omega
   have al:=aq _ am;have ak:=Ra (b[b.length-1]) al.1 (by omega);rw[<-ah]at ak al;simp[S,ad]
   refine lp (α:=Option Nat) (fun st=>match st with
     |none=>⟨[(11,.p (.int .i64 ((b.length:Int)-1))),(10,.ptr 3 []),(6,.sl 2 b.length 1 0 b.length)],[.hole,.hole,.arr .grow b.length 1 (b.map fun p=>.p (.str p)),.box false (.p (.st 353 [.dM,.aP]))]⟩
     |some k=>⟨[(11,.p (.int .i64 ((b.length:Int)-1-(k+1)))),(10,.ptr 3 []),(6,.sl 2 b.length 1 0 b.length)],[.hole,.hole,.arr .grow b.length 1 (b.map fun p=>.p (.str p)),.box false (.st 353 [.ptr 3 [],.sl 4 k 1 0 (g (k+1)).length]),.arr .bytes k 1 (dL (g (k+1)))]⟩)
    (fun st=>match st with
     |none=>True
     |some k=>k+1<=b.length) (fun st=>match st with
     |none=>b.length+1
     |some k=>b.length-(k+1)) none trivial ?_ (he:=by simp[R])
   intro st hk;cases st with
   |none=>
    have w1:a4.wrap ((b.length:Int)-1-1)=b.length-1-(0+1):=by rw[aQ _ (by omega) (by omega)];omega
    have e1:((b.length:Int)-1).toNat=b.length-1:=by omega
    have g1:(1:Int)<=(b.length:Int):=by omega
    simp[g1,e1,am,T,<-ah];refine cf ak [3] ?_;simp[bf,sig,w1];refine rd (some 0) (by show 0+1<=b.length;omega) (by show b.length-(0+1)<b.length+1;omega) (he:=by simp) (hh:=by simp[dL]) (hr2:=by simp[dL])
   |some k=>
    have hk:k+1<=b.length:=hk
    by_cases z:k+1<b.length
    ·have w1:a4.wrap ((b.length:Int)-1-(k+1)-1)=b.length-1-(k+1+1):=by rw[aQ _ (by omega) (by omega)];omega
     have e1:((b.length:Int)-1-(k+1)).toNat=b.length-1-(k+1):=by omega
     have g1:(k:Int)+1<=(b.length:Int)-1:=by omega
     have P:b.length-1-(k+1)<b.length:=by omega
     have hx:=aq _ P;have ae:=Rb (g (k+1)) (b[b.length-1-(k+1)]) k (g (k+1)).length rfl hx.1 (by omega) (by have:=U (k+1);omega);simp[g1,e1,P,T];refine cf ae [3,4] ?_ (aq:=by simp[sig,dL]) (aM:=by simp[sig]) (hr:=by simp[dL]);simp[sig,dL,bf,w1,CS];refine rd (some (k+1)) z (by show b.length-(k+1+1)<b.length-(k+1);omega) (he:=by simp[l (k+1) z]) (hh:=by simp[l (k+1) z,dL]) (hr2:=by simp[dL])
    ·have V:b.length=k+1:=by omega
     have g2:¬(k:Int)+1<=(b.length:Int)-1:=by omega
     rw[V]at G I;rw[em]at G;simp[g2];refine cf G [3,4] ?_ (aq:=by simp[sig,dL]) (aM:=by simp[sig]) (hr:=by simp[dL]);simp[sig,bf,I]
theorem C3(a:NI)(c:okW a.v)(b:(bh a.v.natAbs).length<=1000000):ar prog 240 [eI a] (.str (bN a.v)):=by
 rcases h:a.sm with _|_
 ·exact Yw a h c b
 ·exact Yx a h
open Go
theorem Lx:∀(r:List Nat)(a:Nat),a<=r.foldl (fun n c=>n*10+(c-48)) a
 |[],a=>ee _
 |x::r,a=>ei (show a<=a*10+(x-48)by omega) (Lx r _)
theorem Lh:∀(d:List Nat)(a:Nat),d.all cr=true->d.foldl (fun n c=>n*10+(c-48)) a<1000000000000000000->Lib.parseUint10 a (d.map gx)=.ok (d.foldl (fun n c=>n*10+(c-48)) a)
 |[],a,_,_=>rfl
 |c::r,a,h,b=>by
  simp only[ch,aT]at h;have hc:=h.1;simp only[cr,aT,decide_eq_true_eq]at hc;have f:=Lx r (a*10+(c-48));rw[cc]at b⊢;have e:(gx c).toNat=c:=by simp;omega
  rw[bi,Lib.parseUint10,e,if_pos hc,if_neg (by omega),if_neg (by omega)];exact Lh r _ h.2 b
theorem Zu{d:List Nat}(h:d.all cr=true)(b:d≠[])(f:d.length<=18):Lib.atoiAll (d.map gx)=.ok (bc d):=by
 have i:=jE _ d rfl h;have j:10^d.length<=10^18:=eb (by omega) f;cases d with
 |nil=>exact(b rfl).elim
 |cons c r=>
  have hc:=(aT ..▸(ch▸h):cr c=true/\r.all cr=true).1;simp only[cr,aT,decide_eq_true_eq]at hc;have e:(gx c).toNat=c:=by simp;omega
  have g:bc (c::r)<1000000000000000000:=by omega
  have a:=Lh (c::r) 0 h g;rw[<-bc]at a;rw[bi]at a;rw[bi,Lib.atoiAll];simp only[e];rw[if_neg (by omega),Lib.parseMag,if_neg (by simp),a];dsimp only;rw[if_neg (by omega),if_neg (by omega),if_neg (by omega)]
theorem CB:∀(b:List Nat)(x:Nat),b.foldl (fun n c=>n*10+(c-48)) x=x*10^b.length+bc b
 |[],x=>by simp[bc]
 |c::b,x=>by
  rw[bc,cc,cc,CB b,CB b (0*10+(c-48)),da,ew,gj,e6,fb 10];simp[gc]
theorem LP(a b:List Nat):bc (a++b)=bc a*10^b.length+bc b:=by
 rw[bc,List.foldl_append,CB];rfl
theorem Nn(k:Nat):10^k<=2^(4*k):=by
 rw[gi];exact fv (by decide) k
theorem LY{a K:Nat}(h:4*a<=K):10^a<=2^K:=ei (Nn a) (eb (by decide) h)
theorem wD{n k:Nat}(h:n<2^k)(hk:k<=3*1000000):(bh n).length<=1000000:=
 Es h hk (by decide)
theorem adY(a:NF)(h:bE kB a.q):ar prog 146 [eF a] (.str (bg a.q)):=by
 have f:kB=100000:=rfl;have w:=CF a;have c:=C3 a.num (iE h.1 qw) (wD h.1 (by omega));have d:=C3 a.den (iE (by rw[kG];exact h.2) qw) (wD (by rw[kG];exact h.2) (by omega));rw[lQ]at c;rw[jJ,vr]at d;have g:=wD h.1 (show kB<=3*1000000 by omega);have i:=wD h.2 (show kB<=3*1000000 by omega);have j:=Dm a.q.num;refine aI nf PY mix (by simp[f146]) ?_;rw[bg]
 by_cases b:a.q.den=1
 ·have e:a.fE=true:=by simp[NF.fE,b]
  rw[e]at w;rw[if_pos b];simp[f146];refine c1 w ?_;simp[aa];refine c1 c ?_;simp
 ·have e:a.fE=false:=by simp[NF.fE,b]
  rw[e]at w;rw[if_neg b];simp[f146];refine c1 w ?_;simp[aa];refine e1 c ?_;simp[aa];refine⟨by omega,?_⟩;refine e1 d ?_;simp;omega
def kR:Nat:=2800
theorem zQ(s:List Nat)(i:(df s).all cr=true)(E:(df s).length<=700):ar prog 242 [.str s] (eI (.mk' (if bZ s=true then -(bc (df s):Int)else bc (df s)))):=by
 refine aI nf IQ mix (by simp[f242]) ?_;simp[f242];refine c2 (ZQ s) ?_;simp;refine c2 (Ll s) ?_;simp;generalize df s=d at*;generalize bZ s=neg at*;have w:fc 0=eI (.mk' 0):=(oM (by decide) (by decide)).symm;rw[show PV.st 124 [.int .i64 0,.aP]=eI (.mk' 0)from w];refine lp (α:=List Nat×NI) (fun x=>⟨[(4,.ptr 1 []),(3,.p (.bool neg)),(2,.ptr 0 []),(0,.p (.str x.1))],[.box false (.p (eI (.mk' 0))),.box false (.p (eI x.2))]⟩)
  (fun x=>∃m:Nat,x.2.v=m/\m*10^x.1.length+bc x.1=bc d/\x.1.all cr=true/\x.1.length<=700/\m<2^kR) (fun x=>x.1.length) (d,.mk' 0) ⟨0,rfl,by simp,i,E,fd (by decide)⟩ ?_
 rintro⟨r,o⟩ ⟨m,k1,k2,k3,k4,k5⟩;dsimp only at k1 k2 k3 k4 k5;have S:kR=2800:=rfl;have c:o.v.natAbs<2^kR:=by rw[k1,a5];exact k5
 have I:okW o.v:=iE c (by have:kB=100000:=rfl;omega)
 by_cases f:r=[]
 ·subst f;have u:o.v=bc d:=by rw[k1];simp[bc]at k2⊢;omega
  cases neg
  ·have e:eI (.mk' (bc d:Nat))=eI o:=nA (by rw[NI.iS,u]) (fun h=>by rw[NI.iS]at h;omega);simp;rw[e];simp[aa]
  ·have e:eI (.mk' (-(bc d:Nat)))=eI o.neg:=by rw[NI.neg,u]
   simp;rw[e];refine c1 (uk o I) ?_;simp[aa]
 ·have L:0<r.length:=a6.2 f;obtain⟨n,U⟩:∃n,n=min 18 r.length:=⟨_,rfl⟩
  have j:n<=r.length:=by omega
  have V:0<n:=by omega
  have G:n<=18:=by omega
  have H:(if(r.length:Int)<18 then(r.length:Int)else 18)=n:=by split<;>omega
  have g:(r.take n).length=n:=by rw[c9];omega
  have a:=k3;rw[<-bv n r,List.all_append,aT]at a;have N:=jE _ (r.take n) rfl a.1;have C:=agt (r.take n) (bc (r.take n)) (Zu a.1 (by intro e;rw[e]at g;simp at g;omega) (by omega)) (by omega);rw[g]at N;have q:10^n<=10^18:=eb (by decide) G;have z:10^n<wB^1:=by rw[gg];exact ed q (by decide)
  have A:((10^n:Nat):Int).natAbs<2^64:=by rw[a5];exact ed q (by decide)
  have O:=dO bn 1 _ z;have W:=yX c;have P:kB=100000:=rfl;have X:=jE _ d rfl i;have Q:10^d.length<=2^kR:=LY (by have:kR=2800:=rfl;omega);have J:=Z8 (.of 10) n (10^n) (by decide) rfl (by omega) (by decide) (by omega);have F:=An o (.mk' (10^n:Nat)) (by rw[NI.iS,a5];omega);have B:=xi (o.mul (.mk' (10^n:Nat))) (.of (bc (r.take n):Nat)) (iE (pB (x:=o.v) (y:=((10^n:Nat):Int)) c A) (by omega)) (iE (k:=64) (show((bc (r.take n):Nat):Int).natAbs<2^64 by rw[a5];omega) (by omega));have l:=sA (bc (r.take n):Nat);rw[<-uq (by omega) (by omega)]at l;have t:=sA 10;rw[<-uq (by decide) (by decide)]at t;have M:bc r=bc (r.take n)*10^(r.drop n).length+bc (r.drop n):=by rw[<-LP,bv]
  have K:r.length=n+(r.drop n).length:=by rw[List.length_drop];omega
  have D:(m*10^n+bc (r.take n))*10^(r.drop n).length+bc (r.drop n)=bc d:=by
   rw[<-k2,M,K,Nat.pow_add,gj,e6,gc]
  generalize 10^n=T at*;generalize Y:bc (r.take n)=b at*;have R:m*T+b<=bc d:=by
   have:=Nat.le_mul_of_pos_right (m*T+b) (show 0<10^(r.drop n).length from fd (by decide));omega
  simp[f,L,H];refine⟨j,?_⟩;refine c1 C ?_;simp;refine e1 t ?_;simp;refine e2 J ?_;simp[aa];refine e2 F ?_;simp;refine e1 l ?_;simp;refine e2 B ?_;simp[aa];refine⟨rfl,j,?_⟩;refine rd (r.drop n,(o.mul (.mk' T)).add (.of b)) ⟨m*T+b,by rw[NI.sf,NI.my,NI.iS,k1];rfl,D,a.2,by dsimp only;omega,by omega⟩ (by dsimp only;omega)
theorem CY{s:List Nat}(h:dJ s=true):bZ s=false/\df s=s:=by
 have b:=jY h;have:bZ s=false:=by
  rw[bZ,decide_eq_false_iff_not];intro a;cases s with
  |nil=>simp at a
  |cons c r=>
   simp at a;subst a;rw[ch,aT]at b;simp[cr]at b
 exact⟨this,by rw[df,this];rfl⟩
theorem LA(s:List Nat):bZ (b9 47 s).1=bZ s/\df (b9 47 s).1=bH s/\(b9 47 s).2.1=bP s/\(b9 47 s).2.2=eB s:=by
 cases s with
 |nil=>exact⟨rfl,rfl,rfl,rfl⟩
 |cons c r=>
  by_cases h:c=45
  ·subst h;have e:b9 47 (45::r)=(45::(b9 47 r).1,(b9 47 r).2.1,(b9 47 r).2.2):=by rw[b9,if_neg (by decide)]
   rw[e];exact⟨rfl,rfl,rfl,rfl⟩
  ·have b:bZ (c::r)=false:=by rw[bZ,decide_eq_false_iff_not];simpa using h
   have a:df (c::r)=c::r:=by rw[df,b];rfl
   have d:bZ (b9 47 (c::r)).1=false:=by
    rw[bZ,decide_eq_false_iff_not,b9]
    split
    ·simp
    ·simpa using h
   refine⟨by rw[b,d],?_,?_,?_⟩
   ·rw[df,d,bH,a];rfl
   ·rw[bP,a]
   ·rw[eB,a]
theorem ZJ{s:List Nat}(h:b7 s=0):dJ (bH s)=true/\(bH s).length<=600/\(bP s).length<=600/\(eB s=true->dJ (bP s)=true):=by
 unfold b7 at h
 split at h
 ·cases h
 rename_i a
 split at h
 ·cases h
 rename_i d;have a:ny s=true:=by simpa using a
 simp only[ny,aT,Bool.or_eq_true,Bool.not_eq_true']at a;refine⟨a.1.1,by omega,by omega,fun c=>?_⟩;rcases a.2 with b|b
 ·rw[c]at b;cases b
 ·exact b.1.1
theorem Uw(z:Int):df (bN z)=bh z.natAbs:=by
 have:=(yK z []).2;simpa using this
theorem tJ(c:Nat):∀s:List Nat,(b9 c s).1.length<=s.length/\(b9 c s).2.1.length<=s.length/\(∀x∈(b9 c s).1,x∈s)/\(∀x∈(b9 c s).2.1,x∈s)
 |[]=>by simp[b9]
 |y::r=>by
  have a:=tJ c r;rw[b9]
  split
  ·simp;intro x hx;exact .inr hx
  ·simp only[da,dq];refine⟨by omega,by omega,?_,fun x hx=>.inr (a.2.2.2 x hx)⟩;rintro x (rfl|hx)
   ·exact .inl rfl
   ·exact .inr (a.2.2.1 x hx)
theorem pC(s:List Nat):(df s).length<=s.length/\∀x∈df s,x∈s:=by
 rw[df]
 split
 ·exact⟨by simp,fun x hx=>List.mem_of_mem_tail hx⟩
 ·exact⟨ee _,fun _ h=>h⟩
theorem ka(s:List Nat)(h:b7 s=0)(n:s.length<=1048576):ar prog 147 [.str s] (eF ⟨aR s,false⟩):=by
 obtain⟨l,t,u,m⟩:=ZJ h;obtain⟨o,f,p,q⟩:=LA s;obtain⟨q1,r,a⟩:=ji h;have b:=QK s 47 n;rw[p,q]at b;have c:=zQ (b9 47 s).1 (by rw[f];exact jY l) (by rw[f];omega);rw[o,f]at c;have j:eI (NF.mk (aR s) false).num=eI (.mk' (if bZ s=true then -(bc (bH s):Int)else bc (bH s))):=by
  show eI ⟨(aR s).num,false⟩=_;rw[r];rfl
 rw[<-j]at c;refine aI nf Oj mix (by simp[f147]) ?_;cases hf:eB s
 ·rw[hf]at b a;simp only[a2,if_false]at a;have e:(NF.mk (aR s) false).den=.mk' 1:=by
   show NI.mk' ((aR s).den:Int)=_;rw[a];rfl
  have i:=DI (NF.mk (aR s) false).num;have k:eF (.whole (NF.mk (aR s) false).num)=eF ⟨aR s,false⟩:=by
   rw[eF,eF,e];rfl
  rw[k]at i;simp[f147];refine c2 b ?_;simp;refine c1 c ?_;simp;refine c1 i ?_;simp[aa]
 ·rw[hf]at b a;simp only[if_true]at a;have g:=m hf;obtain⟨d1,d2⟩:=CY g;have d:=zQ (bP s) (by rw[d2];exact jY g) (by rw[d2];omega);rw[d1,d2]at d;simp only[a2,if_false]at d;have e:eI (NF.mk (aR s) false).den=eI (.mk' (bc (bP s):Nat)):=by
   show eI (NI.mk' ((aR s).den:Int))=_;rw[a]
  rw[<-e]at d;rw[eF];simp[f147];refine c2 b ?_;simp;refine c1 c ?_;simp;refine c1 d ?_;simp[aa]
def mK(n:Nat):Bool:=decide (600<(bh n).length)
theorem PR(a:NI)(h:a.v.natAbs<2^kB):ar prog 224 [eI a] (.bool (mK a.v.natAbs)):=by
 have l:kB=100000:=rfl;have d:=iE h qw;have g:=Z0 a d;have i:=C3 a d (wD h (by omega));have c:=Ll (bN a.v);rw[Uw]at c;refine aI nf Ii mix (by simp[f224]) ?_;simp[f224];refine c1 g ?_
 by_cases j:1800<oN a.v.natAbs
 ·have b:(1800:Int)<(oN a.v.natAbs:Nat):=by omega
  have e:decide ((600:Int)<((bh a.v.natAbs).length:Nat))=mK a.v.natAbs:=by rw[mK,decide_eq_decide];omega
  simp[b];refine c1 i ?_;simp;refine c2 c ?_;simp[mK];omega
 ·have f:=ec (Mm a.v.natAbs) (eb (show 0<2 by decide) (show oN a.v.natAbs<=3*600 by omega));have k:=Ki f (by decide);have e:mK a.v.natAbs=false:=by rw[mK,decide_eq_false_iff_not];omega
  have b:¬(1800:Int)<(oN a.v.natAbs:Nat):=by omega
  simp[b,e]
def Fb(q:Rat):Bool:=mK q.num.natAbs||mK q.den
theorem Z4(a:NF)(h:bE kB a.q):ar prog 131 [eF a] (.bool (Fb a.q)):=by
 have b:=PR a.num h.1;have c:=PR a.den (by rw[kG];exact h.2);rw[lQ]at b;rw[kG]at c;refine aI nf Ie mix (by simp[f131]) ?_;rw[Fb];cases hc:mK a.q.num.natAbs
 ·rw[hc]at b;simp[f131,aa];refine c1 b ?_;simp[aa];refine c1 c ?_;simp
 ·rw[hc]at b;simp[f131,aa];refine c1 b ?_;simp
def xf:List (Nat×Func)->a3->Option Func
 |[],_=>none
 |(i,g)::r,f=>bif Nat.beq i f then some g else xf r f
def Bc(P:Program):List (Nat×Func)->Prop
 |[]=>True
 |p::r=>az P p.1 p.2/\Bc P r
theorem MQ{P:Program}:∀{l:List (Nat×Func)},Bc P l->∀{f:Nat}{fn:Func},xf l f=some fn->az P f fn
 |[],_,f,fn,h=>by simp[xf]at h
 |(i,g)::r,a,f,fn,h=>by
  simp only[xf,Bool.cond_eq_ite]at h
  split at h
  ·rename_i hf;simp only[gw]at h;subst h;rw[<-Nat.eq_of_beq_eq_true hf];exact a.1
  ·exact MQ a.2 h
noncomputable def SC:List (Nat×Func):=[(2,f2),(3,f3),(4,f4),(5,f5),(6,f6),(7,f7),(8,f8),(9,f9),(10,f10),(11,f11),(12,f12),(13,f13),(14,f14),(15,f15),(16,f16),(17,f17),(18,f18),(19,f19),(20,f20),(21,f21),(22,f22),(23,f23),(24,f24),(25,f25),(26,f26),(27,f27),(28,f28),(29,f29),(30,f30),(31,f31),(32,f32),(33,f33),(34,f34),(35,f35),(36,f36),(37,f37),(38,f38),(39,f39),(40,f40),(41,f41),(42,f42),(43,f43),(44,f44),(45,f45),(46,f46),(47,f47),(48,f48),(49,f49),(50,f50),(51,f51),(52,f52),(53,f53),(54,f54),(55,f55),(56,f56),(57,f57),(58,f58),(59,f59),(60,f60),(61,f61),(62,f62),(63,f63),(64,f64),(65,f65),(66,f66),(67,f67),(68,f68),(69,f69),(70,f70),(71,f71),(72,f72),(73,f73),(74,f74),(75,f75),(76,f76),(77,f77),(78,f78),(79,f79),(80,f80),(81,f81),(82,f82),(83,f83),(84,f84),(85,f85),(86,f86),(87,f87),(88,f88),(89,f89),(90,f90),(91,f91),(92,f92),(93,f93),(94,f94),(95,f95),(96,f96),(97,f97),(98,f98),(99,f99),(100,f100),(101,f101),(102,f102),(103,f103),(104,f104),(105,f105),(106,f106),(107,f107),(108,f108),(109,f109),(110,f110),(111,f111),(112,f112),(113,f113),(114,f114),(115,f115),(116,f116),(117,f117),(118,f118),(119,f119),(120,f120),(121,f121),(122,f122),(123,f123),(124,f124),(125,f125),(126,f126),(127,f127),(128,f128),(129,f129),(130,f130),(131,f131),(132,f132),(133,f133),(134,f134),(135,f135),(136,f136),(137,f137),(138,f138),(139,f139),(140,f140),(141,f141),(142,f142),(143,f143),(144,f144),(145,f145),(146,f146),(147,f147),(148,f148),(149,f149),(150,f150),(151,f151),(152,f152),(153,f153),(154,f154),(155,f155),(156,f156),(157,f157),(158,f158),(159,f159),(160,f160),(161,f161),(162,f162),(163,f163),(164,f164),(165,f165),(166,f166),(167,f167),(168,f168),(169,f169),(170,f170),(171,f171),(172,f172),(173,f173),(174,f174),(175,f175),(176,f176),(177,f177),(178,f178),(179,f179),(180,f180),(181,f181),(182,f182),(183,f183),(184,f184),(185,f185),(186,f186),(187,f187),(188,f188),(189,f189),(190,f190),(191,f191),(192,f192),(193,f193),(194,f194),(195,f195),(196,f196),(197,f197),(198,f198),(199,f199),(200,f200),(201,f201),(202,f202),(203,f203),(204,f204),(205,f205),(206,f206),(207,f207),(208,f208),(209,f209),(210,f210),(211,f211),(212,f212),(213,f213),(214,f214),(215,f215),(216,f216),(217,f217),(218,f218),(219,f219),(220,f220),(221,f221),(222,f222),(223,f223),(224,f224),(225,f225),(226,f226),(227,f227),(228,f228),(229,f229),(230,f230),(231,f231),(232,f232),(233,f233),(234,f234),(235,f235),(236,f236),(237,f237),(238,f238),(239,f239),(240,f240),(241,f241),(242,f242),(243,f243),(244,f244),(245,f245),(246,f246),(247,f247),(248,f248),(249,f249),(250,f250),(251,f251),(252,f252),(253,f253),(254,f254),(255,f255),(256,f256),(257,f257),(258,f258),(259,f259),(260,f260),(261,f261),(262,f262),(263,f263),(264,f264),(265,f265),(266,f266),(267,f267),(268,f268),(269,f269),(270,f270),(271,f271),(272,f272),(273,f273),(274,f274),(275,f275),(276,f276),(277,f277),(278,f278),(279,f279),(280,f280),(281,f281),(282,f282),(283,f283),(284,f284),(285,f285),(286,f286),(287,f287),(288,f288),(289,f289),(290,f290),(291,f291),(292,f292),(293,f293),(294,f294),(295,f295),(296,f296),(297,f297),(298,f298),(299,f299),(300,f300),(301,f301),(302,f302),(303,f303),(304,f304),(305,f305),(306,f306),(307,f307),(308,f308),(309,f309),(310,f310),(311,f311),(312,f312),(313,f313),(315,f315),(316,f316),(317,f317),(318,f318),(319,f319),(320,f320),(321,f321),(322,f322),(323,f323),(324,f324),(325,f325),(326,f326),(327,f327),(328,f328),(329,f329),(330,f330),(331,f331),(332,f332),(333,f333),(334,f334),(335,f335),(336,f336),(337,f337),(338,f338),(339,f339),(340,f340),(341,f341),(342,f342),(344,f344),(345,f345),(346,f346),(347,f347),(348,f348),(349,f349),(350,f350),(351,f351),(352,f352),(353,f353),(354,f354),(356,f356),(358,f358),(359,f359),(360,f360),(361,f361),(362,f362),(363,f363),(364,f364),(365,f365),(366,f366),(367,f367),(368,f368),(369,f369),(370,f370),(371,f371),(372,f372),(373,f373),(374,f374),(375,f375),(378,f378),(379,f379),(380,f380),(381,f381),(382,f382),(383,f383),(384,f384),(385,f385),(386,f386),(387,f387),(388,f388),(389,f389),(390,f390),(391,f391),(392,f392),(393,f393),(394,f394),(428,f428)]
theorem aK5:Bc prog SC:=⟨aCP,aDc,uL,aIF,xu,RJ,aI2,aI8,aAo,Rk,Rl,aAC,aAW,aBn,Rm,aBT,Rn,ye,Ro,EJ,Rp,Rq,Rr,Rs,Rt,Ru,aC0,aC2,aDl,aDp,Rv,aDK,aEm,EK,EL,Rw,Rx,Ry,Rz,RA,RC,RD,RE,RF,aIB,aIC,aID,aIE,aIG,aIH,aII,aIJ,aIK,aIL,aIM,aIN,aIO,aIP,aIQ,aIR,aIS,aIT,RG,RH,RI,aIU,aIV,aIW,aIX,aIY,aIZ,aI0,aI1,RL,RM,EM,EN,RN,RO,RP,RQ,RR,aI3,aI4,RS,aI5,aI6,aI7,RU,RV,aI9,RW,aJa,aJb,RX,aJc,aJd,aJe,aAq,aAr,GM,aAs,aAt,GL,P3,GK,GJ,G7,G6,G5,G4,G3,G2,P2,P1,P0,aAu,aAx,Qz,aAy,HI,HG,HF,HE,aAz,HC,aAA,aAB,aAD,Ie,Ic,Ib,Ia,aAE,H9,aAF,aAO,aAV,I9,I8,I7,aBg,I6,PZ,PY,Oj,PX,PW,PU,PT,PS,FH,FG,FF,aBP,BN,I5,I4,I3,H8,Qx,Er,AB,Qw,Qv,Qu,Qt,Qs,Qr,aBV,aB7,Qq,aCa,aCk,aCl,aCn,aCp,aCq,aCs,aCu,aCv,G1,aCw,aCD,G0,GZ,aCE,aCO,Qp,GY,Qo,GX,GW,GV,GU,Qn,Qm,H7,H6,H5,H4,H3,HZ,HY,HX,Hw,HW,Gu,Gt,Gs,HV,HU,HT,Gb,Iq,Ip,Io,Im,Il,Ik,Ij,aCV,Ii,Ih,Ig,IV,IU,Ep,Ql,Qk,Qj,Qi,Qh,Qg,aCW,Qf,Az,O6,En,Gr,IQ,BI,HR,O5,MU,O4,Oi,O3,O2,O1,IP,O0,OZ,KF,Ps,Pr,Pq,Pp,Gq,Ga,Gp,Po,Gn,Gm,Gk,Gj,GH,aCX,GG,Oh,u6,Pn,IM,HQ,BD,GF,GD,GC,GB,Hf,He,Hd,aC1,BM,IL,IK,IJ,II,IH,IG,Pm,Pk,Pj,aC3,Ph,Pg,aDb,Eo,Pf,IF,aDn,aDo,IE,Og,Pe,Pd,Pc,ID,IC,Pb,IB,Pa,IA,aDv,O9,O8,GA,O7,aDy,aDE,Iz,Iy,Hc,Gz,Gy,G9,aDH,PH,aDM,PG,Ix,aDO,aDY,aEf,aEg,aEj,aEk,aEn,aEo,aEp,Iw,aEq,Iv,Iu,aEr,aEs,aEt,aED,aEF,aEG,aEK,aFv,aFE,aFM,aFW,aF3,aF6,aGq,aGs,aGx,aGy,aGz,It,Is,aGH,aGI,aGJ,aGK,aGM,aIj,aIk,aIl,aIm,aIn,Ir,aIo,aIp,aIq,aIr,aIs,aIt,aIu,aIv,aIw,aIx,aIy,aIz,aIA,trivial⟩
noncomputable def xE(a:a3->List PV->Option PV)(lV:a3->a3->Nat):nK:=⟨xf SC,a,fun _ _ _=>none,lV,fun _ _ _=>none⟩
theorem aJ9{a:a3->List PV->Option PV}{lV:a3->a3->Nat}(h:∀f vs v,a f vs=some v->ar prog f vs v):oF prog (xE a lV):=by
 refine⟨mix,fun f fn hf=>MQ aK5 hf,fun f vs v hk=>h f vs v hk,fun f args H v H' hk=>?_,fun f args H aq v hk=>?_⟩
 ·simp only[xE]at hk;cases hk
 ·simp only[xE]at hk;cases hk
noncomputable def Ss(a:a3->List PV->Option PV)(lV:a3->a3->Nat)(f:a3)(vs:List PV):Option PV:=qA prog nf (xE a lV) (kT prog nf (xE a lV) 20) f vs
theorem NO{facts:a3->List PV->Option PV}{lV:a3->a3->Nat}(h:∀f vs v,facts f vs=some v->ar prog f vs v){f:a3}{vs:List PV}{v:PV}(a:Ss facts lV f vs=some v):ar prog f vs v:=reckon 20 (aJ9 h) a
def noF:a3->List PV->Option PV:=fun _ _=>none
def qB:PV:=.st 408 ((ce 256).map fun i=>.bool (cr i))
theorem MC(c:Nat)(hc:c<256):ar prog 382 [.cq qB,.int .u8 c] (.bool (cr c)):=by
 refine aI nf Ir mix (by simp[f382]) ?_;have a:(ce 256)[c]?=some c:=cv hc;simp[f382,qB,a,hc]
theorem VQ(s:List Nat)(h:s.length<=1048576)(g:∀c∈s,c<256):ar prog 368 [.str s,.cq qB] (.str (lP s)):=by
 refine aI nf It mix (by simp[f368]) ?_;simp[f368];refine lp (α:=List Nat) (fun r=>⟨[(1,.p (.cq qB)),(0,.p (.str r))],[]⟩) (fun r=>lP r=lP s/\r.length<=s.length/\∀c∈r,c<256) (fun r=>r.length) s (by exact⟨rfl,ee _,g⟩) ?_;rintro r ⟨a,f,b⟩;cases r with
 |nil=>
  have e:lP s=[]:=by rw[<-a];rfl
  simp[e]
 |cons x r=>
  have hx:=b x (by simp);have i:lP (x::r)=if cr x=true then lP r else x::r:=by
   rw[lP,cy];split<;>rfl
  rw[i]at a;have j:(0:Int)<(r.length:Int)+1:=by omega
  simp[j];refine c2 (MC x hx) ?_;cases d:cr x
  ·rw[d]at a;simp[<-a]
  ·rw[d]at a;simp;exact rd r ⟨by simpa using a,by simp at f;omega,fun c hc=>b c (by simp[hc])⟩ (h1:=by simp)
theorem Vt(s:List Nat)(h:s.length<=1048576)(g:∀c∈s,c<256):ar prog 369 [.str s,.cq qB] (.str (jj s)):=by
 refine aI nf Is mix (by simp[f369]) ?_;simp[f369];refine lp (α:=List Nat) (fun r=>⟨[(1,.p (.cq qB)),(0,.p (.str r))],[]⟩) (fun r=>jj r=jj s/\r.length<=s.length/\∀c∈r,c<256) (fun r=>r.length) s (by exact⟨rfl,ee _,g⟩) ?_;rintro r ⟨a,b,d⟩;rcases List.eq_nil_or_concat r with rfl|⟨t,x,rfl⟩
 ·have e:jj s=[]:=by rw[<-a];rfl
  simp[e]
 ·simp only[List.concat_eq_append]at a b d⊢;have hx:=d x (by simp);have i:jj (t++[x])=if cr x=true then jj t else t++[x]:=by
   rw[jj,List.reverse_append,List.reverse_cons,b4,dk,List.singleton_append,cy]
   split
   ·rfl
   ·simp
  rw[i]at a;have j:(0:Int)<(t.length:Int)+1:=by omega
  have w1:a4.wrap (t.length:Int)=t.length:=aQ _ (by omega) (by simp at b;omega);simp[j,w1];refine c2 (MC x hx) ?_;cases f:cr x
  ·rw[f]at a;simp[<-a]
  ·rw[f]at a;simp[w1];exact rd t ⟨by simpa using a,by simp at b;omega,fun c hc=>d c (by simp[hc])⟩ (h1:=by simp)
def xm:List Nat:=[48,49,50,51,52,53,54,55,56,57]
theorem Yv:ar prog 367 [.str xm] (.aE [qB,.bool true]):=NO (facts:=noF) (lV:=fun _ _=>0) (fun _ _ _ h=>by cases h) (by kernel_rfl)
theorem aLh:cz prog 409=some (.st 408 (bb 256 (.bool false))):=by kernel_rfl
theorem ZO(s:List Nat)(h:s.length<=1048576)(d:∀c∈s,c<256):ar prog 346 [.str s,.str xm] (.str (lP (jj s))):=by
 refine aI nf Iv mix (by simp[f346]) ?_
 by_cases b:s=[]
 ·subst b;simp[f346,xm,lP,jj]
 simp[f346,xm,b];refine c1 Yv ?_;have g:(jj s).length<=s.length:=by
  rw[jj,List.length_reverse];have:=(ck cr (l:=s.reverse)).length_le;simpa using this
 have f:∀c∈jj s,c<256:=by
  intro c hc;rw[jj,List.mem_reverse]at hc;exact d c (by simpa using(ck cr (l:=s.reverse)).subset hc)
 simp[aLh];have a:aL qB=.agg 408:=rfl;refine⟨⟨⟨a.symm,by rw[a];intro e;cases e⟩,a.symm⟩,?_⟩;refine cp (Vt s h d) (by simp;exact⟨rfl,rfl⟩) ?_;simp;refine cp (VQ (jj s) (by omega) f) (by simp;exact⟨rfl,rfl⟩) ?_;simp
def bG:List Int->Int
 |[]=>0
 |e::r=>if e=0 then bG r else e
def aU(b:Bool)(e:Int):Int:=if b=true then e else 0
theorem ZP(a:List Int)(h:a.length<=1048576):ar prog 318 [.seq (a.map (.int .i64))] (.int .i64 (bG a)):=by
 refine aI nf O8 mix (by simp[f318]) ?_;simp[f318];refine lp (α:=Nat) (fun i=>⟨[(7,.p (.int .i64 i)),(6,.p (.int .i64 a.length)),(5,.p (.seq (a.map (.int .i64))))],[]⟩) (fun i=>i<=a.length/\bG (a.drop i)=bG a) (fun i=>a.length-i) 0 (by simp) ?_;rintro i ⟨d,b⟩;simp
 by_cases hi:i<a.length
 ·rw[bl hi]at b;have c:=bR (i:=i) (by omega);simp[hi]
  by_cases he:a[i]=0
  ·simp[bG,he]at b;simp[he,c];exact rd (i+1) ⟨hi,b⟩
  ·simp[bG,he]at b;simp[he,<-b]
 ·have:i=a.length:=by omega
  subst this;simp[bG]at b;simp[<-b]
theorem B3(a:List Int)(h:a.length<=1048576):ar prog 86 [.seq (a.map (.int .i64))] (.int .i64 (bG a)):=by
 refine aI nf RS mix (by simp[f86]) ?_;simp[f86];refine lp (α:=Nat) (fun i=>⟨[(7,.p (.int .i64 i)),(6,.p (.int .i64 a.length)),(5,.p (.seq (a.map (.int .i64))))],[]⟩) (fun i=>i<=a.length/\bG (a.drop i)=bG a) (fun i=>a.length-i) 0 (by simp) ?_;rintro i ⟨d,b⟩;simp
 by_cases hi:i<a.length
 ·rw[bl hi]at b;have c:=bR (i:=i) (by omega);simp[hi]
  by_cases he:a[i]=0
  ·simp[bG,he]at b;simp[he,c];exact rd (i+1) ⟨hi,b⟩
  ·simp[bG,he]at b;simp[he,<-b]
 ·have:i=a.length:=by omega
  subst this;simp[bG]at b;simp[<-b]
theorem qH(a:List Int)(h:a.length<=1048576):ar prog 214 [.seq (a.map (.int .i64))] (.int .i64 (bG a)):=by
 refine aI nf HT mix (by simp[f214]) ?_;simp[f214];refine lp (α:=Nat) (fun i=>⟨[(7,.p (.int .i64 i)),(6,.p (.int .i64 a.length)),(5,.p (.seq (a.map (.int .i64))))],[]⟩) (fun i=>i<=a.length/\bG (a.drop i)=bG a) (fun i=>a.length-i) 0 (by simp) ?_;rintro i ⟨d,b⟩;simp
 by_cases hi:i<a.length
 ·rw[bl hi]at b;have c:=bR (i:=i) (by omega);simp[hi]
  by_cases he:a[i]=0
  ·simp[bG,he]at b;simp[he,c];exact rd (i+1) ⟨hi,b⟩
  ·simp[bG,he]at b;simp[he,<-b]
 ·have:i=a.length:=by omega
  subst this;simp[bG]at b;simp[<-b]
theorem wj(b:Bool)(e:Int):ar prog 319 [.bool b,.int .i64 e] (.int .i64 (aU b e)):=by
 refine aI nf GA mix (by simp[f319]) ?_;cases b<;>simp[f319,aU]
theorem pH(b:Bool)(e:Int):ar prog 106 [.bool b,.int .i64 e] (.int .i64 (aU b e)):=by
 refine aI nf P3 mix (by simp[f106]) ?_;cases b<;>simp[f106,aU]
theorem iU(b:Bool)(e:Int):ar prog 215 [.bool b,.int .i64 e] (.int .i64 (aU b e)):=by
 refine aI nf Gb mix (by simp[f215]) ?_;cases b<;>simp[f215,aU]
theorem OC(s:List Nat)(h:s.length<=1048576)(i:∀c∈s,c<256):ar prog 317 [.str s] (.bool (dJ s)):=by
 have f:=ZO s h i;have g:=WH s;rw[show xm=[48,49,50,51,52,53,54,55,56,57]from rfl]at f;refine aI nf O9 mix (by simp[f317]) ?_;generalize lP (jj s)=t at*;cases s with
 |nil=>simp[f317,dJ]
 |cons c r=>
  have hc:=i c (by simp)
  by_cases b:t=[]
  ·have d:=g.1 b;have e:dJ (c::r)=(decide (¬c=48)||decide (r=[])):=by
    rw[dJ,d]
    by_cases a:c=48
    ·subst a;simp
    ·simp[a]
   rw[e];clear e d g
   by_cases a:c=48
   ·cases r with
    |nil=>
     simp[f317];refine c2 f ?_;simp[b,a]
    |cons x r=>
     simp[f317];refine c2 f ?_;simp[b,a]
   ·have j:¬(c:Int)=48:=by omega
    simp[f317];refine c2 f ?_;simp[b,a,j]
  ·have d:¬(c::r).all cr=true:=mt g.2 b;have a:(c::r).all cr=false:=by simpa using d
   have e:dJ (c::r)=false:=by rw[dJ,a];simp
   rw[e];clear e d a g;simp[f317];refine c2 f ?_;simp[b]
theorem az7{a b:Nat}:(decide (kj (eJ a b) 1≠0))=decide (ge a b≠1):=by
 rw[decide_eq_decide,kj,eJ,a5,a5]
 split
 ·simp;omega
 ·split
  ·simp;omega
  ·simp;omega
theorem Fj{s:List Nat}(h:s.all cr=true)(c:s.length<=700):okW (bc s:Nat):=by
 have a:=jE _ s rfl h;have b:bc s<2^kR:=ec a (LY (by have:kR=2800:=rfl;omega));exact iE (k:=kR) (by rw[a5];exact b) (by have:kB=100000:=rfl;have:kR=2800:=rfl;omega)
theorem Af(s:List Nat)(h:s.length<=1048576)(K:∀c∈s,c<256):ar prog 278 [.str s] (.int .i64 (b7 s)):=by
 have X:=Zq s;have A:=QK (df s) 47 (ei (pC s).1 h);rw[show(b9 47 (df s)).1=bH s from rfl,show(b9 47 (df s)).2.1=bP s from rfl,show(b9 47 (df s)).2.2=eB s from rfl]at A;refine aI nf GD mix (by simp[f278]) ?_;simp[f278,-bt];rw[bt];simp[-bt];rw[bt];simp[-bt];refine c2 X ?_;simp[-bt];rw[bt];simp[-bt];refine c2 A ?_;simp[-bt];have ab:=(pC s).1;have q:=tJ 47 (df s);have ad:(bH s).length<=1048576:=by have:=q.1;rw[bH];omega
 have ac:(bP s).length<=1048576:=by have:=q.2.1;rw[bP];omega
 have W:∀c∈bH s,c<256:=fun c hc=>K c ((pC s).2 c (q.2.2.1 c hc));have V:∀c∈bP s,c<256:=fun c hc=>K c ((pC s).2 c (q.2.2.2 c hc));clear q ab;have Z:=OC (bH s) ad W;have Y:=OC (bP s) ac V;obtain⟨m,B⟩:∃m,m=(dJ (bH s)&&!(bZ s&&decide (bH s=[48]))):=⟨_,rfl⟩
 obtain⟨f2,k⟩:∃f2,f2=(m&&(!eB s||(dJ (bP s)&&decide (bP s≠[48])&&decide (bP s≠[49])))):=⟨_,rfl⟩
 have L:b7 s=if f2=false then 1 else if 600<(bH s).length\/600<(bP s).length then 4 else if eB s=true/\ge (bc (bH s)) (bc (bP s))≠1 then 1 else 0:=by rw[k,B];rfl
 rw[L];clear L A;generalize eB s=fr at*;refine join (fun s'=>aS s'.env 8=.p (.bool m)/\aS s'.env 7=.p (.bool fr)/\aS s'.env 6=.p (.str (bP s))/\aS s'.env 5=.p (.str (bH s))/\s'.heap=[]) ?_ ?_
 ·simp;refine c1 Z ?_;rw[B];cases dJ (bH s)
  ·simp
  ·cases bZ s
   ·simp
   ·by_cases r:bH s=[48]
    ·simp[r]
    ·simp[r]
 rintro⟨I,aa⟩ ⟨d,f,g,i,t⟩;dsimp only at d f g i t;subst t;refine join (fun s'=>aS s'.env 8=.p (.bool f2)/\aS s'.env 7=.p (.bool fr)/\aS s'.env 6=.p (.str (bP s))/\aS s'.env 5=.p (.str (bH s))/\s'.heap=[]) ?_ ?_
 ·rw[k];cases fr
  ·simp[d,f,g,i]
  ·cases m
   ·simp[d,f,g,i]
   ·simp[d,f,g,i];refine c1 Y ?_;cases dJ (bP s)
    ·simp[d,f,g,i]
    ·by_cases r:bP s=[48]
     ·simp[d,f,g,i,r]
     ·by_cases N:bP s=[49]
      ·simp[d,f,g,i,N]
      ·simp[d,f,g,i,r,N]
 clear d f g i I;rintro⟨I,aa⟩ ⟨d,f,g,i,t⟩;dsimp only at d f g i t;subst t;have head:∀(n v:Bool),ar prog 318 [.seq [.int .i64 (aU n 1),.int .i64 (aU v 4)]] (.int .i64 (if n=true then 1 else if v=true then 4 else 0)):=fun n v=>by
  have:=ZP [aU n 1,aU v 4] (by simp);cases n<;>cases v<;>exact this
 have w0:=wj (!f2) 1;have R:=wj true 4;have wf:=wj false 4;have J:=head (!f2) true;have U:=head (!f2) false;have O:(600<(bH s).length)↔(600:Int)<((bH s).length:Nat):=by omega
 have P:(600<(bP s).length)↔(600:Int)<((bP s).length:Nat):=by omega
 by_cases u:(600:Int)<((bH s).length:Nat)
 ·simp[d,f,g,i];refine c2 w0 ?_;simp[d,f,g,i,u];refine c2 R ?_;simp;refine cp J (by simp;exact⟨rfl,rfl⟩) ?_;cases f2
  ·simp
  ·simp[O.2 u]
 by_cases x:(600:Int)<((bP s).length:Nat)
 ·simp[d,f,g,i];refine c2 w0 ?_;simp[d,f,g,i,u,x];refine c2 R ?_;simp;refine cp J (by simp;exact⟨rfl,rfl⟩) ?_;cases f2
  ·simp
  ·simp[P.2 x]
 have E:¬600<(bH s).length:=mt O.1 u;have F:¬600<(bP s).length:=mt P.1 x;have Q:=wj false 1;have ag:=wj true 1;simp[d,f,g,i];refine c2 w0 ?_;simp[d,f,g,i,u,x];refine c2 wf ?_;simp;refine cp U (by simp;exact⟨rfl,rfl⟩) ?_;cases f2
 ·simp
 cases fr
 ·simp[d,f,g,i,E,F];refine c2 Q ?_;simp[aU];exact⟨by omega,by omega⟩
 have j:dJ (bH s)=true/\dJ (bP s)=true:=by
  cases S:dJ (bH s)
  ·rw[B,S]at k;simp at k
  cases T:dJ (bP s)
  ·rw[T]at k;simp at k
  exact⟨rfl,rfl⟩
 obtain⟨ae,G⟩:=CY j.1;obtain⟨af,H⟩:=CY j.2;have y:=zQ (bH s) (by rw[G];exact jY j.1) (by rw[G];omega);have z:=zQ (bP s) (by rw[H];exact jY j.2) (by rw[H];omega);rw[ae,G]at y;rw[af,H]at z;simp only[a2,if_false]at y z;have C:=QI (.mk' (bc (bH s):Nat)) (.mk' (bc (bP s):Nat)) (Fj (jY j.1) (by omega)) (Fj (jY j.2) (by omega));rw[NI.iS,NI.iS]at C;have D:=sA 1;rw[Nq]at D;have hc:=QH (.mk' (eJ (bc (bH s):Nat) (bc (bP s):Nat))) (.mk' 1) (ru (Fj (jY j.2) (by omega)) (by rw[NI.iS,eJ,a5,a5,a5];exact Nat.gcd_le_right _ (za j.2 (fun e=>by rw[e]at k;simp at k)))) (by rw[okW];decide);rw[NI.iS,NI.iS]at hc;have M:=az7 (a:=bc (bH s)) (b:=bc (bP s));generalize kj (eJ (bc (bH s):Nat) (bc (bP s):Nat)) 1=o at*
 by_cases l:ge (bc (bH s)) (bc (bP s))=1
 ·have w:o=0:=by simpa[l]using M
  simp[d,f,g,i,E,F,l];refine c1 y ?_;simp[d,f,g,i];refine c1 z ?_;simp;refine c2 C ?_;simp;refine c1 D ?_;simp;refine c2 hc ?_;simp[w];refine c2 Q ?_;simp[aU];rw[if_neg (by omega),if_pos l]
 ·have w:¬o=0:=by simpa[l]using M
  simp[d,f,g,i,E,F,l];refine c1 y ?_;simp[d,f,g,i];refine c1 z ?_;simp;refine c2 C ?_;simp;refine c1 D ?_;simp;refine c2 hc ?_;simp[w];refine c2 ag ?_ (h1:=by simp[w]);simp[aU];rw[if_neg (by omega),if_neg l]
def jc(s:List Nat):Prop:=s.length<=1048576/\∀c∈s,c<256
theorem Zp(l:List (List Nat)):ar prog 313 [.seq (l.map .str)] (.func 344 [] [.cq (.seq (l.map .str))]):=by
 refine aI nf Pa mix (by simp[f313]) ?_;simp[f313];exact bD.refl _
def EP(s:List Nat):List PV:=[.int .i64 (b7 s)]
theorem Y2(l:List (List Nat))(q:l.length<=1000000)(hs:∀s∈l,jc s):Stream prog 344 [] [.cq (.seq (l.map .str))] (l.map EP):=by
 intro b k c H' hk d o f;refine fh nf Iw mix (by simp[f344]) ?_;rw[cb]at hk;have g:∀i(h:i<l.length),(l.map EP)[i]?=some (EP l[i]):=fun i h=>by rw[b2,a9 h];rfl
 simp[f344];refine lp (α:=Nat) (fun i=>⟨[(7,.p (.int .i64 i)),(6,.p (.int .i64 l.length)),(5,.p (.seq (l.map .str))),(0,.map b)],c i⟩) (fun i=>i<=k) (fun i=>l.length-i) 0 (by simp) ?_ (hr:=by simp;exact(d 0 (by omega)).2) (hr2:=(d 0 (by omega)).1);intro i hi;have n:=bR (i:=i) (by omega)
 by_cases a:i<l.length
 ·have hc:=Af l[i] (hs _ (b5 a)).1 (hs _ (b5 a)).2;have ij:(i<k/\ft prog b (c i) [.p (.int .i64 (b7 l[i]))] (c (i+1)) (.p (.bool true)))\/ft prog b (c i) [.p (.int .i64 (b7 l[i]))] H' (.p (.bool false)):=by
   by_cases e:i<k
   ·exact .inl ⟨e,o i _ e (g i a)⟩
   ·have:i=k:=by omega
    subst this;rcases f with⟨e1,_⟩|⟨y,e1,e2⟩
    ·rw[cb]at e1;omega
    ·rw[g i a]at e1;injection e1 with e1;subst e1;exact .inr e2
  simp[a];refine c1 hc ?_;simp;rcases ij with⟨e,hY⟩|hY
  ·refine⟨c (i+1),_,hY,?_⟩;simp[n];exact rd (i+1) e (h1:=by omega) (hr:=by simp;exact(d (i+1) (by omega)).2) (hr2:=(d (i+1) (by omega)).1)
  ·refine⟨H',_,hY,?_⟩;simp
 ·have m:i=l.length:=by omega
  have j:k=l.length:=by omega
  rcases f with⟨e1,e2⟩|⟨y,e1,e2⟩
  ·simp[a,e2,m,j]
  ·rw[j,List.getElem?_eq_none (by simp)]at e1;cases e1
theorem zm(p:Nat->Bool):∀n,∃k,k<=n/\(∀j,j<k->p j=true)/\(k=n\/(k<n/\p k=false))
 |0=>⟨0,ee _,fun j h=>by omega,.inl rfl⟩
 |n+1=>by
  obtain⟨k,f,b,a⟩:=zm p n;rcases a with a|⟨a,d⟩
  ·subst a;cases c:p k
   ·exact⟨k,by omega,b,.inr ⟨by omega,c⟩⟩
   ·refine⟨k+1,ee _,fun j g=>?_,.inl rfl⟩
    by_cases e:j=k
    ·subst e;exact c
    ·exact b j (by omega)
  ·exact⟨k,by omega,b,.inr ⟨by omega,d⟩⟩
def mB(l:List (List Nat))(i:Nat):Int:=match l[i]? with
 |some s=>b7 s
 |none=>0
theorem Kw:∀(l:List (List Nat))(k:Nat),(∀j,j<k->mB l j=0)->bG (l.map b7)=bG ((l.drop k).map b7)
 |[],k,_=>by simp
 |s::l,0,_=>rfl
 |s::l,k+1,h=>by
  have a:=h 0 (by omega);have b:b7 s=0:=a;rw[bi,bG,if_pos b,List.drop_succ_cons];exact Kw l k fun j c=>h (j+1) (by omega)
theorem Wj(l:List (List Nat))(c:l.length<=1000000)(hs:∀s∈l,jc s):ar prog 268 [.seq (l.map .str)] (.int .i64 (bG (l.map b7))):=by
 refine aI nf GH mix (by simp[f268]) ?_;simp[f268];refine c1 (Zp l) ?_;simp;have aO:=Y2 l c hs;obtain⟨k,hk,g,d⟩:=zm (fun i=>decide (mB l i=0)) l.length;have r:∀j,j<k->mB l j=0:=fun j q=>by simpa using g j q
 have f:=Kw l k r;refine rf2 aO rfl (by simp) (fun L _=>[.box false (.p (.int .i64 0)),.loop L]) (fun L i=>[.box false (.p (.int .i64 (mB l (i-1)))),.loop (L.dn .ret)]) (fun i=>decide (mB l i=0)) .ret k (by simpa using hk) g (by simpa using d) (fun L=>rfl) ?_ ?_ (fun L=>rfl) ?_ ?_
 ·intro L b i hi;clear b;refine⟨rfl,by simp,fun _ c=>?_⟩;simp at c⊢;exact c
 ·intro L b i x hi hx;have t:x=[.int .i64 (mB l i)]:=by
   rw[b2]at hx;unfold mB;cases h:l[i]? with
   |none=>rw[h]at hx;cases hx
   |some s=>rw[h]at hx;injection hx with hx;rw[<-hx];rfl
  subst t;rw[em];refine xS nf mix b rfl rfl (by kernel_rfl) ?_;have m:=congrArg dW.env b;dsimp only at m;clear b;generalize mB l i=e
  by_cases he:e=0
  ·subst he;simp;exact .inl rfl
  ·simp[he];exact .inl rfl
 ·intro a L;have a:k=l.length:=by simpa using a
  rw[f,a];simp[bG]
 ·intro a L;have a:k<l.length:=by simpa using a
  have o:¬mB l k=0:=by
   rcases d with u|⟨_,n⟩
   ·omega
   ·simpa using n
  have e1:mB l k=b7 l[k]:=by unfold mB;rw[a9 a]
  rw[f,bl a,bi,bG,<-e1,if_neg o];simp[jy]
structure gS where
 x:List Nat
 y:List Nat
def gf(p:gS):PV:=.st 31 [.str p.x,.str p.y]
def o7(p:gS):Prop:=jc p.x/\jc p.y
def eA(p:gS):Int:=bG [b7 p.x,b7 p.y]
@[simp] theorem aOT(p:gS):aL (gf p)=.agg 31:=rfl
@[simp] theorem aNk(p:gS):bY (gf p)=[.str p.x,.str p.y]:=rfl
@[simp] theorem aMr:prog.cellsOf 31=2:=by kernel_rfl
theorem UM(p:gS)(a:o7 p):ar prog 211 [.seq [gf p]] (.int .i64 (eA p)):=by
 have hc:=Wj [p.x,p.y] (by simp) (by intro s hs;simp at hs;rcases hs with rfl|rfl;exact a.1;exact a.2);refine aI nf Gs mix (by simp[f211]) ?_;simp[f211];refine lp (α:=Nat) (fun i=>⟨[(8,.p (.int .i64 i)),(7,.p (.int .i64 1)),(6,.p (.seq [gf p])),(0,.p (.seq [gf p]))],[]⟩) (fun i=>i=0\/(i=1/\eA p=0)) (fun i=>1-i) 0 (.inl rfl) ?_;rintro i h;rcases h with rfl|⟨rfl,h⟩
 ·simp[aa];refine cp hc (by simp;exact⟨rfl,rfl⟩) ?_;have b:a4.wrap 1=1:=rfl;rw[show bG (dp b7 [p.x,p.y])=eA p from rfl]
  by_cases h:eA p=0
  ·simp[h,b];exact rd 1 (.inr ⟨rfl,h⟩)
  ·simp[h]
 ·simp[h]
theorem BP(p:gS)(a:o7 p):ar prog 120 [gf p] (.int .i64 (eA p)):=by
 refine aI nf Qz mix (by simp[f120]) ?_;simp[f120,aa];refine cp (UM p a) (by simp;exact⟨rfl,rfl⟩) ?_;simp
open Go.Proofs Go.Proofs.YthmfmhbicipdmaaGreatDoor
section
variable{H:Type}{W:World}{ad:Nat->Prop}
theorem Am{n:Nat}{d:DataW H}(h:∃cs,aW prog W ad (bu prog (n+1) 30 d) cs)(a:Rows.uptoBulk d<=1048576):∃s:List Nat,bu prog (n+1) 30 d=.str s/\jc s:=by
 obtain⟨cs,h⟩:=h;cases d with
 |lit l=>
  cases l with
  |string bytes=>
   refine⟨bytes.map (·.toNat),by simp only[bu,FA],?_,?_⟩
   ·rw[Rows.uptoBulk]at a;rw[cb];omega
   ·intro c hc;obtain⟨u,_,rfl⟩:=bV.1 hc;exact u.toNat_lt
  |_=>simp only[bu,FA,aW]at h
 |_=>simp only[bu,FA,aW]at h
theorem aLq:∃a b:Field,prog.underlying 32=some (.struct #[a,b])/\a.type=30/\b.type=30:=⟨_,_,underlying32,rfl,rfl⟩
theorem SG:prog.underlyingId 32=31:=by kernel_rfl
theorem XJ{m n:Nat}(q:m=n+1){d:DataW H}(h:∃cs,aW prog W ad (bu prog (m+1) 32 d) cs)(e:Rows.uptoBulk d<=1048576):∃p:gS,bu prog (m+1) 32 d=gf p/\o7 p:=by
 obtain⟨cs,h⟩:=h;obtain⟨f0,f1,i,t0,t1⟩:=aLq;cases d with
 |agg l=>
  have g:∀x∈l,Rows.uptoBulk x<=1048576:=fun x hx=>by
   have:=oV.uv hx;rw[Rows.uptoBulk]at e;omega
  simp only[bu,i,aW]at h⊢;obtain⟨t,s,f,c,_⟩:=h;rw[SG,aK2]at f;cases f
  match l,c with
  |[],c=>simp[bm]at c
  |[x],c=>simp[bm]at c
  |x::y::r,c=>
   simp only[List.zip_cons_cons,bi,bm,List.zip_nil_left,dz,t0,t1]at c⊢;obtain⟨c0,_,_,g1,_,c1,_,_,g2,_⟩:=c;subst q;obtain⟨a,j,o⟩:=Am ⟨c0,g1⟩ (g x (by simp));obtain⟨b,k,e⟩:=Am ⟨c1,g2⟩ (g y (by simp));exact⟨⟨a,b⟩,by rw[j,k,SG];rfl,o,e⟩
 |_=>simp only[bu,i,aW]at h
theorem KC{n:Nat}{d:DataW H}(h:∃cs,aW prog W ad (bu prog (n+2) 32 d) cs)(a:Rows.uptoBulk d<=1048576):∃p:gS,bu prog (n+2) 32 d=gf p/\o7 p:=XJ rfl h a
end
def bT:Nat:=1000000000
theorem bd:2<=bT:=by decide
def iP(l:List Nat):List PV:=l.map fun x:Nat=>.int .i64 x
theorem Sy(w:List Nat):eZ prog 1 (w.map (AV.p∘fun x:Nat=>PV.int .i64 x)):=by
 rw[vx];intro v a;obtain⟨x,_,rfl⟩:=bV.1 a;simp[aa,aL,bF]
def eT(n:Nat):PV:=.seq ((aB bT n).map fun x:Nat=>.int .i64 x)
theorem Av:aB bT 0=[]:=by simp[aB,nD]
theorem nV{n:Nat}(b:0<n)(h:n<bT):aB bT n=[n]:=by
 have a:=jH bd (m:=1) (n:=n) (by rw[gg];exact h);rw[<-a,row,List.range_one,bi,dz,ae,e9,fm,e8 h];have:=vt [] n (by omega)
 rwa [dk]at this
theorem vE{n:Nat}:aB bT n=[]↔n=0:=by
 constructor
 ·intro h;have:=cm bd n;rw[h,List.length_nil,e9]at this;omega
 ·rintro rfl;exact Av
theorem tZ(w:List Nat)(h:w.length<=1048576):ar prog 309 [.seq (iP w)] (.seq (iP (ey w))):=by
 refine aI nf ID mix (by simp[f309]) ?_;simp only[iP];simp[f309];refine lp (α:=Nat) (fun i=>⟨[(0,.p (.seq ((w.take i).map fun x:Nat=>.int .i64 x)))],[]⟩) (fun i=>i<=w.length/\ey w=ey (w.take i)) (fun i=>i) w.length (by simp) ?_;rintro i ⟨k1,k2⟩;have k:(w.take i).length=i:=by rw[c9];omega
 by_cases hi:0<i
 ·obtain⟨j,rfl⟩:∃j,i=j+1:=⟨i-1,by omega⟩
  have f:a4.wrap (j:Int)=j:=aQ _ (by omega) (by omega);have a:j<w.length:=by omega
  have e:(0:Int)<(j:Int)+1:=by omega
  have k3:=k2;rw[bo a]at k2;have c:min (j+1) w.length=j+1:=by omega
  have d:min ((j:Int)+1) (w.length:Int)=j+1:=by omega
  have g:¬w=[]:=by rintro rfl;simp at a
  by_cases b:w[j]=0
  ·rw[b,B8]at k2;simp[e,f,a,b,c,d,g];refine⟨by rw[<-bI];exact Sy _,?_⟩;refine rd j ⟨by omega,k2⟩ (he:=?_);rw[<-bI,<-bI,List.take_take,Nat.min_eq_left (by omega)];simp
  ·rw[vt _ _ b,<-bo a]at k2;simp[e,f,a,b,c,d,g];rw[k2,bI];exact bD.refl _
 ·obtain rfl:i=0:=by omega
  simp[ey]at k2;simp[k2]
def eG(z:Int):PV:=.st 235 [.bool (decide (z<0)),eT z.natAbs]
@[simp] theorem aOK(z:Int):aL (eG z)=.agg 235:=rfl
@[simp] theorem aNc(z:Int):bY (eG z)=[.bool (decide (z<0)),eT z.natAbs]:=rfl
@[simp] theorem aO0(n:Nat):aL (eT n)=.leaf:=rfl
theorem C0(neg:Bool)(w:List Nat)(n:Nat)(c:ey w=aB bT n)(h:w.length<=1048576):ar prog 254 [.bool neg,.seq (iP w)] (eG (if neg=true then -(n:Int)else n)):=by
 have a:=tZ w h;rw[c]at a;refine aI nf OZ mix (by simp[f254]) ?_;have b:(if neg=true then -(n:Int)else n).natAbs=n:=by cases neg<;>simp
 rw[eG,b,eT];have d:=vE (n:=n);have e:decide ((if neg=true then -(n:Int)else n)<0)=(neg&&decide (0<(aB bT n).length)):=by
  cases neg
  ·simp
  ·simp;rw[a6,Ne,d];omega
 rw[e];simp only[iP]at a⊢;generalize aB bT n=x at*;cases neg
 ·simp[f254];refine c1 a ?_;simp[aa]
 ·simp[f254];refine c1 a ?_;simp[aa]
  done
theorem JY{a b:Nat}(h:(aB bT a).length<(aB bT b).length):a<b:=by
 have d:=cm bd a;rcases en a b with c|c
 ·exact c
 ·have:=dO bd (aB bT a).length b (ed c d);omega
theorem J7{a b i:Nat}(h:a/bT^(i+1)=b/bT^(i+1))(e:ae bT a i<ae bT b i):a<b:=by
 rw[ew,<-eo,<-eo]at h;have e1:=ej (a/bT^i) bT;have e2:=ej (b/bT^i) bT;rw[ae,ae]at e;rw[h]at e1;rcases en a b with d|d
 ·exact d
 ·have:=Nat.div_le_div_right (c:=bT^i) d;omega
theorem Yr{a b i:Nat}(h:a/bT^(i+1)=b/bT^(i+1))(c:ae bT a i=ae bT b i):a/bT^i=b/bT^i:=by
 rw[ew,<-eo,<-eo]at h;have e1:=ej (a/bT^i) bT;have e2:=ej (b/bT^i) bT;rw[ae,ae]at c;rw[h]at e1;omega
theorem Kd(a b:Nat)(E:(aB bT a).length<=1048576)(F:(aB bT b).length<=1048576):ar prog 256 [eT a,eT b] (.int .i64 (fS a b)):=by
 refine aI nf Ps mix (by simp[f256]) ?_
 by_cases l:(aB bT a).length=(aB bT b).length
 case neg=>
  have q:¬((aB bT a).length:Int)=(aB bT b).length:=by omega
  by_cases A:(aB bT a).length<(aB bT b).length
  ·have m:((aB bT a).length:Int)<(aB bT b).length:=by omega
   have:=JY A;have hc:fS a b= -1:=if_pos this;simp[f256,eT,q,m,hc]
  ·have m:¬((aB bT a).length:Int)<(aB bT b).length:=by omega
   have:=JY (a:=b) (b:=a) (by omega);have hc:fS a b=1:=by rw[fS,if_neg (by omega),if_pos this]
   simp[f256,eT,q,m,hc]
 have t:∀i(h:i<(aB bT a).length),(aB bT a)[i]?=some (ae bT a i):=fun i h=>by rw[a9 h,eD bd h]
 have v:∀i(h:i<(aB bT b).length),(aB bT b)[i]?=some (ae bT b i):=fun i h=>by rw[a9 h,eD bd h]
 have u:∀i(h:i<(aB bT a).length),(aB bT a)[i]=ae bT a i:=fun i h=>eD bd h;have w:∀i(h:i<(aB bT b).length),(aB bT b)[i]=ae bT b i:=fun i h=>eD bd h;have s:=cm bd a;have o:=cm bd b;rw[<-l]at o;have z:a/bT^(aB bT a).length=b/bT^(aB bT a).length:=by rw[eq s,eq o]
 simp only[eT];generalize aB bT a=x at*;generalize aB bT b=y at*;have D:a4.wrap ((y.length:Int)-1)=y.length-1:=aQ _ (by omega) (by omega);simp[f256,l,D];refine lp (α:=Nat) (fun i=>⟨[(5,.p (.int .i64 ((i:Int)-1))),(1,.p (.seq (y.map fun x:Nat=>.int .i64 x))),(0,.p (.seq (x.map fun x:Nat=>.int .i64 x)))],[]⟩) (fun i=>i<=y.length/\a/bT^i=b/bT^i) (fun i=>i) y.length ⟨ee _,by rw[<-l];exact z⟩ ?_;rintro i ⟨k1,k2⟩
 by_cases hi:0<i
 ·obtain⟨j,rfl⟩:∃j,i=j+1:=⟨i-1,by omega⟩
  have c:j<x.length:=by omega
  have d:j<y.length:=by omega
  have C:a4.wrap ((j:Int)-1)=j-1:=aQ _ (by omega) (by omega);have e:=t j c;have g:=v j d;have f:=u j c;have k:=w j d
  by_cases hq:ae bT a j=ae bT b j
  ·simp[c,d,e,g,f,k,hq,C];exact rd j ⟨by omega,Yr k2 hq⟩
  ·have r:¬(ae bT a j:Int)=ae bT b j:=by omega
   by_cases n:ae bT a j<ae bT b j
   ·have:=J7 k2 n;have hc:fS a b= -1:=if_pos this;simp[c,d,e,g,f,k,r,n,hc]
   ·have:=J7 k2.symm (show ae bT b j<ae bT a j by omega);have B:ae bT b j<ae bT a j:=by omega
    have hc:fS a b=1:=by rw[fS,if_neg (by omega),if_pos this]
    simp[c,d,e,g,f,k,r,n,B,hc]
 ·obtain rfl:i=0:=by omega
  rw[e9,fm,fm]at k2;have hc:fS a b=0:=by rw[fS,if_neg (by omega),if_neg (by omega)]
  simp[hc]
theorem Ze{n i:Nat}(h:(aB bT n).length<=i):ae bT n i=0:=jG (ec (cm bd n) (eb (by decide) h))
theorem DH(a i:Nat):ar prog 311 [eT a,.int .i64 i] (.int .i64 (ae bT a i:Nat)):=by
 refine aI nf Pb mix (by simp[f311]) ?_
 by_cases h:i<(aB bT a).length
 ·have g1:(aB bT a)[i]=ae bT a i:=eD bd h;rw[eT,<-g1];generalize aB bT a=x at*;simp[f311,h]
 ·rw[Ze (by omega),eT];generalize aB bT a=x at*;simp[f311,h]
def ek(i n:Nat):List AV:=(ce i).map fun j=>.p (.int .i64 (ae bT n j:Nat))
theorem rh(i n:Nat):ek (i+1) n=ek i n++[.p (.int .i64 (ae bT n i:Nat))]:=by
 rw[ek,List.range_succ,List.map_append];rfl
theorem iO(i n:Nat):(ek i n).length=i:=by simp[ek]
@[simp] theorem aOw{N:Nat×Nat->Prop}{n i:Nat}:ba N (ek i n)=True:=by
 rw[dc,eq_iff_iff,iff_true];intro v a;simp only[ek,bV]at a;obtain⟨x,_,rfl⟩:=a;trivial
theorem Nj(i n:Nat):eO (ek i n)=some ((row bT i n).map fun x:Nat=>.int .i64 x):=by
 have:ek i n=(row bT i n).map (AV.p∘fun x:Nat=>PV.int .i64 x):=by
  rw[ek,row,ea];rfl
 rw[this];exact Lq
theorem OO(i n:Nat):ek i n=(row bT i n).map (AV.p∘fun x:Nat=>PV.int .i64 x):=by
 rw[ek,row,ea];rfl
theorem Zz{n i:Nat}(h:n<bT^i)(a:i=0\/bT^(i-1)<=n):row bT i n=aB bT n:=by
 have b:(aB bT n).length=i:=by
  have c:=dO bd i n h;rcases a with rfl|a
  ·omega
  ·have:=Kx bd a;omega
 have:=azz bd n;rw[b]at this;exact this.symm
theorem afO(a b:Nat)(I:(aB bT a).length<=1000000)(J:(aB bT b).length<=1000000):ar prog 255 [eT a,eT b] (eT (a+b)):=by
 refine aI nf KF mix (by simp[f255]) ?_;have v:=cm bd a;have w:=cm bd b;have C:∀i,i<(aB bT a).length->bT^i<=a:=fun i h=>by
  rcases en a (bT^i)with c|c
  ·have:=dO bd i a c;omega
  ·exact c
 have D:∀i,i<(aB bT b).length->bT^i<=b:=fun i h=>by
  rcases en b (bT^i)with c|c
  ·have:=dO bd i b c;omega
  ·exact c
 have A:∀i,0<dj bT a b i->bT^i<=a+b:=fun i h=>by
  rw[dj]at h;have c:bT^i<=a% bT^i+b% bT^i:=by
   rcases en (a% bT^i+b% bT^i) (bT^i)with d|d
   ·rw[eq d]at h;omega
   ·exact d
  have:=gt a (bT^i);have:=gt b (bT^i);omega
 have f:=fun i=>DH a i;have g:=fun i=>DH b i;have B:∀i,(aB bT a).length<=i->(aB bT b).length<=i->dj bT a b i=0->a+b<bT^i:=fun i c d s=>by
  have g1:=ec v (eb (show 0<bT by decide) c);have g2:=ec w (eb (show 0<bT by decide) d);rw[dj,e8 g1,e8 g2]at s;rcases en (a+b) (bT^i)with e|e
  ·exact e
  ·have:=Nat.div_pos e (fd (show 0<bT by decide));omega
 have E:∃M,M=max (aB bT a).length (aB bT b).length:=⟨_,rfl⟩
 obtain⟨M,H⟩:=E;simp only[eT]at f g⊢;have F:=fun i h d=>Zz (n:=a+b) (i:=i) h d;generalize aB bT (a+b)=z at*;generalize aB bT a=x at*;generalize aB bT b=y at*;simp[f255];refine lp (α:=Nat) (fun i=>⟨[(7,.p (.int .i64 i)),(6,.p (.int .i64 (dj bT a b i:Nat))),(5,.sl 0 i 1 0 i),(1,.p (.seq (y.map fun x:Nat=>.int .i64 x))),(0,.p (.seq (x.map fun x:Nat=>.int .i64 x)))],[.arr .grow i 1 (ek i (a+b))]⟩)
  (fun i=>i<=M+1/\(i=0\/bT^(i-1)<=a+b)) (fun i=>M+1-i) 0 ⟨by omega,.inl rfl⟩ ?_ (he:=by simp[yx,ek]) (hh:=by simp[ek])
 rintro i ⟨k1,k2⟩;have q:=bR (i:=i) (by omega);have K:=mh bd a b i;obtain⟨g1,g2⟩:=qW bd a b i;have N:=ct bd a i;have O:=ct bd b i;have t:bT=1000000000:=rfl;have w1:a4.wrap ((ae bT a i:Int)+ae bT b i)=ae bT a i+ae bT b i:=aQ _ (by omega) (by omega);have r:a4.wrap ((ae bT a i:Int)+ae bT b i+dj bT a b i)=ae bT a i+ae bT b i+dj bT a b i:=aQ _ (by omega) (by omega);have l:((ae bT a i:Int)+ae bT b i+dj bT a b i).tmod 1000000000=(ae bT (a+b) i:Nat):=by
  rw[Int.tmod_eq_emod_of_nonneg (by omega),<-g1,t];omega
 have m:((ae bT a i:Int)+ae bT b i+dj bT a b i).tdiv 1000000000=(dj bT a b (i+1):Nat):=by
  rw[Int.tdiv_eq_ediv_of_nonneg (by omega),<-g2,t];omega
 have o:a4.wrap (dj bT a b (i+1):Nat)=(dj bT a b (i+1):Nat):=by have:=mh bd a b (i+1);exact aQ _ (by omega) (by omega)
 have j:b3 i (ek i (a+b))=ek i (a+b):=a7 (by rw[iO];exact ee _)
 by_cases hx:i<x.length
 ·simp[hx];refine c2 (f i) ?_;simp;refine c2 (g i) ?_;simp[w1,r,l,m,o,iO,j,<-rh];refine⟨by simp only[cN];omega,?_⟩;refine rd (i+1) ⟨by omega,.inr (by rw[em];exact ei (C i hx) (by omega))⟩ (by omega) (he:=by simp[q])
 by_cases k:i<y.length
 ·simp[hx,k];refine c2 (f i) ?_;simp;refine c2 (g i) ?_;simp[w1,r,l,m,o,iO,j,<-rh];refine⟨by simp only[cN];omega,?_⟩;refine rd (i+1) ⟨by omega,.inr (by rw[em];exact ei (D i k) (by omega))⟩ (by omega) (he:=by simp[q])
 by_cases hc:0<dj bT a b i
 ·have L:i=M:=by
   rcases en M i with h|h
   ·have e0:=qW bd a b M;have c:ae bT a M=0:=jG (ec v (eb (by decide) (by omega)));have d:ae bT b M=0:=jG (ec w (eb (by decide) (by omega)));have s:=mh bd a b M;have e:i=M+1:=by omega
    subst e;rw[c,d]at e0;rw[<-e0.2,eq (by omega)]at hc;omega
   ·omega
  simp[hx,k,hc];refine c2 (f i) ?_;simp;refine c2 (g i) ?_;simp[w1,r,l,m,o,iO,j,<-rh];refine⟨by simp only[cN];omega,?_⟩;refine rd (i+1) ⟨by omega,.inr (by rw[em];exact A i hc)⟩ (by omega) (he:=by simp[q])
 ·have u:dj bT a b i=0:=by omega
  have G:=F i (B i (by omega) (by omega) u) k2;rw[<-G];simp[hx,k,u];refine⟨by rw[iO];exact ee _,?_⟩;rw[j,OO];simp
theorem OA(a b:Nat)(v:b<=a)(D:(aB bT a).length<=1000000):ar prog 257 [eT a,eT b] (eT (a-b)):=by
 refine aI nf Pr mix (by simp[f257]) ?_;have B:=cm bd a;have j:=fun i=>DH b i;have w:∀i(h:i<(aB bT a).length),(aB bT a)[i]?=some (ae bT a i):=fun i h=>by rw[a9 h,eD bd h]
 have A:∀i(h:i<(aB bT a).length),(aB bT a)[i]=ae bT a i:=fun i h=>eD bd h;have C:ey (row bT (aB bT a).length (a-b))=aB bT (a-b):=jH bd (ed (Nat.sub_le a b) B);have e:=tZ (row bT (aB bT a).length (a-b)) (by rw[NQ];omega);rw[C]at e;simp only[eT]at j⊢;simp only[iP]at e;generalize aB bT (a-b)=z at*;generalize aB bT a=x at*;generalize aB bT b=y at*;simp[f257];refine lp (α:=Nat) (fun i=>⟨[(7,.p (.int .i64 i)),(6,.p (.int .i64 (ff bT a b i:Nat))),(5,.sl 0 i 1 0 i),(1,.p (.seq (y.map fun x:Nat=>.int .i64 x))),(0,.p (.seq (x.map fun x:Nat=>.int .i64 x)))],[.arr .grow i 1 (ek i (a-b))]⟩)
  (fun i=>i<=x.length) (fun i=>x.length-i) 0 (by simp) ?_ (he:=by simp[B6,ek]) (hh:=by simp[ek])
 intro i k1;have s:=bR (i:=i) (by omega);have r:b3 i (ek i (a-b))=ek i (a-b):=a7 (by rw[iO];exact ee _);have E:bT=1000000000:=rfl;have H:=ct bd a i;have I:=ct bd b i;have J:=ct bd (a-b) i;have K:ff bT a b i<=1:=by rw[ff];split<;>omega
 have w1:a4.wrap ((ae bT a i:Int)-ae bT b i)=ae bT a i-ae bT b i:=aQ _ (by omega) (by omega);have n:a4.wrap ((ae bT a i:Int)-ae bT b i-ff bT a b i)=ae bT a i-ae bT b i-ff bT a b i:=aQ _ (by omega) (by omega)
 by_cases hx:i<x.length
 ·have o:=w i hx;have q:=A i hx;rcases LZ bd v i with⟨b1,g,u⟩|⟨b1,g,u⟩
  ·have m:(ae bT a i:Int)-ae bT b i-ff bT a b i<0:=by omega
   have f:a4.wrap ((ae bT a i:Int)-ae bT b i-ff bT a b i+1000000000)=(ae bT (a-b) i:Nat):=by rw[aQ _ (by omega) (by omega)];omega
   simp[hx,o,q];refine e2 (j i) ?_;simp[w1,n,m,f,iO,r,<-rh];refine⟨by simp only[cN];omega,?_⟩;refine rd (i+1) hx (he:=by simp[s,g])
  ·have m:¬(ae bT a i:Int)-ae bT b i-ff bT a b i<0:=by omega
   have f:(ae bT a i:Int)-ae bT b i-ff bT a b i=(ae bT (a-b) i:Nat):=by omega
   rw[f]at m n;simp[hx,o,q];refine e2 (j i) ?_;simp[w1,n,f,iO,r,<-rh];refine⟨by simp only[cN];omega,?_⟩;refine rd (i+1) hx (he:=by simp[s,g])
 ·have:i=x.length:=by omega
  subst this;have k:=OO x.length (a-b);have d:(row bT x.length (a-b)).length=x.length:=NQ;generalize row bT x.length (a-b)=l at e k d;have F:b3 x.length l=l:=a7 (by omega);rcases l with _|⟨c,t⟩
  ·simp at d;simp[k];refine cp e (by simp[<-d];exact⟨rfl,rfl⟩) ?_;simp
  ·have G:b3 x.length (PV.int .i64 c::dp (fun x:Nat=>PV.int .i64 x) t)=PV.int .i64 c::dp (fun x:Nat=>PV.int .i64 x) t:=a7 (by simp at d⊢;omega);simp at d;simp[k];refine cp e (by simp[<-d];exact⟨rfl,rfl⟩) ?_;simp
def dt(n:Nat)(f:Nat->Nat):List AV:=(ce n).map fun j=>.p (.int .i64 (f j:Nat))
theorem vS(n:Nat)(f:Nat->Nat):(dt n f).length=n:=by simp[dt]
theorem L8(n:Nat):bb n (AV.p (.int .i64 0))=dt n fun _=>0:=by
 apply dg (by simp[dt]);intro i a b;simp[dt]
theorem tP{n j:Nat}(f:Nat->Nat)(h:j<n):(dt n f)[j]?=some (.p (.int .i64 (f j:Nat))):=by
 rw[dt,b2,cv h];rfl
theorem Dk{n i:Nat}(f g:Nat->Nat)(h:∀j,j<n->j≠i->g j=f j):(dt n f).set i (.p (.int .i64 (g i:Nat)))=dt n g:=by
 apply dg (by simp[dt]);intro j c b;rw[vS]at b;rw[List.getElem_set];simp only[dt,List.getElem_map,List.getElem_range]
 by_cases a:i=j
 ·subst a;rw[if_pos rfl]
 ·rw[if_neg a,h j b (fun e=>a e.symm)]
@[simp] theorem aOv{N:Nat×Nat->Prop}{n:Nat}{f:Nat->Nat}:ba N (dt n f)=True:=by
 rw[dc,eq_iff_iff,iff_true];intro v a;simp only[dt,bV]at a;obtain⟨x,_,rfl⟩:=a;trivial
theorem zn{n:Nat}{f g:Nat->Nat}(h:∀j,j<n->f j=g j):dt n f=dt n g:=by
 rw[dt,dt];apply List.map_congr_left;intro j a;rw[h j (List.mem_range.1 a)]
end Go.ah
