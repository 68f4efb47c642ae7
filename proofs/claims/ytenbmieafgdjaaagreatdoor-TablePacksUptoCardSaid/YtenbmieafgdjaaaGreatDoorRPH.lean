import Derived.Test.YtenbmieafgdjaaaGreatDoorRPG
import Derived.Test.YtenbmieafgdjaaaGreatDoorRThE
import Derived.Test.YtenbmieafgdjaaaGreatDoorRPE
import Derived.Lib.AtoiAll
/- Parts of a proof. -/
set_option linter.unusedSimpArgs false
set_option linter.unusedVariables false
set_option linter.unusedSectionVars false
open Go.Proofs.Tryz
open Bool renaming and_eq_true->aT, false_eq_true->a0
open Go renaming FuncId->a1
open Go.IntKind renaming i64->a2
open Int renaming natAbs_natCast->a3
open List renaming length_pos_iff->a4, take_of_length_le->a5, length_singleton->a6, getElem?_eq_getElem->a7, replicate->a8, length_append->a9, map_cons->bb, drop_eq_getElem_cons->be, take_succ_eq_append_getElem->bi, append_nil->bk, take_append_drop->bl, map_take->bo, mem_map->bv, getElem?_map->b0, take->b1, reverse_nil->b2, getElem_mem->b3, length_map->b4, foldl_cons->b5, range->cb, all_cons->cc, dropWhile_sublist->ce, getElem?_range->ck, flatten_append->cv, dropWhile_cons->cx, mem_singleton->cy, length_take->c6, length_cons->c9, flatten_nil->da, ext_getElem->db, nil_append->dg, mem_append->dk, map->dl, mem_cons->dp, map_nil->dq, map_map->dz
open Nat renaming pow_le_pow_right->ea, lt_of_lt_of_le->eb, lt_of_le_of_lt->ec, le_refl->ed, le_trans->ee, div_add_mod->ei, add_sub_cancel->ej, lt_or_ge->em, div_div_eq_div_mul->en, div_eq_of_lt->eo, pow_succ->eq, mul_assoc->ew, lt_trans->ey, mod_eq_of_lt->e6, pow_zero->e7, mul_comm->e8, pow_pos->e9, mul_le_mul_right->fb, div_one->fd, pow_le_pow_left->fl, div_mul_le_self->fm, div_lt_self->fv, add_assoc->fV, gcd->gb, pow_one->gc, pow_mul->ge, add_mul->gg, mod_lt->gi, mod_le->gj
open Option.some renaming injEq->gm
open UInt8 renaming ofNat->gt
namespace Go.aj
open Go.Proofs
set_option linter.unusedSectionVars false
theorem AN:dD prog 226=some [1,1]:=by kernel_rfl
section
variable{w:World}{ad ah:Nat->Prop}{β:Bd}{H:Heap}
theorem Tt{al:Nat}{c0 c1 v:Value}{T:TypeId}(h:w.heap[al]?=some (.cells #[c0,c1] T (0,0))):w.setCell ⟨al,0,none⟩ v=w.setRow al #[v,c1]:=by
 obtain⟨d,a⟩:=Array.getElem?_eq_some_iff.1 h;unfold World.setCell World.setRow;congr 1;apply Array.ext
 ·simp
 ·intro i b c;simp only[Array.getElem_modify]
  by_cases hi:al=i
  ·subst hi;simp[a]
  ·simp[hi]
theorem SS{t x:AV}{cs:Array Value}(g:t=gW 226 [.p .dC,x]\/t=.st 226 [.p .dC,x])(h:bf prog w ad β H t cs.toList):∃y,cs=#[.pointer none,y]/\bf prog w ad β H x [y]:=by
 have a:bf prog w ad β H (.st 226 [.p .dC,x]) cs.toList:=by
  rcases g with rfl|rfl
  ·exact LI.1 h
  ·exact h
 simp only[bf,AN,gm]at a;obtain⟨l,k,rfl,b,d⟩:=a;simp only[bJ,bf,aP]at b;obtain⟨c,i,rfl,rfl,_,c2,j,rfl,e,f,rfl⟩:=b
 match c2,f with
 |[y],_=>exact⟨y,Array.ext' (by simpa using d),e⟩
theorem SL{b:Nat}{x:AV}{cs:Array Value}(h:bf prog w ad β H (.st 226 [.ptr b [],x]) cs.toList):∃v y,cs=#[v,y]/\bK prog β H (.ptr b []) v:=by
 simp only[bf,AN,gm]at h;obtain⟨l,j,rfl,a,d⟩:=h;simp only[bJ,bf]at a;obtain⟨c,g,rfl,⟨v,rfl,f⟩,_,c2,i,rfl,k,e,rfl⟩:=a
 match c2,e with
 |[y],_=>exact⟨v,y,Array.ext' (by simpa using d),f⟩
end
theorem DX{H:Heap}{b:Nat}{t x:AV}(f:H[b]?=some (.box false t))(i:t=gW 226 [.p .dC,x]\/t= .st 226 [.p .dC,x]):
 c7 prog 226 H [.ptr b []] (H.set b (.box false (.st 226 [.ptr b [],x]))) (.p (.aE [])):=by
 refine⟨iN func226 (by kernel_rfl),fun w ad ah β J g j K=>?_⟩;simp only[br,au]at j;obtain⟨v,vs,rfl,⟨_,I,L,M,rfl,m,B⟩,rfl⟩:=j;simp only[fY,gm]at m;subst m;obtain⟨rfl,rfl⟩:=B (.inl ⟨false,t,f⟩);obtain⟨cs,T,k1,k2,k3,_,k5⟩:=g.cB b _ f;have F:aa t=.agg 226:=by
  rcases i with rfl|rfl
  ·exact BI _ _
  ·rfl
 have q:T=227:=by
  rw[F]at k5;exact dj (by simpa[jg,Gl.bx,ZI]using k5)
 subst q;obtain⟨y,rfl,G⟩:=SS i k2;have o:¬ad (β.al b)/\¬ah (β.al b):=by simpa[cw]using k3
 refine(SH (β.al b) w (by simp[World.cell?,k1]) (by simp[World.shape?,k1]) (by simp[World.frozen?,k1])).mono ?_;rintro e w' ⟨rfl,rfl⟩;rw[Tt k1];have aB:b9 β H β (H.set b (.box false (.st 226 [.ptr b [],x]))):=oW f (.inl ⟨_,_,_,_,rfl,rfl⟩);have ak:∀z,aG H z->aG (H.set b (.box false (.st 226 [.ptr b [],x]))) z:=lT f (fun _ h=>h);have r:b<H.length:=(List.getElem?_eq_some_iff.1 f).1;have u:(H.set b (.box false (.st 226 [.ptr b [],x])))[b]?=some (.box false (.st 226 [.ptr b [],x])):=List.getElem?_set_self r;have n:aC (aG H) x:=by
  have:=g.refs b _ f;rcases i with rfl|rfl
  ·simp only[Obj.refs]at this;unfold gW at this
   split at this
   ·rename_i l d;have d:=lR d
    match l,d with
    |[a,c],d=>simp at d;rw[d.2];simp[aC]
    |[],d=>simp at d
    |[_],d=>simp at d
    |_::_::_::_,d=>simp at d
   ·simp only[aC,aR]at this;exact this.2.1
  ·simp only[Obj.refs,aC,aR]at this;exact this.2.1
 have E:∀k,ad k->(w.setRow (β.al b) #[.pointer (some ⟨β.al b,0,none⟩),y]).heap[k]?=w.heap[k]?:=fun k A=>setRow_other w _ k _ (fun s=>o.1 (s▸A));have D:Obj.refs (aG (H.set b (.box false (.st 226 [.ptr b [],x])))) (.box false (.st 226 [.ptr b [],x])):=by
  simp only[Obj.refs,aC,aR,and_true];exact⟨⟨_,u,trivial⟩,aC.mono ak _ n⟩
 have C:=qm g f trivial (o':=.box false (.st 226 [.ptr b [],x])) trivial (fun _ h=>h) k1 (new:=#[.pointer (some ⟨β.al b,0,none⟩),y]) o aB
  ⟨_,227,setRow_heap w _ _ _ 227 _ k1,by
   simp only[bf,AN,gm];refine⟨_,[[.pointer (some ⟨β.al b,0,none⟩)],[y]],rfl,?_,rfl⟩;simp only[bJ,bf];exact⟨_,_,rfl,⟨_,rfl,⟨rfl,_,_,0,rfl,rfl,fun _=>⟨rfl,rfl⟩⟩⟩,rfl,_,_,rfl,bf.mono (fun _ x=>x) E aB _ _ n G,rfl,rfl⟩,k3,by simp,by simp[aa,jg,Gl.bx]⟩ D
 exact⟨_,β,ad,rfl,C,by simp[au,aA,bn],by simp[aC]⟩
theorem Pc{H:Heap}{b:Nat}{x:AV}(c:H[b]?=some (.box false (.st 226 [.ptr b [],x]))):c7 prog 226 H [.ptr b []] H (.p (.aE [])):=by
 refine⟨iN func226 (by kernel_rfl),fun w ad ah β l g f m=>?_⟩;simp only[br,au]at f;obtain⟨v,vs,rfl,⟨_,j,n,i,rfl,a,d⟩,rfl⟩:=f;simp only[fY,gm]at a;subst a;obtain⟨rfl,rfl⟩:=d (.inl ⟨false,_,c⟩);obtain⟨cs,T,k1,k2,k3,_,k5⟩:=g.cB b _ c;obtain⟨v,y,rfl,h⟩:=SL k2;simp only[bK,bO]at h;obtain⟨_,k,o,i,rfl,a,d⟩:=h;simp only[fY,gm]at a;subst a;obtain⟨rfl,rfl⟩:=d (.inl ⟨false,_,c⟩);refine(SG (β.al b) w (by simp[World.cell?,k1])).mono ?_;rintro e w' ⟨rfl,rfl⟩;exact⟨_,β,ad,rfl,bR.refl g,by simp[au,aA,bn],by simp[aC]⟩
set_option maxHeartbeats 4000000
set_option maxRecDepth 100000
@[simp] theorem gu8:(Gl.u8:TypeId)=5:=(rfl)
def dG(t:List Nat):List AV:=t.map fun(c:Nat)=>AV.p (.int .u8 (c:Int))
theorem vt(t:List Nat):(dG t).length=t.length:=by simp[dG]
theorem aGS(a t:List Nat):dG (a++t)=dG a++dG t:=by simp[dG]
theorem Cw:∀t:List Nat,fc prog 1 (dG t)
 |[]=>by simp[dG,fc]
 |c::t=>by
  have:=Cw t;simp only[dG,bb]at this⊢;simp[fc];exact this
theorem Jj:∀(t:List Nat),(∀c∈t,c<256)->bytesOf (dG t)=some t
 |[],_=>rfl
 |c::t,a=>by
  have b:=a c (by simp);have:=Jj t fun c hc=>a c (by simp[hc]);show bytesOf (.p (.int .u8 (c:Int))::dG t)=some (c::t);rw[bytesOf,if_pos ⟨by omega,by omega⟩,this];simp
theorem Pd(t:List Nat)(a:t≠[])(h:t.length<=1048576):c7 prog 150 [.box false (.p (.st 226 [.dC,.aN]))] [.ptr 0 [],.p (.str t)]
 [.box false (.st 226 [.ptr 0 [],.sl 1 0 1 0 t.length]),.arr .bytes 0 1 (dG t)] (.p (.aE [.int .i64 t.length,.fS])):=by
 refine jc nf DE mix (by simp[f150]) ?_;simp[f150];refine ci (DX (b:=0) (t:=.p (.st 226 [.dC,.aN])) (x:=.p .aN) rfl (.inl rfl)) ?_;simp;refine⟨⟨Cw t,by simp only[cO];omega⟩,?_⟩;simp[a,dG]
theorem Pe(a t:List Nat)(v n:Nat)(f:n=a.length)(c:t≠[])(h:t.length<=1048576)(e:a.length<=1048576):c7 prog 150 [.box false (.st 226 [.ptr 0 [],.sl 1 v 1 0 n]),.arr .bytes v 1 (dG a)] [.ptr 0 [],.p (.str t)]
 [.box false (.st 226 [.ptr 0 [],.sl 1 (v+1) 1 0 (n+t.length)]),.arr .bytes (v+1) 1 (dG (a++t))] (.p (.aE [.int .i64 t.length,.fS])):=by
 refine jc nf DE mix (by simp[f150]) ?_;simp[f150];refine ci (Pc (b:=0) (x:=.sl 1 v 1 0 n) rfl) ?_;simp;refine⟨⟨Cw t,by rw[vt];omega,by rw[vt];simp only[cO];omega⟩,?_⟩;have d:b1 n (dG a)=dG a:=a5 (by rw[vt];omega);simp[c,d,aGS];exact .inl rfl
theorem ZF(a:List Nat)(v n:Nat)(b:n=a.length)(d:a≠[])(g:a.length<=1048576)(e:∀c∈a,c<256):c7 prog 230 [.box false (.st 226 [.ptr 0 [],.sl 1 v 1 0 n]),.arr .bytes v 1 (dG a)] [.ptr 0 []]
 [.box false (.st 226 [.ptr 0 [],.sl 1 v 1 0 n]),.dead] (.p (.str a)):=by
 refine jc nf On mix (by simp[f230]) ?_;have f:0<a.length:=a4.2 d;simp[f230];refine Zd (ar:=v) (es:=dG a) rfl rfl (by rw[b];exact f) (by simp[dG,b]) ?_;simp;refine Zf (ar:=v) (es:=dG a) (l:=a) rfl rfl rfl (by omega) (by simp[vt,b]) (by omega) rfl ?_ ?_ ?_ ?_
 ·kernel_rfl
 ·kernel_rfl
 ·rw[a5 (by rw[vt];simp[b])];exact Jj a e
 simp
 repeat' with_reducible refine And.intro ?_ ?_
 all_goals rfl
theorem BX{σ:Nat->Nat}:∀{a b:List AV},cQ σ (a++b)=cQ σ a++cQ σ b
 |[],b=>by simp[cQ]
 |x::a,b=>by simp[cQ,BX (a:=a)]
theorem y8:aq wB tB=[tB]:=tj (by decide) (by decide)
theorem Wx(a:NI)(hs:a.sm=true):aw prog 247 [eI a] (.str (bI a.v)):=by
 refine aI nf DC mix (by simp[f247]) ?_;have b:=NI.pB hs;simp[f247,aa,lZ hs,mM hs,du,cS];refine c1 (G6 a.v b.1 b.2) ?_;simp
theorem MD{m k A L:Nat}(e:0<m)(h:m*tB^k<=A)(a:A<wB^L):k<64*L:=by
 have b:2^k<=tB^k:=fl (by decide) k;have c:tB^k<=m*tB^k:=Nat.le_mul_of_pos_left _ e;rw[show wB=2^64 from rfl,<-ge]at a;have d:2^k<2^(64*L):=ec (ee b (ee c h)) a
 rwa [Nat.pow_lt_pow_iff_right (by decide)]at d
theorem Ww(a:NI)(hs:a.sm=false)(Z:okW a.v)(ay:(aV a.v.natAbs).length<=1000000):aw prog 247 [eI a] (.str (bI a.v)):=by
 have N:=nH (eI a) a.v (l8 a);have aN:=NI.yV (a:=a) (by rw[hs];decide);have aj:=eb (cj bd a.v.natAbs) (ea (show 0<wB by decide) (nF Z));obtain⟨c,cs,G⟩:=nS hs;refine aI nf DC mix (by simp[f247]) ?_;simp[f247,aa,G,du,cS];refine c1 N ?_;simp;refine rL (fun s'=>∃b:List (List Nat),jy 0 b=jy a.v.natAbs []/\(∀p∈b,p≠[]/\p.length<=18)/\b≠[]/\b.length<=57600000/\aM s'.env 3=.p (.bool (decide (a.v<0)))/\aM s'.env 6=.sl 2 b.length 1 0 b.length/\∃o,s'.heap=[.hole,o,.arr .grow b.length 1 (b.map fun p=>.p (.str p))]) ?_ ?_
 ·refine lp (α:=Nat×List (List Nat)×Bool) (fun x=>⟨[(6,.sl 2 x.2.1.length 1 0 x.2.1.length),(5,.sl 1 0 1 0 1),(4,.p (eN x.1)),(3,.p (.bool (decide (a.v<0))))],[.hole,.arr (if x.2.2=true then .frozen else .exact) 0 1 [.p (.int .u64 1000000000000000000)],.arr .grow x.2.1.length 1 (x.2.1.map fun p=>.p (.str p))]⟩)
   (fun x=>x.1<=a.v.natAbs/\jy x.1 x.2.1=jy a.v.natAbs []/\(∀p∈x.2.1,p≠[]/\p.length<=18)/\x.2.1.length<=57600000/\x.1*tB^x.2.1.length<=a.v.natAbs) (fun x=>x.1) (a.v.natAbs,[],false) ⟨ed _,rfl,by simp,by simp,by simp⟩ ?_
  rintro⟨m,b,f⟩ ⟨k1,k2,k3,k5,k4⟩;dsimp only at k1 k2 k3 k5 k4;rcases f with _|_
  ·simp only[a0,if_false];have az:(aq wB m).length<=900000:=by
    have:=dK bd _ _ (ec k1 (cj bd a.v.natAbs));have:=nF Z;omega
   by_cases hm:m=0
   ·subst hm;have ac:b≠[]:=by
     rintro rfl;rw[jy,jy,if_pos rfl,if_neg (by omega)]at k2;have:=yy a.v.natAbs;rw[b2,da,bk,bk]at k2;rw[<-k2]at this;simp at this
    simp[eN,ly];refine⟨b,k2,k3,ac,k5,?_⟩;simp
   ·have d:=Ca m tB (by decide) (by omega) (by rw[y8];decide);have ab:aq wB m≠[]:=mt sC.1 hm;have C:0<(aq wB m).length:=a4.2 ab;have aB:=Ku hm b;have B:∀p∈b++[ez m],p≠[]/\p.length<=18:=by
     intro p N;rcases dk.1 N with h|h
     ·exact k3 p h
     ·rw[cy.1 h];exact⟨Jx m,Jy m⟩
    have A:m/tB<m:=fv (by omega) (by decide);have aC:=MD (show 0<m by omega) k4 aj;have w:m/tB*tB^(b++[ez m]).length<=a.v.natAbs:=by
     rw[a9,a6,eq,e8 (tB^b.length),<-ew];exact ee (fb _ (fm _ _)) k4
    have y:(b++[ez m]).length<=57600000:=by rw[a9,a6];omega
    have r:m% tB<tB:=gi _ (by decide);have Q:m/tB=0->m% tB=m:=fun h=>by have:=ei m tB;rw[h]at this;omega
    simp only[eN]at d⊢;rw[y8]at d;have P:=sC (n:=m/tB);have L:=OS (m% tB) (ey r (by decide));have q:=OT [48] (18-(aV (m% tB)).length) (by omega) (by simp;omega);have aD:=CK r;have ad:=QG r;rw[BW]at q;have l:ez m=if m/tB=0 then aV (m% tB)else a8 (18-(aV (m% tB)).length) 48++aV (m% tB):=by
     rw[ez,ad];split
     ·rename_i h;rw[Q h]
     ·rfl
    have s:a2.wrap (18-((aV (m% tB)).length:Int))=(18-(aV (m% tB)).length:Nat):=by rw[aK _ (by omega) (by omega)];omega
    have aG:((18-(aV (m% tB)).length:Nat):Int)=18-((aV (m% tB)).length:Int):=by omega
    have u:∀t,t=ez m->(b.map fun p=>AV.p (.str p))++[AV.p (.str t)]=(b++[ez m]).map fun p=>AV.p (.str p):=fun t e=>by rw[e];simp
    by_cases F:m% tB=0
    ·have j:¬m/tB=0:=fun h=>hm (by rw[<-Q h];exact F);have E:0<(aq wB (m/tB)).length:=a4.2 (mt P.1 j);have e:a8 (18-(aV (m% tB)).length) 48++aV (m% tB)=ez m:=by rw[l,if_neg j]
     rw[F,mC]at e q s;rw[F,ly]at d;simp only[a6]at e q s;have hf:=u _ e;generalize D:aq wB (m/tB)=ai at*;simp[C];refine cp d (by simp;exact⟨rfl,rfl⟩) ?_ (h1:=by simp[tB]);simp[E,s];refine c2 q ?_;simp;refine⟨by simp only[cO];omega,?_⟩;refine rd (m/tB,b++[ez m],true) ⟨by omega,by rw[aB];exact k2,by simpa using B,y,w⟩ A (he:=by simp[D]) (hh:=by simp only[<-hf];simp) (hr2:=by simp only[<-hf];simp)
    ·have af:aq wB (m% tB)=[m% tB]:=tj (by omega) (ey r (by decide));rw[af]at d
     by_cases j:m/tB=0
     ·have e:aV (m% tB)=ez m:=by rw[l,if_pos j]
      have hf:=u _ e;rw[j,ly]at d;simp[C];refine cp d (by simp;exact⟨rfl,rfl⟩) ?_ (h1:=by simp[tB]);simp;refine c2 L ?_;simp;refine⟨by simp only[cO];omega,?_⟩;refine rd (m/tB,b++[ez m],true) ⟨by omega,by rw[aB];exact k2,by simpa using B,y,w⟩ A (he:=by simp[j,ly]) (hh:=by simp only[<-hf];simp) (hr2:=by simp only[<-hf];simp)
     ·have E:0<(aq wB (m/tB)).length:=a4.2 (mt P.1 j);have e:a8 (18-(aV (m% tB)).length) 48++aV (m% tB)=ez m:=by rw[l,if_neg j]
      have hf:=u _ e;generalize D:aq wB (m/tB)=ai at*;simp[C];refine cp d (by simp;exact⟨rfl,rfl⟩) ?_ (h1:=by simp[tB]);simp;refine c2 L ?_;simp[E,s];refine c2 q ?_;simp;refine⟨by omega,by simp only[cO];omega,?_⟩;refine rd (m/tB,b++[ez m],true) ⟨by omega,by rw[aB];exact k2,by simpa using B,y,w⟩ A (he:=by simp[D]) (hh:=by simp only[<-hf];simp) (hr2:=by simp only[<-hf];simp)
  ·simp only[if_true];have az:(aq wB m).length<=900000:=by
    have:=dK bd _ _ (ec k1 (cj bd a.v.natAbs));have:=nF Z;omega
   by_cases hm:m=0
   ·subst hm;have ac:b≠[]:=by
     rintro rfl;rw[jy,jy,if_pos rfl,if_neg (by omega)]at k2;have:=yy a.v.natAbs;rw[b2,da,bk,bk]at k2;rw[<-k2]at this;simp at this
    simp[eN,ly];refine⟨b,k2,k3,ac,k5,?_⟩;simp
   ·have d:=Ca m tB (by decide) (by omega) (by rw[y8];decide);have ab:aq wB m≠[]:=mt sC.1 hm;have C:0<(aq wB m).length:=a4.2 ab;have aB:=Ku hm b;have B:∀p∈b++[ez m],p≠[]/\p.length<=18:=by
     intro p N;rcases dk.1 N with h|h
     ·exact k3 p h
     ·rw[cy.1 h];exact⟨Jx m,Jy m⟩
    have A:m/tB<m:=fv (by omega) (by decide);have aC:=MD (show 0<m by omega) k4 aj;have w:m/tB*tB^(b++[ez m]).length<=a.v.natAbs:=by
     rw[a9,a6,eq,e8 (tB^b.length),<-ew];exact ee (fb _ (fm _ _)) k4
    have y:(b++[ez m]).length<=57600000:=by rw[a9,a6];omega
    have r:m% tB<tB:=gi _ (by decide);have Q:m/tB=0->m% tB=m:=fun h=>by have:=ei m tB;rw[h]at this;omega
    simp only[eN]at d⊢;rw[y8]at d;have P:=sC (n:=m/tB);have L:=OS (m% tB) (ey r (by decide));have q:=OT [48] (18-(aV (m% tB)).length) (by omega) (by simp;omega);have aD:=CK r;have ad:=QG r;rw[BW]at q;have l:ez m=if m/tB=0 then aV (m% tB)else a8 (18-(aV (m% tB)).length) 48++aV (m% tB):=by
     rw[ez,ad];split
     ·rename_i h;rw[Q h]
     ·rfl
    have s:a2.wrap (18-((aV (m% tB)).length:Int))=(18-(aV (m% tB)).length:Nat):=by rw[aK _ (by omega) (by omega)];omega
    have aG:((18-(aV (m% tB)).length:Nat):Int)=18-((aV (m% tB)).length:Int):=by omega
    have u:∀t,t=ez m->(b.map fun p=>AV.p (.str p))++[AV.p (.str t)]=(b++[ez m]).map fun p=>AV.p (.str p):=fun t e=>by rw[e];simp
    by_cases F:m% tB=0
    ·have j:¬m/tB=0:=fun h=>hm (by rw[<-Q h];exact F);have E:0<(aq wB (m/tB)).length:=a4.2 (mt P.1 j);have e:a8 (18-(aV (m% tB)).length) 48++aV (m% tB)=ez m:=by rw[l,if_neg j]
     rw[F,mC]at e q s;rw[F,ly]at d;simp only[a6]at e q s;have hf:=u _ e;generalize D:aq wB (m/tB)=ai at*;simp[C];refine cp d (by simp;exact⟨rfl,rfl⟩) ?_ (h1:=by simp[tB]);simp[E,s];refine c2 q ?_;simp;refine⟨by simp only[cO];omega,?_⟩;refine rd (m/tB,b++[ez m],true) ⟨by omega,by rw[aB];exact k2,by simpa using B,y,w⟩ A (he:=by simp[D]) (hh:=by simp only[<-hf];simp) (hr2:=by simp only[<-hf];simp)
    ·have af:aq wB (m% tB)=[m% tB]:=tj (by omega) (ey r (by decide));rw[af]at d
     by_cases j:m/tB=0
     ·have e:aV (m% tB)=ez m:=by rw[l,if_pos j]
      have hf:=u _ e;rw[j,ly]at d;simp[C];refine cp d (by simp;exact⟨rfl,rfl⟩) ?_ (h1:=by simp[tB]);simp;refine c2 L ?_;simp;refine⟨by simp only[cO];omega,?_⟩;refine rd (m/tB,b++[ez m],true) ⟨by omega,by rw[aB];exact k2,by simpa using B,y,w⟩ A (he:=by simp[j,ly]) (hh:=by simp only[<-hf];simp) (hr2:=by simp only[<-hf];simp)
     ·have E:0<(aq wB (m/tB)).length:=a4.2 (mt P.1 j);have e:a8 (18-(aV (m% tB)).length) 48++aV (m% tB)=ez m:=by rw[l,if_neg j]
      have hf:=u _ e;generalize D:aq wB (m/tB)=ai at*;simp[C];refine cp d (by simp;exact⟨rfl,rfl⟩) ?_ (h1:=by simp[tB]);simp;refine c2 L ?_;simp[E,s];refine c2 q ?_;simp;refine⟨by omega,by simp only[cO];omega,?_⟩;refine rd (m/tB,b++[ez m],true) ⟨by omega,by rw[aB];exact k2,by simpa using B,y,w⟩ A (he:=by simp[D]) (hh:=by simp only[<-hf];simp) (hr2:=by simp only[<-hf];simp)
 ·rintro⟨aL,aO⟩ ⟨b,q1,aH,V,q4,au,T,o,am⟩;dsimp only at au T am;subst am;have aE:0<b.length:=a4.2 V;have ae:aV a.v.natAbs=b.reverse.flatten:=by rw[<-Wm,q1,jy,if_neg (by omega)];simp
  obtain⟨neg,M⟩:∃neg:Bool,neg=decide (a.v<0):=⟨_,rfl⟩
  obtain⟨S,O⟩:∃S:List Nat,S=if neg=true then[45]else[]:=⟨_,rfl⟩
  have an:bI a.v=S++b.reverse.flatten:=by
   rw[bI,<-ae,O,M]
   by_cases h:a.v<0
   ·simp[h]
   ·simp[h]
  obtain⟨g,J⟩:∃g:Nat->List Nat,g=fun k=>S++(b.reverse.take k).flatten:=⟨_,rfl⟩
  have K:g b.length=bI a.v:=by rw[J,an];dsimp only;rw[a5 (by simp)]
  have aF:∀k,(b.reverse.take k).flatten.length<=1000000:=fun k=>by
   have av:b.reverse.flatten=(b.reverse.take k).flatten++(b.reverse.drop k).flatten:=by rw[<-cv,bl]
   rw[ae,av,a9]at ay;omega
  have aP:S.length<=1:=by rw[O];split<;>simp
  have X:∀k,(g k).length<=1000001:=fun k=>by rw[J];dsimp only;rw[a9];have:=aF k;omega
  have l:∀k(h:k<b.length),g (k+1)=g k++b[b.length-1-k]'(by omega):=fun k h=>by
   rw[J];dsimp only;rw[bi (by simpa using h),cv,List.getElem_reverse,<-List.append_assoc];simp
  have ax:∀c∈bI a.v,c<256:=by
   intro c hc;rw[bI]at hc;have d:=nX a.v.natAbs;rw[List.all_eq_true]at d
   split at hc
   ·rcases dp.1 hc with h|h
    ·omega
    ·exact Lt (d c h)
   ·exact Lt (d c hc)
  have ag:a2.wrap ((b.length:Int)-1)=b.length-1:=aK _ (by omega) (by omega);have ak:∀i(h:i<b.length),b[i]≠[]/\b[i].length<=18:=fun i h=>aH _ (b3 h);have H:=ZF (g b.length) (if neg=true then b.length else b.length-1) (g b.length).length rfl (by rw[K,an];intro h;rw[List.append_eq_nil_iff,<-ae]at h;have:=yy a.v.natAbs;rw[h.2]at this;simp at this) (by have:=X b.length;omega) (by rw[K];exact ax);simp[au,T,ag]
  by_cases U:a.v<0
  ·rw[decide_eq_true U]at M;subst M;have aA:g 0=[45]:=by rw[J,O];simp
   simp only[if_true]at H;simp[U];refine cf (Pd [45] (by simp) (by simp)) [3] ?_;simp[bm,sig,T,ag];refine lp (α:=Nat) (fun k=>⟨[(11,.p (.int .i64 ((b.length:Int)-1-k))),(10,.ptr 3 []),(6,.sl 2 b.length 1 0 b.length)],[.hole,.hole,.arr .grow b.length 1 (b.map fun p=>.p (.str p)),.box false (.st 226 [.ptr 3 [],.sl 4 k 1 0 (g k).length]),.arr .bytes k 1 (dG (g k))]⟩)
    (fun k=>k<=b.length) (fun k=>b.length-k) 0 (by simp) ?_ (he:=by simp[T]) (hh:=by simp[aA,dG]) (hr2:=by simp[dG])
   intro k hk
   by_cases z:k<b.length
   ·have G:a2.wrap ((b.length:Int)-1-k-1)=b.length-1-(k+1:Nat):=by rw[aK _ (by omega) (by omega)];omega
    have e1:((b.length:Int)-1-k).toNat=b.length-1-k:=by omega
    have I:(k:Int)<=(b.length:Int)-1:=by omega
    have R:b.length-1-k<b.length:=by omega
    have hx:=ak _ R;have ah:=Pe (g k) (b[b.length-1-k]) k (g k).length rfl hx.1 (by omega) (by have:=X k;omega);simp[I,e1,R,V];refine cf ah [3,4] ?_ (ak:=by simp[sig,dG]) (aJ:=by simp[sig]) (hr:=by simp[dG]);simp[sig,dG,bm,G,BX];refine rd (k+1) z (he:=by simp[l k z]) (hh:=by simp[l k z,dG]) (hr2:=by simp[dG])
   ·have Y:k=b.length:=by omega
    subst Y;have W:¬(b.length:Int)<=(b.length:Int)-1:=by omega
    simp[W];refine cf H [3,4] ?_ (ak:=by simp[sig,dG]) (aJ:=by simp[sig]) (hr:=by simp[dG]);simp[sig,bm,K]
  ·rw[decide_eq_false U]at M;subst M;simp only[a0,if_false]at H O;have al:g 1=b[b.length-1]:=by rw[l 0 aE,J];simp[O]
   have ar:b.length-1<b.length:=by omega
   have ap:=ak _ ar;have ao:=Pd (b[b.length-1]) ap.1 (by omega);rw[<-al]at ao ap;simp[U,ag]
   refine lp (α:=Option Nat) (fun st=>match st with
     |none=>⟨[(11,.p (.int .i64 ((b.length:Int)-1))),(10,.ptr 3 []),(6,.sl 2 b.length 1 0 b.length)],[.hole,.hole,.arr .grow b.length 1 (b.map fun p=>.p (.str p)),.box false (.p (.st 226 [.dC,.aN]))]⟩
     |some k=>⟨[(11,.p (.int .i64 ((b.length:Int)-1-(k+1)))),(10,.ptr 3 []),(6,.sl 2 b.length 1 0 b.length)],[.hole,.hole,.arr .grow b.length 1 (b.map fun p=>.p (.str p)),.box false (.st 226 [.ptr 3 [],.sl 4 k 1 0 (g (k+1)).length]),.arr .bytes k 1 (dG (g (k+1)))]⟩)
    (fun st=>match st with
     |none=>True
     |some k=>k+1<=b.length) (fun st=>match st with
     |none=>b.length+1
     |some k=>b.length-(k+1)) none trivial ?_ (he:=by simp[T])
   intro st hk;cases st with
   |none=>
    have G:a2.wrap ((b.length:Int)-1-1)=b.length-1-(0+1):=by rw[aK _ (by omega) (by omega)];omega
    have e1:((b.length:Int)-1).toNat=b.length-1:=by omega
    have I:(1:Int)<=(b.length:Int):=by omega
    simp[I,e1,ar,V,<-al];refine cf ao [3] ?_;simp[bm,sig,G];refine rd (some 0) (by show 0+1<=b.length;omega) (by show b.length-(0+1)<b.length+1;omega) (he:=by simp) (hh:=by simp[dG]) (hr2:=by simp[dG])
   |some k=>
    have hk:k+1<=b.length:=hk
    by_cases z:k+1<b.length
    ·have G:a2.wrap ((b.length:Int)-1-(k+1)-1)=b.length-1-(k+1+1):=by rw[aK _ (by omega) (by omega)];omega
     have e1:((b.length:Int)-1-(k+1)).toNat=b.length-1-(k+1):=by omega
     have I:(k:Int)+1<=(b.length:Int)-1:=by omega
     have R:b.length-1-(k+1)<b.length:=by omega
     have hx:=ak _ R;have ah:=Pe (g (k+1)) (b[b.length-1-(k+1)]) k (g (k+1)).length rfl hx.1 (by omega) (by have:=X (k+1);omega);simp[I,e1,R,V];refine cf ah [3,4] ?_ (ak:=by simp[sig,dG]) (aJ:=by simp[sig]) (hr:=by simp[dG]);simp[sig,dG,bm,G,BX];refine rd (some (k+1)) z (by show b.length-(k+1+1)<b.length-(k+1);omega) (he:=by simp[l (k+1) z]) (hh:=by simp[l (k+1) z,dG]) (hr2:=by simp[dG])
    ·have Y:b.length=k+1:=by omega
     have W:¬(k:Int)+1<=(b.length:Int)-1:=by omega
     rw[Y]at H K;rw[ej]at H;simp[W];refine cf H [3,4] ?_ (ak:=by simp[sig,dG]) (aJ:=by simp[sig]) (hr:=by simp[dG]);simp[sig,bm,K]
theorem Cb(a:NI)(c:okW a.v)(b:(aV a.v.natAbs).length<=1000000):aw prog 247 [eI a] (.str (bI a.v)):=by
 rcases h:a.sm with _|_
 ·exact Ww a h c b
 ·exact Wx a h
open Go
theorem Ka:∀(r:List Nat)(a:Nat),a<=r.foldl (fun n c=>n*10+(c-48)) a
 |[],a=>ed _
 |x::r,a=>ee (show a<=a*10+(x-48)by omega) (Ka r _)
theorem JV:∀(d:List Nat)(a:Nat),d.all cd=true->d.foldl (fun n c=>n*10+(c-48)) a<1000000000000000000->Lib.parseUint10 a (d.map gt)=.ok (d.foldl (fun n c=>n*10+(c-48)) a)
 |[],a,_,_=>rfl
 |c::r,a,h,b=>by
  simp only[cc,aT]at h;have hc:=h.1;simp only[cd,aT,decide_eq_true_eq]at hc;have f:=Ka r (a*10+(c-48));rw[b5]at b⊢;have e:(gt c).toNat=c:=by simp;omega
  rw[bb,Lib.parseUint10,e,if_pos hc,if_neg (by omega),if_neg (by omega)];exact JV r _ h.2 b
theorem XB{d:List Nat}(h:d.all cd=true)(b:d≠[])(f:d.length<=18):Lib.atoiAll (d.map gt)=.ok (aU d):=by
 have i:=jl _ d rfl h;have j:10^d.length<=10^18:=ea (by omega) f;cases d with
 |nil=>exact(b rfl).elim
 |cons c r=>
  have hc:=(aT ..▸(cc▸h):cd c=true/\r.all cd=true).1;simp only[cd,aT,decide_eq_true_eq]at hc;have e:(gt c).toNat=c:=by simp;omega
  have g:aU (c::r)<1000000000000000000:=by omega
  have a:=JV (c::r) 0 h g;rw[<-aU]at a;rw[bb]at a;rw[bb,Lib.atoiAll];simp only[e];rw[if_neg (by omega),Lib.parseMag,if_neg (by simp),a];dsimp only;rw[if_neg (by omega),if_neg (by omega),if_neg (by omega)]
theorem BH:∀(b:List Nat)(x:Nat),b.foldl (fun n c=>n*10+(c-48)) x=x*10^b.length+aU b
 |[],x=>by simp[aU]
 |c::b,x=>by
  rw[aU,b5,b5,BH b,BH b (0*10+(c-48)),c9,eq,gg,ew,e8 10];simp[fV]
theorem Kr(a b:List Nat):aU (a++b)=aU a*10^b.length+aU b:=by
 rw[aU,List.foldl_append,BH];rfl
theorem LR(k:Nat):10^k<=2^(4*k):=by
 rw[ge];exact fl (by decide) k
theorem Ky{a K:Nat}(h:4*a<=K):10^a<=2^K:=ee (LR a) (ea (by decide) h)
theorem vK{n k:Nat}(h:n<2^k)(hk:k<=3*1000000):(aV n).length<=1000000:=
 rI h hk (by decide)
theorem B2(a:NF)(h:bE kB a.q):aw prog 176 [eF a] (.str (aX a.q)):=by
 have f:kB=100000:=rfl;have w:=BM a;have c:=Cb a.num (ia h.1 pU) (vK h.1 (by omega));have d:=Cb a.den (ia (by rw[ka];exact h.2) pU) (vK (by rw[ka];exact h.2) (by omega));rw[lx]at c;rw[jt,uS]at d;have g:=vK h.1 (show kB<=3*1000000 by omega);have i:=vK h.2 (show kB<=3*1000000 by omega);have j:=Cy a.q.num;refine aI nf Gb mix (by simp[f176]) ?_;rw[aX]
 by_cases b:a.q.den=1
 ·have e:a.fu=true:=by simp[NF.fu,b]
  rw[e]at w;rw[if_pos b];simp[f176];refine c1 w ?_;simp[aa];refine c1 c ?_;simp
 ·have e:a.fu=false:=by simp[NF.fu,b]
  rw[e]at w;rw[if_neg b];simp[f176];refine c1 w ?_;simp[aa];refine e1 c ?_;simp[aa];refine⟨by omega,?_⟩;refine e1 d ?_;simp;omega
def kR:Nat:=2800
theorem xl(s:List Nat)(i:(cR s).all cd=true)(E:(cR s).length<=700):aw prog 224 [.str s] (eI (.mk' (if bS s=true then -(aU (cR s):Int)else aU (cR s)))):=by
 refine aI nf Hl mix (by simp[f224]) ?_;simp[f224];refine c2 (XW s) ?_;simp;refine c2 (JY s) ?_;simp;generalize cR s=d at*;generalize bS s=neg at*;have w:eX 0=eI (.mk' 0):=(nV (by decide) (by decide)).symm;rw[show PV.st 129 [.int .i64 0,.aN]=eI (.mk' 0)from w];refine lp (α:=List Nat×NI) (fun x=>⟨[(4,.ptr 1 []),(3,.p (.bool neg)),(2,.ptr 0 []),(0,.p (.str x.1))],[.box false (.p (eI (.mk' 0))),.box false (.p (eI x.2))]⟩)
  (fun x=>∃m:Nat,x.2.v=m/\m*10^x.1.length+aU x.1=aU d/\x.1.all cd=true/\x.1.length<=700/\m<2^kR) (fun x=>x.1.length) (d,.mk' 0) ⟨0,rfl,by simp,i,E,e9 (by decide)⟩ ?_
 rintro⟨r,o⟩ ⟨m,k1,k2,k3,k4,k5⟩;dsimp only at k1 k2 k3 k4 k5;have S:kR=2800:=rfl;have c:o.v.natAbs<2^kR:=by rw[k1,a3];exact k5
 have I:okW o.v:=ia c (by have:kB=100000:=rfl;omega)
 by_cases f:r=[]
 ·subst f;have u:o.v=aU d:=by rw[k1];simp[aU]at k2⊢;omega
  cases neg
  ·have e:eI (.mk' (aU d:Nat))=eI o:=mP (by rw[NI.iw,u]) (fun h=>by rw[NI.iw]at h;omega);simp;rw[e];simp[aa]
  ·have e:eI (.mk' (-(aU d:Nat)))=eI o.neg:=by rw[NI.neg,u]
   simp;rw[e];refine c1 (tL o I) ?_;simp[aa]
 ·have L:0<r.length:=a4.2 f;obtain⟨n,U⟩:∃n,n=min 18 r.length:=⟨_,rfl⟩
  have j:n<=r.length:=by omega
  have V:0<n:=by omega
  have G:n<=18:=by omega
  have H:(if(r.length:Int)<18 then(r.length:Int)else 18)=n:=by split<;>omega
  have g:(r.take n).length=n:=by rw[c6];omega
  have a:=k3;rw[<-bl n r,List.all_append,aT]at a;have N:=jl _ (r.take n) rfl a.1;have C:=G8 (r.take n) (aU (r.take n)) (XB a.1 (by intro e;rw[e]at g;simp at g;omega) (by omega)) (by omega);rw[g]at N;have q:10^n<=10^18:=ea (by decide) G;have z:10^n<wB^1:=by rw[gc];exact ec q (by decide)
  have A:((10^n:Nat):Int).natAbs<2^64:=by rw[a3];exact ec q (by decide)
  have O:=dK bd 1 _ z;have W:=yf c;have P:kB=100000:=rfl;have X:=jl _ d rfl i;have Q:10^d.length<=2^kR:=Ky (by have:kR=2800:=rfl;omega);have J:=Yb (.of 10) n (10^n) (by decide) rfl (by omega) (by decide) (by omega);have F:=zt o (.mk' (10^n:Nat)) (by rw[NI.iw,a3];omega);have B:=wx (o.mul (.mk' (10^n:Nat))) (.of (aU (r.take n):Nat)) (ia (oQ (x:=o.v) (y:=((10^n:Nat):Int)) c A) (by omega)) (ia (k:=64) (show((aU (r.take n):Nat):Int).natAbs<2^64 by rw[a3];omega) (by omega));have l:=rJ (aU (r.take n):Nat);rw[<-tP (by omega) (by omega)]at l;have t:=rJ 10;rw[<-tP (by decide) (by decide)]at t;have M:aU r=aU (r.take n)*10^(r.drop n).length+aU (r.drop n):=by rw[<-Kr,bl]
  have K:r.length=n+(r.drop n).length:=by rw[List.length_drop];omega
  have D:(m*10^n+aU (r.take n))*10^(r.drop n).length+aU (r.drop n)=aU d:=by
   rw[<-k2,M,K,Nat.pow_add,gg,ew,fV]
  generalize 10^n=T at*;generalize Y:aU (r.take n)=b at*;have R:m*T+b<=aU d:=by
   have:=Nat.le_mul_of_pos_right (m*T+b) (show 0<10^(r.drop n).length from e9 (by decide));omega
  simp[f,L,H];refine⟨j,?_⟩;refine c1 C ?_;simp;refine e1 t ?_;simp;refine e2 J ?_;simp[aa];refine e2 F ?_;simp;refine e1 l ?_;simp;refine e2 B ?_;simp[aa];refine⟨rfl,j,?_⟩;refine rd (r.drop n,(o.mul (.mk' T)).add (.of b)) ⟨m*T+b,by rw[NI.rC,NI.lY,NI.iw,k1];rfl,D,a.2,by dsimp only;omega,by omega⟩ (by dsimp only;omega)
theorem B6{s:List Nat}(h:dy s=true):bS s=false/\cR s=s:=by
 have b:=je h;have:bS s=false:=by
  rw[bS,decide_eq_false_iff_not];intro a;cases s with
  |nil=>simp at a
  |cons c r=>
   simp at a;subst a;rw[cc,aT]at b;simp[cd]at b
 exact⟨this,by rw[cR,this];rfl⟩
theorem Kd(s:List Nat):bS (bZ 47 s).1=bS s/\cR (bZ 47 s).1=bC s/\(bZ 47 s).2.1=bN s/\(bZ 47 s).2.2=dW s:=by
 cases s with
 |nil=>exact⟨rfl,rfl,rfl,rfl⟩
 |cons c r=>
  by_cases h:c=45
  ·subst h;have e:bZ 47 (45::r)=(45::(bZ 47 r).1,(bZ 47 r).2.1,(bZ 47 r).2.2):=by rw[bZ,if_neg (by decide)]
   rw[e];exact⟨rfl,rfl,rfl,rfl⟩
  ·have b:bS (c::r)=false:=by rw[bS,decide_eq_false_iff_not];simpa using h
   have a:cR (c::r)=c::r:=by rw[cR,b];rfl
   have d:bS (bZ 47 (c::r)).1=false:=by
    rw[bS,decide_eq_false_iff_not,bZ]
    split
    ·simp
    ·simpa using h
   refine⟨by rw[b,d],?_,?_,?_⟩
   ·rw[cR,d,bC,a];rfl
   ·rw[bN,a]
   ·rw[dW,a]
theorem XP{s:List Nat}(h:bU s=0):dy (bC s)=true/\(bC s).length<=600/\(bN s).length<=600/\(dW s=true->dy (bN s)=true):=by
 unfold bU at h
 split at h
 ·cases h
 rename_i a
 split at h
 ·cases h
 rename_i d;have a:jH s=true:=by simpa using a
 simp only[jH,aT,Bool.or_eq_true,Bool.not_eq_true']at a;refine⟨a.1.1,by omega,by omega,fun c=>?_⟩;rcases a.2 with b|b
 ·rw[c]at b;cases b
 ·exact b.1.1
theorem Su(z:Int):cR (bI z)=aV z.natAbs:=by
 have:=(xV z []).2;simpa using this
theorem o7(c:Nat):∀s:List Nat,(bZ c s).1.length<=s.length/\(bZ c s).2.1.length<=s.length/\(∀x∈(bZ c s).1,x∈s)/\(∀x∈(bZ c s).2.1,x∈s)
 |[]=>by simp[bZ]
 |y::r=>by
  have a:=o7 c r;rw[bZ]
  split
  ·simp;intro x hx;exact .inr hx
  ·simp only[c9,dp];refine⟨by omega,by omega,?_,fun x hx=>.inr (a.2.2.2 x hx)⟩;rintro x (rfl|hx)
   ·exact .inl rfl
   ·exact .inr (a.2.2.1 x hx)
theorem oR(s:List Nat):(cR s).length<=s.length/\∀x∈cR s,x∈s:=by
 rw[cR]
 split
 ·exact⟨by simp,fun x hx=>List.mem_of_mem_tail hx⟩
 ·exact⟨ed _,fun _ h=>h⟩
theorem mT(s:List Nat)(h:bU s=0)(n:s.length<=1048576):aw prog 142 [.str s] (eF ⟨aZ s,false⟩):=by
 obtain⟨l,t,u,m⟩:=XP h;obtain⟨o,f,p,q⟩:=Kd s;obtain⟨q1,r,a⟩:=jr h;have b:=OR s 47 n;rw[p,q]at b;have c:=xl (bZ 47 s).1 (by rw[f];exact je l) (by rw[f];omega);rw[o,f]at c;have j:eI (NF.mk (aZ s) false).num=eI (.mk' (if bS s=true then -(aU (bC s):Int)else aU (bC s))):=by
  show eI ⟨(aZ s).num,false⟩=_;rw[r];rfl
 rw[<-j]at c;refine aI nf HF mix (by simp[f142]) ?_;cases hf:dW s
 ·rw[hf]at b a;simp only[a0,if_false]at a;have e:(NF.mk (aZ s) false).den=.mk' 1:=by
   show NI.mk' ((aZ s).den:Int)=_;rw[a];rfl
  have i:=CW (NF.mk (aZ s) false).num;have k:eF (.whole (NF.mk (aZ s) false).num)=eF ⟨aZ s,false⟩:=by
   rw[eF,eF,e];rfl
  rw[k]at i;simp[f142];refine c2 b ?_;simp;refine c1 c ?_;simp;refine c1 i ?_;simp[aa]
 ·rw[hf]at b a;simp only[if_true]at a;have g:=m hf;obtain⟨d1,d2⟩:=B6 g;have d:=xl (bN s) (by rw[d2];exact je g) (by rw[d2];omega);rw[d1,d2]at d;simp only[a0,if_false]at d;have e:eI (NF.mk (aZ s) false).den=eI (.mk' (aU (bN s):Nat)):=by
   show eI (NI.mk' ((aZ s).den:Int))=_;rw[a]
  rw[<-e]at d;rw[eF];simp[f142];refine c2 b ?_;simp;refine c1 c ?_;simp;refine c1 d ?_;simp[aa]
def kG(n:Nat):Bool:=decide (600<(aV n).length)
theorem Oa(a:NI)(h:a.v.natAbs<2^kB):aw prog 246 [eI a] (.bool (kG a.v.natAbs)):=by
 have l:kB=100000:=rfl;have d:=ia h pU;have g:=X6 a d;have i:=Cb a d (vK h (by omega));have c:=JY (bI a.v);rw[Su]at c;refine aI nf Ls mix (by simp[f246]) ?_;simp[f246];refine c1 g ?_
 by_cases j:1800<nW a.v.natAbs
 ·have b:(1800:Int)<(nW a.v.natAbs:Nat):=by omega
  have e:decide ((600:Int)<((aV a.v.natAbs).length:Nat))=kG a.v.natAbs:=by rw[kG,decide_eq_decide];omega
  simp[b];refine c1 i ?_;simp;refine c2 c ?_;simp[kG];omega
 ·have f:=eb (KU a.v.natAbs) (ea (show 0<2 by decide) (show nW a.v.natAbs<=3*600 by omega));have k:=I2 f (by decide);have e:kG a.v.natAbs=false:=by rw[kG,decide_eq_false_iff_not];omega
  have b:¬(1800:Int)<(nW a.v.natAbs:Nat):=by omega
  simp[b,e]
def wN(q:Rat):Bool:=kG q.num.natAbs||kG q.den
theorem Cc(a:NF)(h:bE kB a.q):aw prog 175 [eF a] (.bool (wN a.q)):=by
 have b:=Oa a.num h.1;have c:=Oa a.den (by rw[ka];exact h.2);rw[lx]at b;rw[ka]at c;refine aI nf Gc mix (by simp[f175]) ?_;rw[wN];cases hc:kG a.q.num.natAbs
 ·rw[hc]at b;simp[f175,aa];refine c1 b ?_;simp[aa];refine c1 c ?_;simp
 ·rw[hc]at b;simp[f175,aa];refine c1 b ?_;simp
def tS:List (Nat×Func)->a1->Option Func
 |[],_=>none
 |(i,g)::r,f=>bif Nat.beq i f then some g else tS r f
def Ah(P:Program):List (Nat×Func)->Prop
 |[]=>True
 |p::r=>an P p.1 p.2/\Ah P r
theorem C2{P:Program}:∀{l:List (Nat×Func)},Ah P l->∀{f:Nat}{fn:Func},tS l f=some fn->an P f fn
 |[],_,f,fn,h=>by simp[tS]at h
 |(i,g)::r,a,f,fn,h=>by
  simp only[tS,Bool.cond_eq_ite]at h
  split at h
  ·rename_i hf;simp only[gm]at h;subst h;rw[<-Nat.eq_of_beq_eq_true hf];exact a.1
  ·exact C2 a.2 h
noncomputable def EP:List (Nat×Func):=[(2,f2),(3,f3),(4,f4),(5,f5),(6,f6),(7,f7),(8,f8),(9,f9),(10,f10),(11,f11),(12,f12),(13,f13),(14,f14),(15,f15),(16,f16),(17,f17),(18,f18),(19,f19),(20,f20),(21,f21),(22,f22),(23,f23),(24,f24),(25,f25),(26,f26),(27,f27),(28,f28),(29,f29),(30,f30),(31,f31),(32,f32),(33,f33),(34,f34),(35,f35),(36,f36),(37,f37),(38,f38),(39,f39),(40,f40),(41,f41),(42,f42),(43,f43),(44,f44),(45,f45),(46,f46),(47,f47),(48,f48),(49,f49),(50,f50),(51,f51),(52,f52),(53,f53),(54,f54),(55,f55),(56,f56),(57,f57),(58,f58),(59,f59),(60,f60),(61,f61),(62,f62),(63,f63),(64,f64),(65,f65),(66,f66),(67,f67),(68,f68),(69,f69),(70,f70),(71,f71),(72,f72),(73,f73),(74,f74),(75,f75),(76,f76),(77,f77),(78,f78),(79,f79),(80,f80),(81,f81),(82,f82),(83,f83),(84,f84),(85,f85),(86,f86),(87,f87),(88,f88),(89,f89),(90,f90),(91,f91),(92,f92),(93,f93),(94,f94),(95,f95),(96,f96),(97,f97),(98,f98),(99,f99),(100,f100),(101,f101),(102,f102),(103,f103),(104,f104),(105,f105),(106,f106),(107,f107),(108,f108),(109,f109),(110,f110),(111,f111),(112,f112),(113,f113),(114,f114),(115,f115),(116,f116),(117,f117),(118,f118),(119,f119),(120,f120),(121,f121),(122,f122),(123,f123),(124,f124),(125,f125),(126,f126),(127,f127),(128,f128),(129,f129),(130,f130),(131,f131),(132,f132),(133,f133),(134,f134),(135,f135),(136,f136),(137,f137),(138,f138),(139,f139),(140,f140),(141,f141),(142,f142),(143,f143),(144,f144),(145,f145),(146,f146),(147,f147),(148,f148),(149,f149),(150,f150),(151,f151),(152,f152),(153,f153),(154,f154),(155,f155),(156,f156),(157,f157),(158,f158),(159,f159),(160,f160),(161,f161),(162,f162),(163,f163),(164,f164),(165,f165),(166,f166),(167,f167),(168,f168),(169,f169),(170,f170),(171,f171),(172,f172),(173,f173),(174,f174),(175,f175),(176,f176),(177,f177),(178,f178),(179,f179),(180,f180),(181,f181),(182,f182),(183,f183),(184,f184),(185,f185),(186,f186),(187,f187),(188,f188),(189,f189),(190,f190),(191,f191),(192,f192),(193,f193),(194,f194),(195,f195),(196,f196),(197,f197),(198,f198),(199,f199),(200,f200),(201,f201),(202,f202),(203,f203),(204,f204),(205,f205),(206,f206),(207,f207),(208,f208),(209,f209),(210,f210),(211,f211),(212,f212),(213,f213),(214,f214),(215,f215),(216,f216),(217,f217),(218,f218),(219,f219),(220,f220),(221,f221),(222,f222),(223,f223),(224,f224),(225,f225),(226,f226),(227,f227),(228,f228),(229,f229),(230,f230),(231,f231),(232,f232),(233,f233),(234,f234),(235,f235),(236,f236),(237,f237),(238,f238),(239,f239),(240,f240),(241,f241),(242,f242),(243,f243),(244,f244),(245,f245),(246,f246),(247,f247),(248,f248),(249,f249),(250,f250),(251,f251),(252,f252),(253,f253),(254,f254),(255,f255),(256,f256),(257,f257),(258,f258),(259,f259),(260,f260),(261,f261),(262,f262),(263,f263),(264,f264),(265,f265),(266,f266),(267,f267),(268,f268),(269,f269),(270,f270),(271,f271),(272,f272),(273,f273),(274,f274),(275,f275),(276,f276),(277,f277),(278,f278),(280,f280),(281,f281),(282,f282),(283,f283),(284,f284),(285,f285),(286,f286),(287,f287),(288,f288),(289,f289),(291,f291),(293,f293),(294,f294),(295,f295),(296,f296),(297,f297),(298,f298),(299,f299),(300,f300),(301,f301),(302,f302),(303,f303),(304,f304),(305,f305),(306,f306),(307,f307),(308,f308),(309,f309),(310,f310),(311,f311),(312,f312),(313,f313),(315,f315),(316,f316),(317,f317),(318,f318),(319,f319),(320,f320),(321,f321),(322,f322),(323,f323),(324,f324),(325,f325),(326,f326),(327,f327),(328,f328),(329,f329),(330,f330),(331,f331),(332,f332),(333,f333),(334,f334),(335,f335),(336,f336),(337,f337),(338,f338),(339,f339),(340,f340),(341,f341),(342,f342),(343,f343),(344,f344),(345,f345),(346,f346),(347,f347),(348,f348),(349,f349),(350,f350),(351,f351),(352,f352),(354,f354),(355,f355),(356,f356),(357,f357),(358,f358),(359,f359),(360,f360),(362,f362),(363,f363),(364,f364),(365,f365),(366,f366),(367,f367),(369,f369),(370,f370),(371,f371),(372,f372),(373,f373),(374,f374),(376,f376),(377,f377),(378,f378),(379,f379),(380,f380),(381,f381),(382,f382),(383,f383),(384,f384),(385,f385),(386,f386),(387,f387),(388,f388),(419,f419)]
theorem GV:Ah prog EP:=⟨anS,n8,aAe,aAs,rN,aA1,aBb,aBg,Pp,Z3,iJ,Pq,Pr,Ps,Pt,Pu,Pv,Pw,Px,Py,Pz,ato,awC,PA,PB,PC,axy,axH,axM,PD,PE,azj,azr,PF,azJ,PG,PH,PI,PJ,PK,aAg,aAh,PL,aAi,aAm,aAo,aAp,aAr,aAt,aAu,aAx,aAy,aAB,aAC,PM,aAD,aAE,PN,aAF,aAG,aAH,aAI,aAJ,aAO,aAV,aAW,PO,PQ,PR,PS,PT,PU,PW,PX,PY,PZ,P0,P1,P2,P3,P5,P6,P7,P8,P9,Qa,Qb,Qc,Qd,aBh,Qe,Qf,Qg,Qh,Qi,Qj,D3,Qk,FP,FO,ZY,FN,Oc,ZZ,Z0,Z1,Z2,Gi,Gg,Gf,Ge,Gd,Z4,Z5,Z6,Z7,Z8,Z9,aba,abv,abw,acH,adY,ad1,aea,aeK,aeQ,aeT,afL,afO,afQ,agt,G5,ag4,G4,ahl,aht,G3,HG,ahU,HF,HE,HC,air,Ob,Dn,aiE,aiN,DE,ai0,aja,ajY,ak3,al6,amY,HB,HA,Hz,Hy,Hx,OH,OG,DF,OE,OD,OC,OB,OA,Oz,Oy,Ox,Ow,Ov,Gc,Gb,Ga,F9,F8,F7,F6,F5,F4,F3,F2,F1,F0,AE,FZ,Ou,FY,Ot,FX,FW,FV,FU,Oq,Oo,Hw,Hv,Hu,Ht,anY,aob,Hr,aof,Hq,aog,FD,apb,apV,aqk,ara,ari,arD,arE,arN,arX,asf,Hp,Ho,Hn,Hm,Hl,Hj,asS,asT,as0,ati,On,aug,auo,aup,auN,avK,awt,awu,aww,Nr,DD,FC,Hi,Hh,Hg,zG,Ls,DC,MG,wz,Nq,Np,GS,Nn,Nl,awD,NA,Nz,Ny,Nx,FB,Ft,FA,awE,aw0,aw2,axk,axn,axo,FI,axr,MF,FH,Nw,GR,axs,axu,axw,FG,axz,axA,axB,axC,axE,axF,GQ,GP,GO,axG,GN,Nv,Nu,Nt,axI,axJ,axK,axL,axN,axO,axP,axT,axV,ax9,aya,ayb,ayc,ayd,aye,ayf,ayg,ayi,ayA,Ns,ayB,ayD,ayE,ayG,ayH,ayI,ayJ,ayK,ayL,ayT,ayU,ayV,ay5,NZ,azk,NY,GM,azl,azm,NX,azo,azp,azq,azs,azt,azu,azv,azw,azx,azy,azz,GL,NW,azA,azB,azC,azD,azE,azF,azG,azH,azI,azK,azL,azM,azO,azP,azQ,azR,azS,azT,azU,NU,azV,azW,azX,azY,azZ,az0,az1,az2,az3,az4,az5,az6,az8,az9,aAc,aAf,trivial⟩
noncomputable def wS(facts:a1->List PV->Option PV)(jO:a1->a1->Nat):mj:=⟨tS EP,facts,fun _ _ _=>none,jO,fun _ _ _=>none⟩
theorem aDV{facts:a1->List PV->Option PV}{jO:a1->a1->Nat}(h:∀f vs v,facts f vs=some v->aw prog f vs v):mJ prog (wS facts jO):=by
 refine⟨mix,fun f fn hf=>C2 GV hf,fun f vs v hk=>h f vs v hk,fun f args H v H' hk=>?_,fun f args H ak v hk=>?_⟩
 ·simp only[wS]at hk;cases hk
 ·simp only[wS]at hk;cases hk
noncomputable def QO(facts:a1->List PV->Option PV)(jO:a1->a1->Nat)(f:a1)(vs:List PV):Option PV:=oi prog nf (wS facts jO) (jG prog nf (wS facts jO) 20) f vs
theorem Mf{facts:a1->List PV->Option PV}{jO:a1->a1->Nat}(h:∀f vs v,facts f vs=some v->aw prog f vs v){f:a1}{vs:List PV}{v:PV}(a:QO facts jO f vs=some v):aw prog f vs v:=reckon 20 (aDV h) a
def noF:a1->List PV->Option PV:=fun _ _=>none
def pY:PV:=.st 381 ((cb 256).map fun i=>.bool (cd i))
theorem La(c:Nat)(hc:c<256):aw prog 372 [.ct pY,.int .u8 c] (.bool (cd c)):=by
 refine aI nf NU mix (by simp[f372]) ?_;have a:(cb 256)[c]?=some c:=ck hc;simp[f372,pY,a,hc]
theorem TU(s:List Nat)(h:s.length<=1048576)(g:∀c∈s,c<256):aw prog 348 [.str s,.ct pY] (.str (lr s)):=by
 refine aI nf GL mix (by simp[f348]) ?_;simp[f348];refine lp (α:=List Nat) (fun r=>⟨[(1,.p (.ct pY)),(0,.p (.str r))],[]⟩) (fun r=>lr r=lr s/\r.length<=s.length/\∀c∈r,c<256) (fun r=>r.length) s (by exact⟨rfl,ed _,g⟩) ?_;rintro r ⟨a,f,b⟩;cases r with
 |nil=>
  have e:lr s=[]:=by rw[<-a];rfl
  simp[e]
 |cons x r=>
  have hx:=b x (by simp);have i:lr (x::r)=if cd x=true then lr r else x::r:=by
   rw[lr,cx];split<;>rfl
  rw[i]at a;have j:(0:Int)<(r.length:Int)+1:=by omega
  simp[j];refine c2 (La x hx) ?_;cases d:cd x
  ·rw[d]at a;simp[<-a]
  ·rw[d]at a;simp;exact rd r ⟨by simpa using a,by simp at f;omega,fun c hc=>b c (by simp[hc])⟩ (h1:=by simp)
theorem Tw(s:List Nat)(h:s.length<=1048576)(i:∀c∈s,c<256):aw prog 349 [.str s,.ct pY] (.str (iS s)):=by
 refine aI nf NW mix (by simp[f349]) ?_;simp[f349];refine lp (α:=List Nat) (fun r=>⟨[(1,.p (.ct pY)),(0,.p (.str r))],[]⟩) (fun r=>iS r=iS s/\r.length<=s.length/\∀c∈r,c<256) (fun r=>r.length) s (by exact⟨rfl,ed _,i⟩) ?_;rintro r ⟨a,b,d⟩;rcases List.eq_nil_or_concat r with rfl|⟨t,x,rfl⟩
 ·have e:iS s=[]:=by rw[<-a];rfl
  simp[e]
 ·simp only[List.concat_eq_append]at a b d⊢;have hx:=d x (by simp);have j:iS (t++[x])=if cd x=true then iS t else t++[x]:=by
   rw[iS,List.reverse_append,List.reverse_cons,b2,dg,List.singleton_append,cx]
   split
   ·rfl
   ·simp
  rw[j]at a;have k:(0:Int)<(t.length:Int)+1:=by omega
  have g:a2.wrap (t.length:Int)=t.length:=aK _ (by omega) (by simp at b;omega);simp[k,g];refine c2 (La x hx) ?_;cases f:cd x
  ·rw[f]at a;simp[<-a]
  ·rw[f]at a;simp[g];exact rd t ⟨by simpa using a,by simp at b;omega,fun c hc=>d c (by simp[hc])⟩ (h1:=by simp)
def wC:List Nat:=[48,49,50,51,52,53,54,55,56,57]
theorem Wv:aw prog 347 [.str wC] (.aE [pY,.bool true]):=Mf (facts:=noF) (jO:=fun _ _=>0) (fun _ _ _ h=>by cases h) (by kernel_rfl)
theorem aGR:cH prog 382=some (.st 381 (a8 256 (.bool false))):=by kernel_rfl
theorem XU(s:List Nat)(h:s.length<=1048576)(d:∀c∈s,c<256):aw prog 316 [.str s,.str wC] (.str (lr (iS s))):=by
 refine aI nf Ns mix (by simp[f316]) ?_
 by_cases b:s=[]
 ·subst b;simp[f316,wC,lr,iS]
 simp[f316,wC,b];refine c1 Wv ?_;have g:(iS s).length<=s.length:=by
  rw[iS,List.length_reverse];have:=(ce cd (l:=s.reverse)).length_le;simpa using this
 have f:∀c∈iS s,c<256:=by
  intro c hc;rw[iS,List.mem_reverse]at hc;exact d c (by simpa using(ce cd (l:=s.reverse)).subset hc)
 simp[aGR];have a:aL pY=.agg 381:=rfl;refine⟨⟨⟨a.symm,by rw[a];intro e;cases e⟩,a.symm⟩,?_⟩;refine cp (Tw s h d) (by simp;exact⟨rfl,rfl⟩) ?_;simp;refine cp (TU (iS s) (by omega) f) (by simp;exact⟨rfl,rfl⟩) ?_;simp
def bH:List Int->Int
 |[]=>0
 |e::r=>if e=0 then bH r else e
def bt(b:Bool)(e:Int):Int:=if b=true then e else 0
theorem XV(a:List Int)(h:a.length<=1048576):aw prog 272 [.seq (a.map (.int .i64))] (.int .i64 (bH a)):=by
 refine aI nf FH mix (by simp[f272]) ?_;simp[f272];refine lp (α:=Nat) (fun i=>⟨[(7,.p (.int .i64 i)),(6,.p (.int .i64 a.length)),(5,.p (.seq (a.map (.int .i64))))],[]⟩) (fun i=>i<=a.length/\bH (a.drop i)=bH a) (fun i=>a.length-i) 0 (by simp) ?_;rintro i ⟨d,b⟩;simp
 by_cases hi:i<a.length
 ·rw[be hi]at b;have c:=bX (i:=i) (by omega);simp[hi]
  by_cases he:a[i]=0
  ·simp[bH,he]at b;simp[he,c];exact rd (i+1) ⟨hi,b⟩
  ·simp[bH,he]at b;simp[he,<-b]
 ·have:i=a.length:=by omega
  subst this;simp[bH]at b;simp[<-b]
theorem jV(a:List Int)(h:a.length<=1048576):aw prog 71 [.seq (a.map (.int .i64))] (.int .i64 (bH a)):=by
 refine aI nf PS mix (by simp[f71]) ?_;simp[f71];refine lp (α:=Nat) (fun i=>⟨[(7,.p (.int .i64 i)),(6,.p (.int .i64 a.length)),(5,.p (.seq (a.map (.int .i64))))],[]⟩) (fun i=>i<=a.length/\bH (a.drop i)=bH a) (fun i=>a.length-i) 0 (by simp) ?_;rintro i ⟨d,b⟩;simp
 by_cases hi:i<a.length
 ·rw[be hi]at b;have c:=bX (i:=i) (by omega);simp[hi]
  by_cases he:a[i]=0
  ·simp[bH,he]at b;simp[he,c];exact rd (i+1) ⟨hi,b⟩
  ·simp[bH,he]at b;simp[he,<-b]
 ·have:i=a.length:=by omega
  subst this;simp[bH]at b;simp[<-b]
theorem zF(a:List Int)(h:a.length<=1048576):aw prog 16 [.seq (a.map (.int .i64))] (.int .i64 (bH a)):=by
 refine aI nf Pt mix (by simp[f16]) ?_;simp[f16];refine lp (α:=Nat) (fun i=>⟨[(7,.p (.int .i64 i)),(6,.p (.int .i64 a.length)),(5,.p (.seq (a.map (.int .i64))))],[]⟩) (fun i=>i<=a.length/\bH (a.drop i)=bH a) (fun i=>a.length-i) 0 (by simp) ?_;rintro i ⟨d,b⟩;simp
 by_cases hi:i<a.length
 ·rw[be hi]at b;have c:=bX (i:=i) (by omega);simp[hi]
  by_cases he:a[i]=0
  ·simp[bH,he]at b;simp[he,c];exact rd (i+1) ⟨hi,b⟩
  ·simp[bH,he]at b;simp[he,<-b]
 ·have:i=a.length:=by omega
  subst this;simp[bH]at b;simp[<-b]
theorem vB(b:Bool)(e:Int):aw prog 273 [.bool b,.int .i64 e] (.int .i64 (bt b e)):=by
 refine aI nf Nw mix (by simp[f273]) ?_;cases b<;>simp[f273,bt]
theorem fD(b:Bool)(e:Int):aw prog 72 [.bool b,.int .i64 e] (.int .i64 (bt b e)):=by
 refine aI nf PT mix (by simp[f72]) ?_;cases b<;>simp[f72,bt]
theorem MW(s:List Nat)(h:s.length<=1048576)(i:∀c∈s,c<256):aw prog 271 [.str s] (.bool (dy s)):=by
 have f:=XU s h i;have g:=UK s;rw[show wC=[48,49,50,51,52,53,54,55,56,57]from rfl]at f;refine aI nf MF mix (by simp[f271]) ?_;generalize lr (iS s)=t at*;cases s with
 |nil=>simp[f271,dy]
 |cons c r=>
  have hc:=i c (by simp)
  by_cases b:t=[]
  ·have d:=g.1 b;have e:dy (c::r)=(decide (¬c=48)||decide (r=[])):=by
    rw[dy,d]
    by_cases a:c=48
    ·subst a;simp
    ·simp[a]
   rw[e];clear e d g
   by_cases a:c=48
   ·cases r with
    |nil=>
     simp[f271];refine c2 f ?_;simp[b,a]
    |cons x r=>
     simp[f271];refine c2 f ?_;simp[b,a]
   ·have j:¬(c:Int)=48:=by omega
    simp[f271];refine c2 f ?_;simp[b,a,j]
  ·have d:¬(c::r).all cd=true:=mt g.2 b;have a:(c::r).all cd=false:=by simpa using d
   have e:dy (c::r)=false:=by rw[dy,a];simp
   rw[e];clear e d a g;simp[f271];refine c2 f ?_;simp[b]
theorem ZG{a b:Nat}:(decide (jN (eB a b) 1≠0))=decide (gb a b≠1):=by
 rw[decide_eq_decide,jN,eB,a3,a3]
 split
 ·simp;omega
 ·split
  ·simp;omega
  ·simp;omega
theorem EB{s:List Nat}(h:s.all cd=true)(c:s.length<=700):okW (aU s:Nat):=by
 have a:=jl _ s rfl h;have b:aU s<2^kR:=eb a (Ky (by have:kR=2800:=rfl;omega));exact ia (k:=kR) (by rw[a3];exact b) (by have:kB=100000:=rfl;have:kR=2800:=rfl;omega)
theorem zh(s:List Nat)(h:s.length<=1048576)(K:∀c∈s,c<256):aw prog 221 [.str s] (.int .i64 (bU s)):=by
 have X:=Xx s;have A:=OR (cR s) 47 (ee (oR s).1 h);rw[show(bZ 47 (cR s)).1=bC s from rfl,show(bZ 47 (cR s)).2.1=bN s from rfl,show(bZ 47 (cR s)).2.2=dW s from rfl]at A;refine aI nf Ho mix (by simp[f221]) ?_;simp[f221,-bh];rw[bh];simp[-bh];rw[bh];simp[-bh];refine c2 X ?_;simp[-bh];rw[bh];simp[-bh];refine c2 A ?_;simp[-bh];have ab:=(oR s).1;have q:=o7 47 (cR s);have ad:(bC s).length<=1048576:=by have:=q.1;rw[bC];omega
 have ac:(bN s).length<=1048576:=by have:=q.2.1;rw[bN];omega
 have W:∀c∈bC s,c<256:=fun c hc=>K c ((oR s).2 c (q.2.2.1 c hc));have V:∀c∈bN s,c<256:=fun c hc=>K c ((oR s).2 c (q.2.2.2 c hc));clear q ab;have Z:=MW (bC s) ad W;have Y:=MW (bN s) ac V;obtain⟨m,B⟩:∃m,m=(dy (bC s)&&!(bS s&&decide (bC s=[48]))):=⟨_,rfl⟩
 obtain⟨f2,k⟩:∃f2,f2=(m&&(!dW s||(dy (bN s)&&decide (bN s≠[48])&&decide (bN s≠[49])))):=⟨_,rfl⟩
 have L:bU s=if f2=false then 1 else if 600<(bC s).length\/600<(bN s).length then 4 else if dW s=true/\gb (aU (bC s)) (aU (bN s))≠1 then 1 else 0:=by rw[k,B];rfl
 rw[L];clear L A;generalize dW s=fr at*;refine join (fun s'=>aM s'.env 8=.p (.bool m)/\aM s'.env 7=.p (.bool fr)/\aM s'.env 6=.p (.str (bN s))/\aM s'.env 5=.p (.str (bC s))/\s'.heap=[]) ?_ ?_
 ·simp;refine c1 Z ?_;rw[B];cases dy (bC s)
  ·simp
  ·cases bS s
   ·simp
   ·by_cases r:bC s=[48]
    ·simp[r]
    ·simp[r]
 rintro⟨I,aa⟩ ⟨d,f,g,i,t⟩;dsimp only at d f g i t;subst t;refine join (fun s'=>aM s'.env 8=.p (.bool f2)/\aM s'.env 7=.p (.bool fr)/\aM s'.env 6=.p (.str (bN s))/\aM s'.env 5=.p (.str (bC s))/\s'.heap=[]) ?_ ?_
 ·rw[k];cases fr
  ·simp[d,f,g,i]
  ·cases m
   ·simp[d,f,g,i]
   ·simp[d,f,g,i];refine c1 Y ?_;cases dy (bN s)
    ·simp[d,f,g,i]
    ·by_cases r:bN s=[48]
     ·simp[d,f,g,i,r]
     ·by_cases N:bN s=[49]
      ·simp[d,f,g,i,N]
      ·simp[d,f,g,i,r,N]
 clear d f g i I;rintro⟨I,aa⟩ ⟨d,f,g,i,t⟩;dsimp only at d f g i t;subst t;have head:∀(n v:Bool),aw prog 272 [.seq [.int .i64 (bt n 1),.int .i64 (bt v 4)]] (.int .i64 (if n=true then 1 else if v=true then 4 else 0)):=fun n v=>by
  have:=XV [bt n 1,bt v 4] (by simp);cases n<;>cases v<;>exact this
 have H:=vB (!f2) 1;have R:=vB true 4;have wf:=vB false 4;have J:=head (!f2) true;have U:=head (!f2) false;have O:(600<(bC s).length)↔(600:Int)<((bC s).length:Nat):=by omega
 have P:(600<(bN s).length)↔(600:Int)<((bN s).length:Nat):=by omega
 by_cases u:(600:Int)<((bC s).length:Nat)
 ·simp[d,f,g,i];refine c2 H ?_;simp[d,f,g,i,u];refine c2 R ?_;simp;refine cp J (by simp;exact⟨rfl,rfl⟩) ?_;cases f2
  ·simp
  ·simp[O.2 u]
 by_cases x:(600:Int)<((bN s).length:Nat)
 ·simp[d,f,g,i];refine c2 H ?_;simp[d,f,g,i,u,x];refine c2 R ?_;simp;refine cp J (by simp;exact⟨rfl,rfl⟩) ?_;cases f2
  ·simp
  ·simp[P.2 x]
 have E:¬600<(bC s).length:=mt O.1 u;have F:¬600<(bN s).length:=mt P.1 x;have Q:=vB false 1;have ag:=vB true 1;simp[d,f,g,i];refine c2 H ?_;simp[d,f,g,i,u,x];refine c2 wf ?_;simp;refine cp U (by simp;exact⟨rfl,rfl⟩) ?_;cases f2
 ·simp
 cases fr
 ·simp[d,f,g,i,E,F];refine c2 Q ?_;simp[bt];exact⟨by omega,by omega⟩
 have j:dy (bC s)=true/\dy (bN s)=true:=by
  cases S:dy (bC s)
  ·rw[B,S]at k;simp at k
  cases T:dy (bN s)
  ·rw[T]at k;simp at k
  exact⟨rfl,rfl⟩
 obtain⟨ae,G⟩:=B6 j.1;obtain⟨af,n4⟩:=B6 j.2;have y:=xl (bC s) (by rw[G];exact je j.1) (by rw[G];omega);have z:=xl (bN s) (by rw[n4];exact je j.2) (by rw[n4];omega);rw[ae,G]at y;rw[af,n4]at z;simp only[a0,if_false]at y z;have C:=OP (.mk' (aU (bC s):Nat)) (.mk' (aU (bN s):Nat)) (EB (je j.1) (by omega)) (EB (je j.2) (by omega));rw[NI.iw,NI.iw]at C;have D:=rJ 1;rw[LU]at D;have hc:=OO (.mk' (eB (aU (bC s):Nat) (aU (bN s):Nat))) (.mk' 1) (qJ (EB (je j.2) (by omega)) (by rw[NI.iw,eB,a3,a3,a3];exact Nat.gcd_le_right _ (yi j.2 (fun e=>by rw[e]at k;simp at k)))) (by rw[okW];decide);rw[NI.iw,NI.iw]at hc;have M:=ZG (a:=aU (bC s)) (b:=aU (bN s));generalize jN (eB (aU (bC s):Nat) (aU (bN s):Nat)) 1=o at*
 by_cases l:gb (aU (bC s)) (aU (bN s))=1
 ·have w:o=0:=by simpa[l]using M
  simp[d,f,g,i,E,F,l];refine c1 y ?_;simp[d,f,g,i];refine c1 z ?_;simp;refine c2 C ?_;simp;refine c1 D ?_;simp;refine c2 hc ?_;simp[w];refine c2 Q ?_;simp[bt];rw[if_neg (by omega),if_pos l]
 ·have w:¬o=0:=by simpa[l]using M
  simp[d,f,g,i,E,F,l];refine c1 y ?_;simp[d,f,g,i];refine c1 z ?_;simp;refine c2 C ?_;simp;refine c1 D ?_;simp;refine c2 hc ?_;simp[w];refine c2 ag ?_ (h1:=by simp[w]);simp[bt];rw[if_neg (by omega),if_neg l]
def gX(s:List Nat):Prop:=s.length<=1048576/\∀c∈s,c<256
theorem Xw(l:List (List Nat)):aw prog 295 [.seq (l.map .str)] (.func 336 [] [.ct (.seq (l.map .str))]):=by
 refine aI nf Nt mix (by simp[f295]) ?_;simp[f295];exact bA.refl _
def D6(s:List Nat):List PV:=[.int .i64 (bU s)]
theorem W9(l:List (List Nat))(q:l.length<=1000000)(hs:∀s∈l,gX s):Stream prog 336 [] [.ct (.seq (l.map .str))] (l.map D6):=by
 intro b k c H' hk d o f;refine jc nf NX mix (by simp[f336]) ?_;rw[b4]at hk;have g:∀i(h:i<l.length),(l.map D6)[i]?=some (D6 l[i]):=fun i h=>by rw[b0,a7 h];rfl
 simp[f336];refine lp (α:=Nat) (fun i=>⟨[(7,.p (.int .i64 i)),(6,.p (.int .i64 l.length)),(5,.p (.seq (l.map .str))),(0,.map b)],c i⟩) (fun i=>i<=k) (fun i=>l.length-i) 0 (by simp) ?_ (hr:=by simp;exact(d 0 (by omega)).2) (hr2:=(d 0 (by omega)).1);intro i hi;have n:=bX (i:=i) (by omega)
 by_cases a:i<l.length
 ·have hc:=zh l[i] (hs _ (b3 a)).1 (hs _ (b3 a)).2;have gT:(i<k/\ir prog b (c i) [.p (.int .i64 (bU l[i]))] (c (i+1)) (.p (.bool true)))\/ir prog b (c i) [.p (.int .i64 (bU l[i]))] H' (.p (.bool false)):=by
   by_cases e:i<k
   ·exact .inl ⟨e,o i _ e (g i a)⟩
   ·have:i=k:=by omega
    subst this;rcases f with⟨e1,_⟩|⟨y,e1,e2⟩
    ·rw[b4]at e1;omega
    ·rw[g i a]at e1;injection e1 with e1;subst e1;exact .inr e2
  simp[a];refine c1 hc ?_;simp;rcases gT with⟨e,hY⟩|hY
  ·refine⟨c (i+1),_,hY,?_⟩;simp[n];exact rd (i+1) e (h1:=by omega) (hr:=by simp;exact(d (i+1) (by omega)).2) (hr2:=(d (i+1) (by omega)).1)
  ·refine⟨H',_,hY,?_⟩;simp
 ·have m:i=l.length:=by omega
  have j:k=l.length:=by omega
  rcases f with⟨e1,e2⟩|⟨y,e1,e2⟩
  ·simp[a,e2,m,j]
  ·rw[j,List.getElem?_eq_none (by simp)]at e1;cases e1
theorem BR(p:Nat->Bool):∀n,∃k,k<=n/\(∀j,j<k->p j=true)/\(k=n\/(k<n/\p k=false))
 |0=>⟨0,ed _,fun j h=>by omega,.inl rfl⟩
 |n+1=>by
  obtain⟨k,f,b,a⟩:=BR p n;rcases a with a|⟨a,d⟩
  ·subst a;cases c:p k
   ·exact⟨k,by omega,b,.inr ⟨by omega,c⟩⟩
   ·refine⟨k+1,ed _,fun j g=>?_,.inl rfl⟩
    by_cases e:j=k
    ·subst e;exact c
    ·exact b j (by omega)
  ·exact⟨k,by omega,b,.inr ⟨by omega,d⟩⟩
def l7(l:List (List Nat))(i:Nat):Int:=match l[i]? with
 |some s=>bU s
 |none=>0
theorem Jg:∀(l:List (List Nat))(k:Nat),(∀j,j<k->l7 l j=0)->bH (l.map bU)=bH ((l.drop k).map bU)
 |[],k,_=>by simp
 |s::l,0,_=>rfl
 |s::l,k+1,h=>by
  have a:=h 0 (by omega);have b:bU s=0:=a;rw[bb,bH,if_pos b,List.drop_succ_cons];exact Jg l k fun j c=>h (j+1) (by omega)
theorem Uo(l:List (List Nat))(c:l.length<=1000000)(hs:∀s∈l,gX s):aw prog 258 [.seq (l.map .str)] (.int .i64 (bH (l.map bU))):=by
 refine aI nf Ny mix (by simp[f258]) ?_;simp[f258];refine c1 (Xw l) ?_;simp;have aB:=W9 l c hs;obtain⟨k,hk,g,d⟩:=BR (fun i=>decide (l7 l i=0)) l.length;have r:∀j,j<k->l7 l j=0:=fun j q=>by simpa using g j q
 have f:=Jg l k r;refine rf2 aB rfl (by simp) (fun L _=>[.box false (.p (.int .i64 0)),.loop L]) (fun L i=>[.box false (.p (.int .i64 (l7 l (i-1)))),.loop (L.dn .ret)]) (fun i=>decide (l7 l i=0)) .ret k (by simpa using hk) g (by simpa using d) (fun L=>rfl) ?_ ?_ (fun L=>rfl) ?_ ?_
 ·intro L b i hi;clear b;refine⟨rfl,by simp,fun _ c=>?_⟩;simp at c⊢;exact c
 ·intro L b i x hi hx;have t:x=[.int .i64 (l7 l i)]:=by
   rw[b0]at hx;unfold l7;cases h:l[i]? with
   |none=>rw[h]at hx;cases hx
   |some s=>rw[h]at hx;injection hx with hx;rw[<-hx];rfl
  subst t;rw[ej];refine Fo nf mix b rfl rfl (by kernel_rfl) ?_;have m:=congrArg fg.env b;dsimp only at m;clear b;generalize l7 l i=e
  by_cases he:e=0
  ·subst he;simp;exact .inl rfl
  ·simp[he];exact .inl rfl
 ·intro a L;have a:k=l.length:=by simpa using a
  rw[f,a];simp[bH]
 ·intro a L;have a:k<l.length:=by simpa using a
  have o:¬l7 l k=0:=by
   rcases d with u|⟨_,n⟩
   ·omega
   ·simpa using n
  have e1:l7 l k=bU l[k]:=by unfold l7;rw[a7 a]
  rw[f,be a,bb,bH,<-e1,if_neg o];simp[kq]
structure gz where
 x:List Nat
 y:List Nat
def fM(p:gz):PV:=.st 46 [.str p.x,.str p.y]
def od(p:gz):Prop:=gX p.x/\gX p.y
def dU(p:gz):Int:=bH [bU p.x,bU p.y]
@[simp] theorem aKV(p:gz):aL (fM p)=.agg 46:=rfl
@[simp] theorem aJI(p:gz):cF (fM p)=[.str p.x,.str p.y]:=rfl
@[simp] theorem aIl:prog.cellsOf 46=2:=by kernel_rfl
theorem SK(p:gz)(a:od p):aw prog 192 [.seq [fM p]] (.int .i64 (dU p)):=by
 have hc:=Uo [p.x,p.y] (by simp) (by intro s hs;simp at hs;rcases hs with rfl|rfl;exact a.1;exact a.2);refine aI nf Ot mix (by simp[f192]) ?_;simp[f192];refine lp (α:=Nat) (fun i=>⟨[(8,.p (.int .i64 i)),(7,.p (.int .i64 1)),(6,.p (.seq [fM p])),(0,.p (.seq [fM p]))],[]⟩) (fun i=>i=0\/(i=1/\dU p=0)) (fun i=>1-i) 0 (.inl rfl) ?_;rintro i h;rcases h with rfl|⟨rfl,h⟩
 ·simp[aa];refine cp hc (by simp;exact⟨rfl,rfl⟩) ?_;have b:a2.wrap 1=1:=rfl;rw[show bH (dl bU [p.x,p.y])=dU p from rfl]
  by_cases h:dU p=0
  ·simp[h,b];exact rd 1 (.inr ⟨rfl,h⟩)
  ·simp[h]
 ·simp[h]
theorem HI(p:gz)(a:od p):aw prog 92 [fM p] (.int .i64 (dU p)):=by
 refine aI nf Qe mix (by simp[f92]) ?_;simp[f92,aa];refine cp (SK p a) (by simp;exact⟨rfl,rfl⟩) ?_;simp
open Go.Proofs Go.Proofs.YtenbmieafgdjaaaGreatDoor
section
variable{H:Type}{W:World}{ad:Nat->Prop}
theorem zp{n:Nat}{d:DataW H}(h:∃cs,aP prog W ad (bB prog (n+1) 45 d) cs)(a:Rows.uptoBulk d<=1048576):∃s:List Nat,bB prog (n+1) 45 d=.str s/\gX s:=by
 obtain⟨cs,h⟩:=h;cases d with
 |lit l=>
  cases l with
  |string bytes=>
   refine⟨bytes.map (·.toNat),by simp only[bB,EU],?_,?_⟩
   ·rw[Rows.uptoBulk]at a;rw[b4];omega
   ·intro c hc;obtain⟨u,_,rfl⟩:=bv.1 hc;exact u.toNat_lt
  |_=>simp only[bB,EU,aP]at h
 |_=>simp only[bB,EU,aP]at h
theorem aG8:∃a b:Field,prog.underlying 47=some (.struct #[a,b])/\a.type=45/\b.type=45:=⟨_,_,underlying47,rfl,rfl⟩
theorem QX:prog.underlyingId 47=46:=by kernel_rfl
theorem VI{m n:Nat}(q:m=n+1){d:DataW H}(h:∃cs,aP prog W ad (bB prog (m+1) 47 d) cs)(e:Rows.uptoBulk d<=1048576):∃p:gz,bB prog (m+1) 47 d=fM p/\od p:=by
 obtain⟨cs,h⟩:=h;obtain⟨f0,f1,i,t0,t1⟩:=aG8;cases d with
 |agg l=>
  have g:∀x∈l,Rows.uptoBulk x<=1048576:=fun x hx=>by
   have:=pP.wo hx;rw[Rows.uptoBulk]at e;omega
  simp only[bB,i,aP]at h⊢;obtain⟨t,s,f,c,_⟩:=h;rw[QX,aGq]at f;cases f
  match l,c with
  |[],c=>simp[aY]at c
  |[x],c=>simp[aY]at c
  |x::y::r,c=>
   simp only[List.zip_cons_cons,bb,aY,List.zip_nil_left,dq,t0,t1]at c⊢;obtain⟨c0,_,_,g1,_,c1,_,_,g2,_⟩:=c;subst q;obtain⟨a,j,o⟩:=zp ⟨c0,g1⟩ (g x (by simp));obtain⟨b,k,e⟩:=zp ⟨c1,g2⟩ (g y (by simp));exact⟨⟨a,b⟩,by rw[j,k,QX];rfl,o,e⟩
 |_=>simp only[bB,i,aP]at h
theorem SX{n:Nat}{d:DataW H}(h:∃cs,aP prog W ad (bB prog (n+2) 47 d) cs)(a:Rows.uptoBulk d<=1048576):∃p:gz,bB prog (n+2) 47 d=fM p/\od p:=VI rfl h a
end
def bT:Nat:=1000000000
theorem aW:2<=bT:=by decide
def iP(l:List Nat):List PV:=l.map fun x:Nat=>.int .i64 x
theorem QS(w:List Nat):fc prog 1 (w.map (AV.p∘fun x:Nat=>PV.int .i64 x)):=by
 rw[uW];intro v a;obtain⟨x,_,rfl⟩:=bv.1 a;simp[aa,aL,bD]
def eT(n:Nat):PV:=.seq ((aq bT n).map fun x:Nat=>.int .i64 x)
theorem zB:aq bT 0=[]:=by simp[aq,mV]
theorem nA{n:Nat}(b:0<n)(h:n<bT):aq bT n=[n]:=by
 have a:=jo aW (m:=1) (n:=n) (by rw[gc];exact h);rw[<-a,row,List.range_one,bb,dq,ae,e7,fd,e6 h];have:=uT [] n (by omega)
 rwa [dg]at this
theorem u5{n:Nat}:aq bT n=[]↔n=0:=by
 constructor
 ·intro h;have:=cj aW n;rw[h,List.length_nil,e7]at this;omega
 ·rintro rfl;exact zB
theorem tt(w:List Nat)(h:w.length<=1048576):aw prog 260 [.seq (iP w)] (.seq (iP (dZ w))):=by
 refine aI nf FB mix (by simp[f260]) ?_;simp only[iP];simp[f260];refine lp (α:=Nat) (fun i=>⟨[(0,.p (.seq ((w.take i).map fun x:Nat=>.int .i64 x)))],[]⟩) (fun i=>i<=w.length/\dZ w=dZ (w.take i)) (fun i=>i) w.length (by simp) ?_;rintro i ⟨k1,k2⟩;have k:(w.take i).length=i:=by rw[c6];omega
 by_cases hi:0<i
 ·obtain⟨j,rfl⟩:∃j,i=j+1:=⟨i-1,by omega⟩
  have f:a2.wrap (j:Int)=j:=aK _ (by omega) (by omega);have a:j<w.length:=by omega
  have e:(0:Int)<(j:Int)+1:=by omega
  have k3:=k2;rw[bi a]at k2;have c:min (j+1) w.length=j+1:=by omega
  have d:min ((j:Int)+1) (w.length:Int)=j+1:=by omega
  have g:¬w=[]:=by rintro rfl;simp at a
  by_cases b:w[j]=0
  ·rw[b,Bh]at k2;simp[e,f,a,b,c,d,g];refine⟨by rw[<-bo];exact QS _,?_⟩;refine rd j ⟨by omega,k2⟩ (he:=?_);rw[<-bo,<-bo,List.take_take,Nat.min_eq_left (by omega)];simp
  ·rw[uT _ _ b,<-bi a]at k2;simp[e,f,a,b,c,d,g];rw[k2,bo];exact bA.refl _
 ·obtain rfl:i=0:=by omega
  simp[dZ]at k2;simp[k2]
def eG(z:Int):PV:=.st 169 [.bool (decide (z<0)),eT z.natAbs]
@[simp] theorem aKR(z:Int):aL (eG z)=.agg 169:=rfl
@[simp] theorem aJF(z:Int):cF (eG z)=[.bool (decide (z<0)),eT z.natAbs]:=rfl
@[simp] theorem aKZ(n:Nat):aL (eT n)=.leaf:=rfl
theorem B8(neg:Bool)(w:List Nat)(n:Nat)(c:dZ w=aq bT n)(h:w.length<=1048576):aw prog 198 [.bool neg,.seq (iP w)] (eG (if neg=true then -(n:Int)else n)):=by
 have a:=tt w h;rw[c]at a;refine aI nf Oo mix (by simp[f198]) ?_;have b:(if neg=true then -(n:Int)else n).natAbs=n:=by cases neg<;>simp
 rw[eG,b,eT];have d:=u5 (n:=n);have e:decide ((if neg=true then -(n:Int)else n)<0)=(neg&&decide (0<(aq bT n).length)):=by
  cases neg
  ·simp
  ·simp;rw[a4,Ne,d];omega
 rw[e];simp only[iP]at a⊢;generalize aq bT n=x at*;cases neg
 ·simp[f198];refine c1 a ?_;simp[aa]
 ·simp[f198];refine c1 a ?_;simp[aa]
  done
theorem ID{a b:Nat}(h:(aq bT a).length<(aq bT b).length):a<b:=by
 have d:=cj aW a;rcases em a b with c|c
 ·exact c
 ·have:=dK aW (aq bT a).length b (ec c d);omega
theorem IM{a b i:Nat}(h:a/bT^(i+1)=b/bT^(i+1))(e:ae bT a i<ae bT b i):a<b:=by
 rw[eq,<-en,<-en]at h;have e1:=ei (a/bT^i) bT;have e2:=ei (b/bT^i) bT;rw[ae,ae]at e;rw[h]at e1;rcases em a b with d|d
 ·exact d
 ·have:=Nat.div_le_div_right (c:=bT^i) d;omega
theorem Wr{a b i:Nat}(h:a/bT^(i+1)=b/bT^(i+1))(c:ae bT a i=ae bT b i):a/bT^i=b/bT^i:=by
 rw[eq,<-en,<-en]at h;have e1:=ei (a/bT^i) bT;have e2:=ei (b/bT^i) bT;rw[ae,ae]at c;rw[h]at e1;omega
theorem IX(a b:Nat)(E:(aq bT a).length<=1048576)(F:(aq bT b).length<=1048576):aw prog 200 [eT a,eT b] (.int .i64 (fG a b)):=by
 refine aI nf Hv mix (by simp[f200]) ?_
 by_cases l:(aq bT a).length=(aq bT b).length
 case neg=>
  have q:¬((aq bT a).length:Int)=(aq bT b).length:=by omega
  by_cases A:(aq bT a).length<(aq bT b).length
  ·have m:((aq bT a).length:Int)<(aq bT b).length:=by omega
   have:=ID A;have hc:fG a b= -1:=if_pos this;simp[f200,eT,q,m,hc]
  ·have m:¬((aq bT a).length:Int)<(aq bT b).length:=by omega
   have:=ID (a:=b) (b:=a) (by omega);have hc:fG a b=1:=by rw[fG,if_neg (by omega),if_pos this]
   simp[f200,eT,q,m,hc]
 have t:∀i(h:i<(aq bT a).length),(aq bT a)[i]?=some (ae bT a i):=fun i h=>by rw[a7 h,ek aW h]
 have v:∀i(h:i<(aq bT b).length),(aq bT b)[i]?=some (ae bT b i):=fun i h=>by rw[a7 h,ek aW h]
 have u:∀i(h:i<(aq bT a).length),(aq bT a)[i]=ae bT a i:=fun i h=>ek aW h;have w:∀i(h:i<(aq bT b).length),(aq bT b)[i]=ae bT b i:=fun i h=>ek aW h;have s:=cj aW a;have o:=cj aW b;rw[<-l]at o;have z:a/bT^(aq bT a).length=b/bT^(aq bT a).length:=by rw[eo s,eo o]
 simp only[eT];generalize aq bT a=x at*;generalize aq bT b=y at*;have D:a2.wrap ((y.length:Int)-1)=y.length-1:=aK _ (by omega) (by omega);simp[f200,l,D];refine lp (α:=Nat) (fun i=>⟨[(5,.p (.int .i64 ((i:Int)-1))),(1,.p (.seq (y.map fun x:Nat=>.int .i64 x))),(0,.p (.seq (x.map fun x:Nat=>.int .i64 x)))],[]⟩) (fun i=>i<=y.length/\a/bT^i=b/bT^i) (fun i=>i) y.length ⟨ed _,by rw[<-l];exact z⟩ ?_;rintro i ⟨k1,k2⟩
 by_cases hi:0<i
 ·obtain⟨j,rfl⟩:∃j,i=j+1:=⟨i-1,by omega⟩
  have c:j<x.length:=by omega
  have d:j<y.length:=by omega
  have C:a2.wrap ((j:Int)-1)=j-1:=aK _ (by omega) (by omega);have e:=t j c;have g:=v j d;have f:=u j c;have k:=w j d
  by_cases hq:ae bT a j=ae bT b j
  ·simp[c,d,e,g,f,k,hq,C];exact rd j ⟨by omega,Wr k2 hq⟩
  ·have r:¬(ae bT a j:Int)=ae bT b j:=by omega
   by_cases n:ae bT a j<ae bT b j
   ·have:=IM k2 n;have hc:fG a b= -1:=if_pos this;simp[c,d,e,g,f,k,r,n,hc]
   ·have:=IM k2.symm (show ae bT b j<ae bT a j by omega);have B:ae bT b j<ae bT a j:=by omega
    have hc:fG a b=1:=by rw[fG,if_neg (by omega),if_pos this]
    simp[c,d,e,g,f,k,r,n,B,hc]
 ·obtain rfl:i=0:=by omega
  rw[e7,fd,fd]at k2;have hc:fG a b=0:=by rw[fG,if_neg (by omega),if_neg (by omega)]
  simp[hc]
theorem Xl{n i:Nat}(h:(aq bT n).length<=i):ae bT n i=0:=jn (eb (cj aW n) (ea (by decide) h))
theorem CV(a i:Nat):aw prog 262 [eT a,.int .i64 i] (.int .i64 (ae bT a i:Nat)):=by
 refine aI nf FA mix (by simp[f262]) ?_
 by_cases h:i<(aq bT a).length
 ·have b:(aq bT a)[i]=ae bT a i:=ek aW h;rw[eT,<-b];generalize aq bT a=x at*;simp[f262,h]
 ·rw[Xl (by omega),eT];generalize aq bT a=x at*;simp[f262,h]
def dY(i n:Nat):List AV:=(cb i).map fun j=>.p (.int .i64 (ae bT n j:Nat))
theorem qz(i n:Nat):dY (i+1) n=dY i n++[.p (.int .i64 (ae bT n i:Nat))]:=by
 rw[dY,List.range_succ,List.map_append];rfl
theorem iq(i n:Nat):(dY i n).length=i:=by simp[dY]
@[simp] theorem aKH{N:Nat×Nat->Prop}{n i:Nat}:aR N (dY i n)=True:=by
 rw[cG,eq_iff_iff,iff_true];intro v a;simp only[dY,bv]at a;obtain⟨x,_,rfl⟩:=a;trivial
theorem LN(i n:Nat):ef (dY i n)=some ((row bT i n).map fun x:Nat=>.int .i64 x):=by
 have:dY i n=(row bT i n).map (AV.p∘fun x:Nat=>PV.int .i64 x):=by
  rw[dY,row,dz];rfl
 rw[this];exact J3
theorem Na(i n:Nat):dY i n=(row bT i n).map (AV.p∘fun x:Nat=>PV.int .i64 x):=by
 rw[dY,row,dz];rfl
theorem XG{n i:Nat}(h:n<bT^i)(a:i=0\/bT^(i-1)<=n):row bT i n=aq bT n:=by
 have b:(aq bT n).length=i:=by
  have c:=dK aW i n h;rcases a with rfl|a
  ·omega
  ·have:=Jh aW a;omega
 have:=Zj aW n;rw[b]at this;exact this.symm
theorem Ye(a b:Nat)(I:(aq bT a).length<=1000000)(J:(aq bT b).length<=1000000):aw prog 199 [eT a,eT b] (eT (a+b)):=by
 refine aI nf Hw mix (by simp[f199]) ?_;have v:=cj aW a;have w:=cj aW b;have C:∀i,i<(aq bT a).length->bT^i<=a:=fun i h=>by
  rcases em a (bT^i)with c|c
  ·have:=dK aW i a c;omega
  ·exact c
 have D:∀i,i<(aq bT b).length->bT^i<=b:=fun i h=>by
  rcases em b (bT^i)with c|c
  ·have:=dK aW i b c;omega
  ·exact c
 have A:∀i,0<cZ bT a b i->bT^i<=a+b:=fun i h=>by
  rw[cZ]at h;have c:bT^i<=a% bT^i+b% bT^i:=by
   rcases em (a% bT^i+b% bT^i) (bT^i)with d|d
   ·rw[eo d]at h;omega
   ·exact d
  have:=gj a (bT^i);have:=gj b (bT^i);omega
 have f:=fun i=>CV a i;have g:=fun i=>CV b i;have B:∀i,(aq bT a).length<=i->(aq bT b).length<=i->cZ bT a b i=0->a+b<bT^i:=fun i c d s=>by
  have l:=eb v (ea (show 0<bT by decide) c);have m:=eb w (ea (show 0<bT by decide) d);rw[cZ,e6 l,e6 m]at s;rcases em (a+b) (bT^i)with e|e
  ·exact e
  ·have:=Nat.div_pos e (e9 (show 0<bT by decide));omega
 have E:∃M,M=max (aq bT a).length (aq bT b).length:=⟨_,rfl⟩
 obtain⟨M,H⟩:=E;simp only[eT]at f g⊢;have F:=fun i h d=>XG (n:=a+b) (i:=i) h d;generalize aq bT (a+b)=z at*;generalize aq bT a=x at*;generalize aq bT b=y at*;simp[f199];refine lp (α:=Nat) (fun i=>⟨[(7,.p (.int .i64 i)),(6,.p (.int .i64 (cZ bT a b i:Nat))),(5,.sl 0 i 1 0 i),(1,.p (.seq (y.map fun x:Nat=>.int .i64 x))),(0,.p (.seq (x.map fun x:Nat=>.int .i64 x)))],[.arr .grow i 1 (dY i (a+b))]⟩)
  (fun i=>i<=M+1/\(i=0\/bT^(i-1)<=a+b)) (fun i=>M+1-i) 0 ⟨by omega,.inl rfl⟩ ?_ (he:=by simp[xH,dY]) (hh:=by simp[dY])
 rintro i ⟨k1,k2⟩;have o:=bX (i:=i) (by omega);have K:=lN aW a b i;obtain⟨l,m⟩:=qt aW a b i;have N:=cm aW a i;have O:=cm aW b i;have t:bT=1000000000:=rfl;have q:a2.wrap ((ae bT a i:Int)+ae bT b i)=ae bT a i+ae bT b i:=aK _ (by omega) (by omega);have r:a2.wrap ((ae bT a i:Int)+ae bT b i+cZ bT a b i)=ae bT a i+ae bT b i+cZ bT a b i:=aK _ (by omega) (by omega);have d1:((ae bT a i:Int)+ae bT b i+cZ bT a b i).tmod 1000000000=(ae bT (a+b) i:Nat):=by
  rw[Int.tmod_eq_emod_of_nonneg (by omega),<-l,t];omega
 have d2:((ae bT a i:Int)+ae bT b i+cZ bT a b i).tdiv 1000000000=(cZ bT a b (i+1):Nat):=by
  rw[Int.tdiv_eq_ediv_of_nonneg (by omega),<-m,t];omega
 have d3:a2.wrap (cZ bT a b (i+1):Nat)=(cZ bT a b (i+1):Nat):=by have:=lN aW a b (i+1);exact aK _ (by omega) (by omega)
 have j:b1 i (dY i (a+b))=dY i (a+b):=a5 (by rw[iq];exact ed _)
 by_cases hx:i<x.length
 ·simp[hx];refine c2 (f i) ?_;simp;refine c2 (g i) ?_;simp[q,r,d1,d2,d3,iq,j,<-qz];refine⟨by simp only[cO];omega,?_⟩;refine rd (i+1) ⟨by omega,.inr (by rw[ej];exact ee (C i hx) (by omega))⟩ (by omega) (he:=by simp[o])
 by_cases k:i<y.length
 ·simp[hx,k];refine c2 (f i) ?_;simp;refine c2 (g i) ?_;simp[q,r,d1,d2,d3,iq,j,<-qz];refine⟨by simp only[cO];omega,?_⟩;refine rd (i+1) ⟨by omega,.inr (by rw[ej];exact ee (D i k) (by omega))⟩ (by omega) (he:=by simp[o])
 by_cases hc:0<cZ bT a b i
 ·have L:i=M:=by
   rcases em M i with h|h
   ·have e0:=qt aW a b M;have c:ae bT a M=0:=jn (eb v (ea (by decide) (by omega)));have d:ae bT b M=0:=jn (eb w (ea (by decide) (by omega)));have s:=lN aW a b M;have e:i=M+1:=by omega
    subst e;rw[c,d]at e0;rw[<-e0.2,eo (by omega)]at hc;omega
   ·omega
  simp[hx,k,hc];refine c2 (f i) ?_;simp;refine c2 (g i) ?_;simp[q,r,d1,d2,d3,iq,j,<-qz];refine⟨by simp only[cO];omega,?_⟩;refine rd (i+1) ⟨by omega,.inr (by rw[ej];exact A i hc)⟩ (by omega) (he:=by simp[o])
 ·have u:cZ bT a b i=0:=by omega
  have G:=F i (B i (by omega) (by omega) u) k2;rw[<-G];simp[hx,k,u];refine⟨by rw[iq];exact ed _,?_⟩;rw[j,Na];simp
theorem MU(a b:Nat)(A:b<=a)(F:(aq bT a).length<=1000000):aw prog 201 [eT a,eT b] (eT (a-b)):=by
 refine aI nf Hu mix (by simp[f201]) ?_;have D:=cj aW a;have j:=fun i=>CV b i;have B:∀i(h:i<(aq bT a).length),(aq bT a)[i]?=some (ae bT a i):=fun i h=>by rw[a7 h,ek aW h]
 have C:∀i(h:i<(aq bT a).length),(aq bT a)[i]=ae bT a i:=fun i h=>ek aW h;have E:dZ (row bT (aq bT a).length (a-b))=aq bT (a-b):=jo aW (ec (Nat.sub_le a b) D);have e:=tt (row bT (aq bT a).length (a-b)) (by rw[Mh];omega);rw[E]at e;simp only[eT]at j⊢;simp only[iP]at e;generalize aq bT (a-b)=z at*;generalize aq bT a=x at*;generalize aq bT b=y at*;simp[f201];refine lp (α:=Nat) (fun i=>⟨[(7,.p (.int .i64 i)),(6,.p (.int .i64 (fa bT a b i:Nat))),(5,.sl 0 i 1 0 i),(1,.p (.seq (y.map fun x:Nat=>.int .i64 x))),(0,.p (.seq (x.map fun x:Nat=>.int .i64 x)))],[.arr .grow i 1 (dY i (a-b))]⟩)
  (fun i=>i<=x.length) (fun i=>x.length-i) 0 (by simp) ?_ (he:=by simp[Bg,dY]) (hh:=by simp[dY])
 intro i k1;have s:=bX (i:=i) (by omega);have r:b1 i (dY i (a-b))=dY i (a-b):=a5 (by rw[iq];exact ed _);have G:bT=1000000000:=rfl;have J:=cm aW a i;have K:=cm aW b i;have L:=cm aW (a-b) i;have M:fa bT a b i<=1:=by rw[fa];split<;>omega
 have u:a2.wrap ((ae bT a i:Int)-ae bT b i)=ae bT a i-ae bT b i:=aK _ (by omega) (by omega);have n:a2.wrap ((ae bT a i:Int)-ae bT b i-fa bT a b i)=ae bT a i-ae bT b i-fa bT a b i:=aK _ (by omega) (by omega)
 by_cases hx:i<x.length
 ·have o:=B i hx;have q:=C i hx;rcases Kz aW A i with⟨v,g,w⟩|⟨v,g,w⟩
  ·have m:(ae bT a i:Int)-ae bT b i-fa bT a b i<0:=by omega
   have f:a2.wrap ((ae bT a i:Int)-ae bT b i-fa bT a b i+1000000000)=(ae bT (a-b) i:Nat):=by rw[aK _ (by omega) (by omega)];omega
   simp[hx,o,q];refine e2 (j i) ?_;simp[u,n,m,f,iq,r,<-qz];refine⟨by simp only[cO];omega,?_⟩;refine rd (i+1) hx (he:=by simp[s,g])
  ·have m:¬(ae bT a i:Int)-ae bT b i-fa bT a b i<0:=by omega
   have f:(ae bT a i:Int)-ae bT b i-fa bT a b i=(ae bT (a-b) i:Nat):=by omega
   rw[f]at m n;simp[hx,o,q];refine e2 (j i) ?_;simp[u,n,f,iq,r,<-qz];refine⟨by simp only[cO];omega,?_⟩;refine rd (i+1) hx (he:=by simp[s,g])
 ·have:i=x.length:=by omega
  subst this;have k:=Na x.length (a-b);have d:(row bT x.length (a-b)).length=x.length:=Mh;generalize row bT x.length (a-b)=l at e k d;have H:b1 x.length l=l:=a5 (by omega);rcases l with _|⟨c,t⟩
  ·simp at d;simp[k];refine cp e (by simp[<-d];exact⟨rfl,rfl⟩) ?_;simp
  ·have I:b1 x.length (PV.int .i64 c::dl (fun x:Nat=>PV.int .i64 x) t)=PV.int .i64 c::dl (fun x:Nat=>PV.int .i64 x) t:=a5 (by simp at d⊢;omega);simp at d;simp[k];refine cp e (by simp[<-d];exact⟨rfl,rfl⟩) ?_;simp
def dc(n:Nat)(f:Nat->Nat):List AV:=(cb n).map fun j=>.p (.int .i64 (f j:Nat))
theorem vo(n:Nat)(f:Nat->Nat):(dc n f).length=n:=by simp[dc]
theorem KD(n:Nat):a8 n (AV.p (.int .i64 0))=dc n fun _=>0:=by
 apply db (by simp[dc]);intro i a b;simp[dc]
theorem sW{n j:Nat}(f:Nat->Nat)(h:j<n):(dc n f)[j]?=some (.p (.int .i64 (f j:Nat))):=by
 rw[dc,b0,ck h];rfl
theorem Cv{n i:Nat}(f g:Nat->Nat)(h:∀j,j<n->j≠i->g j=f j):(dc n f).set i (.p (.int .i64 (g i:Nat)))=dc n g:=by
 apply db (by simp[dc]);intro j c b;rw[vo]at b;rw[List.getElem_set];simp only[dc,List.getElem_map,List.getElem_range]
 by_cases a:i=j
 ·subst a;rw[if_pos rfl]
 ·rw[if_neg a,h j b (fun e=>a e.symm)]
@[simp] theorem aKG{N:Nat×Nat->Prop}{n:Nat}{f:Nat->Nat}:aR N (dc n f)=True:=by
 rw[cG,eq_iff_iff,iff_true];intro v a;simp only[dc,bv]at a;obtain⟨x,_,rfl⟩:=a;trivial
theorem yv{n:Nat}{f g:Nat->Nat}(h:∀j,j<n->f j=g j):dc n f=dc n g:=by
 rw[dc,dc];apply List.map_congr_left;intro j a;rw[h j (List.mem_range.1 a)]
end Go.aj
