import Derived.Test.YtanjnahmbanmaaaGreatDoorPG
import Derived.Test.YtanjnahmbanmaaaGreatDoorThE
import Derived.Test.YtanjnahmbanmaaaGreatDoorPE
import Derived.Lib.AtoiAll
import Derived.Test.YtanjnahmbanmaaaGreatDoorThD
import Derived.Test.YtanjnahmbanmaaaGreatDoorPC
/- Parts of a proof. -/
set_option linter.unusedSimpArgs false
set_option linter.unusedVariables false
set_option linter.unusedSectionVars false
open Go.Proofs.Tryz
open Bool renaming and_eq_true->aT, false_eq_true->a0
open Go renaming FuncId->a1, DataW->a2
open Go.IntKind renaming i64->a3
open Int renaming natAbs_natCast->a4
open List renaming length_pos_iff->a5, take_of_length_le->a6, length_singleton->a7, getElem?_eq_getElem->a8, replicate->a9, length_append->bb, map_cons->be, drop_eq_getElem_cons->bi, take_succ_eq_append_getElem->bl, append_nil->bo, take_append_drop->bp, map_take->bv, mem_map->bI, getElem?_map->bV, take->b0, reverse_nil->b1, getElem_mem->b2, length_map->b3, foldl_cons->b4, range->b5, all_cons->cb, dropWhile_sublist->cc, getElem?_range->ce, flatten_append->ck, dropWhile_cons->cv, mem_singleton->cx, length_take->cy, length_cons->c6, flatten_nil->c9, ext_getElem->da, nil_append->db, mem_append->dg, map->dk, mem_cons->dl, map_nil->dp, map_map->dq
open Nat renaming pow_le_pow_right->dz, lt_of_lt_of_le->ea, lt_of_le_of_lt->eb, le_refl->ec, le_trans->ed, div_add_mod->ee, add_sub_cancel->ei, lt_or_ge->ej, div_div_eq_div_mul->em, div_eq_of_lt->en, pow_succ->eo, mul_assoc->eq, lt_trans->ew, mod_eq_of_lt->e6, pow_zero->e7, mul_comm->e8, pow_pos->e9, mul_le_mul_right->fb, div_one->fd, pow_le_pow_left->fl, div_mul_le_self->fm, div_lt_self->fv, add_assoc->fw, gcd->gb, pow_one->gc, pow_mul->ge, add_mul->gg, mod_lt->gi, mod_le->gj
open Option.some renaming injEq->gm
open UInt8 renaming ofNat->gt
namespace Go.ak
open Go.Proofs
set_option linter.unusedSectionVars false
theorem CT:dx prog 359=some [1,1]:=by kernel_rfl
section
variable{w:World}{ad ah:Nat->Prop}{β:Bd}{H:aj}
theorem S9{an:Nat}{c0 c1 v:Value}{T:TypeId}(h:w.heap[an]?=some (.cells #[c0,c1] T (0,0))):w.setCell ⟨an,0,none⟩ v=w.setRow an #[v,c1]:=by
 obtain⟨d,a⟩:=Array.getElem?_eq_some_iff.1 h;unfold World.setCell World.setRow;congr 1;apply Array.ext
 ·simp
 ·intro i b c;simp only[Array.getElem_modify]
  by_cases hi:an=i
  ·subst hi;simp[a]
  ·simp[hi]
theorem SA{t x:AV}{cs:Array Value}(g:t=gY 359 [.p .dH,x]\/t=.st 359 [.p .dH,x])(h:br prog w ad β H t cs.toList):∃y,cs=#[.pointer none,y]/\br prog w ad β H x [y]:=by
 have a:br prog w ad β H (.st 359 [.p .dH,x]) cs.toList:=by
  rcases g with rfl|rfl
  ·exact Ky.1 h
  ·exact h
 simp only[br,CT,gm]at a;obtain⟨l,k,rfl,b,d⟩:=a;simp only[bM,br,aY]at b;obtain⟨c,i,rfl,rfl,_,c2,j,rfl,e,f,rfl⟩:=b
 match c2,f with
 |[y],_=>exact⟨y,Array.ext' (by simpa using d),e⟩
theorem Ss{b:Nat}{x:AV}{cs:Array Value}(h:br prog w ad β H (.st 359 [.ptr b [],x]) cs.toList):∃v y,cs=#[v,y]/\bO prog β H (.ptr b []) v:=by
 simp only[br,CT,gm]at h;obtain⟨l,j,rfl,a,d⟩:=h;simp only[bM,br]at a;obtain⟨c,g,rfl,⟨v,rfl,f⟩,_,c2,i,rfl,k,e,rfl⟩:=a
 match c2,e with
 |[y],_=>exact⟨v,y,Array.ext' (by simpa using d),f⟩
end
theorem ZS{H:aj}{b:Nat}{t x:AV}(f:H[b]?=some (.box false t))(i:t=gY 359 [.p .dH,x]\/t= .st 359 [.p .dH,x]):
 cE prog 342 H [.ptr b []] (H.set b (.box false (.st 359 [.ptr b [],x]))) (.p (.aC [])):=by
 refine⟨jY func342 (by kernel_rfl),fun w ad ah β J g j K=>?_⟩;simp only[bF,aA]at j;obtain⟨v,vs,rfl,⟨_,I,L,M,rfl,m,B⟩,rfl⟩:=j;simp only[fV,gm]at m;subst m;obtain⟨rfl,rfl⟩:=B (.inl ⟨false,t,f⟩);obtain⟨cs,T,k1,k2,k3,_,k5⟩:=g.cJ b _ f;have F:aa t=.agg 359:=by
  rcases i with rfl|rfl
  ·exact BA _ _
  ·rfl
 have q:T=360:=by
  rw[F]at k5;exact dt (by simpa[jf,Gl.bx,Z4]using k5)
 subst q;obtain⟨y,rfl,G⟩:=SA i k2;have o:¬ad (β.an b)/\¬ah (β.an b):=by simpa[cG]using k3
 refine(Sn (β.an b) w (by simp[World.cell?,k1]) (by simp[World.shape?,k1]) (by simp[World.frozen?,k1])).mono ?_;rintro e w' ⟨rfl,rfl⟩;rw[S9 k1];have aN:cw β H β (H.set b (.box false (.st 359 [.ptr b [],x]))):=oH f (.inl ⟨_,_,_,_,rfl,rfl⟩);have al:∀z,aJ H z->aJ (H.set b (.box false (.st 359 [.ptr b [],x]))) z:=lM f (fun _ h=>h);have r:b<H.length:=(List.getElem?_eq_some_iff.1 f).1;have u:(H.set b (.box false (.st 359 [.ptr b [],x])))[b]?=some (.box false (.st 359 [.ptr b [],x])):=List.getElem?_set_self r;have n:aE (aJ H) x:=by
  have:=g.refs b _ f;rcases i with rfl|rfl
  ·simp only[Obj.refs]at this;unfold gY at this
   split at this
   ·rename_i l d;have d:=lK d
    match l,d with
    |[a,c],d=>simp at d;rw[d.2];simp[aE]
    |[],d=>simp at d
    |[_],d=>simp at d
    |_::_::_::_,d=>simp at d
   ·simp only[aE,aX]at this;exact this.2.1
  ·simp only[Obj.refs,aE,aX]at this;exact this.2.1
 have E:∀k,ad k->(w.setRow (β.an b) #[.pointer (some ⟨β.an b,0,none⟩),y]).heap[k]?=w.heap[k]?:=fun k A=>setRow_other w _ k _ (fun s=>o.1 (s▸A));have D:Obj.refs (aJ (H.set b (.box false (.st 359 [.ptr b [],x])))) (.box false (.st 359 [.ptr b [],x])):=by
  simp only[Obj.refs,aE,aX,and_true];exact⟨⟨_,u,trivial⟩,aE.mono al _ n⟩
 have C:=pR g f trivial (o':=.box false (.st 359 [.ptr b [],x])) trivial (fun _ h=>h) k1 (new:=#[.pointer (some ⟨β.an b,0,none⟩),y]) o aN
  ⟨_,360,setRow_heap w _ _ _ 360 _ k1,by
   simp only[br,CT,gm];refine⟨_,[[.pointer (some ⟨β.an b,0,none⟩)],[y]],rfl,?_,rfl⟩;simp only[bM,br];exact⟨_,_,rfl,⟨_,rfl,⟨rfl,_,_,0,rfl,rfl,fun _=>⟨rfl,rfl⟩⟩⟩,rfl,_,_,rfl,br.mono (fun _ x=>x) E aN _ _ n G,rfl,rfl⟩,k3,by simp,by simp[aa,jf,Gl.bx]⟩ D
 exact⟨_,β,ad,rfl,C,by simp[aA,aD,bJ],by simp[aE]⟩
theorem ZT{H:aj}{b:Nat}{x:AV}(c:H[b]?=some (.box false (.st 359 [.ptr b [],x]))):cE prog 342 H [.ptr b []] H (.p (.aC [])):=by
 refine⟨jY func342 (by kernel_rfl),fun w ad ah β l g f m=>?_⟩;simp only[bF,aA]at f;obtain⟨v,vs,rfl,⟨_,j,n,i,rfl,a,d⟩,rfl⟩:=f;simp only[fV,gm]at a;subst a;obtain⟨rfl,rfl⟩:=d (.inl ⟨false,_,c⟩);obtain⟨cs,T,k1,k2,k3,_,k5⟩:=g.cJ b _ c;obtain⟨v,y,rfl,h⟩:=Ss k2;simp only[bO,bR]at h;obtain⟨_,k,o,i,rfl,a,d⟩:=h;simp only[fV,gm]at a;subst a;obtain⟨rfl,rfl⟩:=d (.inl ⟨false,_,c⟩);refine(Sm (β.an b) w (by simp[World.cell?,k1])).mono ?_;rintro e w' ⟨rfl,rfl⟩;exact⟨_,β,ad,rfl,bY.refl g,by simp[aA,aD,bJ],by simp[aE]⟩
set_option maxHeartbeats 4000000
set_option maxRecDepth 100000
@[simp] theorem gu8:(Gl.u8:TypeId)=5:=(rfl)
def dG(t:List Nat):List AV:=t.map fun(c:Nat)=>AV.p (.int .u8 (c:Int))
theorem uT(t:List Nat):(dG t).length=t.length:=by simp[dG]
theorem aIZ(a t:List Nat):dG (a++t)=dG a++dG t:=by simp[dG]
theorem Cl:∀t:List Nat,eM prog 1 (dG t)
 |[]=>by simp[dG,eM]
 |c::t=>by
  have:=Cl t;simp only[dG,be]at this⊢;simp[eM];exact this
theorem H7:∀(t:List Nat),(∀c∈t,c<256)->bytesOf (dG t)=some t
 |[],_=>rfl
 |c::t,a=>by
  have b:=a c (by simp);have:=H7 t fun c hc=>a c (by simp[hc]);show bytesOf (.p (.int .u8 (c:Int))::dG t)=some (c::t);rw[bytesOf,if_pos ⟨by omega,by omega⟩,this];simp
theorem O0(t:List Nat)(a:t≠[])(h:t.length<=1048576):cE prog 305 [.box false (.p (.st 359 [.dH,.aO]))] [.ptr 0 [],.p (.str t)]
 [.box false (.st 359 [.ptr 0 [],.sl 1 0 1 0 t.length]),.arr .bytes 0 1 (dG t)] (.p (.aC [.int .i64 t.length,.gd])):=by
 refine fF nf Da mix (by simp[f305]) ?_;simp[f305];refine ci (ZS (b:=0) (t:=.p (.st 359 [.dH,.aO])) (x:=.p .aO) rfl (.inl rfl)) ?_;simp;refine⟨⟨Cl t,by simp only[cW];omega⟩,?_⟩;simp[a,dG]
theorem O1(a t:List Nat)(v n:Nat)(f:n=a.length)(c:t≠[])(h:t.length<=1048576)(e:a.length<=1048576):cE prog 305 [.box false (.st 359 [.ptr 0 [],.sl 1 v 1 0 n]),.arr .bytes v 1 (dG a)] [.ptr 0 [],.p (.str t)]
 [.box false (.st 359 [.ptr 0 [],.sl 1 (v+1) 1 0 (n+t.length)]),.arr .bytes (v+1) 1 (dG (a++t))] (.p (.aC [.int .i64 t.length,.gd])):=by
 refine fF nf Da mix (by simp[f305]) ?_;simp[f305];refine ci (ZT (b:=0) (x:=.sl 1 v 1 0 n) rfl) ?_;simp;refine⟨⟨Cl t,by rw[uT];omega,by rw[uT];simp only[cW];omega⟩,?_⟩;have d:b0 n (dG a)=dG a:=a6 (by rw[uT];omega);simp[c,d,aIZ];exact .inl rfl
theorem ZY(a:List Nat)(v n:Nat)(b:n=a.length)(d:a≠[])(g:a.length<=1048576)(e:∀c∈a,c<256):cE prog 306 [.box false (.st 359 [.ptr 0 [],.sl 1 v 1 0 n]),.arr .bytes v 1 (dG a)] [.ptr 0 []]
 [.box false (.st 359 [.ptr 0 [],.sl 1 v 1 0 n]),.dead] (.p (.str a)):=by
 refine fF nf Mu mix (by simp[f306]) ?_;have f:0<a.length:=a5.2 d;simp[f306];refine Zq (az:=v) (es:=dG a) rfl rfl (by rw[b];exact f) (by simp[dG,b]) ?_;simp;refine Zs (az:=v) (es:=dG a) (l:=a) rfl rfl rfl (by omega) (by simp[uT,b]) (by omega) rfl ?_ ?_ ?_ ?_
 ·kernel_rfl
 ·kernel_rfl
 ·rw[a6 (by rw[uT];simp[b])];exact H7 a e
 simp
 repeat' with_reducible refine And.intro ?_ ?_
 all_goals rfl
theorem BP{σ:Nat->Nat}:∀{a b:List AV},cO σ (a++b)=cO σ a++cO σ b
 |[],b=>by simp[cO]
 |x::a,b=>by simp[cO,BP (a:=a)]
theorem yO:aw wB tB=[tB]:=sR (by decide) (by decide)
theorem Wp(a:NI)(hs:a.sm=true):au prog 248 [eI a] (.str (bN a.v)):=by
 refine aI nf Dc mix (by simp[f248]) ?_;have b:=NI.oY hs;simp[f248,aa,lR hs,mE hs,dA,cQ];refine c1 (Yv a.v b.1 b.2) ?_;simp
theorem Lt{m k A L:Nat}(e:0<m)(h:m*tB^k<=A)(a:A<wB^L):k<64*L:=by
 have b:2^k<=tB^k:=fl (by decide) k;have c:tB^k<=m*tB^k:=Nat.le_mul_of_pos_left _ e;rw[show wB=2^64 from rfl,<-ge]at a;have d:2^k<2^(64*L):=eb (ed b (ed c h)) a
 rwa [Nat.pow_lt_pow_iff_right (by decide)]at d
theorem Wo(a:NI)(hs:a.sm=false)(W:okW a.v)(ar:(bf a.v.natAbs).length<=1000000):au prog 248 [eI a] (.str (bN a.v)):=by
 have L:=ny (eI a) a.v (lU a);have aF:=NI.yF (a:=a) (by rw[hs];decide);have ag:=ea (ch bn a.v.natAbs) (dz (show 0<wB by decide) (nu W));obtain⟨c,cs,w1⟩:=nJ hs;refine aI nf Dc mix (by simp[f248]) ?_;simp[f248,aa,w1,dA,cQ];refine c1 L ?_;simp;refine rC (fun s'=>∃b:List (List Nat),jA 0 b=jA a.v.natAbs []/\(∀p∈b,p≠[]/\p.length<=18)/\b≠[]/\b.length<=57600000/\aQ s'.env 3=.p (.bool (decide (a.v<0)))/\aQ s'.env 6=.sl 2 b.length 1 0 b.length/\∃o,s'.heap=[.hole,o,.arr .grow b.length 1 (b.map fun p=>.p (.str p))]) ?_ ?_
 ·refine lp (α:=Nat×List (List Nat)×Bool) (fun x=>⟨[(6,.sl 2 x.2.1.length 1 0 x.2.1.length),(5,.sl 1 0 1 0 1),(4,.p (eN x.1)),(3,.p (.bool (decide (a.v<0))))],[.hole,.arr (if x.2.2=true then .frozen else .exact) 0 1 [.p (.int .u64 1000000000000000000)],.arr .grow x.2.1.length 1 (x.2.1.map fun p=>.p (.str p))]⟩)
   (fun x=>x.1<=a.v.natAbs/\jA x.1 x.2.1=jA a.v.natAbs []/\(∀p∈x.2.1,p≠[]/\p.length<=18)/\x.2.1.length<=57600000/\x.1*tB^x.2.1.length<=a.v.natAbs) (fun x=>x.1) (a.v.natAbs,[],false) ⟨ec _,rfl,by simp,by simp,by simp⟩ ?_
  rintro⟨m,b,f⟩ ⟨k1,k2,k3,k5,k4⟩;dsimp only at k1 k2 k3 k5 k4;rcases f with _|_
  ·simp only[a0,if_false];have av:(aw wB m).length<=900000:=by
    have:=dJ bn _ _ (eb k1 (ch bn a.v.natAbs));have:=nu W;omega
   by_cases hm:m=0
   ·subst hm;have Y:b≠[]:=by
     rintro rfl;rw[jA,jA,if_pos rfl,if_neg (by omega)]at k2;have:=yi a.v.natAbs;rw[b1,c9,bo,bo]at k2;rw[<-k2]at this;simp at this
    simp[eN,kV];refine⟨b,k2,k3,Y,k5,?_⟩;simp
   ·have d:=B2 m tB (by decide) (by omega) (by rw[yO];decide);have X:aw wB m≠[]:=mt se.1 hm;have C:0<(aw wB m).length:=a5.2 X;have aN:=Jo hm b;have B:∀p∈b++[ez m],p≠[]/\p.length<=18:=by
     intro p L;rcases dg.1 L with h|h
     ·exact k3 p h
     ·rw[cx.1 h];exact⟨Im m,Io m⟩
    have A:m/tB<m:=fv (by omega) (by decide);have ay:=Lt (show 0<m by omega) k4 ag;have w:m/tB*tB^(b++[ez m]).length<=a.v.natAbs:=by
     rw[bb,a7,eo,e8 (tB^b.length),<-eq];exact ed (fb _ (fm _ _)) k4
    have y:(b++[ez m]).length<=57600000:=by rw[bb,a7];omega
    have r:m% tB<tB:=gi _ (by decide);have O:m/tB=0->m% tB=m:=fun h=>by have:=ee m tB;rw[h]at this;omega
    simp only[eN]at d⊢;rw[yO]at d;have N:=se (n:=m/tB);have J:=OC (m% tB) (ew r (by decide));have q:=OD [48] (18-(bf (m% tB)).length) (by omega) (by simp;omega);have az:=CA r;have Z:=Qd r;rw[BO]at q;have l:ez m=if m/tB=0 then bf (m% tB)else a9 (18-(bf (m% tB)).length) 48++bf (m% tB):=by
     rw[ez,Z];split
     ·rename_i h;rw[O h]
     ·rfl
    have s:a3.wrap (18-((bf (m% tB)).length:Int))=(18-(bf (m% tB)).length:Nat):=by rw[aP _ (by omega) (by omega)];omega
    have aC:((18-(bf (m% tB)).length:Nat):Int)=18-((bf (m% tB)).length:Int):=by omega
    have u:∀t,t=ez m->(b.map fun p=>AV.p (.str p))++[AV.p (.str t)]=(b++[ez m]).map fun p=>AV.p (.str p):=fun t e=>by rw[e];simp
    by_cases F:m% tB=0
    ·have j:¬m/tB=0:=fun h=>hm (by rw[<-O h];exact F);have E:0<(aw wB (m/tB)).length:=a5.2 (mt N.1 j);have e:a9 (18-(bf (m% tB)).length) 48++bf (m% tB)=ez m:=by rw[l,if_neg j]
     rw[F,qf]at e q s;rw[F,kV]at d;simp only[a7]at e q s;have hf:=u _ e;generalize D:aw wB (m/tB)=af at*;simp[C];refine cp d (by simp;exact⟨rfl,rfl⟩) ?_ (h1:=by simp[tB]);simp[E,s];refine c2 q ?_;simp;refine⟨by simp only[cW];omega,?_⟩;refine rd (m/tB,b++[ez m],true) ⟨by omega,by rw[aN];exact k2,by simpa using B,y,w⟩ A (he:=by simp[D]) (hh:=by simp only[<-hf];simp) (hr2:=by simp only[<-hf];simp)
    ·have ac:aw wB (m% tB)=[m% tB]:=sR (by omega) (ew r (by decide));rw[ac]at d
     by_cases j:m/tB=0
     ·have e:bf (m% tB)=ez m:=by rw[l,if_pos j]
      have hf:=u _ e;rw[j,kV]at d;simp[C];refine cp d (by simp;exact⟨rfl,rfl⟩) ?_ (h1:=by simp[tB]);simp;refine c2 J ?_;simp;refine⟨by simp only[cW];omega,?_⟩;refine rd (m/tB,b++[ez m],true) ⟨by omega,by rw[aN];exact k2,by simpa using B,y,w⟩ A (he:=by simp[j,kV]) (hh:=by simp only[<-hf];simp) (hr2:=by simp only[<-hf];simp)
     ·have E:0<(aw wB (m/tB)).length:=a5.2 (mt N.1 j);have e:a9 (18-(bf (m% tB)).length) 48++bf (m% tB)=ez m:=by rw[l,if_neg j]
      have hf:=u _ e;generalize D:aw wB (m/tB)=af at*;simp[C];refine cp d (by simp;exact⟨rfl,rfl⟩) ?_ (h1:=by simp[tB]);simp;refine c2 J ?_;simp[E,s];refine c2 q ?_;simp;refine⟨by omega,by simp only[cW];omega,?_⟩;refine rd (m/tB,b++[ez m],true) ⟨by omega,by rw[aN];exact k2,by simpa using B,y,w⟩ A (he:=by simp[D]) (hh:=by simp only[<-hf];simp) (hr2:=by simp only[<-hf];simp)
  ·simp only[if_true];have av:(aw wB m).length<=900000:=by
    have:=dJ bn _ _ (eb k1 (ch bn a.v.natAbs));have:=nu W;omega
   by_cases hm:m=0
   ·subst hm;have Y:b≠[]:=by
     rintro rfl;rw[jA,jA,if_pos rfl,if_neg (by omega)]at k2;have:=yi a.v.natAbs;rw[b1,c9,bo,bo]at k2;rw[<-k2]at this;simp at this
    simp[eN,kV];refine⟨b,k2,k3,Y,k5,?_⟩;simp
   ·have d:=B2 m tB (by decide) (by omega) (by rw[yO];decide);have X:aw wB m≠[]:=mt se.1 hm;have C:0<(aw wB m).length:=a5.2 X;have aN:=Jo hm b;have B:∀p∈b++[ez m],p≠[]/\p.length<=18:=by
     intro p L;rcases dg.1 L with h|h
     ·exact k3 p h
     ·rw[cx.1 h];exact⟨Im m,Io m⟩
    have A:m/tB<m:=fv (by omega) (by decide);have ay:=Lt (show 0<m by omega) k4 ag;have w:m/tB*tB^(b++[ez m]).length<=a.v.natAbs:=by
     rw[bb,a7,eo,e8 (tB^b.length),<-eq];exact ed (fb _ (fm _ _)) k4
    have y:(b++[ez m]).length<=57600000:=by rw[bb,a7];omega
    have r:m% tB<tB:=gi _ (by decide);have O:m/tB=0->m% tB=m:=fun h=>by have:=ee m tB;rw[h]at this;omega
    simp only[eN]at d⊢;rw[yO]at d;have N:=se (n:=m/tB);have J:=OC (m% tB) (ew r (by decide));have q:=OD [48] (18-(bf (m% tB)).length) (by omega) (by simp;omega);have az:=CA r;have Z:=Qd r;rw[BO]at q;have l:ez m=if m/tB=0 then bf (m% tB)else a9 (18-(bf (m% tB)).length) 48++bf (m% tB):=by
     rw[ez,Z];split
     ·rename_i h;rw[O h]
     ·rfl
    have s:a3.wrap (18-((bf (m% tB)).length:Int))=(18-(bf (m% tB)).length:Nat):=by rw[aP _ (by omega) (by omega)];omega
    have aC:((18-(bf (m% tB)).length:Nat):Int)=18-((bf (m% tB)).length:Int):=by omega
    have u:∀t,t=ez m->(b.map fun p=>AV.p (.str p))++[AV.p (.str t)]=(b++[ez m]).map fun p=>AV.p (.str p):=fun t e=>by rw[e];simp
    by_cases F:m% tB=0
    ·have j:¬m/tB=0:=fun h=>hm (by rw[<-O h];exact F);have E:0<(aw wB (m/tB)).length:=a5.2 (mt N.1 j);have e:a9 (18-(bf (m% tB)).length) 48++bf (m% tB)=ez m:=by rw[l,if_neg j]
     rw[F,qf]at e q s;rw[F,kV]at d;simp only[a7]at e q s;have hf:=u _ e;generalize D:aw wB (m/tB)=af at*;simp[C];refine cp d (by simp;exact⟨rfl,rfl⟩) ?_ (h1:=by simp[tB]);simp[E,s];refine c2 q ?_;simp;refine⟨by simp only[cW];omega,?_⟩;refine rd (m/tB,b++[ez m],true) ⟨by omega,by rw[aN];exact k2,by simpa using B,y,w⟩ A (he:=by simp[D]) (hh:=by simp only[<-hf];simp) (hr2:=by simp only[<-hf];simp)
    ·have ac:aw wB (m% tB)=[m% tB]:=sR (by omega) (ew r (by decide));rw[ac]at d
     by_cases j:m/tB=0
     ·have e:bf (m% tB)=ez m:=by rw[l,if_pos j]
      have hf:=u _ e;rw[j,kV]at d;simp[C];refine cp d (by simp;exact⟨rfl,rfl⟩) ?_ (h1:=by simp[tB]);simp;refine c2 J ?_;simp;refine⟨by simp only[cW];omega,?_⟩;refine rd (m/tB,b++[ez m],true) ⟨by omega,by rw[aN];exact k2,by simpa using B,y,w⟩ A (he:=by simp[j,kV]) (hh:=by simp only[<-hf];simp) (hr2:=by simp only[<-hf];simp)
     ·have E:0<(aw wB (m/tB)).length:=a5.2 (mt N.1 j);have e:a9 (18-(bf (m% tB)).length) 48++bf (m% tB)=ez m:=by rw[l,if_neg j]
      have hf:=u _ e;generalize D:aw wB (m/tB)=af at*;simp[C];refine cp d (by simp;exact⟨rfl,rfl⟩) ?_ (h1:=by simp[tB]);simp;refine c2 J ?_;simp[E,s];refine c2 q ?_;simp;refine⟨by omega,by simp only[cW];omega,?_⟩;refine rd (m/tB,b++[ez m],true) ⟨by omega,by rw[aN];exact k2,by simpa using B,y,w⟩ A (he:=by simp[D]) (hh:=by simp only[<-hf];simp) (hr2:=by simp only[<-hf];simp)
 ·rintro⟨aE,aG⟩ ⟨b,q1,aD,T,q4,ao,R,o,ai⟩;dsimp only at ao R ai;subst ai;have aA:0<b.length:=a5.2 T;have ab:bf a.v.natAbs=b.reverse.flatten:=by rw[<-Wd,q1,jA,if_neg (by omega)];simp
  obtain⟨neg,K⟩:∃neg:Bool,neg=decide (a.v<0):=⟨_,rfl⟩
  obtain⟨Q,M⟩:∃Q:List Nat,Q=if neg=true then[45]else[]:=⟨_,rfl⟩
  have aj:bN a.v=Q++b.reverse.flatten:=by
   rw[bN,<-ab,M,K]
   by_cases h:a.v<0
   ·simp[h]
   ·simp[h]
  obtain⟨g,H⟩:∃g:Nat->List Nat,g=fun k=>Q++(b.reverse.take k).flatten:=⟨_,rfl⟩
  have I:g b.length=bN a.v:=by rw[H,aj];dsimp only;rw[a6 (by simp)]
  have aB:∀k,(b.reverse.take k).flatten.length<=1000000:=fun k=>by
   have ap:b.reverse.flatten=(b.reverse.take k).flatten++(b.reverse.drop k).flatten:=by rw[<-ck,bp]
   rw[ab,ap,bb]at ar;omega
  have aH:Q.length<=1:=by rw[M];split<;>simp
  have U:∀k,(g k).length<=1000001:=fun k=>by rw[H];dsimp only;rw[bb];have:=aB k;omega
  have l:∀k(h:k<b.length),g (k+1)=g k++b[b.length-1-k]'(by omega):=fun k h=>by
   rw[H];dsimp only;rw[bl (by simpa using h),ck,List.getElem_reverse,<-List.append_assoc];simp
  have aq:∀c∈bN a.v,c<256:=by
   intro c hc;rw[bN]at hc;have d:=qR a.v.natAbs;rw[List.all_eq_true]at d
   split at hc
   ·rcases dl.1 hc with h|h
    ·omega
    ·exact Kl (d c h)
   ·exact Kl (d c hc)
  have ad:a3.wrap ((b.length:Int)-1)=b.length-1:=aP _ (by omega) (by omega);have al:∀i(h:i<b.length),b[i]≠[]/\b[i].length<=18:=fun i h=>aD _ (b2 h);have G:=ZY (g b.length) (if neg=true then b.length else b.length-1) (g b.length).length rfl (by rw[I,aj];intro h;rw[List.append_eq_nil_iff,<-ab]at h;have:=yi a.v.natAbs;rw[h.2]at this;simp at this) (by have:=U b.length;omega) (by rw[I];exact aq);simp[ao,R,ad]
  by_cases S:a.v<0
  ·rw[decide_eq_true S]at K;subst K;have ax:g 0=[45]:=by rw[H,M];simp
   simp only[if_true]at G;simp[S];refine cf (O0 [45] (by simp) (by simp)) [3] ?_;simp[bc,sig,R,ad];refine lp (α:=Nat) (fun k=>⟨[(11,.p (.int .i64 ((b.length:Int)-1-k))),(10,.ptr 3 []),(6,.sl 2 b.length 1 0 b.length)],[.hole,.hole,.arr .grow b.length 1 (b.map fun p=>.p (.str p)),.box false (.st 359 [.ptr 3 [],.sl 4 k 1 0 (g k).length]),.arr .bytes k 1 (dG (g k))]⟩)
    (fun k=>k<=b.length) (fun k=>b.length-k) 0 (by simp) ?_ (he:=by simp[R]) (hh:=by simp[ax,dG]) (hr2:=by simp[dG])
   intro k hk
   by_cases z:k<b.length
   ·have w1:a3.wrap ((b.length:Int)-1-k-1)=b.length-1-(k+1:Nat):=by rw[aP _ (by omega) (by omega)];omega
    have e1:((b.length:Int)-1-k).toNat=b.length-1-k:=by omega
    have g1:(k:Int)<=(b.length:Int)-1:=by omega
    have P:b.length-1-k<b.length:=by omega
    have hx:=al _ P;have ae:=O1 (g k) (b[b.length-1-k]) k (g k).length rfl hx.1 (by omega) (by have:=U k;omega);simp[g1,e1,P,T];refine cf ae [3,4] ?_ (al:=by simp[sig,dG]) (aM:=by simp[sig]) (hr:=by simp[dG]);simp[sig,dG,bc,w1,BP];refine rd (k+1) z (he:=by simp[l k z]) (hh:=by simp[l k z,dG]) (hr2:=by simp[dG])
   ·have V:k=b.length:=by omega
    subst V;have g2:¬(b.length:Int)<=(b.length:Int)-1:=by omega
    simp[g2];refine cf G [3,4] ?_ (al:=by simp[sig,dG]) (aM:=by simp[sig]) (hr:=by simp[dG]);simp[sig,bc,I]
  ·rw[decide_eq_false S]at K;subst K;simp only[a0,if_false]at G M;have ah:g 1=b[b.length-1]:=by rw[l 0 aA,H];simp[M]
   have an:b.length-1<b.length:=by omega
   have am:=al _ an;have ak:=O0 (b[b.length-1]) am.1 (by omega);rw[<-ah]at ak am;simp[S,ad]
   refine lp (α:=Option Nat) (fun st=>match st with
     |none=>⟨[(11,.p (.int .i64 ((b.length:Int)-1))),(10,.ptr 3 []),(6,.sl 2 b.length 1 0 b.length)],[.hole,.hole,.arr .grow b.length 1 (b.map fun p=>.p (.str p)),.box false (.p (.st 359 [.dH,.aO]))]⟩
     |some k=>⟨[(11,.p (.int .i64 ((b.length:Int)-1-(k+1)))),(10,.ptr 3 []),(6,.sl 2 b.length 1 0 b.length)],[.hole,.hole,.arr .grow b.length 1 (b.map fun p=>.p (.str p)),.box false (.st 359 [.ptr 3 [],.sl 4 k 1 0 (g (k+1)).length]),.arr .bytes k 1 (dG (g (k+1)))]⟩)
    (fun st=>match st with
     |none=>True
     |some k=>k+1<=b.length) (fun st=>match st with
     |none=>b.length+1
     |some k=>b.length-(k+1)) none trivial ?_ (he:=by simp[R])
   intro st hk;cases st with
   |none=>
    have w1:a3.wrap ((b.length:Int)-1-1)=b.length-1-(0+1):=by rw[aP _ (by omega) (by omega)];omega
    have e1:((b.length:Int)-1).toNat=b.length-1:=by omega
    have g1:(1:Int)<=(b.length:Int):=by omega
    simp[g1,e1,an,T,<-ah];refine cf ak [3] ?_;simp[bc,sig,w1];refine rd (some 0) (by show 0+1<=b.length;omega) (by show b.length-(0+1)<b.length+1;omega) (he:=by simp) (hh:=by simp[dG]) (hr2:=by simp[dG])
   |some k=>
    have hk:k+1<=b.length:=hk
    by_cases z:k+1<b.length
    ·have w1:a3.wrap ((b.length:Int)-1-(k+1)-1)=b.length-1-(k+1+1):=by rw[aP _ (by omega) (by omega)];omega
     have e1:((b.length:Int)-1-(k+1)).toNat=b.length-1-(k+1):=by omega
     have g1:(k:Int)+1<=(b.length:Int)-1:=by omega
     have P:b.length-1-(k+1)<b.length:=by omega
     have hx:=al _ P;have ae:=O1 (g (k+1)) (b[b.length-1-(k+1)]) k (g (k+1)).length rfl hx.1 (by omega) (by have:=U (k+1);omega);simp[g1,e1,P,T];refine cf ae [3,4] ?_ (al:=by simp[sig,dG]) (aM:=by simp[sig]) (hr:=by simp[dG]);simp[sig,dG,bc,w1,BP];refine rd (some (k+1)) z (by show b.length-(k+1+1)<b.length-(k+1);omega) (he:=by simp[l (k+1) z]) (hh:=by simp[l (k+1) z,dG]) (hr2:=by simp[dG])
    ·have V:b.length=k+1:=by omega
     have g2:¬(k:Int)+1<=(b.length:Int)-1:=by omega
     rw[V]at G I;rw[ei]at G;simp[g2];refine cf G [3,4] ?_ (al:=by simp[sig,dG]) (aM:=by simp[sig]) (hr:=by simp[dG]);simp[sig,bc,I]
theorem B3(a:NI)(c:okW a.v)(b:(bf a.v.natAbs).length<=1000000):au prog 248 [eI a] (.str (bN a.v)):=by
 rcases h:a.sm with _|_
 ·exact Wo a h c b
 ·exact Wp a h
open Go
theorem I5:∀(r:List Nat)(a:Nat),a<=r.foldl (fun n c=>n*10+(c-48)) a
 |[],a=>ec _
 |x::r,a=>ed (show a<=a*10+(x-48)by omega) (I5 r _)
theorem IM:∀(d:List Nat)(a:Nat),d.all cq=true->d.foldl (fun n c=>n*10+(c-48)) a<1000000000000000000->Lib.parseUint10 a (d.map gt)=.ok (d.foldl (fun n c=>n*10+(c-48)) a)
 |[],a,_,_=>rfl
 |c::r,a,h,b=>by
  simp only[cb,aT]at h;have hc:=h.1;simp only[cq,aT,decide_eq_true_eq]at hc;have f:=I5 r (a*10+(c-48));rw[b4]at b⊢;have e:(gt c).toNat=c:=by simp;omega
  rw[be,Lib.parseUint10,e,if_pos hc,if_neg (by omega),if_neg (by omega)];exact IM r _ h.2 b
theorem Xr{d:List Nat}(h:d.all cq=true)(b:d≠[])(f:d.length<=18):Lib.atoiAll (d.map gt)=.ok (aZ d):=by
 have i:=jl _ d rfl h;have j:10^d.length<=10^18:=dz (by omega) f;cases d with
 |nil=>exact(b rfl).elim
 |cons c r=>
  have hc:=(aT ..▸(cb▸h):cq c=true/\r.all cq=true).1;simp only[cq,aT,decide_eq_true_eq]at hc;have e:(gt c).toNat=c:=by simp;omega
  have g:aZ (c::r)<1000000000000000000:=by omega
  have a:=IM (c::r) 0 h g;rw[<-aZ]at a;rw[be]at a;rw[be,Lib.atoiAll];simp only[e];rw[if_neg (by omega),Lib.parseMag,if_neg (by simp),a];dsimp only;rw[if_neg (by omega),if_neg (by omega),if_neg (by omega)]
theorem Bx:∀(b:List Nat)(x:Nat),b.foldl (fun n c=>n*10+(c-48)) x=x*10^b.length+aZ b
 |[],x=>by simp[aZ]
 |c::b,x=>by
  rw[aZ,b4,b4,Bx b,Bx b (0*10+(c-48)),c6,eo,gg,eq,e8 10];simp[fw]
theorem Jk(a b:List Nat):aZ (a++b)=aZ a*10^b.length+aZ b:=by
 rw[aZ,List.foldl_append,Bx];rfl
theorem KF(k:Nat):10^k<=2^(4*k):=by
 rw[ge];exact fl (by decide) k
theorem Js{a K:Nat}(h:4*a<=K):10^a<=2^K:=ed (KF a) (dz (by decide) h)
theorem vg{n k:Nat}(h:n<2^k)(hk:k<=3*1000000):(bf n).length<=1000000:=
 Dq h hk (by decide)
theorem Yb(a:NF)(h:bL kB a.q):au prog 164 [eF a] (.str (bg a.q)):=by
 have f:kB=100000:=rfl;have w:=BD a;have c:=B3 a.num (ig h.1 pF) (vg h.1 (by omega));have d:=B3 a.den (ig (by rw[jW];exact h.2) pF) (vg (by rw[jW];exact h.2) (by omega));rw[kT]at c;rw[jr,um]at d;have g:=vg h.1 (show kB<=3*1000000 by omega);have i:=vg h.2 (show kB<=3*1000000 by omega);have j:=Cm a.q.num;refine aI nf Ol mix (by simp[f164]) ?_;rw[bg]
 by_cases b:a.q.den=1
 ·have e:a.ft=true:=by simp[NF.ft,b]
  rw[e]at w;rw[if_pos b];simp[f164];refine c1 w ?_;simp[aa];refine c1 c ?_;simp
 ·have e:a.ft=false:=by simp[NF.ft,b]
  rw[e]at w;rw[if_neg b];simp[f164];refine c1 w ?_;simp[aa];refine e1 c ?_;simp[aa];refine⟨by omega,?_⟩;refine e1 d ?_;simp;omega
def kR:Nat:=2800
theorem yI(s:List Nat)(i:(c7 s).all cq=true)(E:(c7 s).length<=700):au prog 251 [.str s] (eI (.mk' (if bX s=true then -(aZ (c7 s):Int)else aZ (c7 s)))):=by
 refine aI nf Md mix (by simp[f251]) ?_;simp[f251];refine c2 (XN s) ?_;simp;refine c2 (IQ s) ?_;simp;generalize c7 s=d at*;generalize bX s=neg at*;have w:eQ 0=eI (.mk' 0):=(nP (by decide) (by decide)).symm;rw[show PV.st 128 [.int .i64 0,.aO]=eI (.mk' 0)from w];refine lp (α:=List Nat×NI) (fun x=>⟨[(4,.ptr 1 []),(3,.p (.bool neg)),(2,.ptr 0 []),(0,.p (.str x.1))],[.box false (.p (eI (.mk' 0))),.box false (.p (eI x.2))]⟩)
  (fun x=>∃m:Nat,x.2.v=m/\m*10^x.1.length+aZ x.1=aZ d/\x.1.all cq=true/\x.1.length<=700/\m<2^kR) (fun x=>x.1.length) (d,.mk' 0) ⟨0,rfl,by simp,i,E,e9 (by decide)⟩ ?_
 rintro⟨r,o⟩ ⟨m,k1,k2,k3,k4,k5⟩;dsimp only at k1 k2 k3 k4 k5;have S:kR=2800:=rfl;have c:o.v.natAbs<2^kR:=by rw[k1,a4];exact k5
 have I:okW o.v:=ig c (by have:kB=100000:=rfl;omega)
 by_cases f:r=[]
 ·subst f;have u:o.v=aZ d:=by rw[k1];simp[aZ]at k2⊢;omega
  cases neg
  ·have e:eI (.mk' (aZ d:Nat))=eI o:=mI (by rw[NI.iD,u]) (fun h=>by rw[NI.iD]at h;omega);simp;rw[e];simp[aa]
  ·have e:eI (.mk' (-(aZ d:Nat)))=eI o.neg:=by rw[NI.neg,u]
   simp;rw[e];refine c1 (th o I) ?_;simp[aa]
 ·have L:0<r.length:=a5.2 f;obtain⟨n,U⟩:∃n,n=min 18 r.length:=⟨_,rfl⟩
  have j:n<=r.length:=by omega
  have V:0<n:=by omega
  have G:n<=18:=by omega
  have H:(if(r.length:Int)<18 then(r.length:Int)else 18)=n:=by split<;>omega
  have g:(r.take n).length=n:=by rw[cy];omega
  have a:=k3;rw[<-bp n r,List.all_append,aT]at a;have N:=jl _ (r.take n) rfl a.1;have C:=Yj (r.take n) (aZ (r.take n)) (Xr a.1 (by intro e;rw[e]at g;simp at g;omega) (by omega)) (by omega);rw[g]at N;have q:10^n<=10^18:=dz (by decide) G;have z:10^n<wB^1:=by rw[gc];exact eb q (by decide)
  have A:((10^n:Nat):Int).natAbs<2^64:=by rw[a4];exact eb q (by decide)
  have O:=dJ bn 1 _ z;have W:=xS c;have P:kB=100000:=rfl;have X:=jl _ d rfl i;have Q:10^d.length<=2^kR:=Js (by have:kR=2800:=rfl;omega);have J:=X8 (.of 10) n (10^n) (by decide) rfl (by omega) (by decide) (by omega);have F:=zi o (.mk' (10^n:Nat)) (by rw[NI.iD,a4];omega);have B:=vK (o.mul (.mk' (10^n:Nat))) (.of (aZ (r.take n):Nat)) (ig (oD (x:=o.v) (y:=((10^n:Nat):Int)) c A) (by omega)) (ig (k:=64) (show((aZ (r.take n):Nat):Int).natAbs<2^64 by rw[a4];omega) (by omega));have l:=rA (aZ (r.take n):Nat);rw[<-tt (by omega) (by omega)]at l;have t:=rA 10;rw[<-tt (by decide) (by decide)]at t;have M:aZ r=aZ (r.take n)*10^(r.drop n).length+aZ (r.drop n):=by rw[<-Jk,bp]
  have K:r.length=n+(r.drop n).length:=by rw[List.length_drop];omega
  have D:(m*10^n+aZ (r.take n))*10^(r.drop n).length+aZ (r.drop n)=aZ d:=by
   rw[<-k2,M,K,Nat.pow_add,gg,eq,fw]
  generalize 10^n=T at*;generalize Y:aZ (r.take n)=b at*;have R:m*T+b<=aZ d:=by
   have:=Nat.le_mul_of_pos_right (m*T+b) (show 0<10^(r.drop n).length from e9 (by decide));omega
  simp[f,L,H];refine⟨j,?_⟩;refine c1 C ?_;simp;refine e1 t ?_;simp;refine e2 J ?_;simp[aa];refine e2 F ?_;simp;refine e1 l ?_;simp;refine e2 B ?_;simp[aa];refine⟨rfl,j,?_⟩;refine rd (r.drop n,(o.mul (.mk' T)).add (.of b)) ⟨m*T+b,by rw[NI.rj,NI.lQ,NI.iD,k1];rfl,D,a.2,by dsimp only;omega,by omega⟩ (by dsimp only;omega)
theorem BV{s:List Nat}(h:dE s=true):bX s=false/\c7 s=s:=by
 have b:=jH h;have:bX s=false:=by
  rw[bX,decide_eq_false_iff_not];intro a;cases s with
  |nil=>simp at a
  |cons c r=>
   simp at a;subst a;rw[cb,aT]at b;simp[cq]at b
 exact⟨this,by rw[c7,this];rfl⟩
theorem I8(s:List Nat):bX (b6 47 s).1=bX s/\c7 (b6 47 s).1=bE s/\(b6 47 s).2.1=bP s/\(b6 47 s).2.2=er s:=by
 cases s with
 |nil=>exact⟨rfl,rfl,rfl,rfl⟩
 |cons c r=>
  by_cases h:c=45
  ·subst h;have e:b6 47 (45::r)=(45::(b6 47 r).1,(b6 47 r).2.1,(b6 47 r).2.2):=by rw[b6,if_neg (by decide)]
   rw[e];exact⟨rfl,rfl,rfl,rfl⟩
  ·have b:bX (c::r)=false:=by rw[bX,decide_eq_false_iff_not];simpa using h
   have a:c7 (c::r)=c::r:=by rw[c7,b];rfl
   have d:bX (b6 47 (c::r)).1=false:=by
    rw[bX,decide_eq_false_iff_not,b6]
    split
    ·simp
    ·simpa using h
   refine⟨by rw[b,d],?_,?_,?_⟩
   ·rw[c7,d,bE,a];rfl
   ·rw[bP,a]
   ·rw[er,a]
theorem XG{s:List Nat}(h:b7 s=0):dE (bE s)=true/\(bE s).length<=600/\(bP s).length<=600/\(er s=true->dE (bP s)=true):=by
 unfold b7 at h
 split at h
 ·cases h
 rename_i a
 split at h
 ·cases h
 rename_i d;have a:mH s=true:=by simpa using a
 simp only[mH,aT,Bool.or_eq_true,Bool.not_eq_true']at a;refine⟨a.1.1,by omega,by omega,fun c=>?_⟩;rcases a.2 with b|b
 ·rw[c]at b;cases b
 ·exact b.1.1
theorem Sb(z:Int):c7 (bN z)=bf z.natAbs:=by
 have:=(xF z []).2;simpa using this
theorem sC(c:Nat):∀s:List Nat,(b6 c s).1.length<=s.length/\(b6 c s).2.1.length<=s.length/\(∀x∈(b6 c s).1,x∈s)/\(∀x∈(b6 c s).2.1,x∈s)
 |[]=>by simp[b6]
 |y::r=>by
  have a:=sC c r;rw[b6]
  split
  ·simp;intro x hx;exact .inr hx
  ·simp only[c6,dl];refine⟨by omega,by omega,?_,fun x hx=>.inr (a.2.2.2 x hx)⟩;rintro x (rfl|hx)
   ·exact .inl rfl
   ·exact .inr (a.2.2.1 x hx)
theorem oF(s:List Nat):(c7 s).length<=s.length/\∀x∈c7 s,x∈s:=by
 rw[c7]
 split
 ·exact⟨by simp,fun x hx=>List.mem_of_mem_tail hx⟩
 ·exact⟨ec _,fun _ h=>h⟩
theorem kX(s:List Nat)(h:b7 s=0)(n:s.length<=1048576):au prog 166 [.str s] (eF ⟨bd s,false⟩):=by
 obtain⟨l,t,u,m⟩:=XG h;obtain⟨o,f,p,q⟩:=I8 s;obtain⟨q1,r,a⟩:=jG h;have b:=OB s 47 n;rw[p,q]at b;have c:=yI (b6 47 s).1 (by rw[f];exact jH l) (by rw[f];omega);rw[o,f]at c;have j:eI (NF.mk (bd s) false).num=eI (.mk' (if bX s=true then -(aZ (bE s):Int)else aZ (bE s))):=by
  show eI ⟨(bd s).num,false⟩=_;rw[r];rfl
 rw[<-j]at c;refine aI nf Oj mix (by simp[f166]) ?_;cases hf:er s
 ·rw[hf]at b a;simp only[a0,if_false]at a;have e:(NF.mk (bd s) false).den=.mk' 1:=by
   show NI.mk' ((bd s).den:Int)=_;rw[a];rfl
  have i:=CI (NF.mk (bd s) false).num;have k:eF (.whole (NF.mk (bd s) false).num)=eF ⟨bd s,false⟩:=by
   rw[eF,eF,e];rfl
  rw[k]at i;simp[f166];refine c2 b ?_;simp;refine c1 c ?_;simp;refine c1 i ?_;simp[aa]
 ·rw[hf]at b a;simp only[if_true]at a;have g:=m hf;obtain⟨d1,d2⟩:=BV g;have d:=yI (bP s) (by rw[d2];exact jH g) (by rw[d2];omega);rw[d1,d2]at d;simp only[a0,if_false]at d;have e:eI (NF.mk (bd s) false).den=eI (.mk' (aZ (bP s):Nat)):=by
   show eI (NI.mk' ((bd s).den:Int))=_;rw[a]
  rw[<-e]at d;rw[eF];simp[f166];refine c2 b ?_;simp;refine c1 c ?_;simp;refine c1 d ?_;simp[aa]
def l6(n:Nat):Bool:=decide (600<(bf n).length)
theorem Nq(a:NI)(h:a.v.natAbs<2^kB):au prog 192 [eI a] (.bool (l6 a.v.natAbs)):=by
 have l:kB=100000:=rfl;have d:=ig h pF;have g:=XX a d;have i:=B3 a d (vg h (by omega));have c:=IQ (bN a.v);rw[Sb]at c;refine aI nf N9 mix (by simp[f192]) ?_;simp[f192];refine c1 g ?_
 by_cases j:1800<nQ a.v.natAbs
 ·have b:(1800:Int)<(nQ a.v.natAbs:Nat):=by omega
  have e:decide ((600:Int)<((bf a.v.natAbs).length:Nat))=l6 a.v.natAbs:=by rw[l6,decide_eq_decide];omega
  simp[b];refine c1 i ?_;simp;refine c2 c ?_;simp[l6];omega
 ·have f:=ea (JN a.v.natAbs) (dz (show 0<2 by decide) (show nQ a.v.natAbs<=3*600 by omega));have k:=HM f (by decide);have e:l6 a.v.natAbs=false:=by rw[l6,decide_eq_false_iff_not];omega
  have b:¬(1800:Int)<(nQ a.v.natAbs:Nat):=by omega
  simp[b,e]
def DN(q:Rat):Bool:=l6 q.num.natAbs||l6 q.den
theorem X3(a:NF)(h:bL kB a.q):au prog 106 [eF a] (.bool (DN a.q)):=by
 have b:=Nq a.num h.1;have c:=Nq a.den (by rw[jW];exact h.2);rw[kT]at b;rw[jW]at c;refine aI nf ND mix (by simp[f106]) ?_;rw[DN];cases hc:l6 a.q.num.natAbs
 ·rw[hc]at b;simp[f106,aa];refine c1 b ?_;simp[aa];refine c1 c ?_;simp
 ·rw[hc]at b;simp[f106,aa];refine c1 b ?_;simp
def vJ:List (Nat×Func)->a1->Option Func
 |[],_=>none
 |(i,g)::r,f=>bif Nat.beq i f then some g else vJ r f
def Af(P:Program):List (Nat×Func)->Prop
 |[]=>True
 |p::r=>aq P p.1 p.2/\Af P r
theorem Kh{P:Program}:∀{l:List (Nat×Func)},Af P l->∀{f:Nat}{fn:Func},vJ l f=some fn->aq P f fn
 |[],_,f,fn,h=>by simp[vJ]at h
 |(i,g)::r,a,f,fn,h=>by
  simp only[vJ,Bool.cond_eq_ite]at h
  split at h
  ·rename_i hf;simp only[gm]at h;subst h;rw[<-Nat.eq_of_beq_eq_true hf];exact a.1
  ·exact Kh a.2 h
noncomputable def Qt:List (Nat×Func):=[(2,f2),(3,f3),(4,f4),(5,f5),(6,f6),(7,f7),(8,f8),(9,f9),(10,f10),(11,f11),(12,f12),(13,f13),(14,f14),(15,f15),(16,f16),(17,f17),(18,f18),(19,f19),(20,f20),(21,f21),(22,f22),(23,f23),(24,f24),(25,f25),(26,f26),(27,f27),(28,f28),(29,f29),(30,f30),(31,f31),(32,f32),(33,f33),(34,f34),(35,f35),(36,f36),(37,f37),(38,f38),(39,f39),(40,f40),(41,f41),(42,f42),(43,f43),(44,f44),(45,f45),(46,f46),(47,f47),(48,f48),(49,f49),(50,f50),(51,f51),(52,f52),(53,f53),(54,f54),(55,f55),(56,f56),(57,f57),(58,f58),(59,f59),(60,f60),(61,f61),(62,f62),(63,f63),(64,f64),(65,f65),(66,f66),(67,f67),(68,f68),(69,f69),(70,f70),(71,f71),(72,f72),(73,f73),(74,f74),(75,f75),(76,f76),(77,f77),(78,f78),(79,f79),(80,f80),(81,f81),(82,f82),(83,f83),(84,f84),(85,f85),(86,f86),(87,f87),(88,f88),(89,f89),(90,f90),(91,f91),(92,f92),(93,f93),(94,f94),(95,f95),(96,f96),(97,f97),(98,f98),(99,f99),(100,f100),(101,f101),(102,f102),(103,f103),(104,f104),(105,f105),(106,f106),(107,f107),(108,f108),(109,f109),(110,f110),(111,f111),(112,f112),(113,f113),(114,f114),(115,f115),(116,f116),(117,f117),(118,f118),(119,f119),(120,f120),(121,f121),(122,f122),(123,f123),(124,f124),(125,f125),(126,f126),(127,f127),(128,f128),(129,f129),(130,f130),(131,f131),(132,f132),(133,f133),(134,f134),(135,f135),(136,f136),(137,f137),(138,f138),(139,f139),(140,f140),(141,f141),(142,f142),(143,f143),(144,f144),(145,f145),(146,f146),(147,f147),(148,f148),(149,f149),(150,f150),(151,f151),(152,f152),(153,f153),(154,f154),(155,f155),(156,f156),(157,f157),(158,f158),(159,f159),(160,f160),(161,f161),(162,f162),(163,f163),(164,f164),(165,f165),(166,f166),(167,f167),(168,f168),(169,f169),(170,f170),(171,f171),(172,f172),(173,f173),(174,f174),(175,f175),(176,f176),(177,f177),(178,f178),(179,f179),(180,f180),(181,f181),(182,f182),(183,f183),(184,f184),(185,f185),(186,f186),(187,f187),(188,f188),(189,f189),(190,f190),(191,f191),(192,f192),(193,f193),(194,f194),(195,f195),(196,f196),(197,f197),(198,f198),(199,f199),(200,f200),(201,f201),(202,f202),(203,f203),(204,f204),(205,f205),(206,f206),(207,f207),(208,f208),(209,f209),(210,f210),(211,f211),(212,f212),(213,f213),(214,f214),(215,f215),(216,f216),(217,f217),(218,f218),(219,f219),(220,f220),(221,f221),(222,f222),(223,f223),(224,f224),(225,f225),(226,f226),(227,f227),(228,f228),(229,f229),(230,f230),(231,f231),(232,f232),(233,f233),(234,f234),(235,f235),(236,f236),(237,f237),(238,f238),(239,f239),(240,f240),(241,f241),(242,f242),(243,f243),(244,f244),(245,f245),(246,f246),(247,f247),(248,f248),(249,f249),(250,f250),(251,f251),(252,f252),(253,f253),(254,f254),(255,f255),(256,f256),(257,f257),(258,f258),(259,f259),(260,f260),(261,f261),(262,f262),(263,f263),(264,f264),(265,f265),(266,f266),(267,f267),(268,f268),(269,f269),(270,f270),(271,f271),(272,f272),(273,f273),(274,f274),(275,f275),(276,f276),(277,f277),(278,f278),(279,f279),(280,f280),(281,f281),(282,f282),(283,f283),(284,f284),(285,f285),(286,f286),(287,f287),(288,f288),(289,f289),(290,f290),(291,f291),(292,f292),(293,f293),(294,f294),(295,f295),(296,f296),(297,f297),(298,f298),(299,f299),(300,f300),(301,f301),(302,f302),(303,f303),(304,f304),(305,f305),(306,f306),(307,f307),(308,f308),(309,f309),(310,f310),(311,f311),(313,f313),(314,f314),(315,f315),(316,f316),(317,f317),(318,f318),(319,f319),(320,f320),(321,f321),(322,f322),(323,f323),(324,f324),(325,f325),(326,f326),(327,f327),(328,f328),(329,f329),(330,f330),(331,f331),(332,f332),(333,f333),(334,f334),(335,f335),(336,f336),(337,f337),(338,f338),(339,f339),(340,f340),(341,f341),(342,f342),(343,f343),(344,f344),(345,f345),(346,f346),(347,f347),(348,f348),(349,f349),(351,f351),(352,f352),(353,f353),(354,f354),(355,f355),(356,f356),(357,f357),(358,f358),(360,f360),(362,f362),(363,f363),(364,f364),(365,f365),(366,f366),(367,f367),(368,f368),(369,f369),(370,f370),(371,f371),(372,f372),(373,f373),(374,f374),(375,f375),(376,f376),(377,f377),(378,f378),(379,f379),(382,f382),(383,f383),(384,f384),(385,f385),(386,f386),(387,f387),(388,f388),(389,f389),(390,f390),(391,f391),(392,f392),(393,f393),(394,f394),(395,f395),(396,f396),(397,f397),(398,f398),(432,f432)]
theorem aIM:Af prog Qt:=⟨azt,az2,aCp,aCE,vU,aDv,aDM,aEf,aiE,akR,aob,apV,Pa,avK,azj,Pb,azl,azr,Pc,azu,Pd,azK,Pe,Pf,Pg,azP,Ph,azZ,az3,az7,aAb,Pj,Pk,wT,Pm,DH,DI,Pn,Po,Pp,aCq,aCs,aCv,aCw,aCD,Pq,Pr,Ps,Pt,Pu,aCO,Pv,aCP,aCR,Pw,aCV,aCW,aCX,aC0,aC1,aC2,aC3,aDb,aDc,aDl,aDn,aDo,aDp,aDy,Px,aDE,Py,aDH,Pz,aDK,PA,PB,PC,PD,PE,aDW,PF,aDX,aDY,aEe,PG,PH,PI,PJ,PK,PL,aEg,PM,PN,PO,aEh,PQ,PR,aiN,aja,ajN,Fb,NG,ajY,ND,Fa,E9,FD,FC,FB,FA,amY,Fz,NC,NA,Nz,anS,Ny,aof,aog,F0,FZ,FY,FX,AL,FW,Gu,Gt,Gs,Gr,Gq,Gp,Gn,Gm,Gk,Gj,ara,asS,as0,ato,auo,aup,auN,Nx,Nw,Dd,Nv,Nu,Nt,Ns,Nr,awu,aww,awy,awD,ayU,ayV,aza,azk,Gi,On,Om,Ol,Ok,Oj,Oi,Oh,Og,Of,Oe,Od,Oc,Ob,Fy,Fx,Fw,Fv,Fu,Ft,Fs,Fq,Fp,Fo,Fm,azm,azo,azp,azq,Oa,azs,N9,Fl,Fk,Fj,Fi,N8,N7,Gg,Gf,Ge,Gd,Gc,Gb,Ga,F9,AJ,F8,ER,EP,EO,F7,F6,F5,Ao,azv,azw,azy,azz,azA,azB,azC,azD,azF,azG,azH,azI,azJ,N6,N5,N4,N3,N2,N1,NZ,NY,NX,Mk,Mj,Mi,EN,azL,F4,F3,Mh,yR,Mg,Dc,Mf,Me,Md,azM,Mc,Mb,vm,MK,MJ,MI,MH,EM,An,EL,MG,EK,EJ,EI,EH,E5,azO,azQ,Db,azR,MF,azS,F2,AH,E4,E3,E0,EZ,FL,FK,FJ,azT,azU,azV,azW,azX,azY,az0,az1,ME,MD,MC,MB,MA,Mz,FI,My,Mx,az4,Mw,Mv,az5,Da,Mu,Mt,Ms,az6,az8,Mr,Mq,Mp,az9,Mo,Mn,Mm,EY,Ml,Nf,Nd,aAc,aAd,FH,EX,EW,FG,FF,Nc,Nb,Na,aAe,M9,aAf,M8,M7,aAg,aAh,aAi,aAj,aAk,M6,aAl,aAm,aAo,aAq,aAr,M5,EV,aAs,aAt,aAu,aAw,aAx,aAy,aAz,aAA,aAB,aAC,aAD,aAE,aAF,aAG,aAH,aAI,aAJ,aAK,M0,MZ,aAL,aAM,aAN,aAO,aAP,aAQ,aAR,aAS,aAT,aAU,MY,aAV,aAW,aBg,aBn,aBP,aBT,aBV,aB7,aCa,aCk,aCl,aCn,aCu,trivial⟩
noncomputable def wu(a:a1->List PV->Option PV)(lh:a1->a1->Nat):mR:=⟨vJ Qt,a,fun _ _ _=>none,lh,fun _ _ _=>none⟩
theorem aHR{a:a1->List PV->Option PV}{lh:a1->a1->Nat}(h:∀f vs v,a f vs=some v->au prog f vs v):nI prog (wu a lh):=by
 refine⟨mix,fun f fn hf=>Kh aIM hf,fun f vs v hk=>h f vs v hk,fun f args H v H' hk=>?_,fun f args H al v hk=>?_⟩
 ·simp only[wu]at hk;cases hk
 ·simp only[wu]at hk;cases hk
noncomputable def Ql(a:a1->List PV->Option PV)(lh:a1->a1->Nat)(f:a1)(vs:List PV):Option PV:=pI prog nf (wu a lh) (ka prog nf (wu a lh) 20) f vs
theorem K5{facts:a1->List PV->Option PV}{lh:a1->a1->Nat}(h:∀f vs v,facts f vs=some v->au prog f vs v){f:a1}{vs:List PV}{v:PV}(a:Ql facts lh f vs=some v):au prog f vs v:=reckon 20 (aHR h) a
def noF:a1->List PV->Option PV:=fun _ _=>none
def pJ:PV:=.st 410 ((b5 256).map fun i=>.bool (cq i))
theorem J3(c:Nat)(hc:c<256):au prog 386 [.cm pJ,.int .u8 c] (.bool (cq c)):=by
 refine aI nf MY mix (by simp[f386]) ?_;have a:(b5 256)[c]?=some c:=ce hc;simp[f386,pJ,a,hc]
theorem TD(s:List Nat)(h:s.length<=1048576)(g:∀c∈s,c<256):au prog 372 [.str s,.cm pJ] (.str (kS s)):=by
 refine aI nf M0 mix (by simp[f372]) ?_;simp[f372];refine lp (α:=List Nat) (fun r=>⟨[(1,.p (.cm pJ)),(0,.p (.str r))],[]⟩) (fun r=>kS r=kS s/\r.length<=s.length/\∀c∈r,c<256) (fun r=>r.length) s (by exact⟨rfl,ec _,g⟩) ?_;rintro r ⟨a,f,b⟩;cases r with
 |nil=>
  have e:kS s=[]:=by rw[<-a];rfl
  simp[e]
 |cons x r=>
  have hx:=b x (by simp);have i:kS (x::r)=if cq x=true then kS r else x::r:=by
   rw[kS,cv];split<;>rfl
  rw[i]at a;have j:(0:Int)<(r.length:Int)+1:=by omega
  simp[j];refine c2 (J3 x hx) ?_;cases d:cq x
  ·rw[d]at a;simp[<-a]
  ·rw[d]at a;simp;exact rd r ⟨by simpa using a,by simp at f;omega,fun c hc=>b c (by simp[hc])⟩ (h1:=by simp)
theorem Tc(s:List Nat)(h:s.length<=1048576)(g:∀c∈s,c<256):au prog 373 [.str s,.cm pJ] (.str (iR s)):=by
 refine aI nf MZ mix (by simp[f373]) ?_;simp[f373];refine lp (α:=List Nat) (fun r=>⟨[(1,.p (.cm pJ)),(0,.p (.str r))],[]⟩) (fun r=>iR r=iR s/\r.length<=s.length/\∀c∈r,c<256) (fun r=>r.length) s (by exact⟨rfl,ec _,g⟩) ?_;rintro r ⟨a,b,d⟩;rcases List.eq_nil_or_concat r with rfl|⟨t,x,rfl⟩
 ·have e:iR s=[]:=by rw[<-a];rfl
  simp[e]
 ·simp only[List.concat_eq_append]at a b d⊢;have hx:=d x (by simp);have i:iR (t++[x])=if cq x=true then iR t else t++[x]:=by
   rw[iR,List.reverse_append,List.reverse_cons,b1,db,List.singleton_append,cv]
   split
   ·rfl
   ·simp
  rw[i]at a;have j:(0:Int)<(t.length:Int)+1:=by omega
  have w1:a3.wrap (t.length:Int)=t.length:=aP _ (by omega) (by simp at b;omega);simp[j,w1];refine c2 (J3 x hx) ?_;cases f:cq x
  ·rw[f]at a;simp[<-a]
  ·rw[f]at a;simp[w1];exact rd t ⟨by simpa using a,by simp at b;omega,fun c hc=>d c (by simp[hc])⟩ (h1:=by simp)
def vN:List Nat:=[48,49,50,51,52,53,54,55,56,57]
theorem Wn:au prog 371 [.str vN] (.aC [pJ,.bool true]):=K5 (facts:=noF) (lh:=fun _ _=>0) (fun _ _ _ h=>by cases h) (by kernel_rfl)
theorem aIY:ct prog 411=some (.st 410 (a9 256 (.bool false))):=by kernel_rfl
theorem XL(s:List Nat)(h:s.length<=1048576)(d:∀c∈s,c<256):au prog 349 [.str s,.str vN] (.str (kS (iR s))):=by
 refine aI nf M5 mix (by simp[f349]) ?_
 by_cases b:s=[]
 ·subst b;simp[f349,vN,kS,iR]
 simp[f349,vN,b];refine c1 Wn ?_;have g:(iR s).length<=s.length:=by
  rw[iR,List.length_reverse];have:=(cc cq (l:=s.reverse)).length_le;simpa using this
 have f:∀c∈iR s,c<256:=by
  intro c hc;rw[iR,List.mem_reverse]at hc;exact d c (by simpa using(cc cq (l:=s.reverse)).subset hc)
 simp[aIY];have a:aL pJ=.agg 410:=rfl;refine⟨⟨⟨a.symm,by rw[a];intro e;cases e⟩,a.symm⟩,?_⟩;refine cp (Tc s h d) (by simp;exact⟨rfl,rfl⟩) ?_;simp;refine cp (TD (iR s) (by omega) f) (by simp;exact⟨rfl,rfl⟩) ?_;simp
def bK:List Int->Int
 |[]=>0
 |e::r=>if e=0 then bK r else e
def aU(b:Bool)(e:Int):Int:=if b=true then e else 0
theorem XM(a:List Int)(h:a.length<=1048576):au prog 317 [.seq (a.map (.int .i64))] (.int .i64 (bK a)):=by
 refine aI nf Mn mix (by simp[f317]) ?_;simp[f317];refine lp (α:=Nat) (fun i=>⟨[(7,.p (.int .i64 i)),(6,.p (.int .i64 a.length)),(5,.p (.seq (a.map (.int .i64))))],[]⟩) (fun i=>i<=a.length/\bK (a.drop i)=bK a) (fun i=>a.length-i) 0 (by simp) ?_;rintro i ⟨d,b⟩;simp
 by_cases hi:i<a.length
 ·rw[bi hi]at b;have c:=b9 (i:=i) (by omega);simp[hi]
  by_cases he:a[i]=0
  ·simp[bK,he]at b;simp[he,c];exact rd (i+1) ⟨hi,b⟩
  ·simp[bK,he]at b;simp[he,<-b]
 ·have:i=a.length:=by omega
  subst this;simp[bK]at b;simp[<-b]
theorem xt(a:List Int)(h:a.length<=1048576):au prog 73 [.seq (a.map (.int .i64))] (.int .i64 (bK a)):=by
 refine aI nf Py mix (by simp[f73]) ?_;simp[f73];refine lp (α:=Nat) (fun i=>⟨[(7,.p (.int .i64 i)),(6,.p (.int .i64 a.length)),(5,.p (.seq (a.map (.int .i64))))],[]⟩) (fun i=>i<=a.length/\bK (a.drop i)=bK a) (fun i=>a.length-i) 0 (by simp) ?_;rintro i ⟨d,b⟩;simp
 by_cases hi:i<a.length
 ·rw[bi hi]at b;have c:=b9 (i:=i) (by omega);simp[hi]
  by_cases he:a[i]=0
  ·simp[bK,he]at b;simp[he,c];exact rd (i+1) ⟨hi,b⟩
  ·simp[bK,he]at b;simp[he,<-b]
 ·have:i=a.length:=by omega
  subst this;simp[bK]at b;simp[<-b]
theorem pN(a:List Int)(h:a.length<=1048576):au prog 175 [.seq (a.map (.int .i64))] (.int .i64 (bK a)):=by
 refine aI nf Fy mix (by simp[f175]) ?_;simp[f175];refine lp (α:=Nat) (fun i=>⟨[(7,.p (.int .i64 i)),(6,.p (.int .i64 a.length)),(5,.p (.seq (a.map (.int .i64))))],[]⟩) (fun i=>i<=a.length/\bK (a.drop i)=bK a) (fun i=>a.length-i) 0 (by simp) ?_;rintro i ⟨d,b⟩;simp
 by_cases hi:i<a.length
 ·rw[bi hi]at b;have c:=b9 (i:=i) (by omega);simp[hi]
  by_cases he:a[i]=0
  ·simp[bK,he]at b;simp[he,c];exact rd (i+1) ⟨hi,b⟩
  ·simp[bK,he]at b;simp[he,<-b]
 ·have:i=a.length:=by omega
  subst this;simp[bK]at b;simp[<-b]
theorem u3(b:Bool)(e:Int):au prog 318 [.bool b,.int .i64 e] (.int .i64 (aU b e)):=by
 refine aI nf Mm mix (by simp[f318]) ?_;cases b<;>simp[f318,aU]
theorem oK(b:Bool)(e:Int):au prog 83 [.bool b,.int .i64 e] (.int .i64 (aU b e)):=by
 refine aI nf PF mix (by simp[f83]) ?_;cases b<;>simp[f83,aU]
theorem iF(b:Bool)(e:Int):au prog 176 [.bool b,.int .i64 e] (.int .i64 (aU b e)):=by
 refine aI nf Fx mix (by simp[f176]) ?_;cases b<;>simp[f176,aU]
theorem LM(s:List Nat)(h:s.length<=1048576)(i:∀c∈s,c<256):au prog 316 [.str s] (.bool (dE s)):=by
 have f:=XL s h i;have g:=Uy s;rw[show vN=[48,49,50,51,52,53,54,55,56,57]from rfl]at f;refine aI nf Mo mix (by simp[f316]) ?_;generalize kS (iR s)=t at*;cases s with
 |nil=>simp[f316,dE]
 |cons c r=>
  have hc:=i c (by simp)
  by_cases b:t=[]
  ·have d:=g.1 b;have e:dE (c::r)=(decide (¬c=48)||decide (r=[])):=by
    rw[dE,d]
    by_cases a:c=48
    ·subst a;simp
    ·simp[a]
   rw[e];clear e d g
   by_cases a:c=48
   ·cases r with
    |nil=>
     simp[f316];refine c2 f ?_;simp[b,a]
    |cons x r=>
     simp[f316];refine c2 f ?_;simp[b,a]
   ·have j:¬(c:Int)=48:=by omega
    simp[f316];refine c2 f ?_;simp[b,a,j]
  ·have d:¬(c::r).all cq=true:=mt g.2 b;have a:(c::r).all cq=false:=by simpa using d
   have e:dE (c::r)=false:=by rw[dE,a];simp
   rw[e];clear e d a g;simp[f316];refine c2 f ?_;simp[b]
theorem Z2{a b:Nat}:(decide (jO (eB a b) 1≠0))=decide (gb a b≠1):=by
 rw[decide_eq_decide,jO,eB,a4,a4]
 split
 ·simp;omega
 ·split
  ·simp;omega
  ·simp;omega
theorem DU{s:List Nat}(h:s.all cq=true)(c:s.length<=700):okW (aZ s:Nat):=by
 have a:=jl _ s rfl h;have b:aZ s<2^kR:=ea a (Js (by have:kR=2800:=rfl;omega));exact ig (k:=kR) (by rw[a4];exact b) (by have:kB=100000:=rfl;have:kR=2800:=rfl;omega)
theorem yY(s:List Nat)(h:s.length<=1048576)(K:∀c∈s,c<256):au prog 263 [.str s] (.int .i64 (b7 s)):=by
 have X:=Xm s;have A:=OB (c7 s) 47 (ed (oF s).1 h);rw[show(b6 47 (c7 s)).1=bE s from rfl,show(b6 47 (c7 s)).2.1=bP s from rfl,show(b6 47 (c7 s)).2.2=er s from rfl]at A;refine aI nf MG mix (by simp[f263]) ?_;simp[f263,-bt];rw[bt];simp[-bt];rw[bt];simp[-bt];refine c2 X ?_;simp[-bt];rw[bt];simp[-bt];refine c2 A ?_;simp[-bt];have ab:=(oF s).1;have q:=sC 47 (c7 s);have ad:(bE s).length<=1048576:=by have:=q.1;rw[bE];omega
 have ac:(bP s).length<=1048576:=by have:=q.2.1;rw[bP];omega
 have W:∀c∈bE s,c<256:=fun c hc=>K c ((oF s).2 c (q.2.2.1 c hc));have V:∀c∈bP s,c<256:=fun c hc=>K c ((oF s).2 c (q.2.2.2 c hc));clear q ab;have Z:=LM (bE s) ad W;have Y:=LM (bP s) ac V;obtain⟨m,B⟩:∃m,m=(dE (bE s)&&!(bX s&&decide (bE s=[48]))):=⟨_,rfl⟩
 obtain⟨f2,k⟩:∃f2,f2=(m&&(!er s||(dE (bP s)&&decide (bP s≠[48])&&decide (bP s≠[49])))):=⟨_,rfl⟩
 have L:b7 s=if f2=false then 1 else if 600<(bE s).length\/600<(bP s).length then 4 else if er s=true/\gb (aZ (bE s)) (aZ (bP s))≠1 then 1 else 0:=by rw[k,B];rfl
 rw[L];clear L A;generalize er s=fr at*;refine join (fun s'=>aQ s'.env 8=.p (.bool m)/\aQ s'.env 7=.p (.bool fr)/\aQ s'.env 6=.p (.str (bP s))/\aQ s'.env 5=.p (.str (bE s))/\s'.heap=[]) ?_ ?_
 ·simp;refine c1 Z ?_;rw[B];cases dE (bE s)
  ·simp
  ·cases bX s
   ·simp
   ·by_cases r:bE s=[48]
    ·simp[r]
    ·simp[r]
 rintro⟨I,aa⟩ ⟨d,f,g,i,t⟩;dsimp only at d f g i t;subst t;refine join (fun s'=>aQ s'.env 8=.p (.bool f2)/\aQ s'.env 7=.p (.bool fr)/\aQ s'.env 6=.p (.str (bP s))/\aQ s'.env 5=.p (.str (bE s))/\s'.heap=[]) ?_ ?_
 ·rw[k];cases fr
  ·simp[d,f,g,i]
  ·cases m
   ·simp[d,f,g,i]
   ·simp[d,f,g,i];refine c1 Y ?_;cases dE (bP s)
    ·simp[d,f,g,i]
    ·by_cases r:bP s=[48]
     ·simp[d,f,g,i,r]
     ·by_cases N:bP s=[49]
      ·simp[d,f,g,i,N]
      ·simp[d,f,g,i,r,N]
 clear d f g i I;rintro⟨I,aa⟩ ⟨d,f,g,i,t⟩;dsimp only at d f g i t;subst t;have head:∀(n v:Bool),au prog 317 [.seq [.int .i64 (aU n 1),.int .i64 (aU v 4)]] (.int .i64 (if n=true then 1 else if v=true then 4 else 0)):=fun n v=>by
  have:=XM [aU n 1,aU v 4] (by simp);cases n<;>cases v<;>exact this
 have w0:=u3 (!f2) 1;have R:=u3 true 4;have wf:=u3 false 4;have J:=head (!f2) true;have U:=head (!f2) false;have O:(600<(bE s).length)↔(600:Int)<((bE s).length:Nat):=by omega
 have P:(600<(bP s).length)↔(600:Int)<((bP s).length:Nat):=by omega
 by_cases u:(600:Int)<((bE s).length:Nat)
 ·simp[d,f,g,i];refine c2 w0 ?_;simp[d,f,g,i,u];refine c2 R ?_;simp;refine cp J (by simp;exact⟨rfl,rfl⟩) ?_;cases f2
  ·simp
  ·simp[O.2 u]
 by_cases x:(600:Int)<((bP s).length:Nat)
 ·simp[d,f,g,i];refine c2 w0 ?_;simp[d,f,g,i,u,x];refine c2 R ?_;simp;refine cp J (by simp;exact⟨rfl,rfl⟩) ?_;cases f2
  ·simp
  ·simp[P.2 x]
 have E:¬600<(bE s).length:=mt O.1 u;have F:¬600<(bP s).length:=mt P.1 x;have Q:=u3 false 1;have ag:=u3 true 1;simp[d,f,g,i];refine c2 w0 ?_;simp[d,f,g,i,u,x];refine c2 wf ?_;simp;refine cp U (by simp;exact⟨rfl,rfl⟩) ?_;cases f2
 ·simp
 cases fr
 ·simp[d,f,g,i,E,F];refine c2 Q ?_;simp[aU];exact⟨by omega,by omega⟩
 have j:dE (bE s)=true/\dE (bP s)=true:=by
  cases S:dE (bE s)
  ·rw[B,S]at k;simp at k
  cases T:dE (bP s)
  ·rw[T]at k;simp at k
  exact⟨rfl,rfl⟩
 obtain⟨ae,G⟩:=BV j.1;obtain⟨af,H⟩:=BV j.2;have y:=yI (bE s) (by rw[G];exact jH j.1) (by rw[G];omega);have z:=yI (bP s) (by rw[H];exact jH j.2) (by rw[H];omega);rw[ae,G]at y;rw[af,H]at z;simp only[a0,if_false]at y z;have C:=Oz (.mk' (aZ (bE s):Nat)) (.mk' (aZ (bP s):Nat)) (DU (jH j.1) (by omega)) (DU (jH j.2) (by omega));rw[NI.iD,NI.iD]at C;have D:=rA 1;rw[KH]at D;have hc:=Oy (.mk' (eB (aZ (bE s):Nat) (aZ (bP s):Nat))) (.mk' 1) (qw (DU (jH j.2) (by omega)) (by rw[NI.iD,eB,a4,a4,a4];exact Nat.gcd_le_right _ (xV j.2 (fun e=>by rw[e]at k;simp at k)))) (by rw[okW];decide);rw[NI.iD,NI.iD]at hc;have M:=Z2 (a:=aZ (bE s)) (b:=aZ (bP s));generalize jO (eB (aZ (bE s):Nat) (aZ (bP s):Nat)) 1=o at*
 by_cases l:gb (aZ (bE s)) (aZ (bP s))=1
 ·have w:o=0:=by simpa[l]using M
  simp[d,f,g,i,E,F,l];refine c1 y ?_;simp[d,f,g,i];refine c1 z ?_;simp;refine c2 C ?_;simp;refine c1 D ?_;simp;refine c2 hc ?_;simp[w];refine c2 Q ?_;simp[aU];rw[if_neg (by omega),if_pos l]
 ·have w:¬o=0:=by simpa[l]using M
  simp[d,f,g,i,E,F,l];refine c1 y ?_;simp[d,f,g,i];refine c1 z ?_;simp;refine c2 C ?_;simp;refine c1 D ?_;simp;refine c2 hc ?_;simp[w];refine c2 ag ?_ (h1:=by simp[w]);simp[aU];rw[if_neg (by omega),if_neg l]
def iU(s:List Nat):Prop:=s.length<=1048576/\∀c∈s,c<256
theorem Xl(l:List (List Nat)):au prog 307 [.seq (l.map .str)] (.func 343 [] [.cm (.seq (l.map .str))]):=by
 refine aI nf Mt mix (by simp[f307]) ?_;simp[f307];exact bC.refl _
def DK(s:List Nat):List PV:=[.int .i64 (b7 s)]
theorem WY(l:List (List Nat))(q:l.length<=1000000)(hs:∀s∈l,iU s):Stream prog 343 [] [.cm (.seq (l.map .str))] (l.map DK):=by
 intro b k c H' hk d o f;refine fF nf M6 mix (by simp[f343]) ?_;rw[b3]at hk;have g:∀i(h:i<l.length),(l.map DK)[i]?=some (DK l[i]):=fun i h=>by rw[bV,a8 h];rfl
 simp[f343];refine lp (α:=Nat) (fun i=>⟨[(7,.p (.int .i64 i)),(6,.p (.int .i64 l.length)),(5,.p (.seq (l.map .str))),(0,.map b)],c i⟩) (fun i=>i<=k) (fun i=>l.length-i) 0 (by simp) ?_ (hr:=by simp;exact(d 0 (by omega)).2) (hr2:=(d 0 (by omega)).1);intro i hi;have n:=b9 (i:=i) (by omega)
 by_cases a:i<l.length
 ·have hc:=yY l[i] (hs _ (b2 a)).1 (hs _ (b2 a)).2;have gS:(i<k/\fh prog b (c i) [.p (.int .i64 (b7 l[i]))] (c (i+1)) (.p (.bool true)))\/fh prog b (c i) [.p (.int .i64 (b7 l[i]))] H' (.p (.bool false)):=by
   by_cases e:i<k
   ·exact .inl ⟨e,o i _ e (g i a)⟩
   ·have:i=k:=by omega
    subst this;rcases f with⟨e1,_⟩|⟨y,e1,e2⟩
    ·rw[b3]at e1;omega
    ·rw[g i a]at e1;injection e1 with e1;subst e1;exact .inr e2
  simp[a];refine c1 hc ?_;simp;rcases gS with⟨e,hY⟩|hY
  ·refine⟨c (i+1),_,hY,?_⟩;simp[n];exact rd (i+1) e (h1:=by omega) (hr:=by simp;exact(d (i+1) (by omega)).2) (hr2:=(d (i+1) (by omega)).1)
  ·refine⟨H',_,hY,?_⟩;simp
 ·have m:i=l.length:=by omega
  have j:k=l.length:=by omega
  rcases f with⟨e1,e2⟩|⟨y,e1,e2⟩
  ·simp[a,e2,m,j]
  ·rw[j,List.getElem?_eq_none (by simp)]at e1;cases e1
theorem yd(p:Nat->Bool):∀n,∃k,k<=n/\(∀j,j<k->p j=true)/\(k=n\/(k<n/\p k=false))
 |0=>⟨0,ec _,fun j h=>by omega,.inl rfl⟩
 |n+1=>by
  obtain⟨k,f,b,a⟩:=yd p n;rcases a with a|⟨a,d⟩
  ·subst a;cases c:p k
   ·exact⟨k,by omega,b,.inr ⟨by omega,c⟩⟩
   ·refine⟨k+1,ec _,fun j g=>?_,.inl rfl⟩
    by_cases e:j=k
    ·subst e;exact c
    ·exact b j (by omega)
  ·exact⟨k,by omega,b,.inr ⟨by omega,d⟩⟩
def lT(l:List (List Nat))(i:Nat):Int:=match l[i]? with
 |some s=>b7 s
 |none=>0
theorem H4:∀(l:List (List Nat))(k:Nat),(∀j,j<k->lT l j=0)->bK (l.map b7)=bK ((l.drop k).map b7)
 |[],k,_=>by simp
 |s::l,0,_=>rfl
 |s::l,k+1,h=>by
  have a:=h 0 (by omega);have b:b7 s=0:=a;rw[be,bK,if_pos b,List.drop_succ_cons];exact H4 l k fun j c=>h (j+1) (by omega)
theorem T9(l:List (List Nat))(c:l.length<=1000000)(hs:∀s∈l,iU s):au prog 249 [.seq (l.map .str)] (.int .i64 (bK (l.map b7))):=by
 refine aI nf Mf mix (by simp[f249]) ?_;simp[f249];refine c1 (Xl l) ?_;simp;have aN:=WY l c hs;obtain⟨k,hk,g,d⟩:=yd (fun i=>decide (lT l i=0)) l.length;have r:∀j,j<k->lT l j=0:=fun j q=>by simpa using g j q
 have f:=H4 l k r;refine rf2 aN rfl (by simp) (fun L _=>[.box false (.p (.int .i64 0)),.loop L]) (fun L i=>[.box false (.p (.int .i64 (lT l (i-1)))),.loop (L.dn .ret)]) (fun i=>decide (lT l i=0)) .ret k (by simpa using hk) g (by simpa using d) (fun L=>rfl) ?_ ?_ (fun L=>rfl) ?_ ?_
 ·intro L b i hi;clear b;refine⟨rfl,by simp,fun _ c=>?_⟩;simp at c⊢;exact c
 ·intro L b i x hi hx;have t:x=[.int .i64 (lT l i)]:=by
   rw[bV]at hx;unfold lT;cases h:l[i]? with
   |none=>rw[h]at hx;cases hx
   |some s=>rw[h]at hx;injection hx with hx;rw[<-hx];rfl
  subst t;rw[ei];refine wM nf mix b rfl rfl (by kernel_rfl) ?_;have m:=congrArg dP.env b;dsimp only at m;clear b;generalize lT l i=e
  by_cases he:e=0
  ·subst he;simp;exact .inl rfl
  ·simp[he];exact .inl rfl
 ·intro a L;have a:k=l.length:=by simpa using a
  rw[f,a];simp[bK]
 ·intro a L;have a:k<l.length:=by simpa using a
  have o:¬lT l k=0:=by
   rcases d with u|⟨_,n⟩
   ·omega
   ·simpa using n
  have e1:lT l k=b7 l[k]:=by unfold lT;rw[a8 a]
  rw[f,bi a,be,bK,<-e1,if_neg o];simp[je]
structure gF where
 x:List Nat
 y:List Nat
def ga(p:gF):PV:=.st 23 [.str p.x,.str p.y]
def n8(p:gF):Prop:=iU p.x/\iU p.y
def ek(p:gF):Int:=bK [b7 p.x,b7 p.y]
@[simp] theorem aMz(p:gF):aL (ga p)=.agg 23:=rfl
@[simp] theorem aK1(p:gF):bW (ga p)=[.str p.x,.str p.y]:=rfl
@[simp] theorem aJ8:prog.cellsOf 23=2:=by kernel_rfl
theorem Sr(p:gF)(a:n8 p):au prog 165 [.seq [ga p]] (.int .i64 (ek p)):=by
 have hc:=T9 [p.x,p.y] (by simp) (by intro s hs;simp at hs;rcases hs with rfl|rfl;exact a.1;exact a.2);refine aI nf Ok mix (by simp[f165]) ?_;simp[f165];refine lp (α:=Nat) (fun i=>⟨[(8,.p (.int .i64 i)),(7,.p (.int .i64 1)),(6,.p (.seq [ga p])),(0,.p (.seq [ga p]))],[]⟩) (fun i=>i=0\/(i=1/\ek p=0)) (fun i=>1-i) 0 (.inl rfl) ?_;rintro i h;rcases h with rfl|⟨rfl,h⟩
 ·simp[aa];refine cp hc (by simp;exact⟨rfl,rfl⟩) ?_;have b:a3.wrap 1=1:=rfl;rw[show bK (dk b7 [p.x,p.y])=ek p from rfl]
  by_cases h:ek p=0
  ·simp[h,b];exact rd 1 (.inr ⟨rfl,h⟩)
  ·simp[h]
 ·simp[h]
theorem AM(p:gF)(a:n8 p):au prog 75 [ga p] (.int .i64 (ek p)):=by
 refine aI nf Pz mix (by simp[f75]) ?_;simp[f75,aa];refine cp (Sr p a) (by simp;exact⟨rfl,rfl⟩) ?_;simp
open Go.Proofs Go.Proofs.YtanjnahmbanmaaaGreatDoor
section
variable{H:Type}{W:World}{ad:Nat->Prop}
theorem agt{d:a2 H}(h:∃cs,aY prog W ad (bG prog 8 3 d) cs)(_hb:Rows.uptoBulk d<=1048576):∃z:Int,bG prog 8 3 d=.int .i64 z/\True:=by
 obtain⟨cs,h⟩:=h;obtain⟨z,a⟩:=tZ (n:=7) d cs h;exact⟨z,a,trivial⟩
theorem zg{n:Nat}{d:a2 H}(h:∃cs,aY prog W ad (bG prog (n+1) 22 d) cs)(a:Rows.uptoBulk d<=1048576):∃s:List Nat,bG prog (n+1) 22 d=.str s/\iU s:=by
 obtain⟨cs,h⟩:=h;cases d with
 |lit l=>
  cases l with
  |string bytes=>
   refine⟨bytes.map (·.toNat),by simp only[bG,D7],?_,?_⟩
   ·rw[Rows.uptoBulk]at a;rw[b3];omega
   ·intro c hc;obtain⟨u,_,rfl⟩:=bI.1 hc;exact u.toNat_lt
  |_=>simp only[bG,D7,aY]at h
 |_=>simp only[bG,D7,aY]at h
theorem aI6:∃a b:Field,prog.underlying 24=some (.struct #[a,b])/\a.type=22/\b.type=22:=⟨_,_,underlying24,rfl,rfl⟩
theorem Qx:prog.underlyingId 24=23:=by kernel_rfl
theorem Vy{m n:Nat}(q:m=n+1){d:a2 H}(h:∃cs,aY prog W ad (bG prog (m+1) 24 d) cs)(e:Rows.uptoBulk d<=1048576):∃p:gF,bG prog (m+1) 24 d=ga p/\n8 p:=by
 obtain⟨cs,h⟩:=h;obtain⟨f0,f1,i,t0,t1⟩:=aI6;cases d with
 |agg l=>
  have g:∀x∈l,Rows.uptoBulk x<=1048576:=fun x hx=>by
   have:=pz.tz hx;rw[Rows.uptoBulk]at e;omega
  simp only[bG,i,aY]at h⊢;obtain⟨t,s,f,c,_⟩:=h;rw[Qx,aII]at f;cases f
  match l,c with
  |[],c=>simp[bk]at c
  |[x],c=>simp[bk]at c
  |x::y::r,c=>
   simp only[List.zip_cons_cons,be,bk,List.zip_nil_left,dp,t0,t1]at c⊢;obtain⟨c0,_,_,g1,_,c1,_,_,g2,_⟩:=c;subst q;obtain⟨a,j,o⟩:=zg ⟨c0,g1⟩ (g x (by simp));obtain⟨b,k,e⟩:=zg ⟨c1,g2⟩ (g y (by simp));exact⟨⟨a,b⟩,by rw[j,k,Qx];rfl,o,e⟩
 |_=>simp only[bG,i,aY]at h
theorem Ia{n:Nat}{d:a2 H}(h:∃cs,aY prog W ad (bG prog (n+2) 24 d) cs)(a:Rows.uptoBulk d<=1048576):∃p:gF,bG prog (n+2) 24 d=ga p/\n8 p:=Vy rfl h a
end
def bT:Nat:=1000000000
theorem ba:2<=bT:=by decide
def iP(l:List Nat):List PV:=l.map fun x:Nat=>.int .i64 x
theorem Qp(w:List Nat):eM prog 1 (w.map (AV.p∘fun x:Nat=>PV.int .i64 x)):=by
 rw[uu];intro v a;obtain⟨x,_,rfl⟩:=bI.1 a;simp[aa,aL,bD]
def eT(n:Nat):PV:=.seq ((aw bT n).map fun x:Nat=>.int .i64 x)
theorem zp:aw bT 0=[]:=by simp[aw,mL]
theorem nj{n:Nat}(b:0<n)(h:n<bT):aw bT n=[n]:=by
 have a:=jo ba (m:=1) (n:=n) (by rw[gc];exact h);rw[<-a,row,List.range_one,be,dp,ae,e7,fd,e6 h];have:=uo [] n (by omega)
 rwa [db]at this
theorem uD{n:Nat}:aw bT n=[]↔n=0:=by
 constructor
 ·intro h;have:=ch ba n;rw[h,List.length_nil,e7]at this;omega
 ·rintro rfl;exact zp
theorem sT(w:List Nat)(h:w.length<=1048576):au prog 296 [.seq (iP w)] (.seq (iP (eg w))):=by
 refine aI nf MA mix (by simp[f296]) ?_;simp only[iP];simp[f296];refine lp (α:=Nat) (fun i=>⟨[(0,.p (.seq ((w.take i).map fun x:Nat=>.int .i64 x)))],[]⟩) (fun i=>i<=w.length/\eg w=eg (w.take i)) (fun i=>i) w.length (by simp) ?_;rintro i ⟨k1,k2⟩;have k:(w.take i).length=i:=by rw[cy];omega
 by_cases hi:0<i
 ·obtain⟨j,rfl⟩:∃j,i=j+1:=⟨i-1,by omega⟩
  have f:a3.wrap (j:Int)=j:=aP _ (by omega) (by omega);have a:j<w.length:=by omega
  have e:(0:Int)<(j:Int)+1:=by omega
  have k3:=k2;rw[bl a]at k2;have c:min (j+1) w.length=j+1:=by omega
  have d:min ((j:Int)+1) (w.length:Int)=j+1:=by omega
  have g:¬w=[]:=by rintro rfl;simp at a
  by_cases b:w[j]=0
  ·rw[b,A4]at k2;simp[e,f,a,b,c,d,g];refine⟨by rw[<-bv];exact Qp _,?_⟩;refine rd j ⟨by omega,k2⟩ (he:=?_);rw[<-bv,<-bv,List.take_take,Nat.min_eq_left (by omega)];simp
  ·rw[uo _ _ b,<-bl a]at k2;simp[e,f,a,b,c,d,g];rw[k2,bv];exact bC.refl _
 ·obtain rfl:i=0:=by omega
  simp[eg]at k2;simp[k2]
def eG(z:Int):PV:=.st 222 [.bool (decide (z<0)),eT z.natAbs]
@[simp] theorem aMq(z:Int):aL (eG z)=.agg 222:=rfl
@[simp] theorem aKT(z:Int):bW (eG z)=[.bool (decide (z<0)),eT z.natAbs]:=rfl
@[simp] theorem aMG(n:Nat):aL (eT n)=.leaf:=rfl
theorem BZ(neg:Bool)(w:List Nat)(n:Nat)(c:eg w=aw bT n)(h:w.length<=1048576):au prog 239 [.bool neg,.seq (iP w)] (eG (if neg=true then -(n:Int)else n)):=by
 have a:=sT w h;rw[c]at a;refine aI nf Mj mix (by simp[f239]) ?_;have b:(if neg=true then -(n:Int)else n).natAbs=n:=by cases neg<;>simp
 rw[eG,b,eT];have d:=uD (n:=n);have e:decide ((if neg=true then -(n:Int)else n)<0)=(neg&&decide (0<(aw bT n).length)):=by
  cases neg
  ·simp
  ·simp;rw[a5,Ne,d];omega
 rw[e];simp only[iP]at a⊢;generalize aw bT n=x at*;cases neg
 ·simp[f239];refine c1 a ?_;simp[aa]
 ·simp[f239];refine c1 a ?_;simp[aa]
  done
theorem Hp{a b:Nat}(h:(aw bT a).length<(aw bT b).length):a<b:=by
 have d:=ch ba a;rcases ej a b with c|c
 ·exact c
 ·have:=dJ ba (aw bT a).length b (eb c d);omega
theorem Hz{a b i:Nat}(h:a/bT^(i+1)=b/bT^(i+1))(e:ae bT a i<ae bT b i):a<b:=by
 rw[eo,<-em,<-em]at h;have e1:=ee (a/bT^i) bT;have e2:=ee (b/bT^i) bT;rw[ae,ae]at e;rw[h]at e1;rcases ej a b with d|d
 ·exact d
 ·have:=Nat.div_le_div_right (c:=bT^i) d;omega
theorem Wi{a b i:Nat}(h:a/bT^(i+1)=b/bT^(i+1))(c:ae bT a i=ae bT b i):a/bT^i=b/bT^i:=by
 rw[eo,<-em,<-em]at h;have e1:=ee (a/bT^i) bT;have e2:=ee (b/bT^i) bT;rw[ae,ae]at c;rw[h]at e1;omega
theorem HG(a b:Nat)(E:(aw bT a).length<=1048576)(F:(aw bT b).length<=1048576):au prog 293 [eT a,eT b] (.int .i64 (fH a b)):=by
 refine aI nf MD mix (by simp[f293]) ?_
 by_cases l:(aw bT a).length=(aw bT b).length
 case neg=>
  have q:¬((aw bT a).length:Int)=(aw bT b).length:=by omega
  by_cases A:(aw bT a).length<(aw bT b).length
  ·have m:((aw bT a).length:Int)<(aw bT b).length:=by omega
   have:=Hp A;have hc:fH a b= -1:=if_pos this;simp[f293,eT,q,m,hc]
  ·have m:¬((aw bT a).length:Int)<(aw bT b).length:=by omega
   have:=Hp (a:=b) (b:=a) (by omega);have hc:fH a b=1:=by rw[fH,if_neg (by omega),if_pos this]
   simp[f293,eT,q,m,hc]
 have t:∀i(h:i<(aw bT a).length),(aw bT a)[i]?=some (ae bT a i):=fun i h=>by rw[a8 h,ey ba h]
 have v:∀i(h:i<(aw bT b).length),(aw bT b)[i]?=some (ae bT b i):=fun i h=>by rw[a8 h,ey ba h]
 have u:∀i(h:i<(aw bT a).length),(aw bT a)[i]=ae bT a i:=fun i h=>ey ba h;have w:∀i(h:i<(aw bT b).length),(aw bT b)[i]=ae bT b i:=fun i h=>ey ba h;have s:=ch ba a;have o:=ch ba b;rw[<-l]at o;have z:a/bT^(aw bT a).length=b/bT^(aw bT a).length:=by rw[en s,en o]
 simp only[eT];generalize aw bT a=x at*;generalize aw bT b=y at*;have D:a3.wrap ((y.length:Int)-1)=y.length-1:=aP _ (by omega) (by omega);simp[f293,l,D];refine lp (α:=Nat) (fun i=>⟨[(5,.p (.int .i64 ((i:Int)-1))),(1,.p (.seq (y.map fun x:Nat=>.int .i64 x))),(0,.p (.seq (x.map fun x:Nat=>.int .i64 x)))],[]⟩) (fun i=>i<=y.length/\a/bT^i=b/bT^i) (fun i=>i) y.length ⟨ec _,by rw[<-l];exact z⟩ ?_;rintro i ⟨k1,k2⟩
 by_cases hi:0<i
 ·obtain⟨j,rfl⟩:∃j,i=j+1:=⟨i-1,by omega⟩
  have c:j<x.length:=by omega
  have d:j<y.length:=by omega
  have C:a3.wrap ((j:Int)-1)=j-1:=aP _ (by omega) (by omega);have e:=t j c;have g:=v j d;have f:=u j c;have k:=w j d
  by_cases hq:ae bT a j=ae bT b j
  ·simp[c,d,e,g,f,k,hq,C];exact rd j ⟨by omega,Wi k2 hq⟩
  ·have r:¬(ae bT a j:Int)=ae bT b j:=by omega
   by_cases n:ae bT a j<ae bT b j
   ·have:=Hz k2 n;have hc:fH a b= -1:=if_pos this;simp[c,d,e,g,f,k,r,n,hc]
   ·have:=Hz k2.symm (show ae bT b j<ae bT a j by omega);have B:ae bT b j<ae bT a j:=by omega
    have hc:fH a b=1:=by rw[fH,if_neg (by omega),if_pos this]
    simp[c,d,e,g,f,k,r,n,B,hc]
 ·obtain rfl:i=0:=by omega
  rw[e7,fd,fd]at k2;have hc:fH a b=0:=by rw[fH,if_neg (by omega),if_neg (by omega)]
  simp[hc]
theorem Xa{n i:Nat}(h:(aw bT n).length<=i):ae bT n i=0:=jn (ea (ch ba n) (dz (by decide) h))
theorem CH(a i:Nat):au prog 330 [eT a,.int .i64 i] (.int .i64 (ae bT a i:Nat)):=by
 refine aI nf Nc mix (by simp[f330]) ?_
 by_cases h:i<(aw bT a).length
 ·have g1:(aw bT a)[i]=ae bT a i:=ey ba h;rw[eT,<-g1];generalize aw bT a=x at*;simp[f330,h]
 ·rw[Xa (by omega),eT];generalize aw bT a=x at*;simp[f330,h]
def dV(i n:Nat):List AV:=(b5 i).map fun j=>.p (.int .i64 (ae bT n j:Nat))
theorem qj(i n:Nat):dV (i+1) n=dV i n++[.p (.int .i64 (ae bT n i:Nat))]:=by
 rw[dV,List.range_succ,List.map_append];rfl
theorem iB(i n:Nat):(dV i n).length=i:=by simp[dV]
@[simp] theorem aMc{N:Nat×Nat->Prop}{n i:Nat}:aX N (dV i n)=True:=by
 rw[cV,eq_iff_iff,iff_true];intro v a;simp only[dV,bI]at a;obtain⟨x,_,rfl⟩:=a;trivial
theorem KC(i n:Nat):eE (dV i n)=some ((row bT i n).map fun x:Nat=>.int .i64 x):=by
 have:dV i n=(row bT i n).map (AV.p∘fun x:Nat=>PV.int .i64 x):=by
  rw[dV,row,dq];rfl
 rw[this];exact IY
theorem LX(i n:Nat):dV i n=(row bT i n).map (AV.p∘fun x:Nat=>PV.int .i64 x):=by
 rw[dV,row,dq];rfl
theorem Xw{n i:Nat}(h:n<bT^i)(a:i=0\/bT^(i-1)<=n):row bT i n=aw bT n:=by
 have b:(aw bT n).length=i:=by
  have c:=dJ ba i n h;rcases a with rfl|a
  ·omega
  ·have:=H5 ba a;omega
 have:=Zx ba n;rw[b]at this;exact this.symm
theorem Yi(a b:Nat)(I:(aw bT a).length<=1000000)(J:(aw bT b).length<=1000000):au prog 292 [eT a,eT b] (eT (a+b)):=by
 refine aI nf ME mix (by simp[f292]) ?_;have v:=ch ba a;have w:=ch ba b;have C:∀i,i<(aw bT a).length->bT^i<=a:=fun i h=>by
  rcases ej a (bT^i)with c|c
  ·have:=dJ ba i a c;omega
  ·exact c
 have D:∀i,i<(aw bT b).length->bT^i<=b:=fun i h=>by
  rcases ej b (bT^i)with c|c
  ·have:=dJ ba i b c;omega
  ·exact c
 have A:∀i,0<de bT a b i->bT^i<=a+b:=fun i h=>by
  rw[de]at h;have c:bT^i<=a% bT^i+b% bT^i:=by
   rcases ej (a% bT^i+b% bT^i) (bT^i)with d|d
   ·rw[en d]at h;omega
   ·exact d
  have:=gj a (bT^i);have:=gj b (bT^i);omega
 have f:=fun i=>CH a i;have g:=fun i=>CH b i;have B:∀i,(aw bT a).length<=i->(aw bT b).length<=i->de bT a b i=0->a+b<bT^i:=fun i c d s=>by
  have g1:=ea v (dz (show 0<bT by decide) c);have g2:=ea w (dz (show 0<bT by decide) d);rw[de,e6 g1,e6 g2]at s;rcases ej (a+b) (bT^i)with e|e
  ·exact e
  ·have:=Nat.div_pos e (e9 (show 0<bT by decide));omega
 have E:∃M,M=max (aw bT a).length (aw bT b).length:=⟨_,rfl⟩
 obtain⟨M,H⟩:=E;simp only[eT]at f g⊢;have F:=fun i h d=>Xw (n:=a+b) (i:=i) h d;generalize aw bT (a+b)=z at*;generalize aw bT a=x at*;generalize aw bT b=y at*;simp[f292];refine lp (α:=Nat) (fun i=>⟨[(7,.p (.int .i64 i)),(6,.p (.int .i64 (de bT a b i:Nat))),(5,.sl 0 i 1 0 i),(1,.p (.seq (y.map fun x:Nat=>.int .i64 x))),(0,.p (.seq (x.map fun x:Nat=>.int .i64 x)))],[.arr .grow i 1 (dV i (a+b))]⟩)
  (fun i=>i<=M+1/\(i=0\/bT^(i-1)<=a+b)) (fun i=>M+1-i) 0 ⟨by omega,.inl rfl⟩ ?_ (he:=by simp[xl,dV]) (hh:=by simp[dV])
 rintro i ⟨k1,k2⟩;have q:=b9 (i:=i) (by omega);have K:=lG ba a b i;obtain⟨g1,g2⟩:=p0 ba a b i;have N:=cr ba a i;have O:=cr ba b i;have t:bT=1000000000:=rfl;have w1:a3.wrap ((ae bT a i:Int)+ae bT b i)=ae bT a i+ae bT b i:=aP _ (by omega) (by omega);have r:a3.wrap ((ae bT a i:Int)+ae bT b i+de bT a b i)=ae bT a i+ae bT b i+de bT a b i:=aP _ (by omega) (by omega);have l:((ae bT a i:Int)+ae bT b i+de bT a b i).tmod 1000000000=(ae bT (a+b) i:Nat):=by
  rw[Int.tmod_eq_emod_of_nonneg (by omega),<-g1,t];omega
 have m:((ae bT a i:Int)+ae bT b i+de bT a b i).tdiv 1000000000=(de bT a b (i+1):Nat):=by
  rw[Int.tdiv_eq_ediv_of_nonneg (by omega),<-g2,t];omega
 have o:a3.wrap (de bT a b (i+1):Nat)=(de bT a b (i+1):Nat):=by have:=lG ba a b (i+1);exact aP _ (by omega) (by omega)
 have j:b0 i (dV i (a+b))=dV i (a+b):=a6 (by rw[iB];exact ec _)
 by_cases hx:i<x.length
 ·simp[hx];refine c2 (f i) ?_;simp;refine c2 (g i) ?_;simp[w1,r,l,m,o,iB,j,<-qj];refine⟨by simp only[cW];omega,?_⟩;refine rd (i+1) ⟨by omega,.inr (by rw[ei];exact ed (C i hx) (by omega))⟩ (by omega) (he:=by simp[q])
 by_cases k:i<y.length
 ·simp[hx,k];refine c2 (f i) ?_;simp;refine c2 (g i) ?_;simp[w1,r,l,m,o,iB,j,<-qj];refine⟨by simp only[cW];omega,?_⟩;refine rd (i+1) ⟨by omega,.inr (by rw[ei];exact ed (D i k) (by omega))⟩ (by omega) (he:=by simp[q])
 by_cases hc:0<de bT a b i
 ·have L:i=M:=by
   rcases ej M i with h|h
   ·have e0:=p0 ba a b M;have c:ae bT a M=0:=jn (ea v (dz (by decide) (by omega)));have d:ae bT b M=0:=jn (ea w (dz (by decide) (by omega)));have s:=lG ba a b M;have e:i=M+1:=by omega
    subst e;rw[c,d]at e0;rw[<-e0.2,en (by omega)]at hc;omega
   ·omega
  simp[hx,k,hc];refine c2 (f i) ?_;simp;refine c2 (g i) ?_;simp[w1,r,l,m,o,iB,j,<-qj];refine⟨by simp only[cW];omega,?_⟩;refine rd (i+1) ⟨by omega,.inr (by rw[ei];exact A i hc)⟩ (by omega) (he:=by simp[q])
 ·have u:de bT a b i=0:=by omega
  have G:=F i (B i (by omega) (by omega) u) k2;rw[<-G];simp[hx,k,u];refine⟨by rw[iB];exact ec _,?_⟩;rw[j,LX];simp
theorem LK(a b:Nat)(w:b<=a)(E:(aw bT a).length<=1000000):au prog 294 [eT a,eT b] (eT (a-b)):=by
 refine aI nf MC mix (by simp[f294]) ?_;have C:=ch ba a;have j:=fun i=>CH b i;have A:∀i(h:i<(aw bT a).length),(aw bT a)[i]?=some (ae bT a i):=fun i h=>by rw[a8 h,ey ba h]
 have B:∀i(h:i<(aw bT a).length),(aw bT a)[i]=ae bT a i:=fun i h=>ey ba h;have D:eg (row bT (aw bT a).length (a-b))=aw bT (a-b):=jo ba (eb (Nat.sub_le a b) C);have e:=sT (row bT (aw bT a).length (a-b)) (by rw[K7];omega);rw[D]at e;simp only[eT]at j⊢;simp only[iP]at e;generalize aw bT (a-b)=z at*;generalize aw bT a=x at*;generalize aw bT b=y at*;simp[f294];refine lp (α:=Nat) (fun i=>⟨[(7,.p (.int .i64 i)),(6,.p (.int .i64 (eU bT a b i:Nat))),(5,.sl 0 i 1 0 i),(1,.p (.seq (y.map fun x:Nat=>.int .i64 x))),(0,.p (.seq (x.map fun x:Nat=>.int .i64 x)))],[.arr .grow i 1 (dV i (a-b))]⟩)
  (fun i=>i<=x.length) (fun i=>x.length-i) 0 (by simp) ?_ (he:=by simp[A2,dV]) (hh:=by simp[dV])
 intro i k1;have s:=b9 (i:=i) (by omega);have r:b0 i (dV i (a-b))=dV i (a-b):=a6 (by rw[iB];exact ec _);have F:bT=1000000000:=rfl;have I:=cr ba a i;have J:=cr ba b i;have K:=cr ba (a-b) i;have L:eU bT a b i<=1:=by rw[eU];split<;>omega
 have w1:a3.wrap ((ae bT a i:Int)-ae bT b i)=ae bT a i-ae bT b i:=aP _ (by omega) (by omega);have n:a3.wrap ((ae bT a i:Int)-ae bT b i-eU bT a b i)=ae bT a i-ae bT b i-eU bT a b i:=aP _ (by omega) (by omega)
 by_cases hx:i<x.length
 ·have o:=A i hx;have q:=B i hx;rcases Jt ba w i with⟨u,g,v⟩|⟨u,g,v⟩
  ·have m:(ae bT a i:Int)-ae bT b i-eU bT a b i<0:=by omega
   have f:a3.wrap ((ae bT a i:Int)-ae bT b i-eU bT a b i+1000000000)=(ae bT (a-b) i:Nat):=by rw[aP _ (by omega) (by omega)];omega
   simp[hx,o,q];refine e2 (j i) ?_;simp[w1,n,m,f,iB,r,<-qj];refine⟨by simp only[cW];omega,?_⟩;refine rd (i+1) hx (he:=by simp[s,g])
  ·have m:¬(ae bT a i:Int)-ae bT b i-eU bT a b i<0:=by omega
   have f:(ae bT a i:Int)-ae bT b i-eU bT a b i=(ae bT (a-b) i:Nat):=by omega
   rw[f]at m n;simp[hx,o,q];refine e2 (j i) ?_;simp[w1,n,f,iB,r,<-qj];refine⟨by simp only[cW];omega,?_⟩;refine rd (i+1) hx (he:=by simp[s,g])
 ·have:i=x.length:=by omega
  subst this;have k:=LX x.length (a-b);have d:(row bT x.length (a-b)).length=x.length:=K7;generalize row bT x.length (a-b)=l at e k d;have G:b0 x.length l=l:=a6 (by omega);rcases l with _|⟨c,t⟩
  ·simp at d;simp[k];refine cp e (by simp[<-d];exact⟨rfl,rfl⟩) ?_;simp
  ·have H:b0 x.length (PV.int .i64 c::dk (fun x:Nat=>PV.int .i64 x) t)=PV.int .i64 c::dk (fun x:Nat=>PV.int .i64 x) t:=a6 (by simp at d⊢;omega);simp at d;simp[k];refine cp e (by simp[<-d];exact⟨rfl,rfl⟩) ?_;simp
def dh(n:Nat)(f:Nat->Nat):List AV:=(b5 n).map fun j=>.p (.int .i64 (f j:Nat))
theorem uQ(n:Nat)(f:Nat->Nat):(dh n f).length=n:=by simp[dh]
theorem Jz(n:Nat):a9 n (AV.p (.int .i64 0))=dh n fun _=>0:=by
 apply da (by simp[dh]);intro i a b;simp[dh]
theorem sK{n j:Nat}(f:Nat->Nat)(h:j<n):(dh n f)[j]?=some (.p (.int .i64 (f j:Nat))):=by
 rw[dh,bV,ce h];rfl
theorem Ck{n i:Nat}(f g:Nat->Nat)(h:∀j,j<n->j≠i->g j=f j):(dh n f).set i (.p (.int .i64 (g i:Nat)))=dh n g:=by
 apply da (by simp[dh]);intro j c b;rw[uQ]at b;rw[List.getElem_set];simp only[dh,List.getElem_map,List.getElem_range]
 by_cases a:i=j
 ·subst a;rw[if_pos rfl]
 ·rw[if_neg a,h j b (fun e=>a e.symm)]
@[simp] theorem aMb{N:Nat×Nat->Prop}{n:Nat}{f:Nat->Nat}:aX N (dh n f)=True:=by
 rw[cV,eq_iff_iff,iff_true];intro v a;simp only[dh,bI]at a;obtain⟨x,_,rfl⟩:=a;trivial
theorem ye{n:Nat}{f g:Nat->Nat}(h:∀j,j<n->f j=g j):dh n f=dh n g:=by
 rw[dh,dh];apply List.map_congr_left;intro j a;rw[h j (List.mem_range.1 a)]
end Go.ak
