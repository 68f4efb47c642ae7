import Derived.Test.YtenbmieafgdjaaaGreatDoorMPJ
import Derived.Test.YtenbmieafgdjaaaGreatDoorMPH
/- Parts of a proof. -/
set_option linter.unusedSimpArgs false
set_option linter.unusedVariables false
set_option linter.unusedSectionVars false
open Go.Proofs.Tryz
open And renaming intro->ao
open Go renaming DataW->ap, Field->av
open Go.IntKind renaming i64->ax
open Go.Utf8 renaming decode->ay
open Int renaming tmod_eq_emod_of_nonneg->aT, natCast_emod->a0, natAbs_mul->a1
open List renaming mem_of_getElem?->a2, getElem?_eq_getElem->a3, drop_eq_getElem_cons->a4, map_cons->a5, getD_eq_getElem?_getD->a6, any_eq_true->a7, zip_cons_cons->a8, getElem?_take->a9, zip_nil_left->bb, map_nil->be, mem_iff_getElem->bi, range->bk, findIdx?_eq_some_iff_getElem->bl, mem_map->bo, mem_range->bv, findIdx?_eq_none_iff->b0, mem_cons_of_mem->b1, mem_cons_self->b2, take_add_one->b3, getElem_take->b4, length_take->b5, getElem_mem->cb, range_succ->cc, length_map->ce
open Nat renaming lt_of_lt_of_le->ck, lt_trichotomy->cv
namespace Go.al
open Go.Proofs
set_option maxHeartbeats 4000000
set_option maxRecDepth 100000
structure b7 where
 x:Int
 y:Int
 deriving DecidableEq
structure dx where
 name:List Nat
 dB:Int
 a:List Nat
 b:List Nat
structure ct where
 name:List Nat
 pt:gq
structure aC where
 cs:List b7
 bd:Int
 aO:List dx
 au:List ct
def aX(p:b7):PV:=.st 60 [.int .i64 p.x,.int .i64 p.y]
def bQ(p:dx):PV:=.st 109 [.str p.name,.int .i64 p.dB,.str p.a,.str p.b]
def aV(p:ct):PV:=.st 48 [.str p.name,fe p.pt]
def bU(t:aC):PV:=.st 25 [.seq (t.cs.map aX),.int .i64 t.bd,.seq (t.aO.map bQ),.seq (t.au.map aV)]
@[simp] theorem aJ5(p:b7):aL (aX p)=.agg 60:=rfl
@[simp] theorem aG0(p:b7):cB (aX p)=[.int .i64 p.x,.int .i64 p.y]:=rfl
@[simp] theorem aJ2(p:dx):aL (bQ p)=.agg 109:=rfl
@[simp] theorem aGR(p:dx):cB (bQ p)=[.str p.name,.int .i64 p.dB,.str p.a,.str p.b]:=rfl
@[simp] theorem aJ6(p:ct):aL (aV p)=.agg 48:=rfl
@[simp] theorem aG2(p:ct):cB (aV p)=[.str p.name,fe p.pt]:=rfl
@[simp] theorem aKb(t:aC):aL (bU t)=.agg 25:=rfl
@[simp] theorem aG9(t:aC):cB (bU t)=[.seq (t.cs.map aX),.int .i64 t.bd,.seq (t.aO.map bQ),.seq (t.au.map aV)]:=rfl
@[simp] theorem aFB:prog.cellsOf 60=2:=by kernel_rfl
@[simp] theorem aFz:prog.cellsOf 109=4:=by kernel_rfl
@[simp] theorem aFC:prog.cellsOf 48=3:=by kernel_rfl
theorem F1(x y:Int):aX ⟨x,y⟩=.st 60 [.int .i64 x,.int .i64 y]:=rfl
def du(p:b7):Bool:=decide (10000<max p.x p.y)||decide (min p.x p.y< -10000)
theorem Aa(p:b7):az prog 79 [aX p] (.bool (du p)):=by
 obtain⟨x,y⟩:=p;refine aM nf OG mix (by simp[f79]) ?_;have e1:max x y=if x<y then y else x:=by split<;>omega
 have e2:min x y=if y<x then y else x:=by split<;>omega
 rw[du,e1,e2]
 by_cases h:(if x<y then y else x)<=10000
 ·have a:¬10000<(if x<y then y else x):=by omega
  by_cases b:(if y<x then y else x)< -10000
  ·simp[f79,ad,h,a,b]
  ·simp[f79,ad,h,a,b]
 ·have a:10000<(if x<y then y else x):=by omega
  simp[f79,ad,h,a]
def bW(p:b7):Prop:=-10000<=p.x/\p.x<=10000/\-10000<=p.y/\p.y<=10000
theorem rj{p:b7}(h:du p=false):bW p:=by
 simp only[du,Bool.or_eq_false_iff,decide_eq_false_iff_not]at h;unfold bW;omega
def kO(a b c:b7):Int:=(b.x-a.x)*(c.y-a.y)-(b.y-a.y)*(c.x-a.x)
theorem vV{a b:Int}{A B:Int}(c:-A<=a)(d:a<=A)(e:-B<=b)(f:b<=B):-(A*B)<=a*b/\a*b<=A*B:=by
 have k1:a.natAbs<=A.natAbs:=by omega
 have k2:b.natAbs<=B.natAbs:=by omega
 have k3:=Nat.mul_le_mul k1 k2;rw[<-a1,<-a1]at k3;have k4:0<=A*B:=Int.mul_nonneg (by omega) (by omega);omega
theorem Qn(a b c:b7)(i:bW a)(j:bW b)(hc:bW c):az prog 177 [aX a,aX b,aX c] (.int .i64 (kO a b c)):=by
 obtain⟨d,e⟩:=a;obtain⟨bx,f⟩:=b;obtain⟨g,h⟩:=c;simp only[bW]at i j hc;have k:ax.wrap (bx-d)=bx-d:=aI _ (by omega) (by omega);have l:ax.wrap (h-e)=h-e:=aI _ (by omega) (by omega);have m:ax.wrap (f-e)=f-e:=aI _ (by omega) (by omega)
 have n:ax.wrap (g-d)=g-d:=aI _ (by omega) (by omega);have r:=vV (a:=bx-d) (b:=h-e) (A:=20000) (B:=20000) (by omega) (by omega) (by omega) (by omega);have s:=vV (a:=f-e) (b:=g-d) (A:=20000) (B:=20000) (by omega) (by omega) (by omega) (by omega);have o:ax.wrap ((bx-d)*(h-e))=(bx-d)*(h-e):=aI _ (by omega) (by omega);have p:ax.wrap ((f-e)*(g-d))=(f-e)*(g-d):=aI _ (by omega) (by omega);have q:ax.wrap ((bx-d)*(h-e)-(f-e)*(g-d))=(bx-d)*(h-e)-(f-e)*(g-d):=aI _ (by omega) (by omega);refine aM nf EJ mix (by simp[f177]) ?_;rw[kO];simp[f177,ad,k,l,m,n,o,p,q]
def aC.nx(t:aC)(i:Nat):Nat:=(i+1)% t.cs.length
def aC.at(t:aC)(i:Nat):b7:=t.cs.getD i ⟨0,0⟩
theorem aC.get{t:aC}{i:Nat}(h:i<t.cs.length):t.cs[i]?=some (t.at i):=by
 rw[aC.at,a6,a3 h];rfl
@[simp] theorem aC.aN{t:aC}{i:Nat}(h:i<t.cs.length):t.cs[i]'h=t.at i:=by
 rw[aC.at,a6,a3 h];rfl
theorem aC.nR{t:aC}(h:0<t.cs.length)(i:Nat):t.nx i<t.cs.length:=Nat.mod_lt _ h
theorem Ei(t:aC)(i:Nat)(h:i<t.cs.length)(g:t.cs.length<=1000000):az prog 178 [bU t,.int .i64 i] (aX (t.at (t.nx i))):=by
 have f:ax.wrap ((i:Int)+1)=(i:Int)+1:=aI _ (by omega) (by omega);have c:=t.nR (by omega) i;have e1:((i:Int)+1).tmod (t.cs.length:Int)=((t.nx i:Nat):Int):=by
  rw[aC.nx,a0,aT (by omega)];rfl
 have b:=aC.get c;have d:¬t.cs.length=0:=by omega
 have a:¬t.cs=[]:=by intro e;rw[e]at h;simp at h
 refine aM nf EI mix (by simp[f178]) ?_;simp[f178,ad,f,e1,b,d,a]
def aC.mK(t:aC)(i:Nat)(m:Nat):Prop:=∀k,k<m->k≠i->k≠t.nx i->0<kO (t.at i) (t.at (t.nx i)) (t.at k)
instance(t:aC)(i m:Nat):Decidable (t.mK i m):=inferInstanceAs (Decidable (∀k,k<m->_))
def aC.fL(t:aC):Bool:=decide (∀i,i<t.cs.length->t.mK i t.cs.length)
theorem aC.iX{t:aC}(h:∀p∈t.cs,bW p){i:Nat}(hi:i<t.cs.length):bW (t.at i):=h _ (a2 (aC.get hi))
theorem Qv(t:aC)(x:t.cs.length<=1000000)(m:∀p∈t.cs,bW p):az prog 80 [bU t] (.bool t.fL):=by
 refine aM nf OH mix (by simp[f80]) ?_;generalize a:t.cs.length=n at*;simp[f80,ad,a];refine lp (α:=Nat) (fun i=>⟨[(4,.p (.int .i64 i)),(3,.p (.int .i64 n)),(1,.ptr 0 [])],[.box false (.p (bU t))]⟩) (fun i=>i<=n/\∀j,j<i->t.mK j n) (fun i=>n-i) 0 (by simp) ?_;rintro i ⟨v,q⟩
 by_cases hi:i<n
 ·simp[hi];refine lp (α:=Nat) (fun k=>⟨[(5,.p (.int .i64 k)),(4,.p (.int .i64 i)),(3,.p (.int .i64 n)),(1,.ptr 0 [])],[.box false (.p (bU t))]⟩) (fun k=>k<=n/\t.mK i k) (fun k=>n-k) 0 (by simp[aC.mK]) ?_;rintro k ⟨g1,g2⟩
  by_cases hk:k<n
  ·have r:=Ei t i (by omega) (by omega);have y:t.nx i<n:=by rw[<-a];exact t.nR (by omega) i
   have d:=bY (i:=i) (by omega);have e:=bY (i:=k) (by omega);have e1:((i:Int)+1).tmod (n:Int)=((t.nx i:Nat):Int):=by
    rw[aC.nx,a,a0,aT (by omega)];rfl
   have s:=Qn (t.at i) (t.at (t.nx i)) (t.at k) (aC.iX m (by omega)) (aC.iX m (by omega)) (aC.iX m (by omega));have f:=aC.get (t:=t) (i:=i) (by omega);have gk:=aC.get (t:=t) (i:=k) (by omega);have o:¬n=0:=by omega
   by_cases c1:k=i
   ·subst c1;simp[hk,e];exact rd (k+1) ⟨hk,fun j g=>by
     by_cases l:j=k
     ·intro h;exact(h l).elim
     ·exact g2 j (by omega)⟩
   ·have b:¬(k:Int)=(i:Int):=by omega
    by_cases c2:k=t.nx i
    ·rw[<-c2]at e1;simp[hk,b,d,e,e1,o];exact rd (k+1) ⟨hk,fun j g=>by
      by_cases l:j=k
      ·intro _ h;exact(h (by omega)).elim
      ·exact g2 j (by omega)⟩
    ·have c:¬(k:Int)=((t.nx i:Nat):Int):=by omega
     by_cases c3:kO (t.at i) (t.at (t.nx i)) (t.at k)<=0
     ·simp[hk,b,c,d,e,e1,o,f,gk,a,ad];refine Go.al.e2 r ?_;simp[hk,a,f,gk,b,c,ad];refine Go.al.e3 s ?_;simp[c3,b,c];have:t.fL=false:=by
       rw[aC.fL,decide_eq_false_iff_not];intro h;have:=h i (by omega) k (by omega) c1 c2;omega
      rw[this]
     ·simp[hk,b,c,d,e,e1,o,f,gk,a,ad];refine Go.al.e2 r ?_;simp[hk,a,f,gk,b,c,ad];refine Go.al.e3 s ?_;simp[c3,e,b,c];exact rd (k+1) ⟨hk,fun j g=>by
       by_cases l:j=k
       ·subst l;intro _ _;omega
       ·exact g2 j (by omega)⟩
  ·have:k=n:=by omega
   subst this;have d:=bY (i:=i) (by omega);simp[d];exact rd (i+1) ⟨hi,fun j g=>by
    by_cases u:j=i
    ·subst u;exact g2
    ·exact q j (by omega)⟩
 ·have w:i=n:=by omega
  have:t.fL=true:=by
   rw[aC.fL,decide_eq_true_eq,a];intro j g;exact q j (by omega)
  simp[hi,this]
def il(p:b7):V2:=⟨(p.x:Rat),(p.y:Rat)⟩
theorem mI{p:b7}(h:bW p):bN 14 (il p):=by
 simp only[bW]at h;exact⟨Bw (by omega) (by decide),Bw (by omega) (by decide)⟩
theorem zK(p:b7)(h:bW p):az prog 144 [aX p] (eV (il p)):=by
 have c:=h;simp only[bW]at h;have a:=Ck p.x (by omega) (by omega);have b:=Ck p.y (by omega) (by omega);refine aM nf FX mix (by simp[f144]) ?_;rw[il,sK];simp[f144,ad];refine e1 a ?_;simp[ad];refine e1 b ?_;simp[ad]
def aC.df(t:aC)(i:Nat):V2:=(il (t.at (t.nx i))).sub (il (t.at i))
def aC.side(t:aC)(i:Nat)(v:V2):Int:=gO ((t.df i).gP (v.sub (il (t.at i))))
theorem aC.okW{t:aC}(h:∀p∈t.cs,bW p){i:Nat}(hi:i<t.cs.length):bN 29 (t.df i):=qz (mI (aC.iX h (t.nR (by omega) i))) (mI (aC.iX h hi))
theorem W7(t:aC)(i:Nat)(v:V2)(e:t.cs.length<=1000000)(b:∀p∈t.cs,bW p)(hi:i<t.cs.length)(d:bN 3000 v):az prog 86 [bU t,.int .i64 i,eV v] (.int .i64 (t.side i v)):=by
 have a:=aC.get hi;have c:=mI (aC.iX b hi);have n:=mI (aC.iX b (t.nR (by omega) i));have f:=zK (t.at i) (aC.iX b hi);have g:=Ei t i hi e;have h:=zK (t.at (t.nx i)) (aC.iX b (t.nR (by omega) i));have j:=CX (il (t.at (t.nx i))) (il (t.at i)) (n.mono (by decide)) (c.mono (by decide));have k:=CX v (il (t.at i)) (d.mono (by decide)) (c.mono (by decide));have l:=P2 (t.df i) (v.sub (il (t.at i))) ((aC.okW b hi).mono (by decide)) ((qz d c).mono (by decide));have m:=xV ((t.df i).gP (v.sub (il (t.at i)))) ((P0 (aC.okW b hi) (qz d c)).mono (by decide));refine aM nf OM mix (by simp[f86]) ?_;rw[aC.side];simp[f86,ad,a,hi];refine e1 f ?_;simp[ad,a,hi];refine e2 g ?_;simp[ad,a,hi];refine e1 h ?_;simp[ad,a,hi];refine⟨by repeat' first|rfl|apply ao,?_⟩;refine e2 j ?_;simp[ad,a,hi];refine e2 k ?_;simp[ad,a,hi];refine e2 l ?_;simp[ad,a,hi];refine e1 m ?_;simp[ad,a,hi]
def aC.o9(t:aC)(v:V2)(m:Nat):Int:=(bk m).foldl (fun o i=>min o (t.side i v)) 1
theorem aC.DZ(t:aC)(v:V2)(m:Nat):t.o9 v (m+1)=min (t.o9 v m) (t.side m v):=by
 rw[aC.o9,cc,List.foldl_append];rfl
def aC.on(t:aC)(v:V2):Int:=t.o9 v t.cs.length
theorem Ee(a b:Int):min a b=if b<a then b else a:=by split<;>omega
theorem Ni(t:aC)(v:V2)(b:t.cs.length<=1000000)(c:∀p∈t.cs,bW p)(d:bN 3000 v):az prog 19 [bU t,eV v] (.int .i64 (t.on v)):=by
 refine aM nf N6 mix (by simp[f19]) ?_;simp[f19,ad];refine lp (α:=Nat) (fun i=>⟨[(6,.p (.int .i64 i)),(5,.p (.int .i64 (t.o9 v i))),(3,.ptr 1 []),(2,.ptr 0 [])],[.box false (.p (bU t)),.box false (.p (eV v))]⟩) (fun i=>i<=t.cs.length) (fun i=>t.cs.length-i) 0 (by simp) ?_ (hh:=by simp[aC.o9]) (he:=by simp[aC.o9]);rintro i f
 by_cases hi:i<t.cs.length
 ·have a:=W7 t i v b c hi d;have e:=bY (i:=i) (by omega);have hs:=aC.DZ t v i;rw[Ee]at hs;simp[hi,ad];refine c3 a ?_;simp[e,<-hs];exact rd (i+1) hi
 ·have:i=t.cs.length:=by omega
  subst this;simp[aC.on,ad]
def isLet(c:Int):Bool:=(decide (97<=c)&&decide (c<=122))||(decide (65<=c)&&decide (c<=90))
def iL(c:Int):Bool:=decide (48<=c)&&decide (c<=57)
def lL:Nat->List Nat->Bool
 |_,[]=>true
 |i,c::r=>(isLet c||(decide (i≠0)&&(iL c||decide ((c:Int)=95))))&&lL (i+1) r
def isName(s:List Nat):Bool:=decide (1<=s.length)&&decide (s.length<=24)&&lL 0 s
theorem cls(c:Int):(97<=c/\c<=122)\/(¬97<=c/\65<=c/\c<=90)\/(¬97<=c/\¬65<=c/\¬48<=c/\¬c=95)\/(¬97<=c/\¬65<=c/\48<=c/\c<=57/\¬c=95)\/(¬97<=c/\¬65<=c/\48<=c/\¬c<=57/\¬c=95)\/
 (¬97<=c/\65<=c/\¬c<=90/\48<=c/\¬c<=57/\c=95)\/(¬97<=c/\65<=c/\¬c<=90/\48<=c/\¬c<=57/\¬c=95)\/(97<=c/\¬c<=122/\65<=c/\¬c<=90/\48<=c/\¬c<=57/\¬c=95):=by omega
theorem DY(c:Int):az prog 207 [.int .i32 c] (.bool (isLet c)):=by
 refine aM nf FK mix (by simp[f207]) ?_;rcases cls c with⟨a,b⟩|⟨a,b,d⟩|⟨a,b,d,e⟩|⟨a,b,d,e,f⟩|⟨a,b,d,e,f⟩|⟨a,b,d,e,f,g⟩|⟨a,b,d,e,f,g⟩|⟨a,b,d,e,f,g,h⟩<;>simp[f207,isLet, *]
theorem DV{s:List Nat}{i:Nat}(hi:i<s.length):lL i (s.drop i)=((isLet s[i]||(decide (i≠0)&&(iL s[i]||decide ((s[i]:Int)=95))))&&lL (i+1) (s.drop (i+1))):=by
 rw[a4 hi,lL]
theorem zG(s:List Nat)(h:s.length<=1048576):az prog 82 [.str s] (.bool (isName s)):=by
 refine aM nf OJ mix (by simp[f82]) ?_;rcases zI s.length 1 with⟨g1,m⟩|⟨g1,m⟩
 ·have:s.length=0:=by omega
  simp[f82,g1,isName,this]
 rcases zI 24 s.length with⟨g2,n⟩|⟨g2,n⟩
 ·have:¬s.length<=24:=by omega
  simp[f82,g1,g2,isName,this]
 simp[f82,g1,g2];have e0:isName s=lL 0 s:=by simp[isName];omega
 refine lp (α:=Nat) (fun i=>⟨[(3,.p (.int .i64 i)),(0,.p (.str s))],[]⟩) (fun i=>i<=s.length/\isName s=lL i (s.drop i)) (fun i=>s.length-i) 0 (by simp[e0]) ?_;rintro i ⟨k1,k2⟩
 by_cases hi:i<s.length
 ·rw[DV hi]at k2;have k:=bY (i:=i) (by omega);generalize hc:(s[i]:Int)=c at*
  by_cases j:i=0
  ·subst j;have l:ax.wrap 1=1:=aI 1 (by omega) (by omega);rcases cls c with⟨a,b⟩|⟨a,b,d⟩|⟨a,b,d,e⟩|⟨a,b,d,e,f⟩|⟨a,b,d,e,f⟩|⟨a,b,d,e,f,g⟩|⟨a,b,d,e,f,g⟩|⟨a,b,d,e,f,g,h⟩
   ·simp[isLet,a,b]at k2;simp[hi,hc,a,b,l];exact rd 1 ⟨hi,by simpa using k2⟩
   ·simp[isLet,a,b,d]at k2;simp[hi,hc,a,b,d,l];exact rd 1 ⟨hi,by simpa using k2⟩
   all_goals
    simp[isLet, *]at k2;simp[hi,hc, *]
  ·rcases cls c with⟨a,b⟩|⟨a,b,d⟩|⟨a,b,d,e⟩|⟨a,b,d,e,f⟩|⟨a,b,d,e,f⟩|⟨a,b,d,e,f,g⟩|⟨a,b,d,e,f,g⟩|⟨a,b,d,e,f,g,h⟩
   ·simp[isLet,a,b]at k2;simp[hi,hc,a,b,k];exact rd (i+1) ⟨hi,k2⟩
   ·simp[isLet,a,b,d]at k2;simp[hi,hc,a,b,d,k];exact rd (i+1) ⟨hi,k2⟩
   ·simp[isLet,iL,a,b,d,e]at k2;simp[hi,hc,j,a,b,d,e,k2]
   ·simp[isLet,iL,a,b,d,e,j]at k2;simp[hi,hc,j,a,b,d,e,k];exact rd (i+1) ⟨hi,k2⟩
   ·simp[isLet,iL,a,b,d,e,f]at k2;simp[hi,hc,j,a,b,d,e,f,k2]
   ·subst g;simp[isLet,iL,j]at k2;simp[hi,hc,j,k];exact rd (i+1) ⟨hi,k2⟩
   ·simp[isLet,iL,a,b,d,e,f,g]at k2;simp[hi,hc,j,a,b,d,e,f,g,k2]
   ·simp[isLet,iL,a,b,d,e,f,g,h]at k2;simp[hi,hc,j,a,b,d,e,f,g,h,k2]
 ·have:i=s.length:=by omega
  subst this;simp[lL]at k2;simp[k2]
theorem DT(s:List Nat):(fT s).size=s.length:=by
 show(s.map UInt8.ofNat).toArray.size=_;simp
theorem D8(s:List Nat)(b:∀c∈s,c<256)(i:Nat)(h:i<s.length)(a:i<(fT s).size):((fT s)[i]'a).toNat=s[i]:=by
 have e:(fT s)[i]'a=UInt8.ofNat s[i]:=by
  have:(fT s)[i]'a=(s.map UInt8.ofNat).toArray[i]'(by simpa using h):=rfl;rw[this];simp
 rw[e];have:=b s[i] (cb h);simp;omega
theorem Yc{s:List Nat}(d:∀c∈s,c<256){i:Nat}(h:i<s.length)(b:s[i]<128):ay (fT s) i=(s[i],1):=by
 have a:i<(fT s).size:=by rw[DT];exact h
 have e:=D8 s d i h a;rw[decode_ascii (fT s) i a (by rw[e];exact b),e]
theorem Yb{s:List Nat}(b:∀c∈s,c<256){i:Nat}(h:i<s.length)(d:¬s[i]<128):128<=(ay (fT s) i).1/\1<=(ay (fT s) i).2:=by
 have a:i<(fT s).size:=by rw[DT];exact h
 have e:=D8 s b i h a;exact decode_high (fT s) i a (by rw[e];omega)
theorem zM(s:List Nat)(h:s.length<=1048576):az prog 109 [.str s] (.bool (isName s)):=by
 refine Qx fun l=>?_;have l:∀c∈s,c<256:=by simpa[ly,dO]using l
 refine aM nf ER mix (by simp[f109]) ?_;simp[f109];refine lp (α:=Nat) (fun i=>⟨[(6,.ptr 0 []),(0,.p (.str s))],[.dv s i]⟩) (fun i=>i<=s.length/\lL 0 s=lL i (s.drop i)) (fun i=>s.length-i) 0 (by simp) ?_;rintro i ⟨k1,k2⟩
 by_cases hi:i<s.length
 ·rw[DV hi]at k2
  by_cases n:s[i]<128
  ·have m:=Yc l hi n;simp[hi,m];refine c1 (DY _) ?_;generalize hc:(s[i]:Int)=c at*
   by_cases j:i=0
   ·rcases cls c with⟨a,b⟩|⟨a,b,d⟩|⟨a,b,d,e⟩|⟨a,b,d,e,f⟩|⟨a,b,d,e,f⟩|⟨a,b,d,e,f,g⟩|⟨a,b,d,e,f,g⟩|⟨a,b,d,e,f,g,h⟩
    ·simp[isLet,a,b]at k2;simp[isLet,a,b];exact rd (i+1) ⟨hi,k2⟩
    ·simp[isLet,a,b,d]at k2;simp[isLet,a,b,d];exact rd (i+1) ⟨hi,k2⟩
    all_goals
     simp[isLet,isName, *]at k2;simp[isLet,isName, *]
   ·rcases cls c with⟨a,b⟩|⟨a,b,d⟩|⟨a,b,d,e⟩|⟨a,b,d,e,f⟩|⟨a,b,d,e,f⟩|⟨a,b,d,e,f,g⟩|⟨a,b,d,e,f,g⟩|⟨a,b,d,e,f,g,h⟩
    ·simp[isLet,a,b]at k2;simp[isLet,a,b];exact rd (i+1) ⟨hi,k2⟩
    ·simp[isLet,a,b,d]at k2;simp[isLet,a,b,d];exact rd (i+1) ⟨hi,k2⟩
    ·simp[isLet,iL,a,b,d,e]at k2;have d2:c<48:=by omega
     simp[isLet,isName,a,b,e,j,d2,k2]
    ·simp[isLet,iL,a,b,d,e,f,j]at k2;have d2:¬c<48:=by omega
     have e2:¬57<c:=by omega
     simp[isLet,a,b,d2,e2,f,j];exact rd (i+1) ⟨hi,k2⟩
    ·simp[isLet,iL,a,b,d,e,f]at k2;have d2:¬c<48:=by omega
     have e2:57<c:=by omega
     simp[isLet,isName,a,b,d2,e2,f,j,k2]
    ·subst g;simp[isLet,iL,j]at k2;simp[isLet,j];exact rd (i+1) ⟨hi,k2⟩
    ·simp[isLet,iL,a,b,d,e,f,g]at k2;have d2:¬c<48:=by omega
     have e2:57<c:=by omega
     simp[isLet,isName,a,b,d,d2,e2,g,j,k2]
    ·simp[isLet,iL,a,b,d,e,f,g,h]at k2;have d2:¬c<48:=by omega
     have e2:57<c:=by omega
     simp[isLet,isName,a,b,d,e,d2,e2,h,j,k2]
  ·obtain⟨m,_⟩:=Yb l hi n;have y:isLet (s[i]:Int)=false:=by simp[isLet];omega
   have x:iL (s[i]:Int)=false:=by simp[iL];omega
   have w:¬(s[i]:Int)=95:=by omega
   simp[y,x,w]at k2;rcases o:ay (fT s) i with⟨c,d⟩
   rw[o]at m;have q:isLet (c:Int)=false:=by simp[isLet];omega
   have t:¬(c:Int)=95:=by omega
   have u:¬(c:Int)<48:=by omega
   have v:57<(c:Int):=by omega
   simp[hi,o];refine c1 (DY _) ?_
   by_cases j:i=0
   ·simp[q,j,isName,k2]
   ·simp[q,j,t,u,v,isName,k2]
 ·have:i=s.length:=by omega
  subst this;simp[lL]at k2;cases hs:s with
  |nil=>simp[isName]
  |cons a r=>
   rw[hs]at k2;rcases zI 24 s.length with⟨g,k⟩|⟨g,k⟩
   ·rw[hs]at g k;have:¬(r.length+1)<=24:=by simp at g;omega
    simp at k;simp[isName,k2,this];omega
   ·rw[hs]at g k;have:(r.length+1)<=24:=by simp at k;omega
    simp at k;simp[isName,k2,this];omega
theorem fX{s:List Nat}(h:bX s=0):bL 2000 (aY s):=by
 obtain⟨b,c⟩:=XH h;have a:(10:Nat)^mD<=2^2000:=by decide+kernel
 exact⟨ck b a,ck c a⟩
theorem aDL:bC 1=[49]:=aDM (n:=1) (by decide)
def ff(q:Rat):Int:=if gO q<0\/0<eM q 1 then 3 else 0
def vX(s:List Nat):Int:=if bX s=0 then ff (aY s)else bX s
theorem D3(s:List Nat)(hs:gN s):az prog 179 [.str s] (.int .i64 (vX s)):=by
 have d:=yr s hs;refine aM nf EH mix (by simp[f179]) ?_;rw[vX]
 by_cases c:bX s=0
 ·have o:=fX c;have f:=xV (aY s) (o.mono (by decide));have g:=tH (aY s) 1 (o.mono (by decide)) (by exact⟨by decide+kernel,by decide+kernel⟩);rw[(iR c).1]at f g;rw[aDL]at g;rw[if_pos c,ff];rw[c]at d;generalize gO (aY s)=x at*;generalize eM (aY s) 1=y at*
  by_cases a:x<0
  ·simp[f179,ad];refine c1 d ?_;simp[ad];refine c1 f ?_;simp[a,ad]
  ·by_cases b:0<y
   ·simp[f179,ad];refine c1 d ?_;simp[ad];refine c1 f ?_;simp[a,ad];refine c2 g ?_;simp[a,b,ad]
   ·simp[f179,ad];refine c1 d ?_;simp[ad];refine c1 f ?_;simp[a,ad];refine c2 g ?_;simp[a,b,ad]
 ·rw[if_neg c];generalize bX s=e at*;simp[f179,ad];refine c1 d ?_;simp[c,ad]
def gu(o p:dx):Bool:=decide (o.dB=p.dB)&&(decide (eM (aY o.a) (aY p.b)<=0)&&decide (eM (aY p.a) (aY o.b)<=0))
def fY(n:Nat)(c:List dx)(p:dx):Int:=
 if isName p.name=false then 8
 else if c.any (fun o=>decide (o.name=p.name))=true then 9
 else if p.dB<0\/(n:Int)<=p.dB then 10
 else if bX p.a≠0 then bX p.a
 else if bX p.b≠0 then bX p.b
 else if max (ff (aY p.a)) (ff (aY p.b))≠0 then max (ff (aY p.a)) (ff (aY p.b))
 else if 0<eM (aY p.a) (aY p.b)then 11
 else if c.any (fun o=>gu o p)=true then 17 else 0
def qS(p:dx):Prop:=gN p.name/\gN p.a/\gN p.b
def aC.pk(t:aC)(i:Nat):dx:=t.aO.getD i ⟨[],0,[],[]⟩
@[simp] theorem aC.DC{t:aC}{i:Nat}(h:i<t.aO.length):t.aO[i]'h=t.pk i:=by
 rw[aC.pk,a6,a3 h];rfl
theorem aC.jj{t:aC}{i:Nat}(h:i<t.aO.length):t.aO[i]?=some (t.pk i):=by rw[a3 h,aC.DC]
theorem tE{α:Type}{f:α->Bool}{l:List α}{i:Nat}{x:α}(h:l[i]?=some x):(l.take (i+1)).any f=((l.take i).any f||f x):=by
 rw[b3,h];simp
theorem P6(t:aC)(i:Nat)(hi:i<t.aO.length)(U:t.aO.length<=1000000)(hc:t.cs.length<=1000000)(P:∀p∈t.aO,qS p)(Q:∀j,j<i->bX (t.pk j).a=0/\bX (t.pk j).b=0):
 az prog 81 [bU t,.int .i64 i] (.int .i64 (fY t.cs.length (t.aO.take i) (t.pk i))):=by
 have v:=aC.jj hi;obtain⟨R,E,F⟩:=P _ (a2 v);have m:=zG (t.pk i).name R.1;have N:=yr (t.pk i).a E;have O:=yr (t.pk i).b F;refine aM nf OI mix (by simp[f81]) ?_;rw[fY];cases B:isName (t.pk i).name
 ·rw[B]at m;simp[f81,ad,v,hi];refine c1 m ?_;simp[ad]
 rw[B]at m;rw[if_neg (by decide)];simp[f81,ad,v,hi];refine c1 m ?_;simp[ad];refine lp (α:=Nat) (fun j=>⟨[(6,.p (.int .i64 j)),(5,.ptr 1 []),(2,.ptr 0 []),(1,.p (.int .i64 i))],[.box false (.p (bU t)),.box false (.p (bQ (t.pk i)))]⟩) (fun j=>j<=i/\(t.aO.take j).any (fun o=>decide (o.name=(t.pk i).name))=false) (fun j=>i-j) 0 (by simp) ?_;rintro j ⟨V,D⟩
 by_cases q:j<i
 ·have z:j<t.aO.length:=by omega
  have g:=aC.jj z;have f:=bY (i:=j) (by omega)
  by_cases n:(t.pk j).name=(t.pk i).name
  ·have:(t.aO.take i).any (fun o=>decide (o.name=(t.pk i).name))=true:=by
    rw[a7];exact⟨t.pk j,a2 (i:=j) (by rw[a9,if_pos q];exact g),by simp[n]⟩
   rw[if_pos this];simp[q,z,g,n,ad]
  ·simp[q,z,g,n,f,ad];exact rd (j+1) ⟨q,by rw[tE g,D];simp[n]⟩
 have:j=i:=by omega
 subst this;rw[D,if_neg (by decide)];have u:((t.pk j).dB<0\/(t.cs.length:Int)<=(t.pk j).dB)\/(¬(t.pk j).dB<0/\¬(t.cs.length:Int)<=(t.pk j).dB):=by omega
 rcases u with u|⟨K,L⟩
 ·rw[if_pos u]
  by_cases e1:(t.pk j).dB<0
  ·simp[e1,ad]
  ·have e2:(t.cs.length:Int)<=(t.pk j).dB:=by omega
   simp[e1,e2,ad]
 rw[if_neg (by omega)];have d0:¬j<j:=by omega
 simp[K,L,d0,ad];refine c1 N ?_
 by_cases c:bX (t.pk j).a=0
 case neg=>
  rw[if_pos c];simp[c,ad]
 rw[if_neg (by simp[c])];simp[c,ad];refine c1 O ?_
 by_cases d:bX (t.pk j).b=0
 case neg=>
  rw[if_pos d];simp[d,ad]
 rw[if_neg (by simp[d])];simp[d,ad];have G:=fX c;have H:=fX d;have x:=D3 (t.pk j).a E;have y:=D3 (t.pk j).b F;rw[vX,if_pos c]at x;rw[vX,if_pos d]at y;have A:=tH (aY (t.pk j).a) (aY (t.pk j).b) (G.mono (by decide)) (H.mono (by decide));rw[(iR c).1,(iR d).1]at A;refine e1 x ?_;simp[ad];refine e1 y ?_;have em:max (ff (aY (t.pk j).a)) (ff (aY (t.pk j).b))=if ff (aY (t.pk j).a)<ff (aY (t.pk j).b)then ff (aY (t.pk j).b)else ff (aY (t.pk j).a):=by split<;>omega
 simp[ad,<-em];clear em x y;generalize max (ff (aY (t.pk j).a)) (ff (aY (t.pk j).b))=M at*
 by_cases hm:M=0
 case neg=>
  simp[hm,ad]
 subst hm;simp[ad];refine c2 A ?_
 by_cases s:0<eM (aY (t.pk j).a) (aY (t.pk j).b)
 ·rw[if_pos s];simp[s,ad]
 rw[if_neg s];simp[s,ad];refine lp (α:=Nat) (fun k=>⟨[(8,.p (.int .i64 k)),(5,.ptr 1 []),(2,.ptr 0 []),(1,.p (.int .i64 j))],[.box false (.p (bU t)),.box false (.p (bQ (t.pk j)))]⟩) (fun k=>k<=j/\(t.aO.take k).any (fun o=>gu o (t.pk j))=false) (fun k=>j-k) 0 (by simp) ?_;rintro k ⟨k1,k2⟩
 by_cases hk:k<j
 ·have e:k<t.aO.length:=by omega
  have gk:=aC.jj e;have f:=bY (i:=k) (by omega);obtain⟨I,J⟩:=Q k hk;have S:=fX I;have T:=fX J;have l:=tH (aY (t.pk k).a) (aY (t.pk j).b) (S.mono (by decide)) (H.mono (by decide));have w:=tH (aY (t.pk j).a) (aY (t.pk k).b) (G.mono (by decide)) (T.mono (by decide));rw[(iR I).1,(iR d).1]at l;rw[(iR c).1,(iR J).1]at w;have C:gu (t.pk k) (t.pk j)=true->(t.aO.take j).any (fun o=>gu o (t.pk j))=true:=fun h=>by
   rw[a7];exact⟨t.pk k,a2 (i:=k) (by rw[a9,if_pos hk];exact gk),h⟩
  have r:gu (t.pk k) (t.pk j)=false->(t.aO.take (k+1)).any (fun o=>gu o (t.pk j))=false:=fun h=>by
   rw[tE gk,k2,h];rfl
  rw[gu]at C r
  by_cases e1:(t.pk k).dB=(t.pk j).dB
  ·by_cases e2:eM (aY (t.pk k).a) (aY (t.pk j).b)<=0
   ·by_cases e3:eM (aY (t.pk j).a) (aY (t.pk k).b)<=0
    ·rw[if_pos (C (by simp[e1,e2,e3]))];simp[hk,e,gk,e1,ad];refine c2 l ?_;simp[e1,e2,ad];refine c2 w ?_;simp[e1,e2,e3,ad]
    ·simp[hk,e,gk,e1,ad];refine c2 l ?_;simp[e1,e2,ad];refine c2 w ?_;simp[e1,e2,e3,f,ad];exact rd (k+1) ⟨hk,r (by simp[e3])⟩
   ·simp[hk,e,gk,e1,ad];refine c2 l ?_;simp[e1,e2,f,ad];exact rd (k+1) ⟨hk,r (by simp[e2])⟩
  ·simp[hk,e,gk,e1,f,ad];exact rd (k+1) ⟨hk,r (by simp[e1])⟩
 ·have:k=j:=by omega
  subst this;rw[k2,if_neg (by decide)];simp[ad]
structure NV where
 x:NF
 y:NF
def NV.q(v:NV):V2:=⟨v.x.q,v.y.q⟩
def NV.add(v w:NV):NV:=⟨v.x.add w.x,v.y.add w.y⟩
def NV.sub(v w:NV):NV:=⟨v.x.sub w.x,v.y.sub w.y⟩
def NV.times(v:NV)(k:NF):NV:=⟨v.x.mul k,v.y.mul k⟩
def NV.dot(v w:NV):NF:=(v.x.mul w.x).add (v.y.mul w.y)
def NV.gP(v w:NV):NF:=(v.x.mul w.y).sub (v.y.mul w.x)
theorem NV.lG(v w:NV):(v.sub w).q=v.q.sub w.q:=by simp only[NV.sub,NV.q,V2.sub,NF.lG]
theorem NV.Ri(v w:NV):(v.add w).q=v.q.add w.q:=rfl
theorem NV.NC(v w:NV):(v.dot w).q=v.q.dot w.q:=rfl
theorem NV.XI(v w:NV):(v.gP w).q=v.q.gP w.q:=NF.lG _ _
def NV.from(p:gq):NV:=⟨⟨aY p.x,false⟩,⟨aY p.y,false⟩⟩
structure NS where
 a:NF
 b:NF
 d:NF
def NS.q(s:NS):S3:=⟨s.a.q,s.b.q,s.d.q⟩
def Du(k:Nat)(s:NS):Prop:=bL k s.a.q/\bL k s.b.q/\bL k s.d.q
theorem Dp{q:Rat}(h:bL 1800 q):vH q=false:=by
 have a:(bt q.num.natAbs).length<=600:=vt (K:=1800) (k:=600) h.1 (by decide) (by decide);have b:(bt q.den).length<=600:=vt (K:=1800) (k:=600) h.2 (by decide) (by decide);rw[vH,ka,ka,decide_eq_false (by omega),decide_eq_false (by omega)];rfl
def NF.width(r:Int):NF:=.int (4*r*r)
structure NM where
 w:NV
 d:NV
 root:NF
def NM.of(width:NF)(p d b:NV):NM:=⟨b.sub p,d,(((b.sub p).dot d).mul ((b.sub p).dot d)).sub ((d.dot d).mul (((b.sub p).dot (b.sub p)).sub width))⟩
theorem nv:∀l:List Int,bG l=0↔∀e∈l,e=0
 |[]=>by simp[bG]
 |e::r=>by
  rw[bG]
  by_cases h:e=0
  ·rw[if_pos h,nv r];simp[h]
  ·rw[if_neg h];simp[h]
theorem iv{p:gq}(h:dw p=0):bX p.x=0/\bX p.y=0:=by
 have:=(nv _).1 h;exact⟨this _ (by simp),this _ (by simp)⟩
def vP(p:gq):V2:=⟨aY p.x,aY p.y⟩
theorem sU(p:gq):(NV.from p).q=vP p:=rfl
theorem Ag{k:Nat}{p:gq}(h:bN k (vP p)):bN k (NV.from p).q:=h
theorem aAa{a b:Nat}{x y:NF}(h:bL a x.q)(c:bL b y.q):bL (a+b+1) (x.sub y).q:=by rw[NF.lG];exact tX h c
structure NB where
 a:NV
 b:NV
 d:NF
def NB.q(n:NB):P4:=⟨⟨n.a.x.q,n.b.x.q,n.d.q⟩,⟨n.a.y.q,n.b.y.q,n.d.q⟩⟩
def okB(k:Nat)(n:NB):Prop:=bN k n.a.q/\bN k n.b.q/\bL k n.d.q
theorem okB.mono{k l:Nat}{n:NB}(h:okB k n)(a:k<=l):okB l n:=⟨h.1.mono a,h.2.1.mono a,h.2.2.mono a⟩
theorem Nb(e:Int):∀l:List Int,bG (l++[e])=if bG l=0 then e else bG l
 |[]=>by by_cases h:e=0<;>simp[bG,h]
 |x::l=>by
  simp only[List.cons_append,bG,Nb e l]
  by_cases hx:x=0
  ·simp[hx]
  ·simp[hx]
def lM(v:V2):gq:=⟨bC v.x,bC v.y⟩
theorem C6(v:V2):eV v=fe (lM v):=rfl
def fM{α:Type}(a:List α->α->Int)(l:List α)(i:Nat):Int:=match l[i]? with
 |some x=>a (l.take i) x
 |none=>0
def jH{α:Type}(a:List α->α->Int)(l:List α):Int:=bG ((bk l.length).map (fM a l))
theorem DW{f:Nat->Int}:∀(n i:Nat),(∀j,j<i->f j=0)->i<n->f i≠0->bG ((bk n).map f)=f i
 |0,i,_,h,_=>by omega
 |n+1,i,a,g,b=>by
  rw[cc,List.map_append,a5,be,Nb]
  by_cases hi:i<n
  ·rw[DW n i a hi b,if_neg b]
  ·have:i=n:=by omega
   subst this;rw[(nv _).2 (by intro e c;obtain⟨j,d,rfl⟩:=bo.1 c;exact a j (bv.1 d)),if_pos rfl]
theorem ri{α:Type}{a:List α->α->Int}{l:List α}{i:Nat}{x:α}(h:∀j,j<i->fM a l j=0)(hx:l[i]?=some x)(b:a (l.take i) x≠0):jH a l=a (l.take i) x:=by
 have hi:=(List.getElem?_eq_some_iff.1 hx).1;have e:fM a l i=a (l.take i) x:=by rw[fM,hx]
 rw[jH,DW _ i h hi (by rw[e];exact b),e]
theorem mL{α:Type}{b:List α->α->Int}{l:List α}:jH b l=0↔∀j,j<l.length->fM b l j=0:=by
 rw[jH,nv];constructor
 ·intro h j a;exact h _ (bo.2 ⟨j,bv.2 a,rfl⟩)
 ·intro h e c;obtain⟨j,a,rfl⟩:=bo.1 c;exact h j (bv.1 a)
theorem rh{α:Type}{a:List α->α->Int}{l:List α}{i:Nat}{x:α}(h:∀j,j<i->fM a l j=0)(hx:l[i]?=some x)(c:a (l.take i) x=0):∀j,j<i+1->fM a l j=0:=by
 intro j d
 by_cases b:j=i
 ·subst b;rw[fM,hx];exact c
 ·exact h j (by omega)
def iq(t:aC)(bef:List ct)(s:ct):Int:=
 if isName s.name=false then 8
 else if bef.any (fun o=>decide (o.name=s.name))=true then 9
 else if dw s.pt≠0 then dw s.pt
 else if t.on (vP s.pt)<0 then 16 else 0
def dU(t:aC):Int:=
 if t.cs.length<3 then 2
 else if 12<t.cs.length then 5
 else if t.cs.any du=true then 3
 else if t.fL=false then 15
 else if t.bd<1\/1000<t.bd then 3
 else if 12<t.aO.length then 5
 else if jH (fY t.cs.length) t.aO≠0 then jH (fY t.cs.length) t.aO
 else if 256<t.au.length then 5
 else jH (iq t) t.au
def jA(p:ct):Prop:=gN p.name/\qR p.pt
def aC.sp(t:aC)(i:Nat):ct:=t.au.getD i ⟨[],⟨[],[]⟩⟩
@[simp] theorem aC.qY{t:aC}{i:Nat}(h:i<t.au.length):t.au[i]'h=t.sp i:=by
 rw[aC.sp,a6,a3 h];rfl
theorem aC.fg{t:aC}{i:Nat}(h:i<t.au.length):t.au[i]?=some (t.sp i):=by rw[a3 h,aC.qY]
structure kt(t:aC):Prop where
 cl:t.cs.length<=1000000
 pl:t.aO.length<=1000000
 sl:t.au.length<=1000000
 pk:∀p∈t.aO,qS p
 sp:∀s∈t.au,jA s
def mJ(t:aC)(name:List Nat):Int:=match t.au.findIdx? (fun s=>decide (s.name=name))with
 |some i=>i
 |none=>-1
theorem zL{n:Nat}{c:List dx}{p:dx}(h:fY n c p=0):bX p.a=0/\bX p.b=0:=by
 rw[fY]at h
 split at h
 ·omega
 split at h
 ·omega
 split at h
 ·omega
 split at h
 ·contradiction
 split at h
 ·contradiction
 rename_i d e;exact⟨Decidable.not_not.1 d,Decidable.not_not.1 e⟩
theorem W9(t:aC)(name:List Nat)(h:t.au.length<=1000000):az prog 15 [bU t,.str name] (.int .i64 (mJ t name)):=by
 refine aM nf N4 mix (by simp[f15]) ?_;simp[f15,ad];refine lp (α:=Nat) (fun i=>⟨[(5,.p (.int .i64 i)),(2,.ptr 0 []),(1,.p (.str name))],[.box false (.p (bU t))]⟩) (fun i=>i<=t.au.length/\∀j,j<i->¬(t.sp j).name=name) (fun i=>t.au.length-i) 0 (by simp) ?_;rintro i ⟨g,c⟩
 by_cases hi:i<t.au.length
 ·have d:=aC.fg hi;have f:=bY (i:=i) (by omega)
  by_cases a:(t.sp i).name=name
  ·have:mJ t name=i:=by
    have:t.au.findIdx? (fun s=>decide (s.name=name))=some i:=by
     rw[bl];refine⟨hi,by rw[aC.qY];simp[a],fun j b=>?_⟩;rw[aC.qY];simp[c j b]
    rw[mJ,this]
   simp[hi,d,a,this,ad]
  ·simp[hi,d,a,f,ad];exact rd (i+1) ⟨hi,fun j b=>by
    by_cases e:j=i
    ·subst e;exact a
    ·exact c j (by omega)⟩
 ·have:i=t.au.length:=by omega
  subst this;have:mJ t name= -1:=by
   have:t.au.findIdx? (fun s=>decide (s.name=name))=none:=by
    rw[b0];intro s hs;obtain⟨j,b,rfl⟩:=bi.1 hs;rw[aC.qY];simp[c j b]
   rw[mJ,this]
  simp[this,ad]
theorem aCS{t:aC}{i:Nat}(hi:i<t.au.length):mJ t (t.sp i).name<i↔(t.au.take i).any (fun o=>decide (o.name=(t.sp i).name))=true:=by
 obtain⟨k,hk⟩:∃k,t.au.findIdx? (fun s=>decide (s.name=(t.sp i).name))=some k:=by
  cases h:t.au.findIdx? (fun s=>decide (s.name=(t.sp i).name))with
  |some k=>exact⟨k,rfl⟩
  |none=>
   rw[b0]at h;have:=h _ (a2 (aC.fg hi));simp at this
 rw[mJ,hk];rw[bl]at hk;obtain⟨k1,k2,k3⟩:=hk;rw[a7];constructor
 ·intro h;have h:k<i:=by simp only at h;omega
  exact⟨t.au[k],a2 (i:=k) (by rw[a9,if_pos h,a3 k1]),k2⟩
 ·rintro⟨o,b,a⟩;obtain⟨j,c,rfl⟩:=bi.1 b;simp only[b5]at c;simp only;rw[b4]at a;have:¬j<k:=fun d=>by
   have:=k3 j d;rw[a]at this;simp at this
  omega
theorem DS(t:aC)(L:kt t):az prog 14 [bU t] (.int .i64 (dU t)):=by
 obtain⟨s,M,N,J,K⟩:=L;refine aM nf N3 mix (by simp[f14]) ?_;rw[dU]
 by_cases c1:t.cs.length<3
 ·have cI:(t.cs.length:Int)<3:=by omega
  rw[if_pos c1];simp[f14,ad,cI]
 have v:¬(t.cs.length:Int)<3:=by omega
 rw[if_neg c1]
 by_cases c2:12<t.cs.length
 ·have cI:(12:Int)<t.cs.length:=by omega
  rw[if_pos c2];simp[f14,ad,v,cI]
 have A:¬(12:Int)<t.cs.length:=by omega
 rw[if_neg c2];simp[f14,ad,v,A];refine lp (α:=Nat) (fun i=>⟨[(3,.p (.int .i64 i)),(1,.ptr 0 [])],[.box false (.p (bU t))]⟩) (fun i=>i<=t.cs.length/\(t.cs.take i).any du=false) (fun i=>t.cs.length-i) 0 (by simp) ?_;rintro i ⟨i1,i2⟩
 by_cases hi:i<t.cs.length
 ·have k:=aC.get hi;have f:=bY (i:=i) (by omega);have l:=Aa (t.at i);cases hf:du (t.at i)
  ·rw[hf]at l;simp[hi,k,ad];refine Go.al.c1 l ?_;simp[f,ad];exact rd (i+1) ⟨hi,by rw[tE k,i2,hf];rfl⟩
  ·rw[hf]at l;have:t.cs.any du=true:=a7.2 ⟨t.at i,a2 k,hf⟩;rw[if_pos this];simp[hi,k,ad];refine Go.al.c1 l ?_;simp[ad]
 have:i=t.cs.length:=by omega
 subst this;rw[List.take_length]at i2;have x:∀p∈t.cs,bW p:=fun p I=>rj (by
  cases h:du p
  ·rfl
  ·rw[a7.2 ⟨p,I,h⟩]at i2;cases i2)
 have E:=Qv t s x;rw[i2,if_neg (by decide)];simp[ad];refine Go.al.c1 E ?_;cases R:t.fL
 ·simp[ad]
 rw[if_neg (by decide)];have u:(t.bd<1\/1000<t.bd)\/(¬t.bd<1/\¬1000<t.bd):=by omega
 rcases u with u|⟨y,z⟩
 ·rw[if_pos u]
  by_cases e1:t.bd<1
  ·simp[e1,ad]
  ·have e2:1000<t.bd:=by omega
   simp[e1,e2,ad]
 rw[if_neg (by omega)]
 by_cases c3:12<t.aO.length
 ·have cI:(12:Int)<t.aO.length:=by omega
  rw[if_pos c3];simp[y,z,cI,ad]
 have B:¬(12:Int)<t.aO.length:=by omega
 rw[if_neg c3];simp[y,z,B,ad];refine lp (α:=Nat) (fun i=>⟨[(4,.p (.int .i64 i)),(1,.ptr 0 [])],[.box false (.p (bU t))]⟩) (fun i=>i<=t.aO.length/\∀j,j<i->fM (fY t.cs.length) t.aO j=0) (fun i=>t.aO.length-i) 0 (by simp) ?_;rintro i ⟨k1,k2⟩
 by_cases hk:i<t.aO.length
 ·have gk:=aC.jj hk;have f:=bY (i:=i) (by omega);have b:=P6 t i hk M s J (fun j H=>by
   have:=k2 j H;rw[fM,aC.jj (by omega)]at this;exact zL this)
  by_cases he:fY t.cs.length (t.aO.take i) (t.pk i)=0
  ·rw[he]at b;simp[hk,ad];refine Go.al.c2 b ?_;simp[f,ad];exact rd (i+1) ⟨hk,rh k2 gk he⟩
  ·have G:=ri k2 gk he;rw[G,if_pos he];simp[hk,ad];refine Go.al.c2 b ?_;simp[he,ad]
 have:i=t.aO.length:=by omega
 subst this;have F:=mL.2 k2;rw[F,if_neg (by decide)]
 by_cases c4:256<t.au.length
 ·have cI:(256:Int)<t.au.length:=by omega
  rw[if_pos c4];simp[cI,ad]
 have C:¬(256:Int)<t.au.length:=by omega
 rw[if_neg c4];simp[C,ad];refine lp (α:=Nat) (fun i=>⟨[(6,.p (.int .i64 i)),(1,.ptr 0 [])],[.box false (.p (bU t))]⟩) (fun i=>i<=t.au.length/\∀j,j<i->fM (iq t) t.au j=0) (fun i=>t.au.length-i) 0 (by simp) ?_;rintro i ⟨s1,s2⟩
 by_cases hs:i<t.au.length
 ·have a:=aC.fg hs;have f:=bY (i:=i) (by omega);obtain⟨P,Q⟩:=K _ (a2 a);have c:=zG (t.sp i).name P.1;have m:=W9 t (t.sp i).name N;have b:=Gp (t.sp i).pt Q;have w:=aCS hs;have g:iq t (t.au.take i) (t.sp i)≠0->jH (iq t) t.au=iq t (t.au.take i) (t.sp i):=ri s2 a;have O:iq t (t.au.take i) (t.sp i)=0->∀j,j<i+1->fM (iq t) t.au j=0:=rh s2 a;have ev:iq t (t.au.take i) (t.sp i)=if isName (t.sp i).name=false then 8 else if(t.au.take i).any (fun o=>decide (o.name=(t.sp i).name))=true then 9 else if dw (t.sp i).pt≠0 then dw (t.sp i).pt else if t.on (vP (t.sp i).pt)<0 then 16 else 0:=rfl
  cases n:isName (t.sp i).name
  ·rw[n]at c;rw[n,if_pos rfl]at ev;rw[g (by rw[ev];decide),ev];simp[hs,a,ad];refine Go.al.c1 c ?_;simp[ad]
  rw[n]at c;rw[n,if_neg (by decide)]at ev
  by_cases e:mJ t (t.sp i).name<i
  ·rw[if_pos (w.1 e)]at ev;rw[g (by rw[ev];decide),ev];simp[hs,a,ad];refine Go.al.c1 c ?_;simp[ad];refine Go.al.c2 m ?_;simp[e,ad]
  rw[if_neg (fun h=>e (w.2 h))]at ev
  by_cases d:dw (t.sp i).pt=0
  case neg=>
   rw[if_pos d]at ev;rw[g (by rw[ev];exact d),ev];simp[hs,a,ad];refine Go.al.c1 c ?_;simp[ad];refine Go.al.c2 m ?_;simp[e,ad];refine Go.al.c1 b ?_;simp[d,ad]
  rw[if_neg (by simp[d])]at ev;obtain⟨g1,g2⟩:=iv d;have r:=Ni t (vP (t.sp i).pt) s x ⟨(fX g1).mono (by decide),(fX g2).mono (by decide)⟩;have D:eV (vP (t.sp i).pt)=fe (t.sp i).pt:=by
   rw[eV,vP];dsimp only;rw[(iR g1).1,(iR g2).1]
  rw[D]at r;rw[d]at b
  by_cases q:t.on (vP (t.sp i).pt)<0
  ·rw[if_pos q]at ev;rw[g (by rw[ev];decide),ev];simp[hs,a,ad];refine Go.al.c1 c ?_;simp[ad];refine Go.al.c2 m ?_;simp[e,ad];refine Go.al.c1 b ?_;simp[ad];refine Go.al.c2 r ?_;simp[q,ad]
  ·rw[if_neg q]at ev;simp[hs,a,ad];refine Go.al.c1 c ?_;simp[ad];refine Go.al.c2 m ?_;simp[e,ad];refine Go.al.c1 b ?_;simp[ad];refine Go.al.c2 r ?_;simp[q,f,ad];exact rd (i+1) ⟨hs,O ev⟩
 ·have:i=t.au.length:=by omega
  subst this;rw[mL.2 s2];simp[ad]
open Go.Proofs Go.Proofs.YtenbmieafgdjaaaGreatDoor
section
variable{H:Type}{W:World}{aa:Nat->Prop}
theorem vU:∀d:ap H,1<=Rows.uptoBulk d:=by
 intro d;cases d with
 |lit l=>cases l<;>simp[Rows.uptoBulk]
 |_=>simp[Rows.uptoBulk]
theorem vY{α:Type}{n:Nat}{t e:TypeId}{F:α->PV}{ok:α->Prop}(g:prog.underlying t=some (.slice e))
 (p:∀(d:ap H),(∃c,aS prog W aa (bE prog n e d) c)->Rows.uptoBulk d<=1048576->∃a,bE prog n e d=F a/\ok a/\2<=Rows.uptoBulk d)
 {d:ap H}(h:∃cs,aS prog W aa (bE prog (n+1) t d) cs)(k:Rows.uptoBulk d<=1048576):∃l:List α,bE prog (n+1) t d=.seq (l.map F)/\(∀a∈l,ok a)/\l.length<=1000000:=by
 obtain⟨cs,h⟩:=h;cases d with
 |nil=>exact⟨[],by simp[bE,g],(fun _ h=>nomatch h),by simp⟩
 |slice f sp=>
  simp only[bE,g,aS]at h⊢;have i:∀e'∈f.map (bE prog n e),∃c,aS prog W aa e' c:=by
   rcases h with⟨h,_⟩|⟨_,_,_,_,w,h,_⟩
   ·rw[h];intro _ h;cases h
   ·exact D9 h
  have key:∀f:List (ap H),(∀e'∈f.map (bE prog n e),∃c,aS prog W aa e' c)->Rows.uptoBulkAll f<=1048576->∃l:List α,f.map (bE prog n e)=l.map F/\(∀a∈l,ok a)/\2*l.length<=Rows.uptoBulkAll f:=by
   intro f
   induction f with
   |nil=>intro _ _;exact⟨[],rfl,(fun _ h=>nomatch h),by simp⟩
   |cons d r v=>
    intro i k;rw[Rows.uptoBulkAll]at k⊢;obtain⟨a,q,u,m⟩:=p d (i _ b2) (by omega);obtain⟨l,j,o,y⟩:=v (fun e' s=>i e' (b1 _ s)) (by omega);refine⟨a::l,by simp only[a5];rw[q,j],fun x hx=>?_,by rw[List.length_cons];omega⟩;rcases List.mem_cons.1 hx with rfl|hx
    ·exact u
    ·exact o x hx
  rw[Rows.uptoBulk]at k;obtain⟨l,j,m,o⟩:=key f i (by omega);exact⟨l,by rw[j],m,by omega⟩
 |lit l=>simp only[bE,g,aS]at h
 |ptr d=>simp only[bE,g,aS]at h
 |agg l=>simp only[bE,g,aS]at h
 |iface a b=>simp only[bE,g,aS]at h
 |map l=>simp only[bE,g,aS]at h
 |held a=>simp only[bE,g,aS]at h
theorem zN{n:Nat}{d:ap H}(h:∃cs,aS prog W aa (bE prog (n+1) 9 d) cs)(a:Rows.uptoBulk d<=1048576):∃s:List Nat,bE prog (n+1) 9 d=.str s/\gN s:=by
 obtain⟨cs,h⟩:=h;cases d with
 |lit l=>
  cases l with
  |string bytes=>
   refine⟨bytes.map (·.toNat),by simp only[bE,DO],?_,?_⟩
   ·rw[Rows.uptoBulk]at a;rw[ce];omega
   ·intro c hc;obtain⟨u,_,rfl⟩:=bo.1 hc;exact u.toNat_lt
  |_=>simp only[bE,DO,aS]at h
 |_=>simp only[bE,DO,aS]at h
theorem aD2:∃a b:av,prog.underlying 61=some (.struct #[a,b])/\a.type=3/\b.type=3:=⟨_,_,underlying61,rfl,rfl⟩
theorem PD:prog.underlyingId 61=60:=by kernel_rfl
theorem Ej{m n:Nat}(j:m=n+1){d:ap H}(h:∃cs,aS prog W aa (bE prog (m+1) 61 d) cs)(o:Rows.uptoBulk d<=1048576):∃p:b7,bE prog (m+1) 61 d=aX p/\True/\2<=Rows.uptoBulk d:=by
 obtain⟨cs,h⟩:=h;obtain⟨f0,f1,f,t0,t1⟩:=aD2;cases d with
 |agg l=>
  simp only[bE,f,aS]at h⊢;obtain⟨q,k,e,c,_⟩:=h;rw[PD,aDl]at e;cases e
  match l,c with
  |[],c=>simp[bc]at c
  |[x],c=>simp[bc]at c
  |x::y::r,c=>
   have:=vU x;simp only[a8,a5,bc,bb,be,t0,t1]at c⊢;obtain⟨c0,_,_,g1,_,c1,_,_,g2,_⟩:=c;subst j;obtain⟨a,g⟩:=tG (n:=n) x c0 g1;obtain⟨b,i⟩:=tG (n:=n) y c1 g2;refine⟨⟨a,b⟩,by rw[g,i,PD];rfl,trivial,?_⟩;rw[Rows.uptoBulk,Rows.uptoBulkAll];omega
 |_=>simp only[bE,f,aS]at h
theorem aD0:∃a b f2 f3:av,prog.underlying 110=some (.struct #[a,b,f2,f3])/\a.type=9/\b.type=3/\f2.type=45/\f3.type=45:=⟨_,_,_,_,underlying110,rfl,rfl,rfl,rfl⟩
theorem PB:prog.underlyingId 110=109:=by kernel_rfl
theorem Qd{m n:Nat}(q:m=n+1){d:ap H}(h:∃cs,aS prog W aa (bE prog (m+1) 110 d) cs)(o:Rows.uptoBulk d<=1048576):∃p:dx,bE prog (m+1) 110 d=bQ p/\qS p/\2<=Rows.uptoBulk d:=by
 obtain⟨cs,h⟩:=h;obtain⟨f0,f1,f2,f3,g,t0,t1,t2,t3⟩:=aD0;cases d with
 |agg l=>
  have e:∀x∈l,Rows.uptoBulk x<=1048576:=fun x hx=>by
   have:=oX.sS hx;rw[Rows.uptoBulk]at o;omega
  simp only[bE,g,aS]at h⊢;obtain⟨B,A,f,c,_⟩:=h;rw[PB,aDb]at f;cases f
  match l,c with
  |[],c=>simp[bc]at c
  |[x],c=>simp[bc]at c
  |[x,y],c=>simp[bc]at c
  |[x,y,z],c=>simp[bc]at c
  |x::y::z::w::r,c=>
   have:=vU x;simp only[a8,a5,bc,bb,be,t0,t1,t2,t3]at c⊢;obtain⟨c0,_,_,g0,_,c1,_,_,g1,_,c2,_,_,g2,_,c3,_,_,g3,_⟩:=c;subst q;obtain⟨a,i,k⟩:=zN (n:=n) ⟨c0,g0⟩ (e x (by simp));obtain⟨b,j⟩:=tG (n:=n) y c1 g1;obtain⟨u,eu,s⟩:=yM (n:=n) ⟨c2,g2⟩ (e z (by simp));obtain⟨v,ev,t⟩:=yM (n:=n) ⟨c3,g3⟩ (e w (by simp));refine⟨⟨a,b,u,v⟩,by rw[i,j,eu,ev,PB];rfl,⟨k,s,t⟩,?_⟩;rw[Rows.uptoBulk,Rows.uptoBulkAll];omega
 |_=>simp only[bE,g,aS]at h
theorem aD3:∃a b:av,prog.underlying 49=some (.struct #[a,b])/\a.type=9/\b.type=47:=⟨_,_,underlying49,rfl,rfl⟩
theorem PE:prog.underlyingId 49=48:=by kernel_rfl
theorem Qw{m n:Nat}(s:m=n+2){d:ap H}(h:∃cs,aS prog W aa (bE prog (m+1) 49 d) cs)(o:Rows.uptoBulk d<=1048576):∃p:ct,bE prog (m+1) 49 d=aV p/\jA p/\2<=Rows.uptoBulk d:=by
 obtain⟨cs,h⟩:=h;obtain⟨f0,f1,g,t0,t1⟩:=aD3;cases d with
 |agg l=>
  have f:∀x∈l,Rows.uptoBulk x<=1048576:=fun x hx=>by
   have:=oX.sS hx;rw[Rows.uptoBulk]at o;omega
  simp only[bE,g,aS]at h⊢;obtain⟨u,t,e,c,_⟩:=h;rw[PE,Px]at e;cases e
  match l,c with
  |[],c=>simp[bc]at c
  |[x],c=>simp[bc]at c
  |x::y::r,c=>
   have:=vU x;simp only[a8,a5,bc,bb,be,t0,t1]at c⊢;obtain⟨c0,_,_,g1,_,c1,_,_,g2,_⟩:=c;subst s;obtain⟨a,i,k⟩:=zN (n:=n+1) ⟨c0,g1⟩ (f x (by simp));obtain⟨b,j,q⟩:=HZ (n:=n) ⟨c1,g2⟩ (f y (by simp));refine⟨⟨a,b⟩,by rw[i,j,PE];rfl,⟨k,q⟩,?_⟩;rw[Rows.uptoBulk,Rows.uptoBulkAll];omega
 |_=>simp only[bE,g,aS]at h
theorem aD7:∃a b f2 f3:av,prog.underlying 26=some (.struct #[a,b,f2,f3])/\a.type=22/\b.type=3/\f2.type=23/\f3.type=24:=⟨_,_,_,_,underlying26,rfl,rfl,rfl,rfl⟩
theorem PF:prog.underlyingId 26=25:=by kernel_rfl
theorem aDp{m n:Nat}(p:m=n+4){d:ap H}(h:∃cs,aS prog W aa (bE prog (m+1) 26 d) cs)(e:Rows.uptoBulk d<=1048576):∃t:aC,bE prog (m+1) 26 d=bU t/\True/\kt t:=by
 obtain⟨cs,h⟩:=h;obtain⟨f0,f1,f2,f3,j,t0,t1,t2,t3⟩:=aD7;cases d with
 |agg l=>
  have g:∀x∈l,Rows.uptoBulk x<=1048576:=fun x hx=>by
   have:=oX.sS hx;rw[Rows.uptoBulk]at e;omega
  simp only[bE,j,aS]at h⊢;obtain⟨E,D,i,c,_⟩:=h;rw[PF,aDc]at i;cases i
  match l,c with
  |[],c=>simp[bc]at c
  |[x],c=>simp[bc]at c
  |[x,y],c=>simp[bc]at c
  |[x,y,z],c=>simp[bc]at c
  |x::y::z::w::r,c=>
   simp only[a8,a5,bc,bb,be,t0,t1,t2,t3]at c⊢;obtain⟨c0,_,_,g0,_,c1,_,_,g1,_,c2,_,_,g2,_,c3,_,_,g3,_⟩:=c;subst p;obtain⟨a,k,_,A⟩:=vY (n:=n+3) aDR (F:=aX) (ok:=fun _=>True) (fun d f e=>Ej (n:=n+1) rfl f e) ⟨c0,g0⟩ (g x (by simp));obtain⟨b,o⟩:=tG (n:=n+3) y c1 g1;obtain⟨u,eu,q,B⟩:=vY (n:=n+3) aDS (F:=bQ) (ok:=qS) (fun d f e=>Qd (n:=n+1) rfl f e) ⟨c2,g2⟩ (g z (by simp));obtain⟨v,ev,s,C⟩:=vY (n:=n+3) aDT (F:=aV) (ok:=jA) (fun d f e=>Qw (n:=n) rfl f e) ⟨c3,g3⟩ (g w (by simp));exact⟨⟨a,b,u,v⟩,by rw[k,o,eu,ev,PF];rfl,trivial,A,B,C,q,s⟩
 |_=>simp only[bE,j,aS]at h
theorem aDo{d:ap H}(h:∃cs,aS prog W aa (bE prog 8 26 d) cs)(a:Rows.uptoBulk d<=1048576):∃t:aC,bE prog 8 26 d=bU t/\True/\kt t:=aDp (n:=3) rfl h a
end
def eX(p:dx):PV:=.st 109 [.str p.name,.int .i64 p.dB,.str p.a,.str p.b]
def gf(p:ct):PV:=.st 48 [.str p.name,fe p.pt]
def cA(t:aC):PV:=.st 37 [.seq (t.cs.map aX),.int .i64 t.bd,.seq (t.aO.map eX),.seq (t.au.map gf)]
@[simp] theorem aJ3(p:dx):aL (eX p)=.agg 109:=rfl
@[simp] theorem aGT(p:dx):cB (eX p)=[.str p.name,.int .i64 p.dB,.str p.a,.str p.b]:=rfl
@[simp] theorem aJ7(p:ct):aL (gf p)=.agg 48:=rfl
@[simp] theorem aG3(p:ct):cB (gf p)=[.str p.name,fe p.pt]:=rfl
@[simp] theorem aKa(t:aC):aL (cA t)=.agg 37:=rfl
@[simp] theorem aG8(t:aC):cB (cA t)=[.seq (t.cs.map aX),.int .i64 t.bd,.seq (t.aO.map eX),.seq (t.au.map gf)]:=rfl
theorem z8(p:b7):az prog 158 [aX p] (.bool (du p)):=by
 obtain⟨x,y⟩:=p;refine aM nf FW mix (by simp[f158]) ?_;have e1:max x y=if x<y then y else x:=by split<;>omega
 have e2:min x y=if y<x then y else x:=by split<;>omega
 rw[du,e1,e2]
 by_cases h:(if x<y then y else x)<=10000
 ·have a:¬10000<(if x<y then y else x):=by omega
  by_cases b:(if y<x then y else x)< -10000
  ·simp[f158,ad,h,a,b]
  ·simp[f158,ad,h,a,b]
 ·have a:10000<(if x<y then y else x):=by omega
  simp[f158,ad,h,a]
def idxFrom{α:Type}(p:α->Bool):List α->Nat->Int
 |[],_=>-1
 |x::r,i=>if p x then(i:Int)else idxFrom p r (i+1)
theorem nQ{α:Type}(p:α->Bool):∀(l:List α)(i:Nat),decide (0<=idxFrom p l i)=l.any p
 |[],i=>by simp[idxFrom]
 |x::r,i=>by
  by_cases h:p x
  ·simp[idxFrom,h]
  ·simp[idxFrom,h,nQ p r]
theorem Qb(l:List b7)(h:l.length<=1000000):
 az prog 239 [.seq (l.map aX),.func 158 [] []] (.int .i64 (idxFrom du l 0)):=by
 refine aM nf CV mix (by simp[f239]) ?_;simp[f239];refine lp (α:=Nat) (fun i=>⟨[(8,.p (.int .i64 i)),(7,.p (.int .i64 l.length)),(1,.p (.func 158 [] [])),(0,.p (.seq (l.map aX)))],[]⟩) (fun i=>i<=l.length/\idxFrom du l 0=idxFrom du (l.drop i) i) (fun i=>l.length-i) 0 (by simp) ?_;rintro i ⟨k1,k2⟩
 by_cases hi:i<l.length
 ·rw[a4 hi]at k2;have b:=bY (i:=i) (by omega);simp[hi];refine c1 (z8 l[i]) ?_
  by_cases a:du l[i]
  ·simp[idxFrom,a]at k2;simp[a,k2]
  ·simp[idxFrom,a]at k2;simp[a,b];exact rd (i+1) ⟨hi,k2⟩
 ·have:i=l.length:=by omega
  subst this;simp[idxFrom]at k2;simp[k2]
theorem P1(l:List b7)(h:l.length<=1000000):
 az prog 157 [.seq (l.map aX),.func 158 [] []] (.bool (l.any du)):=by
 refine aM nf z7 mix (by simp[f157]) ?_;simp[f157];refine c2 (Qb l h) ?_;simp[<-nQ du l 0]
def lT(l:List b7):List (PV×PV):=l.map (fun p=>(aX p,PV.bool true))
theorem Et{p q:b7}(h:¬p=q):¬(p.x=q.x/\p.y=q.y):=fun⟨a,b⟩=>h (by cases p;cases q;simp_all)
theorem Yq(a b c d:Int):eZ prog 9 61 (.st 60 [.int .i64 a,.int .i64 b]) (.st 60 [.int .i64 c,.int .i64 d])=some ((a==c)&&((b==d)&&true)):=by kernel_rfl
@[simp] theorem zP(p q:b7):eZ prog 9 61 (aX p) (aX q)=some (decide (p=q)):=by
 rw[aX,aX,Yq]
 by_cases h:p=q
 ·subst h;simp
 ·rw[decide_eq_false h];have:=Et h
  by_cases a:p.x=q.x
  ·have b:¬p.y=q.y:=fun b=>this ⟨a,b⟩;simp[a,b]
  ·simp[a]
theorem Es(p q:b7):jY (aX p) (aX q)=some (decide (p=q)):=by
 by_cases h:p=q
 ·subst h;simp[aX,jY,vD]
 ·rw[decide_eq_false h];have:=Et h
  by_cases a:p.x=q.x
  ·have b:¬p.y=q.y:=fun b=>this ⟨a,b⟩;simp[aX,jY,vD,a,beq_false_of_ne b]
  ·simp[aX,jY,vD,beq_false_of_ne a]
theorem Yp(p q:b7):o5 prog 61 (aX p) (aX q)=some (decide (p=q)):=by
 have e1:=zP p q;have e2:=Es p q;rw[aX]at e1 e2⊢;rw[o5,e1,e2];simp
@[simp] theorem D6(q:b7):∀l:List b7,fF prog 61 (lT l) (aX q)=some (if q∈l then some (.bool true)else none)
 |[]=>rfl
 |p::r=>by
  rw[lT,a5,fF,Yp]
  by_cases h:q=p
  ·simp[h]
  ·have:=D6 q r;rw[lT]at this;simp[h,this]
theorem P9{q:b7}{l:List b7}(h:¬q∈l):lx prog 61 (lT l) (aX q)=some none:=by
 have:=D6 q l;rw[if_neg h]at this;rw[aX]at this⊢;rw[lx,this]
theorem D7{q:b7}:∀{l:List b7},¬q∈l->fZ (lT l) (aX q) (.bool true)=lT (l++[q])
 |[],_=>rfl
 |p::r,h=>by
  have a:¬q=p:=fun e=>h (e▸b2);have b:¬q∈r:=fun e=>h (b1 _ e);have:=D7 b;rw[lT]at this⊢;rw[a5,fZ,Es,this];simp[a,lT]
theorem az9:mA prog 61=true:=by kernel_rfl
@[simp high] theorem aFj(c:Bool)(H:Heap)(p q:b7):iU prog .neq 61 c H (.p (aX p)) (.p (aX q))=some (True,{v:=.p (.bool !(decide (p=q)))}):=by
 have e:=zP p q;rw[aX,aX]at*;simp[iU,e,az9]
@[simp high] theorem aGK(q:b7):fj prog 61 (aX q)=true:=by
 have e1:=zP q q;rw[aX]at e1⊢;rw[fj];simp[e1]
theorem Qq(a c:b7):kO a a c=0:=by simp[kO]
theorem Qa(a b:b7):kO a b a=0:=by simp[kO]
theorem Ql{t:aC}(e:3<=t.cs.length){j k:Nat}(c:j<t.cs.length)(hk:k<t.cs.length)(d:j≠k)(b:t.at j=t.at k):t.fL=false:=by
 rw[aC.fL,decide_eq_false_iff_not];intro h
 by_cases hx:k=t.nx j
 ·obtain⟨m,m1,m2,m3⟩:∃m,m<t.cs.length/\m≠j/\m≠k:=by
   rcases cv j k with a|a|a
   ·by_cases e0:j=0
    ·by_cases e1:k=1
     ·exact⟨2,by omega,by omega,by omega⟩
     ·exact⟨1,by omega,by omega,by omega⟩
    ·exact⟨0,by omega,by omega,by omega⟩
   ·exact(d a).elim
   ·by_cases e0:k=0
    ·by_cases e1:j=1
     ·exact⟨2,by omega,by omega,by omega⟩
     ·exact⟨1,by omega,by omega,by omega⟩
    ·exact⟨0,by omega,by omega,by omega⟩
  have:=h j c m m1 m2 (hx▸m3);rw[<-hx,<-b,Qq]at this;omega
 ·have:=h j c k hk (Ne.symm d) hx;rw[<-b,Qa]at this;omega
theorem Qt(t:aC)(aj:3<=t.cs.length)(ak:t.cs.length<=1000000)(F:∀p∈t.cs,bW p):az prog 159 [cA t] (.bool t.fL):=by
 refine aM nf FV mix (by simp[f159]) ?_;generalize q:t.cs.length=n at*;simp[f159,ad,q];refine lp (α:=Nat) (fun i=>⟨[(16,.p (.int .i64 i)),(15,.p (.int .i64 n)),(14,.p (.seq (t.cs.map aX))),(3,.map 1),(1,.ptr 0 [])],[.box false (.p (cA t)),.map false (lT (t.cs.take i))]⟩) (fun i=>i<=n/\∀j k,j<k->k<i->t.at j≠t.at k) (fun i=>n-i) 0 (by simp) ?_ (hh:=by simp[lT]);rintro i ⟨ai,E⟩
 by_cases hi:i<n
 ·have H:=aC.get (t:=t) (i:=i) (by omega);have z:=bY (i:=i) (by omega);have W:t.cs.take (i+1)=t.cs.take i++[t.at i]:=by rw[b3,H];rfl
  simp[-fj,hi,q,H,ad]
  by_cases f:t.at i∈t.cs.take i
  ·obtain⟨j,s,r⟩:=bi.1 f;rw[b5]at s;rw[b4,aC.aN (by omega)]at r;have Q:=Ql (by omega) (j:=j) (k:=i) (by omega) (by omega) (by omega) r;simp[f,Q]
  ·have hI:=P9 f;have I:=D7 f;rw[<-W]at I;simp[-fj,-lx,f,hI,I,z];exact rd (i+1) ⟨hi,fun j k w hk=>by
    by_cases T:k=i
    ·subst T;intro r;exact f (r▸a2 (i:=j) (by rw[a9,if_pos w];exact aC.get (by omega)))
    ·exact E j k w (by omega)⟩
 have R:i=n:=by omega
 subst R;have inj:∀j k,j<i->k<i->t.at j=t.at k->j=k:=fun j k s hk r=>by
  rcases cv j k with h|h|h
  ·exact(E j k h hk r).elim
  ·exact h
  ·exact(E k j h s r.symm).elim
 simp[q,ad];refine lp (α:=Nat) (fun m=>⟨[(32,.p (.int .i64 m)),(31,.p (.int .i64 i)),(30,.p (.seq (t.cs.map aX))),(6,.p (.int .i64 i)),(1,.ptr 0 [])],[.box false (.p (cA t))]⟩) (fun m=>m<=i/\∀j,j<m->t.mK j i) (fun m=>i-m) 0 (by simp) ?_;rintro m ⟨g1,g2⟩;have U:¬i=0:=by omega
 by_cases f:m<i
 ·have M:=aC.get (t:=t) (i:=m) (by omega);have z:=bY (i:=m) (by omega);have V:t.nx m<i:=by rw[<-q];exact t.nR (by omega) m
  have N:=aC.get (t:=t) (i:=t.nx m) (by omega);have e1:((m:Int)+1).tmod (i:Int)=((t.nx m:Nat):Int):=by
   rw[aC.nx,q,a0,aT (by omega)];rfl
  simp[f,q,M,N,z,e1,U,ad];refine⟨by repeat' first|rfl|apply ao,?_⟩;refine lp (α:=Nat) (fun k=>⟨[(48,.p (.int .i64 k)),(47,.p (.int .i64 i)),(46,.p (.seq (t.cs.map aX))),(9,.ptr 2 []),(8,.ptr 1 []),(32,.p (.int .i64 m)),(31,.p (.int .i64 i)),(30,.p (.seq (t.cs.map aX))),(6,.p (.int .i64 i)),(1,.ptr 0 [])],[.box false (.p (cA t)),.box false (.p (aX (t.at m))),.box false (.p (aX (t.at (t.nx m))))]⟩) (fun k=>k<=i/\t.mK m k) (fun k=>i-k) 0 (by simp[aC.mK]) ?_;rintro k ⟨q1,D⟩
  by_cases hk:k<i
  ·have gk:=aC.get (t:=t) (i:=k) (by omega);have G:=bY (i:=k) (by omega)
   by_cases c1:t.at k=t.at m
   ·have:=inj _ _ hk f c1;subst this;simp[-iU,iU.eq_1,hk,gk,G,ad];exact rd (k+1) ⟨hk,fun j s=>by
     by_cases w:j=k
     ·intro h;exact(h w).elim
     ·exact D j (by omega)⟩
   ·by_cases c2:t.at k=t.at (t.nx m)
    ·have:=inj _ _ hk V c2;have c3:¬t.at (t.nx m)=t.at m:=by rw[<-c2];exact c1
     simp[-iU,iU.eq_1,hk,gk,G,c2,c3,ad];exact rd (k+1) ⟨hk,fun j s=>by
      by_cases w:j=k
      ·intro _ h;exact(h (by omega)).elim
      ·exact D j (by omega)⟩
    ·have L:k≠m:=fun e=>c1 (by rw[e]);have nx:k≠t.nx m:=fun e=>c2 (by rw[e]);have P:kO (t.at m) (t.at (t.nx m)) (t.at k)=((t.at (t.nx m)).x-(t.at m).x)*((t.at k).y-(t.at m).y)-((t.at (t.nx m)).y-(t.at m).y)*((t.at k).x-(t.at m).x):=rfl;have X:=aC.iX F (i:=m) (by omega);have Y:=aC.iX F (i:=t.nx m) (by omega);have Z:=aC.iX F (i:=k) (by omega);have K:t.mK m (k+1)↔0<kO (t.at m) (t.at (t.nx m)) (t.at k):=⟨fun h=>h k (by omega) L nx,fun h j s u v=>by
      by_cases w:j=k
      ·subst w;exact h
      ·exact D j (by omega) u v⟩
     have J:¬0<kO (t.at m) (t.at (t.nx m)) (t.at k)->t.fL=false:=fun h=>by
      rw[aC.fL,decide_eq_false_iff_not];intro O;exact h (O m (by omega) k (by omega) L nx)
     rw[P]at K J;simp[-iU,iU.eq_1,hk,gk,G,c1,c2,ad];simp only[bW]at X Y Z;generalize t.at m=A at*;generalize t.at (t.nx m)=B at*;generalize t.at k=C at*;obtain⟨c,d⟩:=A;obtain⟨bx,g⟩:=B;obtain⟨l,o⟩:=C;dsimp only at*;have aa:ax.wrap (bx-c)=bx-c:=aI _ (by omega) (by omega);have ab:ax.wrap (o-d)=o-d:=aI _ (by omega) (by omega);have ac:ax.wrap (g-d)=g-d:=aI _ (by omega) (by omega)
     have ae:ax.wrap (l-c)=l-c:=aI _ (by omega) (by omega);have al:=vV (a:=bx-c) (b:=o-d) (A:=20000) (B:=20000) (by omega) (by omega) (by omega) (by omega);have am:=vV (a:=g-d) (b:=l-c) (A:=20000) (B:=20000) (by omega) (by omega) (by omega) (by omega);have af:ax.wrap ((bx-c)*(o-d))=(bx-c)*(o-d):=aI _ (by omega) (by omega);have ag:ax.wrap ((g-d)*(l-c))=(g-d)*(l-c):=aI _ (by omega) (by omega);have ah:ax.wrap ((bx-c)*(o-d)-(g-d)*(l-c))=(bx-c)*(o-d)-(g-d)*(l-c):=aI _ (by omega) (by omega);simp[aa,ab,ac,ae,af,ag,ah]
     by_cases hc:(bx-c)*(o-d)-(g-d)*(l-c)<=0
     ·have:=J (by omega);simp[hc,this]
     ·simp[hc];exact rd (k+1) ⟨hk,K.2 (by omega)⟩
  ·have:k=i:=by omega
   subst this;simp[z];exact rd (m+1) ⟨f,fun j s=>by
    by_cases S:j=m
    ·subst S;exact D
    ·exact g2 j (by omega)⟩
 ·have:m=i:=by omega
  subst this;have:t.fL=true:=by
   rw[aC.fL,decide_eq_true_eq,q];exact g2
  simp[this]
noncomputable def dG(v:NV):PV:=.st 133 [eF v.x,eF v.y]
@[simp] theorem aJ9(v:NV):aL (dG v)=.agg 133:=rfl
@[simp] theorem aG7(v:NV):cB (dG v)=[eF v.x,eF v.y]:=rfl
@[simp] theorem aFE:prog.cellsOf 133=8:=by kernel_rfl
theorem rk(x y:NF):dG ⟨x,y⟩=.st 133 [eF x,eF y]:=rfl
noncomputable def sZ(a b:NV):PV:=.st 164 [dG a,dG b]
@[simp] theorem aI6(a b:NV):aL (sZ a b)=.agg 164:=rfl
@[simp] theorem aGM(a b:NV):cB (sZ a b)=[dG a,dG b]:=rfl
theorem tO(p:gq)(d:bX p.x=0)(e:bX p.y=0)(a:qR p):az prog 93 [fe p] (dG (.from p)):=by
 have b:=lH p.x d a.1.1;have c:=lH p.y e a.2.1;refine aM nf OS mix (by simp[f93]) ?_;rw[NV.from,rk];simp[f93,ad];refine e1 b ?_;simp[ad];refine e1 c ?_;simp[ad]
def eO(p:b7):NV:=⟨.int p.x,.int p.y⟩
theorem aAV(p:b7):(eO p).q=il p:=rfl
theorem zH(p:b7)(h:bW p):az prog 209 [aX p] (dG (eO p)):=by
 simp only[bW]at h;have a:=sX p.x (by omega) (by omega);have b:=sX p.y (by omega) (by omega);refine aM nf Ed mix (by simp[f209]) ?_;rw[eO,rk];simp[f209,ad];refine e1 a ?_;simp[ad];refine e1 b ?_;simp[ad]
theorem zQ(v w:NV)(a:bN kQ v.q)(b:bN kQ w.q):az prog 140 [dG v,dG w] (dG (v.sub w)):=by
 have c:=u3 v.x w.x (eC a.1) (eC b.1);have d:=u3 v.y w.y (eC a.2) (eC b.2);refine aM nf F0 mix (by simp[f140]) ?_;rw[NV.sub,rk];simp[f140,ad];refine e2 c ?_;simp[ad];refine e2 d ?_;simp[ad]
theorem Qm(v w:NV)(a:bN kQ v.q)(b:bN kQ w.q):az prog 90 [dG v,dG w] (eF (v.gP w)):=by
 have c:=sd v.x w.y (eC a.1) (eC b.2);have d:=sd v.y w.x (eC a.2) (eC b.1);have e:=u3 (v.x.mul w.y) (v.y.mul w.x) ((kA a.1 b.2).mono (by decide)) ((kA a.2 b.1).mono (by decide));refine aM nf OP mix (by simp[f90]) ?_;rw[NV.gP];simp[f90,ad];refine e2 c ?_;simp[ad];refine e2 d ?_;simp[ad];refine e2 e ?_;simp[ad]
theorem Xr(t:aC)(i:Nat)(hi:i<t.cs.length)(l:t.cs.length<=1000000)(h:∀p∈t.cs,bW p):az prog 139 [cA t,.int .i64 i] (sZ (eO (t.at i)) (eO (t.at (t.nx i)))):=by
 have a:=t.nR (by omega) i;have j:=zH (t.at i) (aC.iX h hi);have k:=zH (t.at (t.nx i)) (aC.iX h a);have g:=bY (i:=i) (by omega);have e1:((i:Int)+1).tmod (t.cs.length:Int)=((t.nx i:Nat):Int):=by
  rw[aC.nx,a0,aT (by omega)];rfl
 have f:¬t.cs.length=0:=by omega
 have d:¬t.cs=[]:=by intro e;rw[e]at hi;simp at hi
 have b:=aC.get hi;have c:=aC.get a;refine aM nf Fu mix (by simp[f139]) ?_;rw[sZ];simp[f139,ad,g,e1,f,d,b,c,hi,a];refine Go.al.e1 j ?_;simp[ad,g,e1,f,d,b,c,hi,a];refine Go.al.e1 k ?_;simp[ad,g,e1,f,d,b,c,hi,a]
theorem Xv(t:aC):az prog 88 [cA t] (.func 186 [] [.cr (cA t)]):=by
 refine aM nf ON mix (by simp[f88]) ?_;simp[f88];show fW [.box false (.p (cA t))] 7 (.p (cA t)) (cA t);rw[DD];exact Wk.refl _
noncomputable def vZ(t:aC)(i:Nat):List PV:=[.int .i64 i,sZ (eO (t.at i)) (eO (t.at (t.nx i)))]
theorem zJ{t:aC}{i:Nat}(h:i<t.cs.length):((bk t.cs.length).map (vZ t))[i]?=some (vZ t i):=by
 rw[List.getElem?_map,List.getElem?_range h];rfl
theorem aCn(t:aC)(g:t.cs.length<=1000000)(h:∀p∈t.cs,bW p):Stream prog 186 [] [.cr (cA t)] ((bk t.cs.length).map (vZ t)):=by
 intro b k e H' hk a l d;rw[ce,List.length_range]at hk d;refine dW nf EC mix (by simp[f186]) ?_;simp[f186,ad];refine lp (α:=Nat) (fun i=>⟨[(7,.p (.int .i64 i)),(6,.p (.int .i64 t.cs.length)),(1,.p (.cr (cA t))),(0,.map b)],e i⟩) (fun i=>i<=k) (fun i=>k-i) 0 (by simp) ?_ (hr:=by simp;exact(a 0 (by omega)).2) (hr2:=(a 0 (by omega)).1);rintro i m
 by_cases hi:i<t.cs.length
 ·have f:=Xr t i hi g h;have j:=bY (i:=i) (by omega);simp[hi];refine c2 f ?_;simp
  by_cases c:i<k
  ·refine⟨e (i+1),_,l i _ c (zJ hi),?_⟩;simp[j];exact rd (i+1) c (hr:=by simp;exact(a (i+1) c).2) (hr2:=(a (i+1) c).1)
  ·have:i=k:=by omega
   subst this;rcases d with⟨e1,_⟩|⟨y,e1,e2⟩
   ·omega
   ·rw[zJ hi]at e1;injection e1 with e1
    subst e1;refine⟨H',_,e2,?_⟩;simp
 ·have:i=t.cs.length:=by omega
  subst this;rcases d with⟨e1,e2⟩|⟨y,e1,e2⟩
  ·have:t.cs.length=k:=by omega
   subst this;simp[e2]
  ·rw[List.getElem?_eq_none (by simp;omega)]at e1;cases e1
noncomputable def vK(t:aC)(v:NV)(L:fc)(i:Nat):Heap:=[.box false (.p (cA t)),.box false (.p (dG v)),.box false (.p (.int .i64 (t.o9 v.q i))),.loop L]
theorem Np(t:aC)(v:NV)(m:t.cs.length<=1000000)(c:∀p∈t.cs,bW p)(g:bN 3000 v.q):az prog 77 [cA t,dG v] (.int .i64 (t.on v.q)):=by
 refine aM nf OD mix (by simp[f77]) ?_;simp[f77,ad];refine c1 (Xv t) ?_;simp;refine rf (aCn t m c) rfl (by simp) (vK t v) t.cs.length (by simp) (fun L=>rfl) ?_ ?_ ?_
 ·intro L a i hi;refine⟨rfl,by simp[vK],fun _ hx=>?_⟩;simp[vK]at hx⊢;exact hx
 ·intro L a i x hi hx;rw[zJ hi]at hx;injection hx with hx
  subst hx;have b:=mI (aC.iX c hi);have h:=mI (aC.iX c (t.nR (by omega) i));have q1:bN 29 ((eO (t.at (t.nx i))).sub (eO (t.at i))).q:=by rw[NV.lG];exact qz h b
  have n:bN 3015 (v.sub (eO (t.at i))).q:=by rw[NV.lG];exact qz g b
  have j:=zQ (eO (t.at (t.nx i))) (eO (t.at i)) (h.mono (by decide)) (b.mono (by decide));have k:=zQ v (eO (t.at i)) (g.mono (by decide)) (b.mono (by decide));have l:=Qm ((eO (t.at (t.nx i))).sub (eO (t.at i))) (v.sub (eO (t.at i))) (q1.mono (by decide)) (n.mono (by decide));have e:=Cc (((eO (t.at (t.nx i))).sub (eO (t.at i))).gP (v.sub (eO (t.at i))));have d:gO (((eO (t.at (t.nx i))).sub (eO (t.at i))).gP (v.sub (eO (t.at i)))).q=t.side i v.q:=by
   rw[NV.XI,NV.lG,NV.lG];rfl
  rw[gO]at d;rw[d]at e;have hs:=aC.DZ t v.q i;rw[Ee]at hs;refine D1 nf mix a rfl rfl (by kernel_rfl) ?_;have f:=congrArg fc.env a;dsimp only at f;clear a d;generalize (eO (t.at (t.nx i))).sub (eO (t.at i))=W at*;generalize v.sub (eO (t.at i))=U at*;generalize W.gP U=C at*;simp[vK,vZ,sZ,ad];refine e2 j ?_;simp[ad];refine e2 k ?_;simp[ad];refine e2 l ?_;simp[ad];refine e1 e ?_;simp[ad];refine⟨by repeat' first|rfl|apply ao,?_⟩;rw[<-hs];refine cX.og (by simp) (by simp) (by simp) (by simp) ?_;simp;exact aBL f (by simp)
 ·intro L a;refine .inl ⟨by simp,?_⟩;simp[vK,aC.on]
theorem D2(s:List Nat)(hs:gN s)(h:bX s=0):az prog 222 [.str s] (.int .i64 (ff (aY s))):=by
 have o:=fX h;have d:=lH s h hs.1;have c:=Cc ⟨aY s,false⟩;have g:=sX 1 (by decide) (by decide);have e:=sV ⟨aY s,false⟩ (.int 1) (o.mono (by decide)) ((show bL 1 (NF.int 1).q from⟨by decide,by decide⟩).mono (by decide));have e2:(if(⟨aY s,false⟩:NF).q<0 then(-1:Int)else if(⟨aY s,false⟩:NF).q=0 then 0 else 1)=gO (aY s):=rfl;have e4:eM (⟨aY s,false⟩:NF).q (NF.int 1).q=eM (aY s) 1:=rfl;rw[e2]at c;rw[e4]at e;have f:=fun b=>gY b 3;refine aM nf FH mix (by simp[f222]) ?_;rw[ff];clear e2 e4 o;generalize gO (aY s)=x at*;generalize eM (aY s) 1=y at*;generalize (⟨aY s,false⟩:NF)=v at*
 by_cases a:x<0
 ·simp[f222,ad];refine c1 d ?_;simp[ad];refine Go.al.e1 c ?_;simp[a,ad];refine Go.al.e2 (f true) ?_;simp[bg];omega
 ·by_cases b:0<y
  ·simp[f222,ad];refine c1 d ?_;simp[ad];refine Go.al.e1 c ?_;simp[a,ad];refine Go.al.e1 g ?_;simp[a,ad];refine Go.al.e2 e ?_;simp[a,b,ad];refine Go.al.e2 (f true) ?_;simp[bg];omega
  ·simp[f222,ad];refine c1 d ?_;simp[ad];refine Go.al.e1 c ?_;simp[a,ad];refine Go.al.e1 g ?_;simp[a,ad];refine Go.al.e2 e ?_;simp[a,b,ad];refine Go.al.e2 (f false) ?_;simp[bg];omega
def pn(p:dx):Prop:=qS p/\bX p.a=0/\bX p.b=0
theorem Xs(p o:dx)(r:pn p)(q:pn o):az prog 242 [eX p,eX o] (.bool (gu o p)):=by
 obtain⟨⟨_,u,v⟩,l,m⟩:=r;obtain⟨⟨_,s,t⟩,j,k⟩:=q;have d:=lH p.a l u.1;have e:=lH o.b k t.1;have c:=sV ⟨aY p.a,false⟩ ⟨aY o.b,false⟩ ((fX l).mono (by decide)) ((fX k).mono (by decide));have g:=lH o.a j s.1;have i:=lH p.b m v.1;have f:=sV ⟨aY o.a,false⟩ ⟨aY p.b,false⟩ ((fX j).mono (by decide)) ((fX m).mono (by decide));dsimp only at c f;refine aM nf FD mix (by simp[f242]) ?_;rw[gu];generalize eM (aY p.a) (aY o.b)=x at*;generalize eM (aY o.a) (aY p.b)=y at*;generalize (⟨aY p.a,false⟩:NF)=v1 at*;generalize (⟨aY p.b,false⟩:NF)=v2 at*;generalize (⟨aY o.a,false⟩:NF)=v3 at*;generalize (⟨aY o.b,false⟩:NF)=v4 at*
 by_cases c1:o.dB=p.dB
 case neg=>
  have n:¬p.dB=o.dB:=fun h=>c1 h.symm;simp[f242,ad,c1,n]
 by_cases c2:x<=0
 ·by_cases c3:y<=0
  ·simp[f242,ad,c1];refine Go.al.e1 d ?_;simp[ad,c1];refine Go.al.e1 e ?_;simp[ad,c1];refine Go.al.e2 c ?_;simp[ad,c1,c2];refine Go.al.e1 g ?_;simp[ad,c1,c2];refine Go.al.e1 i ?_;simp[ad,c1,c2];refine Go.al.e2 f ?_;simp[ad,c1,c2,c3]
  ·simp[f242,ad,c1];refine Go.al.e1 d ?_;simp[ad,c1];refine Go.al.e1 e ?_;simp[ad,c1];refine Go.al.e2 c ?_;simp[ad,c1,c2];refine Go.al.e1 g ?_;simp[ad,c1,c2];refine Go.al.e1 i ?_;simp[ad,c1,c2];refine Go.al.e2 f ?_;simp[ad,c1,c2,c3]
 ·simp[f242,ad,c1];refine Go.al.e1 d ?_;simp[ad,c1];refine Go.al.e1 e ?_;simp[ad,c1];refine Go.al.e2 c ?_;simp[ad,c1,c2]
theorem Qk(p o:dx):b9 prog 241 [.box false (.p (eX p))] [.p (eX o),.ptr 0 []] [.box false (.p (eX p))] (.p (.bool (decide (o.name=p.name)))):=by
 refine dW nf Ec mix (by simp[f241]) ?_
 by_cases h:o.name=p.name
 ·simp[f241,ad,h];exact cX.og (by simp) (by simp) (by simp) (by simp) (by simp)
 ·simp[f241,ad,h];exact cX.og (by simp) (by simp) (by simp) (by simp) (by simp)
theorem Qp(p:dx)(l:List dx)(h:l.length<=1000000):
 b9 prog 147 [.box false (.p (eX p))] [.p (.seq (l.map eX)),.func 241 [] [.ptr 0 []]] [.box false (.p (eX p))] (.p (.int .i64 (idxFrom (fun o=>decide (o.name=p.name)) l 0))):=by
 refine dW nf CF mix (by simp[f147]) ?_;simp[f147];refine lp (α:=Nat) (fun i=>⟨[(8,.p (.int .i64 i)),(7,.p (.int .i64 l.length)),(1,.func 241 [] [.ptr 0 []]),(0,.p (.seq (l.map eX)))],[.box false (.p (eX p))]⟩) (fun i=>i<=l.length/\idxFrom (fun o=>decide (o.name=p.name)) l 0=idxFrom (fun o=>decide (o.name=p.name)) (l.drop i) i) (fun i=>l.length-i) 0 (by simp) ?_;rintro i ⟨k1,k2⟩;have a:=bY (i:=i) (by omega)
 by_cases hi:i<l.length
 ·rw[a4 hi,idxFrom]at k2;simp[hi];refine cf (Qk p l[i]) [0] ?_
  by_cases hk:l[i].name=p.name
  ·simp[hk]at k2;simp[hk,k2,ba]
  ·simp[hk]at k2;simp[hk,a,ba];exact rd (i+1) ⟨hi,k2⟩
 ·have:i=l.length:=by omega
  subst this;simp[idxFrom]at k2;simp[k2]
theorem Qg(p:dx)(l:List dx)(h:l.length<=1000000):
 b9 prog 240 [.box false (.p (eX p))] [.p (.seq (l.map eX)),.func 241 [] [.ptr 0 []]] [.box false (.p (eX p))] (.p (.bool (l.any (fun o=>decide (o.name=p.name))))):=by
 refine dW nf CU mix (by simp[f240]) ?_;simp[f240];refine cf (Qp p l h) [0] ?_;have:=nQ (fun o=>decide (o.name=p.name)) l 0;simp[ba,<-this]
theorem Qj(p o:ct):b9 prog 244 [.box false (.p (gf p))] [.p (gf o),.ptr 0 []] [.box false (.p (gf p))] (.p (.bool (decide (o.name=p.name)))):=by
 refine dW nf FB mix (by simp[f244]) ?_
 by_cases h:o.name=p.name
 ·simp[f244,ad,h];exact cX.og (by simp) (by simp) (by simp) (by simp) (by simp)
 ·simp[f244,ad,h];exact cX.og (by simp) (by simp) (by simp) (by simp) (by simp)
theorem P7(p:ct)(l:List ct)(h:l.length<=1000000):
 b9 prog 164 [.box false (.p (gf p))] [.p (.seq (l.map gf)),.func 244 [] [.ptr 0 []]] [.box false (.p (gf p))] (.p (.int .i64 (idxFrom (fun o=>decide (o.name=p.name)) l 0))):=by
 refine dW nf M0 mix (by simp[f164]) ?_;simp[f164];refine lp (α:=Nat) (fun i=>⟨[(8,.p (.int .i64 i)),(7,.p (.int .i64 l.length)),(1,.func 244 [] [.ptr 0 []]),(0,.p (.seq (l.map gf)))],[.box false (.p (gf p))]⟩) (fun i=>i<=l.length/\idxFrom (fun o=>decide (o.name=p.name)) l 0=idxFrom (fun o=>decide (o.name=p.name)) (l.drop i) i) (fun i=>l.length-i) 0 (by simp) ?_;rintro i ⟨k1,k2⟩;have a:=bY (i:=i) (by omega)
 by_cases hi:i<l.length
 ·rw[a4 hi,idxFrom]at k2;simp[hi];refine cf (Qj p l[i]) [0] ?_
  by_cases hk:l[i].name=p.name
  ·simp[hk]at k2;simp[hk,k2,ba]
  ·simp[hk]at k2;simp[hk,a,ba];exact rd (i+1) ⟨hi,k2⟩
 ·have:i=l.length:=by omega
  subst this;simp[idxFrom]at k2;simp[k2]
theorem Qf(p:ct)(l:List ct)(h:l.length<=1000000):
 b9 prog 243 [.box false (.p (gf p))] [.p (.seq (l.map gf)),.func 244 [] [.ptr 0 []]] [.box false (.p (gf p))] (.p (.bool (l.any (fun o=>decide (o.name=p.name))))):=by
 refine dW nf FC mix (by simp[f243]) ?_;simp[f243];refine cf (P7 p l h) [0] ?_;have:=nQ (fun o=>decide (o.name=p.name)) l 0;simp[ba,<-this]
theorem Qi(p:dx)(c:pn p)(l:List dx)(h:l.length<=1000000)(b:∀o∈l,pn o):
 az prog 147 [.seq (l.map eX),.func 242 [eX p] []] (.int .i64 (idxFrom (fun o=>gu o p) l 0)):=by
 refine aM nf CF mix (by simp[f147]) ?_;simp[f147];refine lp (α:=Nat) (fun i=>⟨[(8,.p (.int .i64 i)),(7,.p (.int .i64 l.length)),(1,.p (.func 242 [eX p] [])),(0,.p (.seq (l.map eX)))],[]⟩) (fun i=>i<=l.length/\idxFrom (fun o=>gu o p) l 0=idxFrom (fun o=>gu o p) (l.drop i) i) (fun i=>l.length-i) 0 (by simp) ?_;rintro i ⟨k1,k2⟩;have d:=bY (i:=i) (by omega)
 by_cases hi:i<l.length
 ·rw[a4 hi,idxFrom]at k2;have a:=Xs p l[i] c (b _ (cb hi));simp[hi];refine c2 a ?_;cases hk:gu l[i] p
  ·simp[hk]at k2;simp[d];exact rd (i+1) ⟨hi,k2⟩
  ·simp[hk]at k2;simp[k2]
 ·have:i=l.length:=by omega
  subst this;simp[idxFrom]at k2;simp[k2]
theorem P5(p:dx)(b:pn p)(l:List dx)(h:l.length<=1000000)(a:∀o∈l,pn o):
 az prog 240 [.seq (l.map eX),.func 242 [eX p] []] (.bool (l.any (fun o=>gu o p))):=by
 refine aM nf CU mix (by simp[f240]) ?_;simp[f240];refine c2 (Qi p b l h a) ?_;have:=nQ (fun o=>gu o p) l 0;simp[<-this]
def kg(n:Nat)(c:List dx)(p:dx):Int:=bG [bg (!isName p.name) 8,bg (c.any fun o=>decide (o.name=p.name)) 9,bg (decide (p.dB<0\/(n:Int)<=p.dB)) 10,bX p.a,bX p.b]
def zn(c:List dx)(p:dx):Int:=bG [ff (aY p.a),ff (aY p.b),bg (decide (0<eM (aY p.a) (aY p.b))) 11,bg (c.any fun o=>gu o p) 17]
theorem DU(q:Rat):ff q=0\/ff q=3:=by
 rw[ff];split
 ·exact .inr rfl
 ·exact .inl rfl
theorem Qe(n:Nat)(e:List dx)(p:dx):fY n e p=if kg n e p=0 then zn e p else kg n e p:=by
 rw[fY,kg,zn];generalize bX p.a=ca;generalize bX p.b=i;have j:=DU (aY p.a);have h:=DU (aY p.b);generalize ff (aY p.a)=r at*;generalize ff (aY p.b)=s at*;generalize eM (aY p.a) (aY p.b)=y;generalize (e.any fun o=>gu o p)=m;generalize (e.any fun o=>decide (o.name=p.name))=a;have k:max (0:Int) 3=3:=rfl;have l:max (3:Int) 0=3:=rfl;cases q:isName p.name
 ·simp[bG,bg]
 cases a
 case true=>simp[bG,bg]
 by_cases c:p.dB<0\/(n:Int)<=p.dB
 ·simp[bG,bg,c]
 by_cases d:ca=0
 case neg=>simp[bG,bg,c,d]
 by_cases f:i=0
 case neg=>simp[bG,bg,c,d,f]
 rcases j with rfl|rfl
 ·rcases h with rfl|rfl
  ·by_cases g:0<y
   ·simp[bG,bg,c,d,f,g]
   ·cases m<;>simp[bG,bg,c,d,f,g]
  ·simp[bG,bg,c,d,f,k]
 ·rcases h with rfl|rfl
  ·simp[bG,bg,c,d,f,l]
  ·simp[bG,bg,c,d,f]
theorem P8{n:Nat}{bef:List dx}{p:dx}(h:kg n bef p=0):bX p.a=0/\bX p.b=0:=by
 rw[kg,nv]at h;exact⟨h _ (by simp),h _ (by simp)⟩
theorem P3(t:aC)(p:dx)(d:List dx)(L:t.cs.length<=1000000)(G:qS p)(m:d.length<=1000000)(F:∀o∈d,pn o):
 az prog 161 [cA t,eX p,.seq (d.map eX)] (.int .i64 (fY t.cs.length d p)):=by
 obtain⟨C,j,k⟩:=G;have k1:=Qg p d m;have k2:=zM p.name C.1;have k3:=gY (!isName p.name) 8;have k4:=gY (d.any fun o=>decide (o.name=p.name)) 9;have k5:=fun b=>gY b 10;have k6:=yH p.a j.1 j.2;have k7:=yH p.b k.1 k.2;have k8:=nS [bg (!isName p.name) 8,bg (d.any fun o=>decide (o.name=p.name)) 9,bg (decide (p.dB<0\/(t.cs.length:Int)<=p.dB)) 10,bX p.a,bX p.b] (by simp);have g:=P8 (n:=t.cs.length) (bef:=d) (p:=p);rw[Qe];have s:=fun h:kg t.cs.length d p=0=>P5 p ⟨⟨C,j,k⟩,(g h).1,(g h).2⟩ d m F;have u:=fun h:kg t.cs.length d p=0=>D2 p.a j (g h).1;have v:=fun h:kg t.cs.length d p=0=>D2 p.b k (g h).2;have w:=fun h:kg t.cs.length d p=0=>lH p.a (g h).1 j.1;have x:=fun h:kg t.cs.length d p=0=>lH p.b (g h).2 k.1;have q:=fun h:kg t.cs.length d p=0=>sV ⟨aY p.a,false⟩ ⟨aY p.b,false⟩ ((fX (g h).1).mono (by decide)) ((fX (g h).2).mono (by decide));dsimp only at q;have B:=gY (decide (0<eM (aY p.a) (aY p.b))) 11;have z:=gY (d.any fun o=>gu o p) 17;have i:=nS [ff (aY p.a),ff (aY p.b),bg (decide (0<eM (aY p.a) (aY p.b))) 11,bg (d.any fun o=>gu o p) 17] (by simp);have d1:kg t.cs.length d p=bG [bg (!isName p.name) 8,bg (d.any fun o=>decide (o.name=p.name)) 9,bg (decide (p.dB<0\/(t.cs.length:Int)<=p.dB)) 10,bX p.a,bX p.b]:=rfl;have d2:zn d p=bG [ff (aY p.a),ff (aY p.b),bg (decide (0<eM (aY p.a) (aY p.b))) 11,bg (d.any fun o=>gu o p) 17]:=rfl;rw[<-d1]at k8;rw[<-d2]at i;clear d1 d2 g;generalize kg t.cs.length d p=l at*;generalize zn d p=K at*;generalize bX p.a=H at*;generalize bX p.b=I at*;generalize ff (aY p.a)=U at*;generalize ff (aY p.b)=V at*;generalize eM (aY p.a) (aY p.b)=A at*;generalize (d.any fun o=>decide (o.name=p.name))=D at*;generalize (d.any fun o=>gu o p)=J at*;generalize isName p.name=E at*;generalize (⟨aY p.a,false⟩:NF)=v1 at*;generalize (⟨aY p.b,false⟩:NF)=v2 at*;refine aM nf FT mix (by simp[f161]) ?_;have r:∀b:Bool,decide (p.dB<0\/(t.cs.length:Int)<=p.dB)=b->az prog 72 [.bool b,.int .i64 10] (.int .i64 (bg b 10))/\az prog 71 [.seq [.int .i64 (bg (!E) 8),.int .i64 (bg D 9),.int .i64 (bg b 10),.int .i64 H,.int .i64 I]] (.int .i64 l):=fun b m=>by
  rw[m]at k8;exact⟨k5 b,by simpa using k8⟩
 simp at i;have y:az prog 72 [.bool (decide (0<A)),.int .i64 11] (.int .i64 (bg (decide (0<A)) 11)):=B;clear k5 k8 B;generalize M:bg (!E) 8=Q at*;generalize N:bg D 9=R at*;generalize O:bg (decide (0<A)) 11=S at*;generalize P:bg J 17=T at*;simp[f161,-br,ad];rw[br];simp[-br,ad];rw[br];simp[-br,ad];refine cf k1 [1] ?_;simp[-br,ad,ba,sig]
 by_cases e:p.dB<0
 ·obtain⟨f1,f2⟩:=r true (by simp[e]);rw[br,br];simp[-br,ad];refine Go.al.e1 k2 ?_;simp[-br,ad];refine Go.al.e2 k3 ?_;simp[-br,ad];refine Go.al.e2 k4 ?_;simp[-br,ad,e];refine Go.al.e2 f1 ?_;simp[-br,ad,e];refine Go.al.e1 k6 ?_;simp[-br,ad,e];refine Go.al.e1 k7 ?_;simp[-br,ad,e];refine ep f2 (by simp;first|exact⟨rfl,rfl⟩|rfl) (by simp;first|exact⟨rfl,rfl⟩|rfl) ?_;simp[-br,ad,e];refine⟨by repeat' first|rfl|apply ao,?_⟩
  by_cases c:l=0
  case neg=>simp[c,ad]
  simp[c,ad];refine Go.al.c2 (s c) ?_;simp[ad];refine Go.al.e1 (u c) ?_;simp[ad];refine Go.al.e1 (v c) ?_;simp[ad];refine Go.al.e1 (w c) ?_;simp[ad];refine Go.al.e1 (x c) ?_;simp[ad];refine Go.al.e2 (q c) ?_;simp[ad];refine Go.al.e2 y ?_;simp[ad];refine Go.al.e2 z ?_;simp[ad];refine ep i (by simp;first|exact⟨rfl,rfl⟩|rfl) (by simp;first|exact⟨rfl,rfl⟩|rfl) ?_;simp[ad];exact⟨by repeat' first|rfl|apply ao,fun h=>(h c).elim⟩
 by_cases f:(t.cs.length:Int)<=p.dB
 ·obtain⟨f1,f2⟩:=r true (by simp[e,f]);rw[br,br];simp[-br,ad];refine Go.al.e1 k2 ?_;simp[-br,ad];refine Go.al.e2 k3 ?_;simp[-br,ad];refine Go.al.e2 k4 ?_;simp[-br,ad,e,f];refine Go.al.e2 f1 ?_;simp[-br,ad,e,f];refine Go.al.e1 k6 ?_;simp[-br,ad,e,f];refine Go.al.e1 k7 ?_;simp[-br,ad,e,f];refine ep f2 (by simp;first|exact⟨rfl,rfl⟩|rfl) (by simp;first|exact⟨rfl,rfl⟩|rfl) ?_;simp[-br,ad,e,f];refine⟨by repeat' first|rfl|apply ao,?_⟩
  by_cases c:l=0
  case neg=>simp[c,ad]
  simp[c,ad];refine Go.al.c2 (s c) ?_;simp[ad];refine Go.al.e1 (u c) ?_;simp[ad];refine Go.al.e1 (v c) ?_;simp[ad];refine Go.al.e1 (w c) ?_;simp[ad];refine Go.al.e1 (x c) ?_;simp[ad];refine Go.al.e2 (q c) ?_;simp[ad];refine Go.al.e2 y ?_;simp[ad];refine Go.al.e2 z ?_;simp[ad];refine ep i (by simp;first|exact⟨rfl,rfl⟩|rfl) (by simp;first|exact⟨rfl,rfl⟩|rfl) ?_;simp[ad];exact⟨by repeat' first|rfl|apply ao,fun h=>(h c).elim⟩
 ·obtain⟨f1,f2⟩:=r false (by simp[e,f]);rw[br,br];simp[-br,ad];refine Go.al.e1 k2 ?_;simp[-br,ad];refine Go.al.e2 k3 ?_;simp[-br,ad];refine Go.al.e2 k4 ?_;simp[-br,ad,e,f];refine Go.al.e2 f1 ?_;simp[-br,ad,e,f];refine Go.al.e1 k6 ?_;simp[-br,ad,e,f];refine Go.al.e1 k7 ?_;simp[-br,ad,e,f];refine ep f2 (by simp;first|exact⟨rfl,rfl⟩|rfl) (by simp;first|exact⟨rfl,rfl⟩|rfl) ?_;simp[-br,ad,e,f];refine⟨by repeat' first|rfl|apply ao,?_⟩
  by_cases c:l=0
  case neg=>simp[c,ad]
  simp[c,ad];refine Go.al.c2 (s c) ?_;simp[ad];refine Go.al.e1 (u c) ?_;simp[ad];refine Go.al.e1 (v c) ?_;simp[ad];refine Go.al.e1 (w c) ?_;simp[ad];refine Go.al.e1 (x c) ?_;simp[ad];refine Go.al.e2 (q c) ?_;simp[ad];refine Go.al.e2 y ?_;simp[ad];refine Go.al.e2 z ?_;simp[ad];refine ep i (by simp;first|exact⟨rfl,rfl⟩|rfl) (by simp;first|exact⟨rfl,rfl⟩|rfl) ?_;simp[ad];exact⟨by repeat' first|rfl|apply ao,fun h=>(h c).elim⟩
def iK(a:List ct)(s:ct):Int:=bG [bg (!isName s.name) 8,bg (a.any fun o=>decide (o.name=s.name)) 9,dw s.pt]
theorem Qc(t:aC)(b:List ct)(s:ct):iq t b s=if iK b s=0 then bg (decide (t.on (vP s.pt)<0)) 16 else iK b s:=by
 rw[iq,iK];generalize dw s.pt=c;generalize (b.any fun o=>decide (o.name=s.name))=a;cases e:isName s.name
 ·simp[bG,bg]
 cases a
 case true=>simp[bG,bg]
 by_cases d:c=0
 case neg=>simp[bG,bg,d]
 simp[bG,bg,d]
theorem D5{bef:List ct}{s:ct}(h:iK bef s=0):dw s.pt=0:=by
 rw[iK,nv]at h;exact h _ (by simp)
theorem Qh(t:aC)(s:ct)(a:List ct)(k:t.cs.length<=1000000)(l:∀p∈t.cs,bW p)(hs:jA s)(j:a.length<=1000000):
 az prog 163 [cA t,gf s,.seq (a.map gf)] (.int .i64 (iq t a s)):=by
 obtain⟨r,f⟩:=hs;have k1:=Qf s a j;have k2:=zM s.name r.1;have k3:=gY (!isName s.name) 8;have k4:=gY (a.any fun o=>decide (o.name=s.name)) 9;have k6:=Ae s.pt f;have k8:=nS [bg (!isName s.name) 8,bg (a.any fun o=>decide (o.name=s.name)) 9,dw s.pt] (by simp);have c:=D5 (bef:=a) (s:=s);rw[Qc];have m:=fun h:iK a s=0=>tO s.pt (iv (c h)).1 (iv (c h)).2 f;have e:=fun h:iK a s=0=>Np t (.from s.pt) k l (Ag ⟨(fX (iv (c h)).1).mono (by decide),(fX (iv (c h)).2).mono (by decide)⟩);have n:=gY (decide (t.on (vP s.pt)<0)) 16;rw[sU]at e;have d1:iK a s=bG [bg (!isName s.name) 8,bg (a.any fun o=>decide (o.name=s.name)) 9,dw s.pt]:=rfl;rw[<-d1]at k8;clear d1 c;generalize iK a s=d at*;generalize t.on (vP s.pt)=y at*;generalize dw s.pt=u at*;generalize (a.any fun o=>decide (o.name=s.name))=g at*;generalize isName s.name=i at*;generalize NV.from s.pt=v1 at*;refine aM nf M5 mix (by simp[f163]) ?_;have q:az prog 71 [.seq [.int .i64 (bg (!i) 8),.int .i64 (bg g 9),.int .i64 u]] (.int .i64 d):=by simpa using k8
 clear k8;generalize v:bg (!i) 8=z at*;generalize w:bg g 9=A at*;generalize x:bg (decide (y<0)) 16=B at*;simp[f163,ad];refine cf k1 [1] ?_;simp[ad,ba,sig];refine Go.al.e1 k2 ?_;simp[ad];refine Go.al.e2 k3 ?_;simp[ad];refine Go.al.e2 k4 ?_;simp[ad];refine Go.al.e1 k6 ?_;simp[ad];refine ep q (by simp;first|exact⟨rfl,rfl⟩|rfl) (by simp;first|exact⟨rfl,rfl⟩|rfl) ?_;simp[ad];refine⟨by repeat' first|rfl|apply ao,?_⟩
 by_cases b:d=0
 case neg=>simp[b,ad]
 simp[b,ad];refine Go.al.e1 (m b) ?_;simp[ad];refine Go.al.e2 (e b) ?_;simp[ad];refine Go.al.e2 n ?_;simp[ad];exact fun h=>(h b).elim
end Go.al
