import Derived.Test.YtgpphcmkjhklgaaGreatDoorPJ
import Derived.Test.YtgpphcmkjhklgaaGreatDoorPH
/- Parts of a proof. -/
set_option linter.unusedSimpArgs false
set_option linter.unusedVariables false
set_option linter.unusedSectionVars false
open Go.Proofs.Tryz
open And renaming intro->ao
open Go renaming DataW->ap, Field->av
open Go.IntKind renaming i64->ax
open Go.Utf8 renaming decode->ay
open Int renaming tmod_eq_emod_of_nonneg->aT, natCast_emod->a0, natAbs_mul->a1
open List renaming mem_of_getElem?->a2, getElem?_eq_getElem->a3, drop_eq_getElem_cons->a4, map_cons->a5, getD_eq_getElem?_getD->a6, length_take->a7, any_eq_true->a8, mem_iff_getElem->a9, zip_cons_cons->bb, getElem?_take->be, zip_nil_left->bi, mem_map->bk, map_nil->bl, range->bo, findIdx?_eq_some_iff_getElem->bv, getElem_take->b0, mem_range->b1, findIdx?_eq_none_iff->b2, mem_cons_of_mem->b3, mem_cons_self->b4, take_add_one->b5, getElem_mem->cb, range_succ->cc, length_map->ce, map_take->ck
open Nat renaming lt_of_lt_of_le->cv, lt_trichotomy->cx
namespace Go.aw
open Go.Proofs
set_option maxHeartbeats 4000000
set_option maxRecDepth 100000
structure dK where
 x:Int
 y:Int
 deriving DecidableEq
structure dD where
 name:List Nat
 eA:Int
 a:List Nat
 b:List Nat
structure cH where
 name:List Nat
 pt:gX
structure aB where
 cs:List dK
 bt:Int
 bd:List dD
 aq:List cH
def cF(p:dK):PV:=.st 107 [.int .i64 p.x,.int .i64 p.y]
def eP(p:dD):PV:=.st 52 [.str p.name,.int .i64 p.eA,.str p.a,.str p.b]
def bC(p:cH):PV:=.st 74 [.str p.name,fZ p.pt]
def cS(t:aB):PV:=.st 25 [.seq (t.cs.map cF),.int .i64 t.bt,.seq (t.bd.map eP),.seq (t.aq.map bC)]
@[simp] theorem aHm(p:dK):aJ (cF p)=.agg 107:=rfl
@[simp] theorem aFs(p:dK):cj (cF p)=[.int .i64 p.x,.int .i64 p.y]:=rfl
@[simp] theorem aG8(p:dD):aJ (eP p)=.agg 52:=rfl
@[simp] theorem aFn(p:dD):cj (eP p)=[.str p.name,.int .i64 p.eA,.str p.a,.str p.b]:=rfl
@[simp] theorem aHn(p:cH):aJ (bC p)=.agg 74:=rfl
@[simp] theorem aFt(p:cH):cj (bC p)=[.str p.name,fZ p.pt]:=rfl
@[simp] theorem aHP(t:aB):aJ (cS t)=.agg 25:=rfl
@[simp] theorem aFx(t:aB):cj (cS t)=[.seq (t.cs.map cF),.int .i64 t.bt,.seq (t.bd.map eP),.seq (t.aq.map bC)]:=rfl
@[simp] theorem aDS:prog.cellsOf 107=2:=by kernel_rfl
@[simp] theorem aDQ:prog.cellsOf 52=4:=by kernel_rfl
@[simp] theorem aDT:prog.cellsOf 74=3:=by kernel_rfl
def fp(p:dK):Bool:=decide (10000<max p.x p.y)||decide (min p.x p.y< -10000)
theorem Wu(p:dK):az prog 74 [cF p] (.bool (fp p)):=by
 obtain⟨x,y⟩:=p;refine aL nf NU mix (by simp[f74]) ?_;have e1:max x y=if x<y then y else x:=by split<;>omega
 have e2:min x y=if y<x then y else x:=by split<;>omega
 rw[fp,e1,e2]
 by_cases h:(if x<y then y else x)<=10000
 ·have a:¬10000<(if x<y then y else x):=by omega
  by_cases b:(if y<x then y else x)< -10000
  ·simp[f74,ad,h,a,b]
  ·simp[f74,ad,h,a,b]
 ·have a:10000<(if x<y then y else x):=by omega
  simp[f74,ad,h,a]
def eU(p:dK):Prop:=-10000<=p.x/\p.x<=10000/\-10000<=p.y/\p.y<=10000
theorem DG{p:dK}(h:fp p=false):eU p:=by
 simp only[fp,Bool.or_eq_false_iff,decide_eq_false_iff_not]at h;unfold eU;omega
def kU(a b c:dK):Int:=(b.x-a.x)*(c.y-a.y)-(b.y-a.y)*(c.x-a.x)
theorem vM{a b:Int}{A B:Int}(c:-A<=a)(d:a<=A)(e:-B<=b)(f:b<=B):-(A*B)<=a*b/\a*b<=A*B:=by
 have k1:a.natAbs<=A.natAbs:=by omega
 have k2:b.natAbs<=B.natAbs:=by omega
 have k3:=Nat.mul_le_mul k1 k2;rw[<-a1,<-a1]at k3;have k4:0<=A*B:=Int.mul_nonneg (by omega) (by omega);omega
theorem PH(a b c:dK)(i:eU a)(j:eU b)(hc:eU c):az prog 170 [cF a,cF b,cF c] (.int .i64 (kU a b c)):=by
 obtain⟨d,e⟩:=a;obtain⟨bx,f⟩:=b;obtain⟨g,h⟩:=c;simp only[eU]at i j hc;have k:ax.wrap (bx-d)=bx-d:=aM _ (by omega) (by omega);have l:ax.wrap (h-e)=h-e:=aM _ (by omega) (by omega);have m:ax.wrap (f-e)=f-e:=aM _ (by omega) (by omega)
 have n:ax.wrap (g-d)=g-d:=aM _ (by omega) (by omega);have r:=vM (a:=bx-d) (b:=h-e) (A:=20000) (B:=20000) (by omega) (by omega) (by omega) (by omega);have s:=vM (a:=f-e) (b:=g-d) (A:=20000) (B:=20000) (by omega) (by omega) (by omega) (by omega);have o:ax.wrap ((bx-d)*(h-e))=(bx-d)*(h-e):=aM _ (by omega) (by omega);have p:ax.wrap ((f-e)*(g-d))=(f-e)*(g-d):=aM _ (by omega) (by omega);have q:ax.wrap ((bx-d)*(h-e)-(f-e)*(g-d))=(bx-d)*(h-e)-(f-e)*(g-d):=aM _ (by omega) (by omega);refine aL nf Mo mix (by simp[f170]) ?_;rw[kU];simp[f170,ad,k,l,m,n,o,p,q]
def aB.nx(t:aB)(i:Nat):Nat:=(i+1)% t.cs.length
def aB.at(t:aB)(i:Nat):dK:=t.cs.getD i ⟨0,0⟩
theorem aB.get{t:aB}{i:Nat}(h:i<t.cs.length):t.cs[i]?=some (t.at i):=by
 rw[aB.at,a6,a3 h];rfl
@[simp] theorem aB.aK{t:aB}{i:Nat}(h:i<t.cs.length):t.cs[i]'h=t.at i:=by
 rw[aB.at,a6,a3 h];rfl
theorem aB.nQ{t:aB}(h:0<t.cs.length)(i:Nat):t.nx i<t.cs.length:=Nat.mod_lt _ h
theorem D0(t:aB)(i:Nat)(h:i<t.cs.length)(g:t.cs.length<=1000000):az prog 56 [cS t,.int .i64 i] (cF (t.at (t.nx i))):=by
 have f:ax.wrap ((i:Int)+1)=(i:Int)+1:=aM _ (by omega) (by omega);have c:=t.nQ (by omega) i;have e1:((i:Int)+1).tmod (t.cs.length:Int)=((t.nx i:Nat):Int):=by
  rw[aB.nx,a0,aT (by omega)];rfl
 have b:=aB.get c;have d:¬t.cs.length=0:=by omega
 have a:¬t.cs=[]:=by intro e;rw[e]at h;simp at h
 refine aL nf NG mix (by simp[f56]) ?_;simp[f56,ad,f,e1,b,d,a]
def aB.mO(t:aB)(i:Nat)(m:Nat):Prop:=∀k,k<m->k≠i->k≠t.nx i->0<kU (t.at i) (t.at (t.nx i)) (t.at k)
instance(t:aB)(i m:Nat):Decidable (t.mO i m):=inferInstanceAs (Decidable (∀k,k<m->_))
def aB.fJ(t:aB):Bool:=decide (∀i,i<t.cs.length->t.mO i t.cs.length)
theorem aB.iU{t:aB}(h:∀p∈t.cs,eU p){i:Nat}(hi:i<t.cs.length):eU (t.at i):=h _ (a2 (aB.get hi))
theorem PQ(t:aB)(x:t.cs.length<=1000000)(m:∀p∈t.cs,eU p):az prog 75 [cS t] (.bool t.fJ):=by
 refine aL nf NW mix (by simp[f75]) ?_;generalize a:t.cs.length=n at*;simp[f75,ad,a];refine lp (α:=Nat) (fun i=>⟨[(4,.p (.int .i64 i)),(3,.p (.int .i64 n)),(1,.ptr 0 [])],[.box false (.p (cS t))]⟩) (fun i=>i<=n/\∀j,j<i->t.mO j n) (fun i=>n-i) 0 (by simp) ?_;rintro i ⟨v,q⟩
 by_cases hi:i<n
 ·simp[hi];refine lp (α:=Nat) (fun k=>⟨[(5,.p (.int .i64 k)),(4,.p (.int .i64 i)),(3,.p (.int .i64 n)),(1,.ptr 0 [])],[.box false (.p (cS t))]⟩) (fun k=>k<=n/\t.mO i k) (fun k=>n-k) 0 (by simp[aB.mO]) ?_;rintro k ⟨g1,g2⟩
  by_cases hk:k<n
  ·have r:=D0 t i (by omega) (by omega);have y:t.nx i<n:=by rw[<-a];exact t.nQ (by omega) i
   have d:=b8 (i:=i) (by omega);have e:=b8 (i:=k) (by omega);have e1:((i:Int)+1).tmod (n:Int)=((t.nx i:Nat):Int):=by
    rw[aB.nx,a,a0,aT (by omega)];rfl
   have s:=PH (t.at i) (t.at (t.nx i)) (t.at k) (aB.iU m (by omega)) (aB.iU m (by omega)) (aB.iU m (by omega));have f:=aB.get (t:=t) (i:=i) (by omega);have gk:=aB.get (t:=t) (i:=k) (by omega);have o:¬n=0:=by omega
   by_cases c1:k=i
   ·subst c1;simp[hk,e];exact rd (k+1) ⟨hk,fun j g=>by
     by_cases l:j=k
     ·intro h;exact(h l).elim
     ·exact g2 j (by omega)⟩
   ·have b:¬(k:Int)=(i:Int):=by omega
    by_cases c2:k=t.nx i
    ·rw[<-c2]at e1;simp[hk,b,d,e,e1,o];exact rd (k+1) ⟨hk,fun j g=>by
      by_cases l:j=k
      ·intro _ h;exact(h (by omega)).elim
      ·exact g2 j (by omega)⟩
    ·have c:¬(k:Int)=((t.nx i:Nat):Int):=by omega
     by_cases c3:kU (t.at i) (t.at (t.nx i)) (t.at k)<=0
     ·simp[hk,b,c,d,e,e1,o,f,gk,a,ad];refine Go.aw.e2 r ?_;simp[hk,a,f,gk,b,c,ad];refine Go.aw.e3 s ?_;simp[c3,b,c];have:t.fJ=false:=by
       rw[aB.fJ,decide_eq_false_iff_not];intro h;have:=h i (by omega) k (by omega) c1 c2;omega
      rw[this]
     ·simp[hk,b,c,d,e,e1,o,f,gk,a,ad];refine Go.aw.e2 r ?_;simp[hk,a,f,gk,b,c,ad];refine Go.aw.e3 s ?_;simp[c3,e,b,c];exact rd (k+1) ⟨hk,fun j g=>by
       by_cases l:j=k
       ·subst l;intro _ _;omega
       ·exact g2 j (by omega)⟩
  ·have:k=n:=by omega
   subst this;have d:=b8 (i:=i) (by omega);simp[d];exact rd (i+1) ⟨hi,fun j g=>by
    by_cases u:j=i
    ·subst u;exact g2
    ·exact q j (by omega)⟩
 ·have w:i=n:=by omega
  have:t.fJ=true:=by
   rw[aB.fJ,decide_eq_true_eq,a];intro j g;exact q j (by omega)
  simp[hi,this]
def kM(p:dK):V2:=⟨(p.x:Rat),(p.y:Rat)⟩
theorem rr{p:dK}(h:eU p):cX 14 (kM p):=by
 simp only[eU]at h;exact⟨xP (by omega) (by decide),xP (by omega) (by decide)⟩
theorem DC(p:dK)(h:eU p):az prog 55 [cF p] (eV (kM p)):=by
 have c:=h;simp only[eU]at h;have a:=B4 p.x (by omega) (by omega);have b:=B4 p.y (by omega) (by omega);refine aL nf ND mix (by simp[f55]) ?_;rw[kM,M6];simp[f55,ad];refine e1 a ?_;simp[ad];refine e1 b ?_;simp[ad]
def aB.rp(t:aB)(i:Nat):V2:=(kM (t.at (t.nx i))).sub (kM (t.at i))
def aB.side(t:aB)(i:Nat)(v:V2):Int:=gL ((t.rp i).iw (v.sub (kM (t.at i))))
theorem aB.okW{t:aB}(h:∀p∈t.cs,eU p){i:Nat}(hi:i<t.cs.length):cX 29 (t.rp i):=lO (rr (aB.iU h (t.nQ (by omega) i))) (rr (aB.iU h hi))
theorem Wm(t:aB)(i:Nat)(v:V2)(e:t.cs.length<=1000000)(b:∀p∈t.cs,eU p)(hi:i<t.cs.length)(d:cX 3000 v):az prog 112 [cS t,.int .i64 i,eV v] (.int .i64 (t.side i v)):=by
 have a:=aB.get hi;have c:=rr (aB.iU b hi);have n:=rr (aB.iU b (t.nQ (by omega) i));have f:=DC (t.at i) (aB.iU b hi);have g:=D0 t i hi e;have h:=DC (t.at (t.nx i)) (aB.iU b (t.nQ (by omega) i));have j:=yT (kM (t.at (t.nx i))) (kM (t.at i)) (n.mono (by decide)) (c.mono (by decide));have k:=yT v (kM (t.at i)) (d.mono (by decide)) (c.mono (by decide));have l:=Pk (t.rp i) (v.sub (kM (t.at i))) ((aB.okW b hi).mono (by decide)) ((lO d c).mono (by decide));have m:=xK ((t.rp i).iw (v.sub (kM (t.at i)))) ((Ph (aB.okW b hi) (lO d c)).mono (by decide));refine aL nf Eu mix (by simp[f112]) ?_;rw[aB.side];simp[f112,ad,a,hi];refine e1 f ?_;simp[ad,a,hi];refine e2 g ?_;simp[ad,a,hi];refine e1 h ?_;simp[ad,a,hi];refine⟨by repeat' first|rfl|apply ao,?_⟩;refine e2 j ?_;simp[ad,a,hi];refine e2 k ?_;simp[ad,a,hi];refine e2 l ?_;simp[ad,a,hi];refine e1 m ?_;simp[ad,a,hi]
def aB.pf(t:aB)(v:V2)(m:Nat):Int:=(bo m).foldl (fun o i=>min o (t.side i v)) 1
theorem aB.DB(t:aB)(v:V2)(m:Nat):t.pf v (m+1)=min (t.pf v m) (t.side m v):=by
 rw[aB.pf,cc,List.foldl_append];rfl
def aB.on(t:aB)(v:V2):Int:=t.pf v t.cs.length
theorem DW(a b:Int):min a b=if b<a then b else a:=by split<;>omega
theorem MH(t:aB)(v:V2)(b:t.cs.length<=1000000)(c:∀p∈t.cs,eU p)(d:cX 3000 v):az prog 42 [cS t,eV v] (.int .i64 (t.on v)):=by
 refine aL nf Nx mix (by simp[f42]) ?_;simp[f42,ad];refine lp (α:=Nat) (fun i=>⟨[(6,.p (.int .i64 i)),(5,.p (.int .i64 (t.pf v i))),(3,.ptr 1 []),(2,.ptr 0 [])],[.box false (.p (cS t)),.box false (.p (eV v))]⟩) (fun i=>i<=t.cs.length) (fun i=>t.cs.length-i) 0 (by simp) ?_ (hh:=by simp[aB.pf]) (he:=by simp[aB.pf]);rintro i f
 by_cases hi:i<t.cs.length
 ·have a:=Wm t i v b c hi d;have e:=b8 (i:=i) (by omega);have hs:=aB.DB t v i;rw[DW]at hs;simp[hi,ad];refine c3 a ?_;simp[e,<-hs];exact rd (i+1) hi
 ·have:i=t.cs.length:=by omega
  subst this;simp[aB.on,ad]
def isLet(c:Int):Bool:=(decide (97<=c)&&decide (c<=122))||(decide (65<=c)&&decide (c<=90))
def iH(c:Int):Bool:=decide (48<=c)&&decide (c<=57)
def lS:Nat->List Nat->Bool
 |_,[]=>true
 |i,c::r=>(isLet c||(decide (i≠0)&&(iH c||decide ((c:Int)=95))))&&lS (i+1) r
def isName(s:List Nat):Bool:=decide (1<=s.length)&&decide (s.length<=24)&&lS 0 s
theorem cls(c:Int):(97<=c/\c<=122)\/(¬97<=c/\65<=c/\c<=90)\/(¬97<=c/\¬65<=c/\¬48<=c/\¬c=95)\/(¬97<=c/\¬65<=c/\48<=c/\c<=57/\¬c=95)\/(¬97<=c/\¬65<=c/\48<=c/\¬c<=57/\¬c=95)\/
 (¬97<=c/\65<=c/\¬c<=90/\48<=c/\¬c<=57/\c=95)\/(¬97<=c/\65<=c/\¬c<=90/\48<=c/\¬c<=57/\¬c=95)\/(97<=c/\¬c<=122/\65<=c/\¬c<=90/\48<=c/\¬c<=57/\¬c=95):=by omega
theorem DA(c:Int):az prog 211 [.int .i32 c] (.bool (isLet c)):=by
 refine aL nf DU mix (by simp[f211]) ?_;rcases cls c with⟨a,b⟩|⟨a,b,d⟩|⟨a,b,d,e⟩|⟨a,b,d,e,f⟩|⟨a,b,d,e,f⟩|⟨a,b,d,e,f,g⟩|⟨a,b,d,e,f,g⟩|⟨a,b,d,e,f,g,h⟩<;>simp[f211,isLet, *]
theorem Dv{s:List Nat}{i:Nat}(hi:i<s.length):lS i (s.drop i)=((isLet s[i]||(decide (i≠0)&&(iH s[i]||decide ((s[i]:Int)=95))))&&lS (i+1) (s.drop (i+1))):=by
 rw[a4 hi,lS]
theorem zy(s:List Nat)(h:s.length<=1048576):az prog 77 [.str s] (.bool (isName s)):=by
 refine aL nf NY mix (by simp[f77]) ?_;rcases zz s.length 1 with⟨g1,m⟩|⟨g1,m⟩
 ·have:s.length=0:=by omega
  simp[f77,g1,isName,this]
 rcases zz 24 s.length with⟨g2,n⟩|⟨g2,n⟩
 ·have:¬s.length<=24:=by omega
  simp[f77,g1,g2,isName,this]
 simp[f77,g1,g2];have e0:isName s=lS 0 s:=by simp[isName];omega
 refine lp (α:=Nat) (fun i=>⟨[(3,.p (.int .i64 i)),(0,.p (.str s))],[]⟩) (fun i=>i<=s.length/\isName s=lS i (s.drop i)) (fun i=>s.length-i) 0 (by simp[e0]) ?_;rintro i ⟨k1,k2⟩
 by_cases hi:i<s.length
 ·rw[Dv hi]at k2;have k:=b8 (i:=i) (by omega);generalize hc:(s[i]:Int)=c at*
  by_cases j:i=0
  ·subst j;have l:ax.wrap 1=1:=aM 1 (by omega) (by omega);rcases cls c with⟨a,b⟩|⟨a,b,d⟩|⟨a,b,d,e⟩|⟨a,b,d,e,f⟩|⟨a,b,d,e,f⟩|⟨a,b,d,e,f,g⟩|⟨a,b,d,e,f,g⟩|⟨a,b,d,e,f,g,h⟩
   ·simp[isLet,a,b]at k2;simp[hi,hc,a,b,l];exact rd 1 ⟨hi,by simpa using k2⟩
   ·simp[isLet,a,b,d]at k2;simp[hi,hc,a,b,d,l];exact rd 1 ⟨hi,by simpa using k2⟩
   all_goals
    simp[isLet, *]at k2;simp[hi,hc, *]
  ·rcases cls c with⟨a,b⟩|⟨a,b,d⟩|⟨a,b,d,e⟩|⟨a,b,d,e,f⟩|⟨a,b,d,e,f⟩|⟨a,b,d,e,f,g⟩|⟨a,b,d,e,f,g⟩|⟨a,b,d,e,f,g,h⟩
   ·simp[isLet,a,b]at k2;simp[hi,hc,a,b,k];exact rd (i+1) ⟨hi,k2⟩
   ·simp[isLet,a,b,d]at k2;simp[hi,hc,a,b,d,k];exact rd (i+1) ⟨hi,k2⟩
   ·simp[isLet,iH,a,b,d,e]at k2;simp[hi,hc,j,a,b,d,e,k2]
   ·simp[isLet,iH,a,b,d,e,j]at k2;simp[hi,hc,j,a,b,d,e,k];exact rd (i+1) ⟨hi,k2⟩
   ·simp[isLet,iH,a,b,d,e,f]at k2;simp[hi,hc,j,a,b,d,e,f,k2]
   ·subst g;simp[isLet,iH,j]at k2;simp[hi,hc,j,k];exact rd (i+1) ⟨hi,k2⟩
   ·simp[isLet,iH,a,b,d,e,f,g]at k2;simp[hi,hc,j,a,b,d,e,f,g,k2]
   ·simp[isLet,iH,a,b,d,e,f,g,h]at k2;simp[hi,hc,j,a,b,d,e,f,g,h,k2]
 ·have:i=s.length:=by omega
  subst this;simp[lS]at k2;simp[k2]
theorem Dt(s:List Nat):(fR s).size=s.length:=by
 show(s.map UInt8.ofNat).toArray.size=_;simp
theorem DM(s:List Nat)(b:∀c∈s,c<256)(i:Nat)(h:i<s.length)(a:i<(fR s).size):((fR s)[i]'a).toNat=s[i]:=by
 have e:(fR s)[i]'a=UInt8.ofNat s[i]:=by
  have:(fR s)[i]'a=(s.map UInt8.ofNat).toArray[i]'(by simpa using h):=rfl;rw[this];simp
 rw[e];have:=b s[i] (cb h);simp;omega
theorem Xs{s:List Nat}(d:∀c∈s,c<256){i:Nat}(h:i<s.length)(b:s[i]<128):ay (fR s) i=(s[i],1):=by
 have a:i<(fR s).size:=by rw[Dt];exact h
 have e:=DM s d i h a;rw[decode_ascii (fR s) i a (by rw[e];exact b),e]
theorem Xr{s:List Nat}(b:∀c∈s,c<256){i:Nat}(h:i<s.length)(d:¬s[i]<128):128<=(ay (fR s) i).1/\1<=(ay (fR s) i).2:=by
 have a:i<(fR s).size:=by rw[Dt];exact h
 have e:=DM s b i h a;exact decode_high (fR s) i a (by rw[e];omega)
theorem zB(s:List Nat)(h:s.length<=1048576):az prog 133 [.str s] (.bool (isName s)):=by
 refine PT fun l=>?_;have l:∀c∈s,c<256:=by simpa[lH,dL]using l
 refine aL nf Fk mix (by simp[f133]) ?_;simp[f133];refine lp (α:=Nat) (fun i=>⟨[(6,.ptr 0 []),(0,.p (.str s))],[.dh s i]⟩) (fun i=>i<=s.length/\lS 0 s=lS i (s.drop i)) (fun i=>s.length-i) 0 (by simp) ?_;rintro i ⟨k1,k2⟩
 by_cases hi:i<s.length
 ·rw[Dv hi]at k2
  by_cases n:s[i]<128
  ·have m:=Xs l hi n;simp[hi,m];refine c1 (DA _) ?_;generalize hc:(s[i]:Int)=c at*
   by_cases j:i=0
   ·rcases cls c with⟨a,b⟩|⟨a,b,d⟩|⟨a,b,d,e⟩|⟨a,b,d,e,f⟩|⟨a,b,d,e,f⟩|⟨a,b,d,e,f,g⟩|⟨a,b,d,e,f,g⟩|⟨a,b,d,e,f,g,h⟩
    ·simp[isLet,a,b]at k2;simp[isLet,a,b];exact rd (i+1) ⟨hi,k2⟩
    ·simp[isLet,a,b,d]at k2;simp[isLet,a,b,d];exact rd (i+1) ⟨hi,k2⟩
    all_goals
     simp[isLet,isName, *]at k2;simp[isLet,isName, *]
   ·rcases cls c with⟨a,b⟩|⟨a,b,d⟩|⟨a,b,d,e⟩|⟨a,b,d,e,f⟩|⟨a,b,d,e,f⟩|⟨a,b,d,e,f,g⟩|⟨a,b,d,e,f,g⟩|⟨a,b,d,e,f,g,h⟩
    ·simp[isLet,a,b]at k2;simp[isLet,a,b];exact rd (i+1) ⟨hi,k2⟩
    ·simp[isLet,a,b,d]at k2;simp[isLet,a,b,d];exact rd (i+1) ⟨hi,k2⟩
    ·simp[isLet,iH,a,b,d,e]at k2;have d2:c<48:=by omega
     simp[isLet,isName,a,b,e,j,d2,k2]
    ·simp[isLet,iH,a,b,d,e,f,j]at k2;have d2:¬c<48:=by omega
     have e2:¬57<c:=by omega
     simp[isLet,a,b,d2,e2,f,j];exact rd (i+1) ⟨hi,k2⟩
    ·simp[isLet,iH,a,b,d,e,f]at k2;have d2:¬c<48:=by omega
     have e2:57<c:=by omega
     simp[isLet,isName,a,b,d2,e2,f,j,k2]
    ·subst g;simp[isLet,iH,j]at k2;simp[isLet,j];exact rd (i+1) ⟨hi,k2⟩
    ·simp[isLet,iH,a,b,d,e,f,g]at k2;have d2:¬c<48:=by omega
     have e2:57<c:=by omega
     simp[isLet,isName,a,b,d,d2,e2,g,j,k2]
    ·simp[isLet,iH,a,b,d,e,f,g,h]at k2;have d2:¬c<48:=by omega
     have e2:57<c:=by omega
     simp[isLet,isName,a,b,d,e,d2,e2,h,j,k2]
  ·obtain⟨m,_⟩:=Xr l hi n;have y:isLet (s[i]:Int)=false:=by simp[isLet];omega
   have x:iH (s[i]:Int)=false:=by simp[iH];omega
   have w:¬(s[i]:Int)=95:=by omega
   simp[y,x,w]at k2;rcases o:ay (fR s) i with⟨c,d⟩
   rw[o]at m;have q:isLet (c:Int)=false:=by simp[isLet];omega
   have t:¬(c:Int)=95:=by omega
   have u:¬(c:Int)<48:=by omega
   have v:57<(c:Int):=by omega
   simp[hi,o];refine c1 (DA _) ?_
   by_cases j:i=0
   ·simp[q,j,isName,k2]
   ·simp[q,j,t,u,v,isName,k2]
 ·have:i=s.length:=by omega
  subst this;simp[lS]at k2;cases hs:s with
  |nil=>simp[isName]
  |cons a r=>
   rw[hs]at k2;rcases zz 24 s.length with⟨g,k⟩|⟨g,k⟩
   ·rw[hs]at g k;have:¬(r.length+1)<=24:=by simp at g;omega
    simp at k;simp[isName,k2,this];omega
   ·rw[hs]at g k;have:(r.length+1)<=24:=by simp at k;omega
    simp at k;simp[isName,k2,this];omega
theorem fV{s:List Nat}(h:bU s=0):bP 2000 (bh s):=by
 obtain⟨b,c⟩:=WX h;have a:(10:Nat)^mD<=2^2000:=by decide+kernel
 exact⟨cv b a,cv c a⟩
theorem aB7:bH 1=[49]:=aB9 (n:=1) (by decide)
def eQ(q:Rat):Int:=if gL q<0\/0<dJ q 1 then 3 else 0
def vO(s:List Nat):Int:=if bU s=0 then eQ (bh s)else bU s
theorem DE(s:List Nat)(hs:jt s):az prog 113 [.str s] (.int .i64 (vO s)):=by
 have d:=yl s hs;refine aL nf Et mix (by simp[f113]) ?_;rw[vO]
 by_cases c:bU s=0
 ·have o:=fV c;have f:=xK (bh s) (o.mono (by decide));have g:=rB (bh s) 1 (o.mono (by decide)) (by exact⟨by decide+kernel,by decide+kernel⟩);rw[(jn c).1]at f g;rw[aB7]at g;rw[if_pos c,eQ];rw[c]at d;generalize gL (bh s)=x at*;generalize dJ (bh s) 1=y at*
  by_cases a:x<0
  ·simp[f113,ad];refine c1 d ?_;simp[ad];refine c1 f ?_;simp[a,ad]
  ·by_cases b:0<y
   ·simp[f113,ad];refine c1 d ?_;simp[ad];refine c1 f ?_;simp[a,ad];refine c2 g ?_;simp[a,b,ad]
   ·simp[f113,ad];refine c1 d ?_;simp[ad];refine c1 f ?_;simp[a,ad];refine c2 g ?_;simp[a,b,ad]
 ·rw[if_neg c];generalize bU s=e at*;simp[f113,ad];refine c1 d ?_;simp[c,ad]
def gq(o p:dD):Bool:=decide (o.eA=p.eA)&&(decide (dJ (bh o.a) (bh p.b)<=0)&&decide (dJ (bh p.a) (bh o.b)<=0))
def gZ(n:Nat)(c:List dD)(p:dD):Int:=
 if isName p.name=false then 8
 else if c.any (fun o=>decide (o.name=p.name))=true then 9
 else if p.eA<0\/(n:Int)<=p.eA then 10
 else if bU p.a≠0 then bU p.a
 else if bU p.b≠0 then bU p.b
 else if max (eQ (bh p.a)) (eQ (bh p.b))≠0 then max (eQ (bh p.a)) (eQ (bh p.b))
 else if 0<dJ (bh p.a) (bh p.b)then 11
 else if c.any (fun o=>gq o p)=true then 17 else 0
def q8(p:dD):Prop:=jt p.name/\jt p.a/\jt p.b
def aB.pk(t:aB)(i:Nat):dD:=t.bd.getD i ⟨[],0,[],[]⟩
@[simp] theorem aB.OA{t:aB}{i:Nat}(h:i<t.bd.length):t.bd[i]'h=t.pk i:=by
 rw[aB.pk,a6,a3 h];rfl
theorem aB.lT{t:aB}{i:Nat}(h:i<t.bd.length):t.bd[i]?=some (t.pk i):=by rw[a3 h,aB.OA]
theorem tE{α:Type}{f:α->Bool}{l:List α}{i:Nat}{x:α}(h:l[i]?=some x):(l.take (i+1)).any f=((l.take i).any f||f x):=by
 rw[b5,h];simp
theorem Pp(t:aB)(i:Nat)(hi:i<t.bd.length)(U:t.bd.length<=1000000)(hc:t.cs.length<=1000000)(P:∀p∈t.bd,q8 p)(Q:∀j,j<i->bU (t.pk j).a=0/\bU (t.pk j).b=0):
 az prog 76 [cS t,.int .i64 i] (.int .i64 (gZ t.cs.length (t.bd.take i) (t.pk i))):=by
 have v:=aB.lT hi;obtain⟨R,E,F⟩:=P _ (a2 v);have m:=zy (t.pk i).name R.1;have N:=yl (t.pk i).a E;have O:=yl (t.pk i).b F;refine aL nf NX mix (by simp[f76]) ?_;rw[gZ];cases B:isName (t.pk i).name
 ·rw[B]at m;simp[f76,ad,v,hi];refine c1 m ?_;simp[ad]
 rw[B]at m;rw[if_neg (by decide)];simp[f76,ad,v,hi];refine c1 m ?_;simp[ad];refine lp (α:=Nat) (fun j=>⟨[(6,.p (.int .i64 j)),(5,.ptr 1 []),(2,.ptr 0 []),(1,.p (.int .i64 i))],[.box false (.p (cS t)),.box false (.p (eP (t.pk i)))]⟩) (fun j=>j<=i/\(t.bd.take j).any (fun o=>decide (o.name=(t.pk i).name))=false) (fun j=>i-j) 0 (by simp) ?_;rintro j ⟨V,D⟩
 by_cases q:j<i
 ·have z:j<t.bd.length:=by omega
  have g:=aB.lT z;have f:=b8 (i:=j) (by omega)
  by_cases n:(t.pk j).name=(t.pk i).name
  ·have:(t.bd.take i).any (fun o=>decide (o.name=(t.pk i).name))=true:=by
    rw[a8];exact⟨t.pk j,a2 (i:=j) (by rw[be,if_pos q];exact g),by simp[n]⟩
   rw[if_pos this];simp[q,z,g,n,ad]
  ·simp[q,z,g,n,f,ad];exact rd (j+1) ⟨q,by rw[tE g,D];simp[n]⟩
 have:j=i:=by omega
 subst this;rw[D,if_neg (by decide)];have u:((t.pk j).eA<0\/(t.cs.length:Int)<=(t.pk j).eA)\/(¬(t.pk j).eA<0/\¬(t.cs.length:Int)<=(t.pk j).eA):=by omega
 rcases u with u|⟨K,L⟩
 ·rw[if_pos u]
  by_cases e1:(t.pk j).eA<0
  ·simp[e1,ad]
  ·have e2:(t.cs.length:Int)<=(t.pk j).eA:=by omega
   simp[e1,e2,ad]
 rw[if_neg (by omega)];have d0:¬j<j:=by omega
 simp[K,L,d0,ad];refine c1 N ?_
 by_cases c:bU (t.pk j).a=0
 case neg=>
  rw[if_pos c];simp[c,ad]
 rw[if_neg (by simp[c])];simp[c,ad];refine c1 O ?_
 by_cases d:bU (t.pk j).b=0
 case neg=>
  rw[if_pos d];simp[d,ad]
 rw[if_neg (by simp[d])];simp[d,ad];have G:=fV c;have H:=fV d;have x:=DE (t.pk j).a E;have y:=DE (t.pk j).b F;rw[vO,if_pos c]at x;rw[vO,if_pos d]at y;have A:=rB (bh (t.pk j).a) (bh (t.pk j).b) (G.mono (by decide)) (H.mono (by decide));rw[(jn c).1,(jn d).1]at A;refine e1 x ?_;simp[ad];refine e1 y ?_;have em:max (eQ (bh (t.pk j).a)) (eQ (bh (t.pk j).b))=if eQ (bh (t.pk j).a)<eQ (bh (t.pk j).b)then eQ (bh (t.pk j).b)else eQ (bh (t.pk j).a):=by split<;>omega
 simp[ad,<-em];clear em x y;generalize max (eQ (bh (t.pk j).a)) (eQ (bh (t.pk j).b))=M at*
 by_cases hm:M=0
 case neg=>
  simp[hm,ad]
 subst hm;simp[ad];refine c2 A ?_
 by_cases s:0<dJ (bh (t.pk j).a) (bh (t.pk j).b)
 ·rw[if_pos s];simp[s,ad]
 rw[if_neg s];simp[s,ad];refine lp (α:=Nat) (fun k=>⟨[(8,.p (.int .i64 k)),(5,.ptr 1 []),(2,.ptr 0 []),(1,.p (.int .i64 j))],[.box false (.p (cS t)),.box false (.p (eP (t.pk j)))]⟩) (fun k=>k<=j/\(t.bd.take k).any (fun o=>gq o (t.pk j))=false) (fun k=>j-k) 0 (by simp) ?_;rintro k ⟨k1,k2⟩
 by_cases hk:k<j
 ·have e:k<t.bd.length:=by omega
  have gk:=aB.lT e;have f:=b8 (i:=k) (by omega);obtain⟨I,J⟩:=Q k hk;have S:=fV I;have T:=fV J;have l:=rB (bh (t.pk k).a) (bh (t.pk j).b) (S.mono (by decide)) (H.mono (by decide));have w:=rB (bh (t.pk j).a) (bh (t.pk k).b) (G.mono (by decide)) (T.mono (by decide));rw[(jn I).1,(jn d).1]at l;rw[(jn c).1,(jn J).1]at w;have C:gq (t.pk k) (t.pk j)=true->(t.bd.take j).any (fun o=>gq o (t.pk j))=true:=fun h=>by
   rw[a8];exact⟨t.pk k,a2 (i:=k) (by rw[be,if_pos hk];exact gk),h⟩
  have r:gq (t.pk k) (t.pk j)=false->(t.bd.take (k+1)).any (fun o=>gq o (t.pk j))=false:=fun h=>by
   rw[tE gk,k2,h];rfl
  rw[gq]at C r
  by_cases e1:(t.pk k).eA=(t.pk j).eA
  ·by_cases e2:dJ (bh (t.pk k).a) (bh (t.pk j).b)<=0
   ·by_cases e3:dJ (bh (t.pk j).a) (bh (t.pk k).b)<=0
    ·rw[if_pos (C (by simp[e1,e2,e3]))];simp[hk,e,gk,e1,ad];refine c2 l ?_;simp[e1,e2,ad];refine c2 w ?_;simp[e1,e2,e3,ad]
    ·simp[hk,e,gk,e1,ad];refine c2 l ?_;simp[e1,e2,ad];refine c2 w ?_;simp[e1,e2,e3,f,ad];exact rd (k+1) ⟨hk,r (by simp[e3])⟩
   ·simp[hk,e,gk,e1,ad];refine c2 l ?_;simp[e1,e2,f,ad];exact rd (k+1) ⟨hk,r (by simp[e2])⟩
  ·simp[hk,e,gk,e1,f,ad];exact rd (k+1) ⟨hk,r (by simp[e1])⟩
 ·have:k=j:=by omega
  subst this;rw[k2,if_neg (by decide)];simp[ad]
structure NV where
 x:NF
 y:NF
def NV.q(v:NV):V2:=⟨v.x.q,v.y.q⟩
def NV.add(v w:NV):NV:=⟨v.x.add w.x,v.y.add w.y⟩
def NV.sub(v w:NV):NV:=⟨v.x.sub w.x,v.y.sub w.y⟩
def NV.times(v:NV)(k:NF):NV:=⟨v.x.mul k,v.y.mul k⟩
def NV.dot(v w:NV):NF:=(v.x.mul w.x).add (v.y.mul w.y)
def NV.iw(v w:NV):NF:=(v.x.mul w.y).sub (v.y.mul w.x)
theorem NV.kH(v w:NV):(v.sub w).q=v.q.sub w.q:=by simp only[NV.sub,NV.q,V2.sub,NF.kH]
theorem NV.Qy(v w:NV):(v.add w).q=v.q.add w.q:=rfl
theorem NV.MY(v w:NV):(v.dot w).q=v.q.dot w.q:=rfl
theorem NV.WY(v w:NV):(v.iw w).q=v.q.iw w.q:=NF.kH _ _
def NV.from(p:gX):NV:=⟨⟨bh p.x,false⟩,⟨bh p.y,false⟩⟩
structure NS where
 a:NF
 b:NF
 d:NF
def NS.q(s:NS):S3:=⟨s.a.q,s.b.q,s.d.q⟩
def C8(k:Nat)(s:NS):Prop:=bP k s.a.q/\bP k s.b.q/\bP k s.d.q
theorem azk{q:Rat}(h:bP 1800 q):vx q=false:=by
 have a:(bm q.num.natAbs).length<=600:=vi (K:=1800) (k:=600) h.1 (by decide) (by decide);have b:(bm q.den).length<=600:=vi (K:=1800) (k:=600) h.2 (by decide) (by decide);rw[vx,jV,jV,decide_eq_false (by omega),decide_eq_false (by omega)];rfl
def NF.width(r:Int):NF:=.int (4*r*r)
structure NM where
 w:NV
 d:NV
 root:NF
def NM.of(width:NF)(p d b:NV):NM:=⟨b.sub p,d,(((b.sub p).dot d).mul ((b.sub p).dot d)).sub ((d.dot d).mul (((b.sub p).dot (b.sub p)).sub width))⟩
theorem nw:∀l:List Int,bE l=0↔∀e∈l,e=0
 |[]=>by simp[bE]
 |e::r=>by
  rw[bE]
  by_cases h:e=0
  ·rw[if_pos h,nw r];simp[h]
  ·rw[if_neg h];simp[h]
theorem iL{p:gX}(h:dU p=0):bU p.x=0/\bU p.y=0:=by
 have:=(nw _).1 h;exact⟨this _ (by simp),this _ (by simp)⟩
def vP(p:gX):V2:=⟨bh p.x,bh p.y⟩
theorem sV(p:gX):(NV.from p).q=vP p:=rfl
theorem wu{k:Nat}{p:gX}(h:cX k (vP p)):cX k (NV.from p).q:=h
structure NB where
 a:NV
 b:NV
 d:NF
def NB.q(n:NB):P4:=⟨⟨n.a.x.q,n.b.x.q,n.d.q⟩,⟨n.a.y.q,n.b.y.q,n.d.q⟩⟩
def okB(k:Nat)(n:NB):Prop:=cX k n.a.q/\cX k n.b.q/\bP k n.d.q
theorem okB.mono{k l:Nat}{n:NB}(h:okB k n)(a:k<=l):okB l n:=⟨h.1.mono a,h.2.1.mono a,h.2.2.mono a⟩
theorem MB(e:Int):∀l:List Int,bE (l++[e])=if bE l=0 then e else bE l
 |[]=>by by_cases h:e=0<;>simp[bE,h]
 |x::l=>by
  simp only[List.cons_append,bE,MB e l]
  by_cases hx:x=0
  ·simp[hx]
  ·simp[hx]
def gu{α:Type}(a:List α->α->Int)(l:List α)(i:Nat):Int:=match l[i]? with
 |some x=>a (l.take i) x
 |none=>0
def jA{α:Type}(a:List α->α->Int)(l:List α):Int:=bE ((bo l.length).map (gu a l))
theorem Dw{f:Nat->Int}:∀(n i:Nat),(∀j,j<i->f j=0)->i<n->f i≠0->bE ((bo n).map f)=f i
 |0,i,_,h,_=>by omega
 |n+1,i,a,g,b=>by
  rw[cc,List.map_append,a5,bl,MB]
  by_cases hi:i<n
  ·rw[Dw n i a hi b,if_neg b]
  ·have:i=n:=by omega
   subst this;rw[(nw _).2 (by intro e c;obtain⟨j,d,rfl⟩:=bk.1 c;exact a j (b1.1 d)),if_pos rfl]
theorem ry{α:Type}{a:List α->α->Int}{l:List α}{i:Nat}{x:α}(h:∀j,j<i->gu a l j=0)(hx:l[i]?=some x)(b:a (l.take i) x≠0):jA a l=a (l.take i) x:=by
 have hi:=(List.getElem?_eq_some_iff.1 hx).1;have e:gu a l i=a (l.take i) x:=by rw[gu,hx]
 rw[jA,Dw _ i h hi (by rw[e];exact b),e]
theorem py{α:Type}{b:List α->α->Int}{l:List α}:jA b l=0↔∀j,j<l.length->gu b l j=0:=by
 rw[jA,nw];constructor
 ·intro h j a;exact h _ (bk.2 ⟨j,b1.2 a,rfl⟩)
 ·intro h e c;obtain⟨j,a,rfl⟩:=bk.1 c;exact h j (b1.1 a)
theorem ru{α:Type}{a:List α->α->Int}{l:List α}{i:Nat}{x:α}(h:∀j,j<i->gu a l j=0)(hx:l[i]?=some x)(c:a (l.take i) x=0):∀j,j<i+1->gu a l j=0:=by
 intro j d
 by_cases b:j=i
 ·subst b;rw[gu,hx];exact c
 ·exact h j (by omega)
def iG(t:aB)(bef:List cH)(s:cH):Int:=
 if isName s.name=false then 8
 else if bef.any (fun o=>decide (o.name=s.name))=true then 9
 else if dU s.pt≠0 then dU s.pt
 else if t.on (vP s.pt)<0 then 16 else 0
def gp(t:aB):Int:=
 if t.cs.length<3 then 2
 else if 12<t.cs.length then 5
 else if t.cs.any fp=true then 3
 else if t.fJ=false then 15
 else if t.bt<1\/1000<t.bt then 3
 else if 12<t.bd.length then 5
 else if jA (gZ t.cs.length) t.bd≠0 then jA (gZ t.cs.length) t.bd
 else if 256<t.aq.length then 5
 else jA (iG t) t.aq
def mJ(p:cH):Prop:=jt p.name/\pc p.pt
def aB.sp(t:aB)(i:Nat):cH:=t.aq.getD i ⟨[],⟨[],[]⟩⟩
@[simp] theorem aB.rj{t:aB}{i:Nat}(h:i<t.aq.length):t.aq[i]'h=t.sp i:=by
 rw[aB.sp,a6,a3 h];rfl
theorem aB.dE{t:aB}{i:Nat}(h:i<t.aq.length):t.aq[i]?=some (t.sp i):=by rw[a3 h,aB.rj]
structure l8(t:aB):Prop where
 cl:t.cs.length<=1000000
 pl:t.bd.length<=1000000
 sl:t.aq.length<=1000000
 pk:∀p∈t.bd,q8 p
 sp:∀s∈t.aq,mJ s
def mN(t:aB)(name:List Nat):Int:=match t.aq.findIdx? (fun s=>decide (s.name=name))with
 |some i=>i
 |none=>-1
theorem DI{n:Nat}{c:List dD}{p:dD}(h:gZ n c p=0):bU p.a=0/\bU p.b=0:=by
 rw[gZ]at h
 split at h
 ·omega
 split at h
 ·omega
 split at h
 ·omega
 split at h
 ·contradiction
 split at h
 ·contradiction
 rename_i d e;exact⟨Decidable.not_not.1 d,Decidable.not_not.1 e⟩
theorem Wo(t:aB)(name:List Nat)(h:t.aq.length<=1000000):az prog 37 [cS t,.str name] (.int .i64 (mN t name)):=by
 refine aL nf Nw mix (by simp[f37]) ?_;simp[f37,ad];refine lp (α:=Nat) (fun i=>⟨[(5,.p (.int .i64 i)),(2,.ptr 0 []),(1,.p (.str name))],[.box false (.p (cS t))]⟩) (fun i=>i<=t.aq.length/\∀j,j<i->¬(t.sp j).name=name) (fun i=>t.aq.length-i) 0 (by simp) ?_;rintro i ⟨g,c⟩
 by_cases hi:i<t.aq.length
 ·have d:=aB.dE hi;have f:=b8 (i:=i) (by omega)
  by_cases a:(t.sp i).name=name
  ·have:mN t name=i:=by
    have:t.aq.findIdx? (fun s=>decide (s.name=name))=some i:=by
     rw[bv];refine⟨hi,by rw[aB.rj];simp[a],fun j b=>?_⟩;rw[aB.rj];simp[c j b]
    rw[mN,this]
   simp[hi,d,a,this,ad]
  ·simp[hi,d,a,f,ad];exact rd (i+1) ⟨hi,fun j b=>by
    by_cases e:j=i
    ·subst e;exact a
    ·exact c j (by omega)⟩
 ·have:i=t.aq.length:=by omega
  subst this;have:mN t name= -1:=by
   have:t.aq.findIdx? (fun s=>decide (s.name=name))=none:=by
    rw[b2];intro s hs;obtain⟨j,b,rfl⟩:=a9.1 hs;rw[aB.rj];simp[c j b]
   rw[mN,this]
  simp[this,ad]
theorem aAK{t:aB}{i:Nat}(hi:i<t.aq.length):mN t (t.sp i).name<i↔(t.aq.take i).any (fun o=>decide (o.name=(t.sp i).name))=true:=by
 obtain⟨k,hk⟩:∃k,t.aq.findIdx? (fun s=>decide (s.name=(t.sp i).name))=some k:=by
  cases h:t.aq.findIdx? (fun s=>decide (s.name=(t.sp i).name))with
  |some k=>exact⟨k,rfl⟩
  |none=>
   rw[b2]at h;have:=h _ (a2 (aB.dE hi));simp at this
 rw[mN,hk];rw[bv]at hk;obtain⟨k1,k2,k3⟩:=hk;rw[a8];constructor
 ·intro h;have h:k<i:=by simp only at h;omega
  exact⟨t.aq[k],a2 (i:=k) (by rw[be,if_pos h,a3 k1]),k2⟩
 ·rintro⟨o,b,a⟩;obtain⟨j,c,rfl⟩:=a9.1 b;simp only[a7]at c;simp only;rw[b0]at a;have:¬j<k:=fun d=>by
   have:=k3 j d;rw[a]at this;simp at this
  omega
theorem Pm(t:aB)(L:l8 t):az prog 15 [cS t] (.int .i64 (gp t)):=by
 obtain⟨s,M,N,J,K⟩:=L;refine aL nf Nl mix (by simp[f15]) ?_;rw[gp]
 by_cases c1:t.cs.length<3
 ·have cI:(t.cs.length:Int)<3:=by omega
  rw[if_pos c1];simp[f15,ad,cI]
 have v:¬(t.cs.length:Int)<3:=by omega
 rw[if_neg c1]
 by_cases c2:12<t.cs.length
 ·have cI:(12:Int)<t.cs.length:=by omega
  rw[if_pos c2];simp[f15,ad,v,cI]
 have A:¬(12:Int)<t.cs.length:=by omega
 rw[if_neg c2];simp[f15,ad,v,A];refine lp (α:=Nat) (fun i=>⟨[(3,.p (.int .i64 i)),(1,.ptr 0 [])],[.box false (.p (cS t))]⟩) (fun i=>i<=t.cs.length/\(t.cs.take i).any fp=false) (fun i=>t.cs.length-i) 0 (by simp) ?_;rintro i ⟨i1,i2⟩
 by_cases hi:i<t.cs.length
 ·have k:=aB.get hi;have f:=b8 (i:=i) (by omega);have l:=Wu (t.at i);cases hf:fp (t.at i)
  ·rw[hf]at l;simp[hi,k,ad];refine Go.aw.c1 l ?_;simp[f,ad];exact rd (i+1) ⟨hi,by rw[tE k,i2,hf];rfl⟩
  ·rw[hf]at l;have:t.cs.any fp=true:=a8.2 ⟨t.at i,a2 k,hf⟩;rw[if_pos this];simp[hi,k,ad];refine Go.aw.c1 l ?_;simp[ad]
 have:i=t.cs.length:=by omega
 subst this;rw[List.take_length]at i2;have x:∀p∈t.cs,eU p:=fun p I=>DG (by
  cases h:fp p
  ·rfl
  ·rw[a8.2 ⟨p,I,h⟩]at i2;cases i2)
 have E:=PQ t s x;rw[i2,if_neg (by decide)];simp[ad];refine Go.aw.c1 E ?_;cases R:t.fJ
 ·simp[ad]
 rw[if_neg (by decide)];have u:(t.bt<1\/1000<t.bt)\/(¬t.bt<1/\¬1000<t.bt):=by omega
 rcases u with u|⟨y,z⟩
 ·rw[if_pos u]
  by_cases e1:t.bt<1
  ·simp[e1,ad]
  ·have e2:1000<t.bt:=by omega
   simp[e1,e2,ad]
 rw[if_neg (by omega)]
 by_cases c3:12<t.bd.length
 ·have cI:(12:Int)<t.bd.length:=by omega
  rw[if_pos c3];simp[y,z,cI,ad]
 have B:¬(12:Int)<t.bd.length:=by omega
 rw[if_neg c3];simp[y,z,B,ad];refine lp (α:=Nat) (fun i=>⟨[(4,.p (.int .i64 i)),(1,.ptr 0 [])],[.box false (.p (cS t))]⟩) (fun i=>i<=t.bd.length/\∀j,j<i->gu (gZ t.cs.length) t.bd j=0) (fun i=>t.bd.length-i) 0 (by simp) ?_;rintro i ⟨k1,k2⟩
 by_cases hk:i<t.bd.length
 ·have gk:=aB.lT hk;have f:=b8 (i:=i) (by omega);have b:=Pp t i hk M s J (fun j H=>by
   have:=k2 j H;rw[gu,aB.lT (by omega)]at this;exact DI this)
  by_cases he:gZ t.cs.length (t.bd.take i) (t.pk i)=0
  ·rw[he]at b;simp[hk,ad];refine Go.aw.c2 b ?_;simp[f,ad];exact rd (i+1) ⟨hk,ru k2 gk he⟩
  ·have G:=ry k2 gk he;rw[G,if_pos he];simp[hk,ad];refine Go.aw.c2 b ?_;simp[he,ad]
 have:i=t.bd.length:=by omega
 subst this;have F:=py.2 k2;rw[F,if_neg (by decide)]
 by_cases c4:256<t.aq.length
 ·have cI:(256:Int)<t.aq.length:=by omega
  rw[if_pos c4];simp[cI,ad]
 have C:¬(256:Int)<t.aq.length:=by omega
 rw[if_neg c4];simp[C,ad];refine lp (α:=Nat) (fun i=>⟨[(6,.p (.int .i64 i)),(1,.ptr 0 [])],[.box false (.p (cS t))]⟩) (fun i=>i<=t.aq.length/\∀j,j<i->gu (iG t) t.aq j=0) (fun i=>t.aq.length-i) 0 (by simp) ?_;rintro i ⟨s1,s2⟩
 by_cases hs:i<t.aq.length
 ·have a:=aB.dE hs;have f:=b8 (i:=i) (by omega);obtain⟨P,Q⟩:=K _ (a2 a);have c:=zy (t.sp i).name P.1;have m:=Wo t (t.sp i).name N;have b:=FQ (t.sp i).pt Q;have w:=aAK hs;have g:iG t (t.aq.take i) (t.sp i)≠0->jA (iG t) t.aq=iG t (t.aq.take i) (t.sp i):=ry s2 a;have O:iG t (t.aq.take i) (t.sp i)=0->∀j,j<i+1->gu (iG t) t.aq j=0:=ru s2 a;have ev:iG t (t.aq.take i) (t.sp i)=if isName (t.sp i).name=false then 8 else if(t.aq.take i).any (fun o=>decide (o.name=(t.sp i).name))=true then 9 else if dU (t.sp i).pt≠0 then dU (t.sp i).pt else if t.on (vP (t.sp i).pt)<0 then 16 else 0:=rfl
  cases n:isName (t.sp i).name
  ·rw[n]at c;rw[n,if_pos rfl]at ev;rw[g (by rw[ev];decide),ev];simp[hs,a,ad];refine Go.aw.c1 c ?_;simp[ad]
  rw[n]at c;rw[n,if_neg (by decide)]at ev
  by_cases e:mN t (t.sp i).name<i
  ·rw[if_pos (w.1 e)]at ev;rw[g (by rw[ev];decide),ev];simp[hs,a,ad];refine Go.aw.c1 c ?_;simp[ad];refine Go.aw.c2 m ?_;simp[e,ad]
  rw[if_neg (fun h=>e (w.2 h))]at ev
  by_cases d:dU (t.sp i).pt=0
  case neg=>
   rw[if_pos d]at ev;rw[g (by rw[ev];exact d),ev];simp[hs,a,ad];refine Go.aw.c1 c ?_;simp[ad];refine Go.aw.c2 m ?_;simp[e,ad];refine Go.aw.c1 b ?_;simp[d,ad]
  rw[if_neg (by simp[d])]at ev;obtain⟨g1,g2⟩:=iL d;have r:=MH t (vP (t.sp i).pt) s x ⟨(fV g1).mono (by decide),(fV g2).mono (by decide)⟩;have D:eV (vP (t.sp i).pt)=fZ (t.sp i).pt:=by
   rw[eV,vP];dsimp only;rw[(jn g1).1,(jn g2).1]
  rw[D]at r;rw[d]at b
  by_cases q:t.on (vP (t.sp i).pt)<0
  ·rw[if_pos q]at ev;rw[g (by rw[ev];decide),ev];simp[hs,a,ad];refine Go.aw.c1 c ?_;simp[ad];refine Go.aw.c2 m ?_;simp[e,ad];refine Go.aw.c1 b ?_;simp[ad];refine Go.aw.c2 r ?_;simp[q,ad]
  ·rw[if_neg q]at ev;simp[hs,a,ad];refine Go.aw.c1 c ?_;simp[ad];refine Go.aw.c2 m ?_;simp[e,ad];refine Go.aw.c1 b ?_;simp[ad];refine Go.aw.c2 r ?_;simp[q,f,ad];exact rd (i+1) ⟨hs,O ev⟩
 ·have:i=t.aq.length:=by omega
  subst this;rw[py.2 s2];simp[ad]
open Go.Proofs Go.Proofs.YtgpphcmkjhklgaaGreatDoor
section
variable{H:Type}{W:World}{aa:Nat->Prop}
theorem vL:∀d:ap H,1<=Rows.uptoBulk d:=by
 intro d;cases d with
 |lit l=>cases l<;>simp[Rows.uptoBulk]
 |_=>simp[Rows.uptoBulk]
theorem vR{α:Type}{n:Nat}{t e:TypeId}{F:α->PV}{ok:α->Prop}(g:prog.underlying t=some (.slice e))
 (p:∀(d:ap H),(∃c,aS prog W aa (bD prog n e d) c)->Rows.uptoBulk d<=1048576->∃a,bD prog n e d=F a/\ok a/\2<=Rows.uptoBulk d)
 {d:ap H}(h:∃cs,aS prog W aa (bD prog (n+1) t d) cs)(k:Rows.uptoBulk d<=1048576):∃l:List α,bD prog (n+1) t d=.seq (l.map F)/\(∀a∈l,ok a)/\l.length<=1000000:=by
 obtain⟨cs,h⟩:=h;cases d with
 |nil=>exact⟨[],by simp[bD,g],(fun _ h=>nomatch h),by simp⟩
 |slice f sp=>
  simp only[bD,g,aS]at h⊢;have i:∀e'∈f.map (bD prog n e),∃c,aS prog W aa e' c:=by
   rcases h with⟨h,_⟩|⟨_,_,_,_,w,h,_⟩
   ·rw[h];intro _ h;cases h
   ·exact DN h
  have key:∀f:List (ap H),(∀e'∈f.map (bD prog n e),∃c,aS prog W aa e' c)->Rows.uptoBulkAll f<=1048576->∃l:List α,f.map (bD prog n e)=l.map F/\(∀a∈l,ok a)/\2*l.length<=Rows.uptoBulkAll f:=by
   intro f
   induction f with
   |nil=>intro _ _;exact⟨[],rfl,(fun _ h=>nomatch h),by simp⟩
   |cons d r v=>
    intro i k;rw[Rows.uptoBulkAll]at k⊢;obtain⟨a,q,u,m⟩:=p d (i _ b4) (by omega);obtain⟨l,j,o,y⟩:=v (fun e' s=>i e' (b3 _ s)) (by omega);refine⟨a::l,by simp only[a5];rw[q,j],fun x hx=>?_,by rw[List.length_cons];omega⟩;rcases List.mem_cons.1 hx with rfl|hx
    ·exact u
    ·exact o x hx
  rw[Rows.uptoBulk]at k;obtain⟨l,j,m,o⟩:=key f i (by omega);exact⟨l,by rw[j],m,by omega⟩
 |lit l=>simp only[bD,g,aS]at h
 |ptr d=>simp only[bD,g,aS]at h
 |agg l=>simp only[bD,g,aS]at h
 |iface a b=>simp only[bD,g,aS]at h
 |map l=>simp only[bD,g,aS]at h
 |held a=>simp only[bD,g,aS]at h
theorem zC{n:Nat}{d:ap H}(h:∃cs,aS prog W aa (bD prog (n+1) 9 d) cs)(a:Rows.uptoBulk d<=1048576):∃s:List Nat,bD prog (n+1) 9 d=.str s/\jt s:=by
 obtain⟨cs,h⟩:=h;cases d with
 |lit l=>
  cases l with
  |string bytes=>
   refine⟨bytes.map (·.toNat),by simp only[bD,Dq],?_,?_⟩
   ·rw[Rows.uptoBulk]at a;rw[ce];omega
   ·intro c hc;obtain⟨u,_,rfl⟩:=bk.1 hc;exact u.toNat_lt
  |_=>simp only[bD,Dq,aS]at h
 |_=>simp only[bD,Dq,aS]at h
theorem aCB:∃a b:av,prog.underlying 108=some (.struct #[a,b])/\a.type=3/\b.type=3:=⟨_,_,underlying108,rfl,rfl⟩
theorem OX:prog.underlyingId 108=107:=by kernel_rfl
theorem PS{m n:Nat}(j:m=n+1){d:ap H}(h:∃cs,aS prog W aa (bD prog (m+1) 108 d) cs)(o:Rows.uptoBulk d<=1048576):∃p:dK,bD prog (m+1) 108 d=cF p/\True/\2<=Rows.uptoBulk d:=by
 obtain⟨cs,h⟩:=h;obtain⟨f0,f1,f,t0,t1⟩:=aCB;cases d with
 |agg l=>
  simp only[bD,f,aS]at h⊢;obtain⟨q,k,e,c,_⟩:=h;rw[OX,aAV]at e;cases e
  match l,c with
  |[],c=>simp[aY]at c
  |[x],c=>simp[aY]at c
  |x::y::r,c=>
   have:=vL x;simp only[bb,a5,aY,bi,bl,t0,t1]at c⊢;obtain⟨c0,_,_,g1,_,c1,_,_,g2,_⟩:=c;subst j;obtain⟨a,g⟩:=vQ (n:=n) x c0 g1;obtain⟨b,i⟩:=vQ (n:=n) y c1 g2;refine⟨⟨a,b⟩,by rw[g,i,OX];rfl,trivial,?_⟩;rw[Rows.uptoBulk,Rows.uptoBulkAll];omega
 |_=>simp only[bD,f,aS]at h
theorem aCv:∃a b f2 f3:av,prog.underlying 53=some (.struct #[a,b,f2,f3])/\a.type=9/\b.type=3/\f2.type=29/\f3.type=29:=⟨_,_,_,_,underlying53,rfl,rfl,rfl,rfl⟩
theorem OV:prog.underlyingId 53=52:=by kernel_rfl
theorem Px{m n:Nat}(q:m=n+1){d:ap H}(h:∃cs,aS prog W aa (bD prog (m+1) 53 d) cs)(o:Rows.uptoBulk d<=1048576):∃p:dD,bD prog (m+1) 53 d=eP p/\q8 p/\2<=Rows.uptoBulk d:=by
 obtain⟨cs,h⟩:=h;obtain⟨f0,f1,f2,f3,g,t0,t1,t2,t3⟩:=aCv;cases d with
 |agg l=>
  have e:∀x∈l,Rows.uptoBulk x<=1048576:=fun x hx=>by
   have:=qP.vc hx;rw[Rows.uptoBulk]at o;omega
  simp only[bD,g,aS]at h⊢;obtain⟨B,A,f,c,_⟩:=h;rw[OV,aBb]at f;cases f
  match l,c with
  |[],c=>simp[aY]at c
  |[x],c=>simp[aY]at c
  |[x,y],c=>simp[aY]at c
  |[x,y,z],c=>simp[aY]at c
  |x::y::z::w::r,c=>
   have:=vL x;simp only[bb,a5,aY,bi,bl,t0,t1,t2,t3]at c⊢;obtain⟨c0,_,_,g0,_,c1,_,_,g1,_,c2,_,_,g2,_,c3,_,_,g3,_⟩:=c;subst q;obtain⟨a,i,k⟩:=zC (n:=n) ⟨c0,g0⟩ (e x (by simp));obtain⟨b,j⟩:=vQ (n:=n) y c1 g1;obtain⟨u,eu,s⟩:=yH (n:=n) ⟨c2,g2⟩ (e z (by simp));obtain⟨v,ev,t⟩:=yH (n:=n) ⟨c3,g3⟩ (e w (by simp));refine⟨⟨a,b,u,v⟩,by rw[i,j,eu,ev,OV];rfl,⟨k,s,t⟩,?_⟩;rw[Rows.uptoBulk,Rows.uptoBulkAll];omega
 |_=>simp only[bD,g,aS]at h
theorem aCD:∃a b:av,prog.underlying 75=some (.struct #[a,b])/\a.type=9/\b.type=42:=⟨_,_,underlying75,rfl,rfl⟩
theorem OY:prog.underlyingId 75=74:=by kernel_rfl
theorem PR{m n:Nat}(s:m=n+2){d:ap H}(h:∃cs,aS prog W aa (bD prog (m+1) 75 d) cs)(o:Rows.uptoBulk d<=1048576):∃p:cH,bD prog (m+1) 75 d=bC p/\mJ p/\2<=Rows.uptoBulk d:=by
 obtain⟨cs,h⟩:=h;obtain⟨f0,f1,g,t0,t1⟩:=aCD;cases d with
 |agg l=>
  have f:∀x∈l,Rows.uptoBulk x<=1048576:=fun x hx=>by
   have:=qP.vc hx;rw[Rows.uptoBulk]at o;omega
  simp only[bD,g,aS]at h⊢;obtain⟨u,t,e,c,_⟩:=h;rw[OY,OQ]at e;cases e
  match l,c with
  |[],c=>simp[aY]at c
  |[x],c=>simp[aY]at c
  |x::y::r,c=>
   have:=vL x;simp only[bb,a5,aY,bi,bl,t0,t1]at c⊢;obtain⟨c0,_,_,g1,_,c1,_,_,g2,_⟩:=c;subst s;obtain⟨a,i,k⟩:=zC (n:=n+1) ⟨c0,g1⟩ (f x (by simp));obtain⟨b,j,q⟩:=Hv (n:=n) ⟨c1,g2⟩ (f y (by simp));refine⟨⟨a,b⟩,by rw[i,j,OY];rfl,⟨k,q⟩,?_⟩;rw[Rows.uptoBulk,Rows.uptoBulkAll];omega
 |_=>simp only[bD,g,aS]at h
theorem aCE:∃a b f2 f3:av,prog.underlying 26=some (.struct #[a,b,f2,f3])/\a.type=22/\b.type=3/\f2.type=23/\f3.type=24:=⟨_,_,_,_,underlying26,rfl,rfl,rfl,rfl⟩
theorem OZ:prog.underlyingId 26=25:=by kernel_rfl
theorem aBh{m n:Nat}(p:m=n+4){d:ap H}(h:∃cs,aS prog W aa (bD prog (m+1) 26 d) cs)(e:Rows.uptoBulk d<=1048576):∃t:aB,bD prog (m+1) 26 d=cS t/\True/\l8 t:=by
 obtain⟨cs,h⟩:=h;obtain⟨f0,f1,f2,f3,j,t0,t1,t2,t3⟩:=aCE;cases d with
 |agg l=>
  have g:∀x∈l,Rows.uptoBulk x<=1048576:=fun x hx=>by
   have:=qP.vc hx;rw[Rows.uptoBulk]at e;omega
  simp only[bD,j,aS]at h⊢;obtain⟨E,D,i,c,_⟩:=h;rw[OZ,aAW]at i;cases i
  match l,c with
  |[],c=>simp[aY]at c
  |[x],c=>simp[aY]at c
  |[x,y],c=>simp[aY]at c
  |[x,y,z],c=>simp[aY]at c
  |x::y::z::w::r,c=>
   simp only[bb,a5,aY,bi,bl,t0,t1,t2,t3]at c⊢;obtain⟨c0,_,_,g0,_,c1,_,_,g1,_,c2,_,_,g2,_,c3,_,_,g3,_⟩:=c;subst p;obtain⟨a,k,_,A⟩:=vR (n:=n+3) aCp (F:=cF) (ok:=fun _=>True) (fun d f e=>PS (n:=n+1) rfl f e) ⟨c0,g0⟩ (g x (by simp));obtain⟨b,o⟩:=vQ (n:=n+3) y c1 g1;obtain⟨u,eu,q,B⟩:=vR (n:=n+3) aCq (F:=eP) (ok:=q8) (fun d f e=>Px (n:=n+1) rfl f e) ⟨c2,g2⟩ (g z (by simp));obtain⟨v,ev,s,C⟩:=vR (n:=n+3) aCr (F:=bC) (ok:=mJ) (fun d f e=>PR (n:=n) rfl f e) ⟨c3,g3⟩ (g w (by simp));exact⟨⟨a,b,u,v⟩,by rw[k,o,eu,ev,OZ];rfl,trivial,A,B,C,q,s⟩
 |_=>simp only[bD,j,aS]at h
theorem aBg{d:ap H}(h:∃cs,aS prog W aa (bD prog 8 26 d) cs)(a:Rows.uptoBulk d<=1048576):∃t:aB,bD prog 8 26 d=cS t/\True/\l8 t:=aBh (n:=3) rfl h a
end
def eO(p:dD):PV:=.st 52 [.str p.name,.int .i64 p.eA,.str p.a,.str p.b]
def ga(p:cH):PV:=.st 74 [.str p.name,fZ p.pt]
def cL(t:aB):PV:=.st 35 [.seq (t.cs.map cF),.int .i64 t.bt,.seq (t.bd.map eO),.seq (t.aq.map ga)]
@[simp] theorem aHi(p:dD):aJ (eO p)=.agg 52:=rfl
@[simp] theorem aFo(p:dD):cj (eO p)=[.str p.name,.int .i64 p.eA,.str p.a,.str p.b]:=rfl
@[simp] theorem aHo(p:cH):aJ (ga p)=.agg 74:=rfl
@[simp] theorem aFu(p:cH):cj (ga p)=[.str p.name,fZ p.pt]:=rfl
@[simp] theorem aHF(t:aB):aJ (cL t)=.agg 35:=rfl
@[simp] theorem aFw(t:aB):cj (cL t)=[.seq (t.cs.map cF),.int .i64 t.bt,.seq (t.bd.map eO),.seq (t.aq.map ga)]:=rfl
theorem WI(p:dK):az prog 81 [cF p] (.bool (fp p)):=by
 obtain⟨x,y⟩:=p;refine aL nf N3 mix (by simp[f81]) ?_;have e1:max x y=if x<y then y else x:=by split<;>omega
 have e2:min x y=if y<x then y else x:=by split<;>omega
 rw[fp,e1,e2]
 by_cases h:(if x<y then y else x)<=10000
 ·have a:¬10000<(if x<y then y else x):=by omega
  by_cases b:(if y<x then y else x)< -10000
  ·simp[f81,ad,h,a,b]
  ·simp[f81,ad,h,a,b]
 ·have a:10000<(if x<y then y else x):=by omega
  simp[f81,ad,h,a]
def idxFrom{α:Type}(p:α->Bool):List α->Nat->Int
 |[],_=>-1
 |x::r,i=>if p x then(i:Int)else idxFrom p r (i+1)
theorem pq{α:Type}(p:α->Bool):∀(l:List α)(i:Nat),decide (0<=idxFrom p l i)=l.any p
 |[],i=>by simp[idxFrom]
 |x::r,i=>by
  by_cases h:p x
  ·simp[idxFrom,h]
  ·simp[idxFrom,h,pq p r]
theorem Pv(l:List dK)(h:l.length<=1000000):
 az prog 171 [.seq (l.map cF),.func 81 [] []] (.int .i64 (idxFrom fp l 0)):=by
 refine aL nf Mn mix (by simp[f171]) ?_;simp[f171];refine lp (α:=Nat) (fun i=>⟨[(8,.p (.int .i64 i)),(7,.p (.int .i64 l.length)),(1,.p (.func 81 [] [])),(0,.p (.seq (l.map cF)))],[]⟩) (fun i=>i<=l.length/\idxFrom fp l 0=idxFrom fp (l.drop i) i) (fun i=>l.length-i) 0 (by simp) ?_;rintro i ⟨k1,k2⟩
 by_cases hi:i<l.length
 ·rw[a4 hi]at k2;have b:=b8 (i:=i) (by omega);simp[hi];refine c1 (WI l[i]) ?_
  by_cases a:fp l[i]
  ·simp[idxFrom,a]at k2;simp[a,k2]
  ·simp[idxFrom,a]at k2;simp[a,b];exact rd (i+1) ⟨hi,k2⟩
 ·have:i=l.length:=by omega
  subst this;simp[idxFrom]at k2;simp[k2]
theorem Pj(l:List dK)(h:l.length<=1000000):
 az prog 80 [.seq (l.map cF),.func 81 [] []] (.bool (l.any fp)):=by
 refine aL nf N2 mix (by simp[f80]) ?_;simp[f80];refine c2 (Pv l h) ?_;simp[<-pq fp l 0]
def l7(l:List dK):List (PV×PV):=l.map (fun p=>(cF p,PV.bool true))
theorem D9{p q:dK}(h:¬p=q):¬(p.x=q.x/\p.y=q.y):=fun⟨a,b⟩=>h (by cases p;cases q;simp_all)
theorem XH(a b c d:Int):gT prog 9 108 (.st 107 [.int .i64 a,.int .i64 b]) (.st 107 [.int .i64 c,.int .i64 d])=some ((a==c)&&((b==d)&&true)):=by kernel_rfl
@[simp] theorem zE(p q:dK):gT prog 9 108 (cF p) (cF q)=some (decide (p=q)):=by
 rw[cF,cF,XH]
 by_cases h:p=q
 ·subst h;simp
 ·rw[decide_eq_false h];have:=D9 h
  by_cases a:p.x=q.x
  ·have b:¬p.y=q.y:=fun b=>this ⟨a,b⟩;simp[a,b]
  ·simp[a]
theorem D8(p q:dK):jS (cF p) (cF q)=some (decide (p=q)):=by
 by_cases h:p=q
 ·subst h;simp[cF,jS,vr]
 ·rw[decide_eq_false h];have:=D9 h
  by_cases a:p.x=q.x
  ·have b:¬p.y=q.y:=fun b=>this ⟨a,b⟩;simp[cF,jS,vr,a,beq_false_of_ne b]
  ·simp[cF,jS,vr,beq_false_of_ne a]
theorem XG(p q:dK):o7 prog 108 (cF p) (cF q)=some (decide (p=q)):=by
 have e1:=zE p q;have e2:=D8 p q;rw[cF]at e1 e2⊢;rw[o7,e1,e2];simp
@[simp] theorem DK(q:dK):∀l:List dK,fA prog 108 (l7 l) (cF q)=some (if q∈l then some (.bool true)else none)
 |[]=>rfl
 |p::r=>by
  rw[l7,a5,fA,XG]
  by_cases h:q=p
  ·simp[h]
  ·have:=DK q r;rw[l7]at this;simp[h,this]
theorem Pt{q:dK}{l:List dK}(h:¬q∈l):lG prog 108 (l7 l) (cF q)=some none:=by
 have:=DK q l;rw[if_neg h]at this;rw[cF]at this⊢;rw[lG,this]
theorem DL{q:dK}:∀{l:List dK},¬q∈l->fW (l7 l) (cF q) (.bool true)=l7 (l++[q])
 |[],_=>rfl
 |p::r,h=>by
  have a:¬q=p:=fun e=>h (e▸b4);have b:¬q∈r:=fun e=>h (b3 _ e);have:=DL b;rw[l7]at this⊢;rw[a5,fW,D8,this];simp[a,l7]
theorem azv:qU prog 108=true:=by kernel_rfl
@[simp high] theorem aDH(c:Bool)(H:Heap)(p q:dK):iR prog .neq 108 c H (.p (cF p)) (.p (cF q))=some (True,{v:=.p (.bool !(decide (p=q)))}):=by
 have e:=zE p q;rw[cF,cF]at*;simp[iR,e,azv]
@[simp high] theorem aFj(q:dK):eX prog 108 (cF q)=true:=by
 have e1:=zE q q;rw[cF]at e1⊢;rw[eX];simp[e1]
theorem PK(a c:dK):kU a a c=0:=by simp[kU]
theorem Pu(a b:dK):kU a b a=0:=by simp[kU]
theorem PF{t:aB}(e:3<=t.cs.length){j k:Nat}(c:j<t.cs.length)(hk:k<t.cs.length)(d:j≠k)(b:t.at j=t.at k):t.fJ=false:=by
 rw[aB.fJ,decide_eq_false_iff_not];intro h
 by_cases hx:k=t.nx j
 ·obtain⟨m,m1,m2,m3⟩:∃m,m<t.cs.length/\m≠j/\m≠k:=by
   rcases cx j k with a|a|a
   ·by_cases e0:j=0
    ·by_cases e1:k=1
     ·exact⟨2,by omega,by omega,by omega⟩
     ·exact⟨1,by omega,by omega,by omega⟩
    ·exact⟨0,by omega,by omega,by omega⟩
   ·exact(d a).elim
   ·by_cases e0:k=0
    ·by_cases e1:j=1
     ·exact⟨2,by omega,by omega,by omega⟩
     ·exact⟨1,by omega,by omega,by omega⟩
    ·exact⟨0,by omega,by omega,by omega⟩
  have:=h j c m m1 m2 (hx▸m3);rw[<-hx,<-b,PK]at this;omega
 ·have:=h j c k hk (Ne.symm d) hx;rw[<-b,Pu]at this;omega
theorem PN(t:aB)(aj:3<=t.cs.length)(ak:t.cs.length<=1000000)(F:∀p∈t.cs,eU p):az prog 82 [cL t] (.bool t.fJ):=by
 refine aL nf N4 mix (by simp[f82]) ?_;generalize q:t.cs.length=n at*;simp[f82,ad,q];refine lp (α:=Nat) (fun i=>⟨[(16,.p (.int .i64 i)),(15,.p (.int .i64 n)),(14,.p (.seq (t.cs.map cF))),(3,.map 1),(1,.ptr 0 [])],[.box false (.p (cL t)),.map false (l7 (t.cs.take i))]⟩) (fun i=>i<=n/\∀j k,j<k->k<i->t.at j≠t.at k) (fun i=>n-i) 0 (by simp) ?_ (hh:=by simp[l7]);rintro i ⟨ai,E⟩
 by_cases hi:i<n
 ·have H:=aB.get (t:=t) (i:=i) (by omega);have z:=b8 (i:=i) (by omega);have W:t.cs.take (i+1)=t.cs.take i++[t.at i]:=by rw[b5,H];rfl
  simp[-eX,hi,q,H,ad]
  by_cases f:t.at i∈t.cs.take i
  ·obtain⟨j,s,r⟩:=a9.1 f;rw[a7]at s;rw[b0,aB.aK (by omega)]at r;have Q:=PF (by omega) (j:=j) (k:=i) (by omega) (by omega) (by omega) r;simp[f,Q]
  ·have hI:=Pt f;have I:=DL f;rw[<-W]at I;simp[-eX,-lG,f,hI,I,z];exact rd (i+1) ⟨hi,fun j k w hk=>by
    by_cases T:k=i
    ·subst T;intro r;exact f (r▸a2 (i:=j) (by rw[be,if_pos w];exact aB.get (by omega)))
    ·exact E j k w (by omega)⟩
 have R:i=n:=by omega
 subst R;have inj:∀j k,j<i->k<i->t.at j=t.at k->j=k:=fun j k s hk r=>by
  rcases cx j k with h|h|h
  ·exact(E j k h hk r).elim
  ·exact h
  ·exact(E k j h s r.symm).elim
 simp[q,ad];refine lp (α:=Nat) (fun m=>⟨[(32,.p (.int .i64 m)),(31,.p (.int .i64 i)),(30,.p (.seq (t.cs.map cF))),(6,.p (.int .i64 i)),(1,.ptr 0 [])],[.box false (.p (cL t))]⟩) (fun m=>m<=i/\∀j,j<m->t.mO j i) (fun m=>i-m) 0 (by simp) ?_;rintro m ⟨g1,g2⟩;have U:¬i=0:=by omega
 by_cases f:m<i
 ·have M:=aB.get (t:=t) (i:=m) (by omega);have z:=b8 (i:=m) (by omega);have V:t.nx m<i:=by rw[<-q];exact t.nQ (by omega) m
  have N:=aB.get (t:=t) (i:=t.nx m) (by omega);have e1:((m:Int)+1).tmod (i:Int)=((t.nx m:Nat):Int):=by
   rw[aB.nx,q,a0,aT (by omega)];rfl
  simp[f,q,M,N,z,e1,U,ad];refine⟨by repeat' first|rfl|apply ao,?_⟩;refine lp (α:=Nat) (fun k=>⟨[(48,.p (.int .i64 k)),(47,.p (.int .i64 i)),(46,.p (.seq (t.cs.map cF))),(9,.ptr 2 []),(8,.ptr 1 []),(32,.p (.int .i64 m)),(31,.p (.int .i64 i)),(30,.p (.seq (t.cs.map cF))),(6,.p (.int .i64 i)),(1,.ptr 0 [])],[.box false (.p (cL t)),.box false (.p (cF (t.at m))),.box false (.p (cF (t.at (t.nx m))))]⟩) (fun k=>k<=i/\t.mO m k) (fun k=>i-k) 0 (by simp[aB.mO]) ?_;rintro k ⟨q1,D⟩
  by_cases hk:k<i
  ·have gk:=aB.get (t:=t) (i:=k) (by omega);have G:=b8 (i:=k) (by omega)
   by_cases c1:t.at k=t.at m
   ·have:=inj _ _ hk f c1;subst this;simp[-iR,iR.eq_1,hk,gk,G,ad];exact rd (k+1) ⟨hk,fun j s=>by
     by_cases w:j=k
     ·intro h;exact(h w).elim
     ·exact D j (by omega)⟩
   ·by_cases c2:t.at k=t.at (t.nx m)
    ·have:=inj _ _ hk V c2;have c3:¬t.at (t.nx m)=t.at m:=by rw[<-c2];exact c1
     simp[-iR,iR.eq_1,hk,gk,G,c2,c3,ad];exact rd (k+1) ⟨hk,fun j s=>by
      by_cases w:j=k
      ·intro _ h;exact(h (by omega)).elim
      ·exact D j (by omega)⟩
    ·have L:k≠m:=fun e=>c1 (by rw[e]);have nx:k≠t.nx m:=fun e=>c2 (by rw[e]);have P:kU (t.at m) (t.at (t.nx m)) (t.at k)=((t.at (t.nx m)).x-(t.at m).x)*((t.at k).y-(t.at m).y)-((t.at (t.nx m)).y-(t.at m).y)*((t.at k).x-(t.at m).x):=rfl;have X:=aB.iU F (i:=m) (by omega);have Y:=aB.iU F (i:=t.nx m) (by omega);have Z:=aB.iU F (i:=k) (by omega);have K:t.mO m (k+1)↔0<kU (t.at m) (t.at (t.nx m)) (t.at k):=⟨fun h=>h k (by omega) L nx,fun h j s u v=>by
      by_cases w:j=k
      ·subst w;exact h
      ·exact D j (by omega) u v⟩
     have J:¬0<kU (t.at m) (t.at (t.nx m)) (t.at k)->t.fJ=false:=fun h=>by
      rw[aB.fJ,decide_eq_false_iff_not];intro O;exact h (O m (by omega) k (by omega) L nx)
     rw[P]at K J;simp[-iR,iR.eq_1,hk,gk,G,c1,c2,ad];simp only[eU]at X Y Z;generalize t.at m=A at*;generalize t.at (t.nx m)=B at*;generalize t.at k=C at*;obtain⟨c,d⟩:=A;obtain⟨bx,g⟩:=B;obtain⟨l,o⟩:=C;dsimp only at*;have aa:ax.wrap (bx-c)=bx-c:=aM _ (by omega) (by omega);have ab:ax.wrap (o-d)=o-d:=aM _ (by omega) (by omega);have ac:ax.wrap (g-d)=g-d:=aM _ (by omega) (by omega)
     have ae:ax.wrap (l-c)=l-c:=aM _ (by omega) (by omega);have al:=vM (a:=bx-c) (b:=o-d) (A:=20000) (B:=20000) (by omega) (by omega) (by omega) (by omega);have am:=vM (a:=g-d) (b:=l-c) (A:=20000) (B:=20000) (by omega) (by omega) (by omega) (by omega);have af:ax.wrap ((bx-c)*(o-d))=(bx-c)*(o-d):=aM _ (by omega) (by omega);have ag:ax.wrap ((g-d)*(l-c))=(g-d)*(l-c):=aM _ (by omega) (by omega);have ah:ax.wrap ((bx-c)*(o-d)-(g-d)*(l-c))=(bx-c)*(o-d)-(g-d)*(l-c):=aM _ (by omega) (by omega);simp[aa,ab,ac,ae,af,ag,ah]
     by_cases hc:(bx-c)*(o-d)-(g-d)*(l-c)<=0
     ·have:=J (by omega);simp[hc,this]
     ·simp[hc];exact rd (k+1) ⟨hk,K.2 (by omega)⟩
  ·have:k=i:=by omega
   subst this;simp[z];exact rd (m+1) ⟨f,fun j s=>by
    by_cases S:j=m
    ·subst S;exact D
    ·exact g2 j (by omega)⟩
 ·have:m=i:=by omega
  subst this;have:t.fJ=true:=by
   rw[aB.fJ,decide_eq_true_eq,q];exact g2
  simp[this]
noncomputable def eg(v:NV):PV:=.st 138 [eF v.x,eF v.y]
@[simp] theorem aHv(v:NV):aJ (eg v)=.agg 138:=rfl
@[simp] theorem aFv(v:NV):cj (eg v)=[eF v.x,eF v.y]:=rfl
@[simp] theorem aDU:prog.cellsOf 138=8:=by kernel_rfl
theorem zF(x y:NF):eg ⟨x,y⟩=.st 138 [eF x,eF y]:=rfl
noncomputable def sZ(a b:NV):PV:=.st 140 [eg a,eg b]
@[simp] theorem aGZ(a b:NV):aJ (sZ a b)=.agg 140:=rfl
@[simp] theorem aFk(a b:NV):cj (sZ a b)=[eg a,eg b]:=rfl
theorem tL(p:gX)(d:bU p.x=0)(e:bU p.y=0)(a:pc p):az prog 107 [fZ p] (eg (.from p)):=by
 have b:=mE p.x d a.1.1;have c:=mE p.y e a.2.1;refine aL nf D4 mix (by simp[f107]) ?_;rw[NV.from,zF];simp[f107,ad];refine e1 b ?_;simp[ad];refine e1 c ?_;simp[ad]
def fq(p:dK):NV:=⟨.int p.x,.int p.y⟩
theorem Dz(p:dK)(h:eU p):az prog 183 [cF p] (eg (fq p)):=by
 simp only[eU]at h;have a:=sX p.x (by omega) (by omega);have b:=sX p.y (by omega) (by omega);refine aL nf Ej mix (by simp[f183]) ?_;rw[fq,zF];simp[f183,ad];refine e1 a ?_;simp[ad];refine e1 b ?_;simp[ad]
theorem vT(v w:NV)(a:cX kQ v.q)(b:cX kQ w.q):az prog 91 [eg v,eg w] (eg (v.sub w)):=by
 have c:=xW v.x w.x (fE a.1) (fE b.1);have d:=xW v.y w.y (fE a.2) (fE b.2);refine aL nf Ob mix (by simp[f91]) ?_;rw[NV.sub,zF];simp[f91,ad];refine e2 c ?_;simp[ad];refine e2 d ?_;simp[ad]
theorem PG(v w:NV)(a:cX kQ v.q)(b:cX kQ w.q):az prog 71 [eg v,eg w] (eF (v.iw w)):=by
 have c:=sq v.x w.y (fE a.1) (fE b.2);have d:=sq v.y w.x (fE a.2) (fE b.1);have e:=xW (v.x.mul w.y) (v.y.mul w.x) ((ku a.1 b.2).mono (by decide)) ((ku a.2 b.1).mono (by decide));refine aL nf NQ mix (by simp[f71]) ?_;rw[NV.iw];simp[f71,ad];refine e2 c ?_;simp[ad];refine e2 d ?_;simp[ad];refine e2 e ?_;simp[ad]
theorem WH(t:aB)(i:Nat)(hi:i<t.cs.length)(l:t.cs.length<=1000000)(h:∀p∈t.cs,eU p):az prog 89 [cL t,.int .i64 i] (sZ (fq (t.at i)) (fq (t.at (t.nx i)))):=by
 have a:=t.nQ (by omega) i;have j:=Dz (t.at i) (aB.iU h hi);have k:=Dz (t.at (t.nx i)) (aB.iU h a);have g:=b8 (i:=i) (by omega);have e1:((i:Int)+1).tmod (t.cs.length:Int)=((t.nx i:Nat):Int):=by
  rw[aB.nx,a0,aT (by omega)];rfl
 have f:¬t.cs.length=0:=by omega
 have d:¬t.cs=[]:=by intro e;rw[e]at hi;simp at hi
 have b:=aB.get hi;have c:=aB.get a;refine aL nf Oa mix (by simp[f89]) ?_;rw[sZ];simp[f89,ad,g,e1,f,d,b,c,hi,a];refine Go.aw.e1 j ?_;simp[ad,g,e1,f,d,b,c,hi,a];refine Go.aw.e1 k ?_;simp[ad,g,e1,f,d,b,c,hi,a]
theorem WL(t:aB):az prog 69 [cL t] (.func 160 [] [.bY (cL t)]):=by
 refine aL nf NO mix (by simp[f69]) ?_;simp[f69];show fI [.box false (.p (cL t))] 7 (.p (cL t)) (cL t);rw[vU];exact Wk.refl _
noncomputable def vS(t:aB)(i:Nat):List PV:=[.int .i64 i,sZ (fq (t.at i)) (fq (t.at (t.nx i)))]
theorem zA{t:aB}{i:Nat}(h:i<t.cs.length):((bo t.cs.length).map (vS t))[i]?=some (vS t i):=by
 rw[List.getElem?_map,List.getElem?_range h];rfl
theorem aAz(t:aB)(g:t.cs.length<=1000000)(h:∀p∈t.cs,eU p):Stream prog 160 [] [.bY (cL t)] ((bo t.cs.length).map (vS t)):=by
 intro b k e H' hk a l d;rw[ce,List.length_range]at hk d;refine fP nf EF mix (by simp[f160]) ?_;simp[f160,ad];refine lp (α:=Nat) (fun i=>⟨[(7,.p (.int .i64 i)),(6,.p (.int .i64 t.cs.length)),(1,.p (.bY (cL t))),(0,.map b)],e i⟩) (fun i=>i<=k) (fun i=>k-i) 0 (by simp) ?_ (hr:=by simp;exact(a 0 (by omega)).2) (hr2:=(a 0 (by omega)).1);rintro i m
 by_cases hi:i<t.cs.length
 ·have f:=WH t i hi g h;have j:=b8 (i:=i) (by omega);simp[hi];refine c2 f ?_;simp
  by_cases c:i<k
  ·refine⟨e (i+1),_,l i _ c (zA hi),?_⟩;simp[j];exact rd (i+1) c (hr:=by simp;exact(a (i+1) c).2) (hr2:=(a (i+1) c).1)
  ·have:i=k:=by omega
   subst this;rcases d with⟨e1,_⟩|⟨y,e1,e2⟩
   ·omega
   ·rw[zA hi]at e1;injection e1 with e1
    subst e1;refine⟨H',_,e2,?_⟩;simp
 ·have:i=t.cs.length:=by omega
  subst this;rcases d with⟨e1,e2⟩|⟨y,e1,e2⟩
  ·have:t.cs.length=k:=by omega
   subst this;simp[e2]
  ·rw[List.getElem?_eq_none (by simp;omega)]at e1;cases e1
noncomputable def vC(t:aB)(v:NV)(L:dC)(i:Nat):Heap:=[.box false (.p (cL t)),.box false (.p (eg v)),.box false (.p (.int .i64 (t.pf v.q i))),.loop L]
theorem MM(t:aB)(v:NV)(m:t.cs.length<=1000000)(c:∀p∈t.cs,eU p)(g:cX 3000 v.q):az prog 118 [cL t,eg v] (.int .i64 (t.on v.q)):=by
 refine aL nf Mx mix (by simp[f118]) ?_;simp[f118,ad];refine c1 (WL t) ?_;simp;refine rf (aAz t m c) rfl (by simp) (vC t v) t.cs.length (by simp) (fun L=>rfl) ?_ ?_ ?_
 ·intro L a i hi;refine⟨rfl,by simp[vC],fun _ hx=>?_⟩;simp[vC]at hx⊢;exact hx
 ·intro L a i x hi hx;rw[zA hi]at hx;injection hx with hx
  subst hx;have b:=rr (aB.iU c hi);have h:=rr (aB.iU c (t.nQ (by omega) i));have q1:cX 29 ((fq (t.at (t.nx i))).sub (fq (t.at i))).q:=by rw[NV.kH];exact lO h b
  have n:cX 3015 (v.sub (fq (t.at i))).q:=by rw[NV.kH];exact lO g b
  have j:=vT (fq (t.at (t.nx i))) (fq (t.at i)) (h.mono (by decide)) (b.mono (by decide));have k:=vT v (fq (t.at i)) (g.mono (by decide)) (b.mono (by decide));have l:=PG ((fq (t.at (t.nx i))).sub (fq (t.at i))) (v.sub (fq (t.at i))) (q1.mono (by decide)) (n.mono (by decide));have e:=BU (((fq (t.at (t.nx i))).sub (fq (t.at i))).iw (v.sub (fq (t.at i))));have d:gL (((fq (t.at (t.nx i))).sub (fq (t.at i))).iw (v.sub (fq (t.at i)))).q=t.side i v.q:=by
   rw[NV.WY,NV.kH,NV.kH];rfl
  rw[gL]at d;rw[d]at e;have hs:=aB.DB t v.q i;rw[DW]at hs;refine px nf mix a rfl rfl (by kernel_rfl) ?_;have f:=congrArg dC.env a;dsimp only at f;clear a d;generalize (fq (t.at (t.nx i))).sub (fq (t.at i))=W at*;generalize v.sub (fq (t.at i))=U at*;generalize W.iw U=C at*;simp[vC,vS,sZ,ad];refine e2 j ?_;simp[ad];refine e2 k ?_;simp[ad];refine e2 l ?_;simp[ad];refine e1 e ?_;simp[ad];refine⟨by repeat' first|rfl|apply ao,?_⟩;rw[<-hs];refine cJ.og (by simp) (by simp) (by simp) (by simp) ?_;simp;exact nV f (by simp)
 ·intro L a;refine .inl ⟨by simp,?_⟩;simp[vC,aB.on]
theorem DD(s:List Nat)(hs:jt s)(h:bU s=0):az prog 176 [.str s] (.int .i64 (eQ (bh s))):=by
 have o:=fV h;have d:=mE s h hs.1;have c:=BU ⟨bh s,false⟩;have g:=sX 1 (by decide) (by decide);have e:=oY ⟨bh s,false⟩ (.int 1) (o.mono (by decide)) ((show bP 1 (NF.int 1).q from⟨by decide,by decide⟩).mono (by decide));have e2:(if(⟨bh s,false⟩:NF).q<0 then(-1:Int)else if(⟨bh s,false⟩:NF).q=0 then 0 else 1)=gL (bh s):=rfl;have e4:dJ (⟨bh s,false⟩:NF).q (NF.int 1).q=dJ (bh s) 1:=rfl;rw[e2]at c;rw[e4]at e;have f:=fun b=>gY b 3;refine aL nf Er mix (by simp[f176]) ?_;rw[eQ];clear e2 e4 o;generalize gL (bh s)=x at*;generalize dJ (bh s) 1=y at*;generalize (⟨bh s,false⟩:NF)=v at*
 by_cases a:x<0
 ·simp[f176,ad];refine c1 d ?_;simp[ad];refine Go.aw.e1 c ?_;simp[a,ad];refine Go.aw.e2 (f true) ?_;simp[aW];omega
 ·by_cases b:0<y
  ·simp[f176,ad];refine c1 d ?_;simp[ad];refine Go.aw.e1 c ?_;simp[a,ad];refine Go.aw.e1 g ?_;simp[a,ad];refine Go.aw.e2 e ?_;simp[a,b,ad];refine Go.aw.e2 (f true) ?_;simp[aW];omega
  ·simp[f176,ad];refine c1 d ?_;simp[ad];refine Go.aw.e1 c ?_;simp[a,ad];refine Go.aw.e1 g ?_;simp[a,ad];refine Go.aw.e2 e ?_;simp[a,b,ad];refine Go.aw.e2 (f false) ?_;simp[aW];omega
def pA(p:dD):Prop:=q8 p/\bU p.a=0/\bU p.b=0
theorem WJ(p o:dD)(r:pA p)(q:pA o):az prog 175 [eO p,eO o] (.bool (gq o p)):=by
 obtain⟨⟨_,u,v⟩,l,m⟩:=r;obtain⟨⟨_,s,t⟩,j,k⟩:=q;have d:=mE p.a l u.1;have e:=mE o.b k t.1;have c:=oY ⟨bh p.a,false⟩ ⟨bh o.b,false⟩ ((fV l).mono (by decide)) ((fV k).mono (by decide));have g:=mE o.a j s.1;have i:=mE p.b m v.1;have f:=oY ⟨bh o.a,false⟩ ⟨bh p.b,false⟩ ((fV j).mono (by decide)) ((fV m).mono (by decide));dsimp only at c f;refine aL nf Es mix (by simp[f175]) ?_;rw[gq];generalize dJ (bh p.a) (bh o.b)=x at*;generalize dJ (bh o.a) (bh p.b)=y at*;generalize (⟨bh p.a,false⟩:NF)=v1 at*;generalize (⟨bh p.b,false⟩:NF)=v2 at*;generalize (⟨bh o.a,false⟩:NF)=v3 at*;generalize (⟨bh o.b,false⟩:NF)=v4 at*
 by_cases c1:o.eA=p.eA
 case neg=>
  have n:¬p.eA=o.eA:=fun h=>c1 h.symm;simp[f175,ad,c1,n]
 by_cases c2:x<=0
 ·by_cases c3:y<=0
  ·simp[f175,ad,c1];refine Go.aw.e1 d ?_;simp[ad,c1];refine Go.aw.e1 e ?_;simp[ad,c1];refine Go.aw.e2 c ?_;simp[ad,c1,c2];refine Go.aw.e1 g ?_;simp[ad,c1,c2];refine Go.aw.e1 i ?_;simp[ad,c1,c2];refine Go.aw.e2 f ?_;simp[ad,c1,c2,c3]
  ·simp[f175,ad,c1];refine Go.aw.e1 d ?_;simp[ad,c1];refine Go.aw.e1 e ?_;simp[ad,c1];refine Go.aw.e2 c ?_;simp[ad,c1,c2];refine Go.aw.e1 g ?_;simp[ad,c1,c2];refine Go.aw.e1 i ?_;simp[ad,c1,c2];refine Go.aw.e2 f ?_;simp[ad,c1,c2,c3]
 ·simp[f175,ad,c1];refine Go.aw.e1 d ?_;simp[ad,c1];refine Go.aw.e1 e ?_;simp[ad,c1];refine Go.aw.e2 c ?_;simp[ad,c1,c2]
theorem PE(p o:dD):cw prog 173 [.box false (.p (eO p))] [.p (eO o),.ptr 0 []] [.box false (.p (eO p))] (.p (.bool (decide (o.name=p.name)))):=by
 refine fP nf Mm mix (by simp[f173]) ?_
 by_cases h:o.name=p.name
 ·simp[f173,ad,h];exact cJ.og (by simp) (by simp) (by simp) (by simp) (by simp)
 ·simp[f173,ad,h];exact cJ.og (by simp) (by simp) (by simp) (by simp) (by simp)
theorem PJ(p:dD)(l:List dD)(h:l.length<=1000000):
 cw prog 95 [.box false (.p (eO p))] [.p (.seq (l.map eO)),.func 173 [] [.ptr 0 []]] [.box false (.p (eO p))] (.p (.int .i64 (idxFrom (fun o=>decide (o.name=p.name)) l 0))):=by
 refine fP nf CZ mix (by simp[f95]) ?_;simp[f95];refine lp (α:=Nat) (fun i=>⟨[(8,.p (.int .i64 i)),(7,.p (.int .i64 l.length)),(1,.func 173 [] [.ptr 0 []]),(0,.p (.seq (l.map eO)))],[.box false (.p (eO p))]⟩) (fun i=>i<=l.length/\idxFrom (fun o=>decide (o.name=p.name)) l 0=idxFrom (fun o=>decide (o.name=p.name)) (l.drop i) i) (fun i=>l.length-i) 0 (by simp) ?_;rintro i ⟨k1,k2⟩;have a:=b8 (i:=i) (by omega)
 by_cases hi:i<l.length
 ·rw[a4 hi,idxFrom]at k2;simp[hi];refine cf (PE p l[i]) [0] ?_
  by_cases hk:l[i].name=p.name
  ·simp[hk]at k2;simp[hk,k2,ba]
  ·simp[hk]at k2;simp[hk,a,ba];exact rd (i+1) ⟨hi,k2⟩
 ·have:i=l.length:=by omega
  subst this;simp[idxFrom]at k2;simp[k2]
theorem PA(p:dD)(l:List dD)(h:l.length<=1000000):
 cw prog 172 [.box false (.p (eO p))] [.p (.seq (l.map eO)),.func 173 [] [.ptr 0 []]] [.box false (.p (eO p))] (.p (.bool (l.any (fun o=>decide (o.name=p.name))))):=by
 refine fP nf CC mix (by simp[f172]) ?_;simp[f172];refine cf (PJ p l h) [0] ?_;have:=pq (fun o=>decide (o.name=p.name)) l 0;simp[ba,<-this]
theorem PD(p o:cH):cw prog 178 [.box false (.p (ga p))] [.p (ga o),.ptr 0 []] [.box false (.p (ga p))] (.p (.bool (decide (o.name=p.name)))):=by
 refine fP nf Eo mix (by simp[f178]) ?_
 by_cases h:o.name=p.name
 ·simp[f178,ad,h];exact cJ.og (by simp) (by simp) (by simp) (by simp) (by simp)
 ·simp[f178,ad,h];exact cJ.og (by simp) (by simp) (by simp) (by simp) (by simp)
theorem Pr(p:cH)(l:List cH)(h:l.length<=1000000):
 cw prog 198 [.box false (.p (ga p))] [.p (.seq (l.map ga)),.func 178 [] [.ptr 0 []]] [.box false (.p (ga p))] (.p (.int .i64 (idxFrom (fun o=>decide (o.name=p.name)) l 0))):=by
 refine fP nf Mi mix (by simp[f198]) ?_;simp[f198];refine lp (α:=Nat) (fun i=>⟨[(8,.p (.int .i64 i)),(7,.p (.int .i64 l.length)),(1,.func 178 [] [.ptr 0 []]),(0,.p (.seq (l.map ga)))],[.box false (.p (ga p))]⟩) (fun i=>i<=l.length/\idxFrom (fun o=>decide (o.name=p.name)) l 0=idxFrom (fun o=>decide (o.name=p.name)) (l.drop i) i) (fun i=>l.length-i) 0 (by simp) ?_;rintro i ⟨k1,k2⟩;have a:=b8 (i:=i) (by omega)
 by_cases hi:i<l.length
 ·rw[a4 hi,idxFrom]at k2;simp[hi];refine cf (PD p l[i]) [0] ?_
  by_cases hk:l[i].name=p.name
  ·simp[hk]at k2;simp[hk,k2,ba]
  ·simp[hk]at k2;simp[hk,a,ba];exact rd (i+1) ⟨hi,k2⟩
 ·have:i=l.length:=by omega
  subst this;simp[idxFrom]at k2;simp[k2]
theorem Pz(p:cH)(l:List cH)(h:l.length<=1000000):
 cw prog 177 [.box false (.p (ga p))] [.p (.seq (l.map ga)),.func 178 [] [.ptr 0 []]] [.box false (.p (ga p))] (.p (.bool (l.any (fun o=>decide (o.name=p.name))))):=by
 refine fP nf Ep mix (by simp[f177]) ?_;simp[f177];refine cf (Pr p l h) [0] ?_;have:=pq (fun o=>decide (o.name=p.name)) l 0;simp[ba,<-this]
theorem PC(p:dD)(c:pA p)(l:List dD)(h:l.length<=1000000)(b:∀o∈l,pA o):
 az prog 95 [.seq (l.map eO),.func 175 [eO p] []] (.int .i64 (idxFrom (fun o=>gq o p) l 0)):=by
 refine aL nf CZ mix (by simp[f95]) ?_;simp[f95];refine lp (α:=Nat) (fun i=>⟨[(8,.p (.int .i64 i)),(7,.p (.int .i64 l.length)),(1,.p (.func 175 [eO p] [])),(0,.p (.seq (l.map eO)))],[]⟩) (fun i=>i<=l.length/\idxFrom (fun o=>gq o p) l 0=idxFrom (fun o=>gq o p) (l.drop i) i) (fun i=>l.length-i) 0 (by simp) ?_;rintro i ⟨k1,k2⟩;have d:=b8 (i:=i) (by omega)
 by_cases hi:i<l.length
 ·rw[a4 hi,idxFrom]at k2;have a:=WJ p l[i] c (b _ (cb hi));simp[hi];refine c2 a ?_;cases hk:gq l[i] p
  ·simp[hk]at k2;simp[d];exact rd (i+1) ⟨hi,k2⟩
  ·simp[hk]at k2;simp[k2]
 ·have:i=l.length:=by omega
  subst this;simp[idxFrom]at k2;simp[k2]
theorem Po(p:dD)(b:pA p)(l:List dD)(h:l.length<=1000000)(a:∀o∈l,pA o):
 az prog 172 [.seq (l.map eO),.func 175 [eO p] []] (.bool (l.any (fun o=>gq o p))):=by
 refine aL nf CC mix (by simp[f172]) ?_;simp[f172];refine c2 (PC p b l h a) ?_;have:=pq (fun o=>gq o p) l 0;simp[<-this]
def jZ(n:Nat)(c:List dD)(p:dD):Int:=bE [aW (!isName p.name) 8,aW (c.any fun o=>decide (o.name=p.name)) 9,aW (decide (p.eA<0\/(n:Int)<=p.eA)) 10,bU p.a,bU p.b]
def zg(c:List dD)(p:dD):Int:=bE [eQ (bh p.a),eQ (bh p.b),aW (decide (0<dJ (bh p.a) (bh p.b))) 11,aW (c.any fun o=>gq o p) 17]
theorem Du(q:Rat):eQ q=0\/eQ q=3:=by
 rw[eQ];split
 ·exact .inr rfl
 ·exact .inl rfl
theorem Py(n:Nat)(e:List dD)(p:dD):gZ n e p=if jZ n e p=0 then zg e p else jZ n e p:=by
 rw[gZ,jZ,zg];generalize bU p.a=ca;generalize bU p.b=i;have j:=Du (bh p.a);have h:=Du (bh p.b);generalize eQ (bh p.a)=r at*;generalize eQ (bh p.b)=s at*;generalize dJ (bh p.a) (bh p.b)=y;generalize (e.any fun o=>gq o p)=m;generalize (e.any fun o=>decide (o.name=p.name))=a;have k:max (0:Int) 3=3:=rfl;have l:max (3:Int) 0=3:=rfl;cases q:isName p.name
 ·simp[bE,aW]
 cases a
 case true=>simp[bE,aW]
 by_cases c:p.eA<0\/(n:Int)<=p.eA
 ·simp[bE,aW,c]
 by_cases d:ca=0
 case neg=>simp[bE,aW,c,d]
 by_cases f:i=0
 case neg=>simp[bE,aW,c,d,f]
 rcases j with rfl|rfl
 ·rcases h with rfl|rfl
  ·by_cases g:0<y
   ·simp[bE,aW,c,d,f,g]
   ·cases m<;>simp[bE,aW,c,d,f,g]
  ·simp[bE,aW,c,d,f,k]
 ·rcases h with rfl|rfl
  ·simp[bE,aW,c,d,f,l]
  ·simp[bE,aW,c,d,f]
theorem Ps{n:Nat}{bef:List dD}{p:dD}(h:jZ n bef p=0):bU p.a=0/\bU p.b=0:=by
 rw[jZ,nw]at h;exact⟨h _ (by simp),h _ (by simp)⟩
theorem Pn(t:aB)(p:dD)(d:List dD)(L:t.cs.length<=1000000)(G:q8 p)(m:d.length<=1000000)(F:∀o∈d,pA o):
 az prog 84 [cL t,eO p,.seq (d.map eO)] (.int .i64 (gZ t.cs.length d p)):=by
 obtain⟨C,j,k⟩:=G;have k1:=PA p d m;have k2:=zB p.name C.1;have k3:=gY (!isName p.name) 8;have k4:=gY (d.any fun o=>decide (o.name=p.name)) 9;have k5:=fun b=>gY b 10;have k6:=yB p.a j.1 j.2;have k7:=yB p.b k.1 k.2;have k8:=nR [aW (!isName p.name) 8,aW (d.any fun o=>decide (o.name=p.name)) 9,aW (decide (p.eA<0\/(t.cs.length:Int)<=p.eA)) 10,bU p.a,bU p.b] (by simp);have g:=Ps (n:=t.cs.length) (bef:=d) (p:=p);rw[Py];have s:=fun h:jZ t.cs.length d p=0=>Po p ⟨⟨C,j,k⟩,(g h).1,(g h).2⟩ d m F;have u:=fun h:jZ t.cs.length d p=0=>DD p.a j (g h).1;have v:=fun h:jZ t.cs.length d p=0=>DD p.b k (g h).2;have w:=fun h:jZ t.cs.length d p=0=>mE p.a (g h).1 j.1;have x:=fun h:jZ t.cs.length d p=0=>mE p.b (g h).2 k.1;have q:=fun h:jZ t.cs.length d p=0=>oY ⟨bh p.a,false⟩ ⟨bh p.b,false⟩ ((fV (g h).1).mono (by decide)) ((fV (g h).2).mono (by decide));dsimp only at q;have B:=gY (decide (0<dJ (bh p.a) (bh p.b))) 11;have z:=gY (d.any fun o=>gq o p) 17;have i:=nR [eQ (bh p.a),eQ (bh p.b),aW (decide (0<dJ (bh p.a) (bh p.b))) 11,aW (d.any fun o=>gq o p) 17] (by simp);have d1:jZ t.cs.length d p=bE [aW (!isName p.name) 8,aW (d.any fun o=>decide (o.name=p.name)) 9,aW (decide (p.eA<0\/(t.cs.length:Int)<=p.eA)) 10,bU p.a,bU p.b]:=rfl;have d2:zg d p=bE [eQ (bh p.a),eQ (bh p.b),aW (decide (0<dJ (bh p.a) (bh p.b))) 11,aW (d.any fun o=>gq o p) 17]:=rfl;rw[<-d1]at k8;rw[<-d2]at i;clear d1 d2 g;generalize jZ t.cs.length d p=l at*;generalize zg d p=K at*;generalize bU p.a=H at*;generalize bU p.b=I at*;generalize eQ (bh p.a)=U at*;generalize eQ (bh p.b)=V at*;generalize dJ (bh p.a) (bh p.b)=A at*;generalize (d.any fun o=>decide (o.name=p.name))=D at*;generalize (d.any fun o=>gq o p)=J at*;generalize isName p.name=E at*;generalize (⟨bh p.a,false⟩:NF)=v1 at*;generalize (⟨bh p.b,false⟩:NF)=v2 at*;refine aL nf N6 mix (by simp[f84]) ?_;have r:∀b:Bool,decide (p.eA<0\/(t.cs.length:Int)<=p.eA)=b->az prog 79 [.bool b,.int .i64 10] (.int .i64 (aW b 10))/\az prog 78 [.seq [.int .i64 (aW (!E) 8),.int .i64 (aW D 9),.int .i64 (aW b 10),.int .i64 H,.int .i64 I]] (.int .i64 l):=fun b m=>by
  rw[m]at k8;exact⟨k5 b,by simpa using k8⟩
 simp at i;have y:az prog 79 [.bool (decide (0<A)),.int .i64 11] (.int .i64 (aW (decide (0<A)) 11)):=B;clear k5 k8 B;generalize M:aW (!E) 8=Q at*;generalize N:aW D 9=R at*;generalize O:aW (decide (0<A)) 11=S at*;generalize P:aW J 17=T at*;simp[f84,-bg,ad];rw[bg];simp[-bg,ad];rw[bg];simp[-bg,ad];refine cf k1 [1] ?_;simp[-bg,ad,ba,sig]
 by_cases e:p.eA<0
 ·obtain⟨f1,f2⟩:=r true (by simp[e]);rw[bg,bg];simp[-bg,ad];refine Go.aw.e1 k2 ?_;simp[-bg,ad];refine Go.aw.e2 k3 ?_;simp[-bg,ad];refine Go.aw.e2 k4 ?_;simp[-bg,ad,e];refine Go.aw.e2 f1 ?_;simp[-bg,ad,e];refine Go.aw.e1 k6 ?_;simp[-bg,ad,e];refine Go.aw.e1 k7 ?_;simp[-bg,ad,e];refine ep f2 (by simp;first|exact⟨rfl,rfl⟩|rfl) (by simp;first|exact⟨rfl,rfl⟩|rfl) ?_;simp[-bg,ad,e];refine⟨by repeat' first|rfl|apply ao,?_⟩
  by_cases c:l=0
  case neg=>simp[c,ad]
  simp[c,ad];refine Go.aw.c2 (s c) ?_;simp[ad];refine Go.aw.e1 (u c) ?_;simp[ad];refine Go.aw.e1 (v c) ?_;simp[ad];refine Go.aw.e1 (w c) ?_;simp[ad];refine Go.aw.e1 (x c) ?_;simp[ad];refine Go.aw.e2 (q c) ?_;simp[ad];refine Go.aw.e2 y ?_;simp[ad];refine Go.aw.e2 z ?_;simp[ad];refine ep i (by simp;first|exact⟨rfl,rfl⟩|rfl) (by simp;first|exact⟨rfl,rfl⟩|rfl) ?_;simp[ad];exact⟨by repeat' first|rfl|apply ao,fun h=>(h c).elim⟩
 by_cases f:(t.cs.length:Int)<=p.eA
 ·obtain⟨f1,f2⟩:=r true (by simp[e,f]);rw[bg,bg];simp[-bg,ad];refine Go.aw.e1 k2 ?_;simp[-bg,ad];refine Go.aw.e2 k3 ?_;simp[-bg,ad];refine Go.aw.e2 k4 ?_;simp[-bg,ad,e,f];refine Go.aw.e2 f1 ?_;simp[-bg,ad,e,f];refine Go.aw.e1 k6 ?_;simp[-bg,ad,e,f];refine Go.aw.e1 k7 ?_;simp[-bg,ad,e,f];refine ep f2 (by simp;first|exact⟨rfl,rfl⟩|rfl) (by simp;first|exact⟨rfl,rfl⟩|rfl) ?_;simp[-bg,ad,e,f];refine⟨by repeat' first|rfl|apply ao,?_⟩
  by_cases c:l=0
  case neg=>simp[c,ad]
  simp[c,ad];refine Go.aw.c2 (s c) ?_;simp[ad];refine Go.aw.e1 (u c) ?_;simp[ad];refine Go.aw.e1 (v c) ?_;simp[ad];refine Go.aw.e1 (w c) ?_;simp[ad];refine Go.aw.e1 (x c) ?_;simp[ad];refine Go.aw.e2 (q c) ?_;simp[ad];refine Go.aw.e2 y ?_;simp[ad];refine Go.aw.e2 z ?_;simp[ad];refine ep i (by simp;first|exact⟨rfl,rfl⟩|rfl) (by simp;first|exact⟨rfl,rfl⟩|rfl) ?_;simp[ad];exact⟨by repeat' first|rfl|apply ao,fun h=>(h c).elim⟩
 ·obtain⟨f1,f2⟩:=r false (by simp[e,f]);rw[bg,bg];simp[-bg,ad];refine Go.aw.e1 k2 ?_;simp[-bg,ad];refine Go.aw.e2 k3 ?_;simp[-bg,ad];refine Go.aw.e2 k4 ?_;simp[-bg,ad,e,f];refine Go.aw.e2 f1 ?_;simp[-bg,ad,e,f];refine Go.aw.e1 k6 ?_;simp[-bg,ad,e,f];refine Go.aw.e1 k7 ?_;simp[-bg,ad,e,f];refine ep f2 (by simp;first|exact⟨rfl,rfl⟩|rfl) (by simp;first|exact⟨rfl,rfl⟩|rfl) ?_;simp[-bg,ad,e,f];refine⟨by repeat' first|rfl|apply ao,?_⟩
  by_cases c:l=0
  case neg=>simp[c,ad]
  simp[c,ad];refine Go.aw.c2 (s c) ?_;simp[ad];refine Go.aw.e1 (u c) ?_;simp[ad];refine Go.aw.e1 (v c) ?_;simp[ad];refine Go.aw.e1 (w c) ?_;simp[ad];refine Go.aw.e1 (x c) ?_;simp[ad];refine Go.aw.e2 (q c) ?_;simp[ad];refine Go.aw.e2 y ?_;simp[ad];refine Go.aw.e2 z ?_;simp[ad];refine ep i (by simp;first|exact⟨rfl,rfl⟩|rfl) (by simp;first|exact⟨rfl,rfl⟩|rfl) ?_;simp[ad];exact⟨by repeat' first|rfl|apply ao,fun h=>(h c).elim⟩
def iF(a:List cH)(s:cH):Int:=bE [aW (!isName s.name) 8,aW (a.any fun o=>decide (o.name=s.name)) 9,dU s.pt]
theorem Pw(t:aB)(b:List cH)(s:cH):iG t b s=if iF b s=0 then aW (decide (t.on (vP s.pt)<0)) 16 else iF b s:=by
 rw[iG,iF];generalize dU s.pt=c;generalize (b.any fun o=>decide (o.name=s.name))=a;cases e:isName s.name
 ·simp[bE,aW]
 cases a
 case true=>simp[bE,aW]
 by_cases d:c=0
 case neg=>simp[bE,aW,d]
 simp[bE,aW,d]
theorem DJ{bef:List cH}{s:cH}(h:iF bef s=0):dU s.pt=0:=by
 rw[iF,nw]at h;exact h _ (by simp)
theorem PB(t:aB)(s:cH)(a:List cH)(k:t.cs.length<=1000000)(l:∀p∈t.cs,eU p)(hs:mJ s)(j:a.length<=1000000):
 az prog 86 [cL t,ga s,.seq (a.map ga)] (.int .i64 (iG t a s)):=by
 obtain⟨r,f⟩:=hs;have k1:=Pz s a j;have k2:=zB s.name r.1;have k3:=gY (!isName s.name) 8;have k4:=gY (a.any fun o=>decide (o.name=s.name)) 9;have k6:=zS s.pt f;have k8:=nR [aW (!isName s.name) 8,aW (a.any fun o=>decide (o.name=s.name)) 9,dU s.pt] (by simp);have c:=DJ (bef:=a) (s:=s);rw[Pw];have m:=fun h:iF a s=0=>tL s.pt (iL (c h)).1 (iL (c h)).2 f;have e:=fun h:iF a s=0=>MM t (.from s.pt) k l (wu ⟨(fV (iL (c h)).1).mono (by decide),(fV (iL (c h)).2).mono (by decide)⟩);have n:=gY (decide (t.on (vP s.pt)<0)) 16;rw[sV]at e;have d1:iF a s=bE [aW (!isName s.name) 8,aW (a.any fun o=>decide (o.name=s.name)) 9,dU s.pt]:=rfl;rw[<-d1]at k8;clear d1 c;generalize iF a s=d at*;generalize t.on (vP s.pt)=y at*;generalize dU s.pt=u at*;generalize (a.any fun o=>decide (o.name=s.name))=g at*;generalize isName s.name=i at*;generalize NV.from s.pt=v1 at*;refine aL nf N8 mix (by simp[f86]) ?_;have q:az prog 78 [.seq [.int .i64 (aW (!i) 8),.int .i64 (aW g 9),.int .i64 u]] (.int .i64 d):=by simpa using k8
 clear k8;generalize v:aW (!i) 8=z at*;generalize w:aW g 9=A at*;generalize x:aW (decide (y<0)) 16=B at*;simp[f86,ad];refine cf k1 [1] ?_;simp[ad,ba,sig];refine Go.aw.e1 k2 ?_;simp[ad];refine Go.aw.e2 k3 ?_;simp[ad];refine Go.aw.e2 k4 ?_;simp[ad];refine Go.aw.e1 k6 ?_;simp[ad];refine ep q (by simp;first|exact⟨rfl,rfl⟩|rfl) (by simp;first|exact⟨rfl,rfl⟩|rfl) ?_;simp[ad];refine⟨by repeat' first|rfl|apply ao,?_⟩
 by_cases b:d=0
 case neg=>simp[b,ad]
 simp[b,ad];refine Go.aw.e1 (m b) ?_;simp[ad];refine Go.aw.e2 (e b) ?_;simp[ad];refine Go.aw.e2 n ?_;simp[ad];exact fun h=>(h b).elim
def ki{α:Type}(b:Nat)(a:List α->α->Int)(l:List α):Int:=if b<l.length then 5 else jA a l
theorem xV{α:Type}{n:Nat}{f:α->PV}(h:∀a,ad (.p (f a))≠.bad/\bB prog (ad (.p (f a)))=n)(l:List α):eC prog n (l.map (AV.p∘f)):=ua.2 fun v b=>by
 obtain⟨a,_,rfl⟩:=bk.1 b;exact h a
theorem H4(l:List dD):eC prog 4 (l.map (AV.p∘eO)):=xV (fun r=>⟨by simp[ad],by simp[ad]⟩) l
theorem H5(l:List cH):eC prog 3 (l.map (AV.p∘ga)):=xV (fun r=>⟨by simp[ad],by simp[ad]⟩) l
theorem PM(t:aB)(a:Nat)(h:t.cs.length<=1000000)(m:t.bd.length<=1000000)(c:∀p∈t.bd,q8 p):
 az prog 83 [.seq (t.bd.map eO),.int .i64 a,.func 84 [cL t] []] (.int .i64 (ki a (gZ t.cs.length) t.bd)):=by
 refine aL nf N5 mix (by simp[f83]) ?_;rw[ki]
 by_cases c1:a<t.bd.length
 ·have cI:(a:Int)<t.bd.length:=by omega
  rw[if_pos c1];simp[f83,cI]
 have d:¬(a:Int)<t.bd.length:=by omega
 rw[if_neg c1];simp[f83,d];refine lp (α:=Nat) (fun i=>⟨[(16,.p (.int .i64 i)),(15,.p (.int .i64 t.bd.length)),(14,.p (.seq (t.bd.map eO))),(0,.p (.seq (t.bd.map eO))),(2,.p (.func 84 [cL t] []))],[]⟩) (fun i=>i<=t.bd.length/\∀j,j<i->gu (gZ t.cs.length) t.bd j=0) (fun i=>t.bd.length-i) 0 (by simp) ?_;rintro i ⟨k1,k2⟩
 by_cases hk:i<t.bd.length
 ·have gk:=aB.lT hk;have l:=b8 (i:=i) (by omega);have b:=Pn t (t.pk i) (t.bd.take i) h (c _ (a2 gk)) (by rw[a7];omega) (fun o k=>by
   obtain⟨j,f,rfl⟩:=a9.1 k;rw[a7]at f;rw[b0];have:=k2 j (by omega);have g:=aB.lT (t:=t) (i:=j) (by omega);rw[gu,g]at this;rw[aB.OA (by omega)];exact⟨c _ (a2 g),DI this⟩)
  rw[ck]at b
  by_cases he:gZ t.cs.length (t.bd.take i) (t.pk i)=0
  ·rw[he]at b;have:=ru k2 gk he;simp[hk,gk,ad];refine⟨⟨k1,H4 _⟩,?_⟩;refine Go.aw.e3 b ?_;simp[l,ad];exact rd (i+1) ⟨hk,this⟩
  ·have e:=ry k2 gk he;rw[e];simp[hk,gk,ad];refine⟨⟨k1,H4 _⟩,?_⟩;refine Go.aw.e3 b ?_;simp[he,ad]
 ·have:i=t.bd.length:=by omega
  subst this;rw[py.2 k2];simp
theorem PL(t:aB)(a:Nat)(e:t.cs.length<=1000000)(f:∀p∈t.cs,eU p)(k:t.aq.length<=1000000)(g:∀p∈t.aq,mJ p):
 az prog 85 [.seq (t.aq.map ga),.int .i64 a,.func 86 [cL t] []] (.int .i64 (ki a (iG t) t.aq)):=by
 refine aL nf N7 mix (by simp[f85]) ?_;rw[ki]
 by_cases c1:a<t.aq.length
 ·have cI:(a:Int)<t.aq.length:=by omega
  rw[if_pos c1];simp[f85,cI]
 have c:¬(a:Int)<t.aq.length:=by omega
 rw[if_neg c1];simp[f85,c];refine lp (α:=Nat) (fun i=>⟨[(16,.p (.int .i64 i)),(15,.p (.int .i64 t.aq.length)),(14,.p (.seq (t.aq.map ga))),(0,.p (.seq (t.aq.map ga))),(2,.p (.func 86 [cL t] []))],[]⟩) (fun i=>i<=t.aq.length/\∀j,j<i->gu (iG t) t.aq j=0) (fun i=>t.aq.length-i) 0 (by simp) ?_;rintro i ⟨k1,k2⟩
 by_cases hk:i<t.aq.length
 ·have gk:=aB.dE hk;have h:=b8 (i:=i) (by omega);have b:=PB t (t.sp i) (t.aq.take i) e f (g _ (a2 gk)) (by rw[a7];omega);rw[ck]at b
  by_cases he:iG t (t.aq.take i) (t.sp i)=0
  ·rw[he]at b;have:=ru k2 gk he;simp[hk,gk,ad];refine⟨⟨k1,H5 _⟩,?_⟩;refine Go.aw.e3 b ?_;simp[h,ad];exact rd (i+1) ⟨hk,this⟩
  ·have d:=ry k2 gk he;rw[d];simp[hk,gk,ad];refine⟨⟨k1,H5 _⟩,?_⟩;refine Go.aw.e3 b ?_;simp[he,ad]
 ·have:i=t.aq.length:=by omega
  subst this;rw[py.2 k2];simp
end Go.aw
