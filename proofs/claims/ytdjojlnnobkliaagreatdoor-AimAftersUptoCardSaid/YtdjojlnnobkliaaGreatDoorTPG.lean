import Derived.Test.YtdjojlnnobkliaaGreatDoorTPF
import Derived.Test.YtdjojlnnobkliaaGreatDoorTThC
/- Parts of a proof. -/
set_option maxRecDepth 100000
set_option maxHeartbeats 4000000
set_option linter.unusedSimpArgs false
set_option linter.unusedVariables false
set_option linter.unusedSectionVars false
open Go.Proofs.Tryz
open And renaming intro->am
open Bool renaming cond_eq_ite->ao, true_and->av, and_eq_true->ax, eq_iff_iff->ay
open Decidable renaming not_not->aT, by_contra->a0
open Go renaming FuncId->a1, DataW->a4, Field->a5
open Go.IntKind renaming i64->a6
open Go.Utf8 renaming decode->a7
open Int renaming tmod_eq_emod_of_nonneg->a8, natCast_emod->a9, natAbs_mul->bb
open List renaming mem_of_getElem?->be, take_length->bf, drop_eq_getElem_cons->bi, map_cons->bl, take_of_length_le->bo, getElem?_eq_getElem->bv, mem_iff_getElem->bw, getElem?_take->b0, any_eq_true->b1, length_eq_zero_iff->b2, map_nil->b3, findIdx?_eq_some_iff_getElem->b4, take_add_one->b5, length_take->cb, zip_cons_cons->cc, zip_nil_left->cd, range->ce, getD_eq_getElem?_getD->ck, mem_map->cx, findIdx?_eq_none_iff->cy, find?_eq_none->c6, getElem_mem->c9, mem_range->da, getElem_take->db, range_succ->dd, length_map->dg, mem_cons_of_mem->dl, map_take->dp, mem_cons_self->dq, length_range->dz, getElem?_map->ea, foldl_append->eb, length_cons->ec, cons_append->ed, map_append->ee, getElem?_eq_none->ei, getElem?_range->ej, mem_filter->eo, find?_cons->eq
open Nat renaming eq_of_beq_eq_true->er, lt_trichotomy->ew, lt_of_lt_of_le->ey, lt_trans->eM, beq->eP
open Option.some renaming injEq->e7
open Rat renaming mul_eq_zero->e8, intCast_sub->e9, div_def->fb, intCast_mul->fd, mul_nonneg->fl, mul_assoc->fm, zero_mul->fv, neg_zero->fw
namespace Go.ag
open Go.ag renaming c1->c1_, c2->c2_, c3->c3_, c4->c4_, e1->e1_, e2->e2_, e3->e3_
open Go.Proofs
structure fg where
 x:Int
 y:Int
 deriving DecidableEq
structure dT where
 name:List Nat
 cR:Int
 a:List Nat
 b:List Nat
structure de where
 name:List Nat
 pt:bM
structure aj where
 cs:List fg
 aD:Int
 aV:List dT
 an:List de
def cX(p:fg):PV:=.st 201 [.int .i64 p.x,.int .i64 p.y]
def fV(p:dT):PV:=.st 82 [.str p.name,.int .i64 p.cR,.str p.a,.str p.b]
def bE(p:de):PV:=.st 76 [.str p.name,cW p.pt]
def cw(t:aj):PV:=.st 25 [.seq (t.cs.map cX),.int .i64 t.aD,.seq (t.aV.map fV),.seq (t.an.map bE)]
@[simp] theorem aVa(p:fg):aK (cX p)=.agg 201:=rfl
@[simp] theorem aTA(p:fg):cm (cX p)=[.int .i64 p.x,.int .i64 p.y]:=rfl
@[simp] theorem aU7(p:dT):aK (fV p)=.agg 82:=rfl
@[simp] theorem aTx(p:dT):cm (fV p)=[.str p.name,.int .i64 p.cR,.str p.a,.str p.b]:=rfl
@[simp] theorem aVe(p:de):aK (bE p)=.agg 76:=rfl
@[simp] theorem aTE(p:de):cm (bE p)=[.str p.name,cW p.pt]:=rfl
@[simp] theorem aVj(t:aj):aK (cw t)=.agg 25:=rfl
@[simp] theorem aTI(t:aj):cm (cw t)=[.seq (t.cs.map cX),.int .i64 t.aD,.seq (t.aV.map fV),.seq (t.an.map bE)]:=rfl
@[simp] theorem aSG:prog.cellsOf 201=2:=k_
@[simp] theorem aSF:prog.cellsOf 82=4:=k_
@[simp] theorem aSI:prog.cellsOf 76=3:=k_
def gT(p:fg):Bool:=decide (10000<max p.x p.y)||decide (min p.x p.y< -10000)
theorem aEn(p:fg):aq prog 208 [cX p] (.bool (gT p)):=by
 obtain⟨x,y⟩:=p;refine gA_ nf func208 mix ?_;have e1:max x y=if x<y then y else x:=by split<;>omega
 have e2:min x y=if y<x then y else x:=by split<;>omega
 rw[gT,e1,e2]
 by_cases h:(if x<y then y else x)<=10000
 ·have a:¬10000<(if x<y then y else x):=by omega
  by_cases b:(if y<x then y else x)< -10000
  ·simp[f208,aa,h,a,b]
  ·simp[f208,aa,h,a,b]
 ·have a:10000<(if x<y then y else x):=by omega
  simp[f208,aa,h,a]
def eX(p:fg):Prop:=-10000<=p.x/\p.x<=10000/\-10000<=p.y/\p.y<=10000
theorem JJ{p:fg}(h:gT p=false):eX p:=by
 simp only[gT,Bool.or_eq_false_iff,decide_eq_false_iff_not]at h;unfold eX;omega
def mr(a b c:fg):Int:=(b.x-a.x)*(c.y-a.y)-(b.y-a.y)*(c.x-a.x)
theorem Bq{a b:Int}{A B:Int}(c:-A<=a)(d:a<=A)(e:-B<=b)(f:b<=B):-(A*B)<=a*b/\a*b<=A*B:=by
 have k1:a.natAbs<=A.natAbs:=o_
 have k2:b.natAbs<=B.natAbs:=o_
 have k3:=Nat.mul_le_mul k1 k2;rw[<-bb,<-bb]at k3;have k4:0<=A*B:=Int.mul_nonneg o_ o_;omega
theorem V4(a b c:fg)(i:eX a)(j:eX b)(hc:eX c):aq prog 270 [cX a,cX b,cX c] (.int .i64 (mr a b c)):=by
 obtain⟨d,e⟩:=a;obtain⟨bx,f⟩:=b;obtain⟨g,h⟩:=c;simp only[eX]at i j hc;have w1:a6.wrap (bx-d)=bx-d:=aU _ o_ o_;have k:a6.wrap (h-e)=h-e:=aU _ o_ o_;have l:a6.wrap (f-e)=f-e:=aU _ o_ o_
 have m:a6.wrap (g-d)=g-d:=aU _ o_ o_;have q:=Bq (a:=bx-d) (b:=h-e) (A:=20000) (B:=20000) o_ o_ o_ o_;have r:=Bq (a:=f-e) (b:=g-d) (A:=20000) (B:=20000) o_ o_ o_ o_;have n:a6.wrap ((bx-d)*(h-e))=(bx-d)*(h-e):=aU _ o_ o_;have o:a6.wrap ((f-e)*(g-d))=(f-e)*(g-d):=aU _ o_ o_;have p:a6.wrap ((bx-d)*(h-e)-(f-e)*(g-d))=(bx-d)*(h-e)-(f-e)*(g-d):=aU _ o_ o_;refine gA_ nf func270 mix ?_;rw[mr];simp[f270,aa,w1,k,l,m,n,o,p]
def aj.nx(t:aj)(i:Nat):Nat:=(i+1)% t.cs.length
def aj.at(t:aj)(i:Nat):fg:=t.cs.getD i ⟨0,0⟩
theorem aj.get{t:aj}{i:Nat}(h:i<t.cs.length):t.cs[i]?=some (t.at i):=by
 rw[aj.at,ck,bv h];rfl
@[simp] theorem aj.aQ{t:aj}{i:Nat}(h:i<t.cs.length):t.cs[i]'h=t.at i:=by
 rw[aj.at,ck,bv h];rfl
theorem aj.lA{t:aj}(h:0<t.cs.length)(i:Nat):t.nx i<t.cs.length:=Nat.mod_lt _ h
theorem E7(t:aj)(i:Nat)(h:i<t.cs.length)(d:t.cs.length<=1000000):aq prog 175 [cw t,.int .i64 i] (cX (t.at (t.nx i))):=by
 have w1:a6.wrap ((i:Int)+1)=(i:Int)+1:=aU _ o_ o_;have hn:=t.lA o_ i;have e1:((i:Int)+1).tmod (t.cs.length:Int)=((t.nx i:Nat):Int):=by
  rw[aj.nx,a9,a8 o_];rfl
 have b:=aj.get hn;have c:¬t.cs.length=0:=o_
 have a:¬t.cs=[]:=by intro e;rw[e]at h;simp at h
 refine gA_ nf func175 mix ?_;simp[f175,aa,w1,e1,b,c,a]
def aj.qD(t:aj)(i:Nat)(m:Nat):Prop:=∀k,k<m->k≠i->k≠t.nx i->0<mr (t.at i) (t.at (t.nx i)) (t.at k)
instance(t:aj)(i m:Nat):Decidable (t.qD i m):=inferInstanceAs (Decidable (∀k,k<m->_))
def aj.gh(t:aj):Bool:=decide (∀i,i<t.cs.length->t.qD i t.cs.length)
theorem aj.fc{t:aj}(h:∀p∈t.cs,eX p){i:Nat}(hi:i<t.cs.length):eX (t.at i):=h _ (be (aj.get hi))
theorem We(t:aj)(w:t.cs.length<=1000000)(hn:∀p∈t.cs,eX p):aq prog 209 [cw t] (.bool t.gh):=by
 refine gA_ nf func209 mix ?_;generalize a:t.cs.length=n at*;simp[f209,aa,a];refine lp (α:=Nat) (fun i=>⟨[(4,.p (.int .i64 i)),(3,.p (.int .i64 n)),(1,.ptr 0 [])],[.box false (.p (cw t))]⟩) (fun i=>i<=n/\∀j,j<i->t.qD j n) (fun i=>n-i) 0 s_ ?_;rintro i ⟨u,o⟩
 by_cases hi:i<n
 ·simp[hi];refine lp (α:=Nat) (fun k=>⟨[(5,.p (.int .i64 k)),(4,.p (.int .i64 i)),(3,.p (.int .i64 n)),(1,.ptr 0 [])],[.box false (.p (cw t))]⟩) (fun k=>k<=n/\t.qD i k) (fun k=>n-k) 0 (by simp[aj.qD]) ?_;rintro k ⟨g1,g2⟩
  by_cases hk:k<n
  ·have q:=E7 t i o_ o_;have x:t.nx i<n:=by rw[<-a];exact t.lA o_ i
   have d:=cE (i:=i) o_;have e:=cE (i:=k) o_;have e1:((i:Int)+1).tmod (n:Int)=((t.nx i:Nat):Int):=by
    rw[aj.nx,a,a9,a8 o_];rfl
   have r:=V4 (t.at i) (t.at (t.nx i)) (t.at k) (aj.fc hn o_) (aj.fc hn o_) (aj.fc hn o_);have f:=aj.get (t:=t) (i:=i) o_;have gk:=aj.get (t:=t) (i:=k) o_;have m:¬n=0:=o_
   by_cases c1:k=i
   ·subst c1;simp[hk,e];exact rd (k+1) ⟨hk,fun j g=>by
     by_cases l:j=k
     ·intro h;exact(h l).elim
     ·exact g2 j o_⟩
   ·have b:¬(k:Int)=(i:Int):=by omega
    by_cases c2:k=t.nx i
    ·rw[<-c2]at e1;simp[hk,b,d,e,e1,m];exact rd (k+1) ⟨hk,fun j g=>by
      by_cases l:j=k
      ·intro _ h;exact(h o_).elim
      ·exact g2 j o_⟩
    ·have c:¬(k:Int)=((t.nx i:Nat):Int):=by omega
     by_cases c3:mr (t.at i) (t.at (t.nx i)) (t.at k)<=0
     ·simp[hk,b,c,d,e,e1,m,f,gk,a,aa];refine e2_ q ?_;simp[hk,a,f,gk,b,c,aa];refine e3_ r ?_;simp[c3,b,c];have:t.gh=false:=by
       rw[aj.gh,decide_eq_false_iff_not];intro h;have:=h i o_ k o_ c1 c2;omega
      rw[this]
     ·simp[hk,b,c,d,e,e1,m,f,gk,a,aa];refine e2_ q ?_;simp[hk,a,f,gk,b,c,aa];refine e3_ r ?_;simp[c3,e,b,c];exact rd (k+1) ⟨hk,fun j g=>by
       by_cases l:j=k
       ·subst l;intro _ _;omega
       ·exact g2 j o_⟩
  ·have:k=n:=by omega
   subst this;have d:=cE (i:=i) o_;simp[d];exact rd (i+1) ⟨hi,fun j g=>by
    by_cases s:j=i
    ·subst s;exact g2
    ·exact o j o_⟩
 ·have v:i=n:=by omega
  have:t.gh=true:=by
   rw[aj.gh,decide_eq_true_eq,a];intro j g;exact o j o_
  simp[hi,this]
def dQ(p:fg):V2:=⟨(p.x:Rat),(p.y:Rat)⟩
theorem ic{p:fg}(h:eX p):bc 14 (dQ p):=by
 simp only[eX]at h;exact⟨pg o_ d_,pg o_ d_⟩
theorem Bs(p:fg)(h:eX p):aq prog 174 [cX p] (eV (dQ p)):=by
 have c:=h;simp only[eX]at h;have a:=DC p.x o_ o_;have b:=DC p.y o_ o_;refine gA_ nf func174 mix ?_;rw[dQ,Dj];simp(maxDischargeDepth:=99) [f174,aa,e1 a,e1 b]
def aj.bI(t:aj)(i:Nat):V2:=(dQ (t.at (t.nx i))).sub (dQ (t.at i))
def aj.side(t:aj)(i:Nat)(v:V2):Int:=bP ((t.bI i).bg (v.sub (dQ (t.at i))))
theorem aj.okW{t:aj}(h:∀p∈t.cs,eX p){i:Nat}(hi:i<t.cs.length):bc 29 (t.bI i):=gD (ic (aj.fc h (t.lA o_ i))) (ic (aj.fc h hi))
theorem aD8(t:aj)(i:Nat)(v:V2)(d:t.cs.length<=1000000)(hn:∀p∈t.cs,eX p)(hi:i<t.cs.length)(c:bc 3000 v):aq prog 272 [cw t,.int .i64 i,eV v] (.int .i64 (t.side i v)):=by
 have a:=aj.get hi;have b:=ic (aj.fc hn hi);have m:=ic (aj.fc hn (t.lA o_ i));have e:=Bs (t.at i) (aj.fc hn hi);have f:=E7 t i hi d;have g:=Bs (t.at (t.nx i)) (aj.fc hn (t.lA o_ i));have h:=po (dQ (t.at (t.nx i))) (dQ (t.at i)) (m.mono d_) (b.mono d_);have j:=po v (dQ (t.at i)) (c.mono d_) (b.mono d_);have k:=Bn (t.bI i) (v.sub (dQ (t.at i))) ((aj.okW hn hi).mono d_) ((gD c b).mono d_);have l:=nE ((t.bI i).bg (v.sub (dQ (t.at i)))) ((nQ (aj.okW hn hi) (gD c b)).mono d_);refine gA_ nf func272 mix ?_;rw[aj.side];simp[f272,aa,a,hi];refine e1 e ?_;simp[aa,a,hi];refine e2 f ?_;simp[aa,a,hi];refine e1 g ?_;simp[aa,a,hi];refine⟨r_,?_⟩;refine e2 h ?_;simp[aa,a,hi];refine e2 j ?_;simp[aa,a,hi];refine e2 k ?_;simp[aa,a,hi];refine e1 l ?_;simp[aa,a,hi]
def aj.tP(t:aj)(v:V2)(m:Nat):Int:=(ce m).foldl (fun o i=>min o (t.side i v)) 1
theorem aj.JF(t:aj)(v:V2)(m:Nat):t.tP v (m+1)=min (t.tP v m) (t.side m v):=by
 rw[aj.tP,dd,eb];rfl
def aj.on(t:aj)(v:V2):Int:=t.tP v t.cs.length
theorem J1(a b:Int):min a b=if b<a then b else a:=by split<;>omega
theorem Tw(t:aj)(v:V2)(b:t.cs.length<=1000000)(hn:∀p∈t.cs,eX p)(c:bc 3000 v):aq prog 213 [cw t,eV v] (.int .i64 (t.on v)):=by
 refine gA_ nf func213 mix ?_;simp[f213,aa];refine lp (α:=Nat) (fun i=>⟨[(6,.p (.int .i64 i)),(5,.p (.int .i64 (t.tP v i))),(3,.ptr 1 []),(2,.ptr 0 [])],[.box false (.p (cw t)),.box false (.p (eV v))]⟩) (fun i=>i<=t.cs.length) (fun i=>t.cs.length-i) 0 s_ ?_ (hh:=by simp[aj.tP]) (he:=by simp[aj.tP]);rintro i e
 by_cases hi:i<t.cs.length
 ·have a:=aD8 t i v b hn hi c;have d:=cE (i:=i) o_;have hs:=aj.JF t v i;rw[J1]at hs;simp[hi,aa];refine c3 a ?_;simp[d,<-hs];exact rd (i+1) hi
 ·have:i=t.cs.length:=by omega
  subst this;simp[aj.on,aa]
def isLet(c:Int):Bool:=(decide (97<=c)&&decide (c<=122))||(decide (65<=c)&&decide (c<=90))
def kN(c:Int):Bool:=decide (48<=c)&&decide (c<=57)
def pE:Nat->List Nat->Bool
 |_,[]=>true
 |i,c::r=>(isLet c||(decide (i≠0)&&(kN c||decide ((c:Int)=95))))&&pE (i+1) r
def isName(s:List Nat):Bool:=decide (1<=s.length)&&decide (s.length<=24)&&pE 0 s
theorem cls(c:Int):(97<=c/\c<=122)\/(¬97<=c/\65<=c/\c<=90)\/(¬97<=c/\¬65<=c/\¬48<=c/\¬c=95)\/(¬97<=c/\¬65<=c/\48<=c/\c<=57/\¬c=95)\/(¬97<=c/\¬65<=c/\48<=c/\¬c<=57/\¬c=95)\/
 (¬97<=c/\65<=c/\¬c<=90/\48<=c/\¬c<=57/\c=95)\/(¬97<=c/\65<=c/\¬c<=90/\48<=c/\¬c<=57/\¬c=95)\/(97<=c/\¬c<=122/\65<=c/\¬c<=90/\48<=c/\¬c<=57/\¬c=95):=o_
theorem JE(c:Int):aq prog 262 [.int .i32 c] (.bool (isLet c)):=by
 refine gA_ nf func262 mix ?_;rcases cls c with⟨a,b⟩|⟨a,b,d⟩|⟨a,b,d,e⟩|⟨a,b,d,e,f⟩|⟨a,b,d,e,f⟩|⟨a,b,d,e,f,g⟩|⟨a,b,d,e,f,g⟩|⟨a,b,d,e,f,g,h⟩<;>simp[f262,isLet, *]
theorem Jy{s:List Nat}{i:Nat}(hi:i<s.length):pE i (s.drop i)=((isLet s[i]||(decide (i≠0)&&(kN s[i]||decide ((s[i]:Int)=95))))&&pE (i+1) (s.drop (i+1))):=by
 rw[bi hi,pE]
theorem EK(s:List Nat)(h:s.length<=1048576):aq prog 211 [.str s] (.bool (isName s)):=by
 refine gA_ nf func211 mix ?_;rcases EM s.length 1 with⟨g1,m⟩|⟨g1,m⟩
 ·have:s.length=0:=by omega
  simp[f211,g1,isName,this]
 rcases EM 24 s.length with⟨g2,n⟩|⟨g2,n⟩
 ·have:¬s.length<=24:=by omega
  simp[f211,g1,g2,isName,this]
 simp[f211,g1,g2];have e0:isName s=pE 0 s:=by simp[isName];omega
 refine lp (α:=Nat) (fun i=>⟨[(3,.p (.int .i64 i)),(0,.p (.str s))],[]⟩) (fun i=>i<=s.length/\isName s=pE i (s.drop i)) (fun i=>s.length-i) 0 (by simp[e0]) ?_;rintro i ⟨k1,k2⟩
 by_cases hi:i<s.length
 ·rw[Jy hi]at k2;have k:=cE (i:=i) o_;generalize hc:(s[i]:Int)=c at*
  by_cases j:i=0
  ·subst j;have l:a6.wrap 1=1:=aU 1 o_ o_;rcases cls c with⟨a,b⟩|⟨a,b,d⟩|⟨a,b,d,e⟩|⟨a,b,d,e,f⟩|⟨a,b,d,e,f⟩|⟨a,b,d,e,f,g⟩|⟨a,b,d,e,f,g⟩|⟨a,b,d,e,f,g,h⟩
   ·simp[isLet,a,b]at k2;simp[hi,hc,a,b,l];exact rd 1 ⟨hi,by simpa using k2⟩
   ·simp[isLet,a,b,d]at k2;simp[hi,hc,a,b,d,l];exact rd 1 ⟨hi,by simpa using k2⟩
   all_goals
    simp[isLet, *]at k2;simp[hi,hc, *]
  ·rcases cls c with⟨a,b⟩|⟨a,b,d⟩|⟨a,b,d,e⟩|⟨a,b,d,e,f⟩|⟨a,b,d,e,f⟩|⟨a,b,d,e,f,g⟩|⟨a,b,d,e,f,g⟩|⟨a,b,d,e,f,g,h⟩
   ·simp[isLet,a,b]at k2;simp[hi,hc,a,b,k];exact rd (i+1) ⟨hi,k2⟩
   ·simp[isLet,a,b,d]at k2;simp[hi,hc,a,b,d,k];exact rd (i+1) ⟨hi,k2⟩
   ·simp[isLet,kN,a,b,d,e]at k2;simp[hi,hc,j,a,b,d,e,k2]
   ·simp[isLet,kN,a,b,d,e,j]at k2;simp[hi,hc,j,a,b,d,e,k];exact rd (i+1) ⟨hi,k2⟩
   ·simp[isLet,kN,a,b,d,e,f]at k2;simp[hi,hc,j,a,b,d,e,f,k2]
   ·subst g;simp[isLet,kN,j]at k2;simp[hi,hc,j,k];exact rd (i+1) ⟨hi,k2⟩
   ·simp[isLet,kN,a,b,d,e,f,g]at k2;simp[hi,hc,j,a,b,d,e,f,g,k2]
   ·simp[isLet,kN,a,b,d,e,f,g,h]at k2;simp[hi,hc,j,a,b,d,e,f,g,h,k2]
 ·have:i=s.length:=by omega
  subst this;simp[pE]at k2;simp[k2]
theorem Jw(s:List Nat):(iH s).size=s.length:=by
 show(s.map UInt8.ofNat).toArray.size=_;simp
theorem JR(s:List Nat)(b:∀c∈s,c<256)(i:Nat)(h:i<s.length)(a:i<(iH s).size):((iH s)[i]'a).toNat=s[i]:=by
 have e:(iH s)[i]'a=UInt8.ofNat s[i]:=by
  have:(iH s)[i]'a=(s.map UInt8.ofNat).toArray[i]'(by simpa using h):=rfl;rw[this];simp
 rw[e];have:=b s[i] (c9 h);simp;omega
theorem aFU{s:List Nat}(d:∀c∈s,c<256){i:Nat}(h:i<s.length)(b:s[i]<128):a7 (iH s) i=(s[i],1):=by
 have a:i<(iH s).size:=by rw[Jw];exact h
 have e:=JR s d i h a;rw[decode_ascii (iH s) i a (by rw[e];exact b),e]
theorem aFT{s:List Nat}(b:∀c∈s,c<256){i:Nat}(h:i<s.length)(d:¬s[i]<128):128<=(a7 (iH s) i).1/\1<=(a7 (iH s) i).2:=by
 have a:i<(iH s).size:=by rw[Jw];exact h
 have e:=JR s b i h a;exact decode_high (iH s) i a (by rw[e];omega)
theorem EU(s:List Nat)(h:s.length<=1048576):aq prog 202 [.str s] (.bool (isName s)):=by
 refine Wi fun m=>?_;have m:∀c∈s,c<256:=by simpa[oY,fj]using m
 refine gA_ nf func202 mix ?_;simp[f202];refine lp (α:=Nat) (fun i=>⟨[(6,.ptr 0 []),(0,.p (.str s))],[.dZ s i]⟩) (fun i=>i<=s.length/\pE 0 s=pE i (s.drop i)) (fun i=>s.length-i) 0 s_ ?_;rintro i ⟨k1,k2⟩
 by_cases hi:i<s.length
 ·rw[Jy hi]at k2
  by_cases o:s[i]<128
  ·have n:=aFU m hi o;simp[hi,n];refine c1 (JE _) ?_;generalize hc:(s[i]:Int)=c at*
   by_cases j:i=0
   ·rcases cls c with⟨a,b⟩|⟨a,b,d⟩|⟨a,b,d,e⟩|⟨a,b,d,e,f⟩|⟨a,b,d,e,f⟩|⟨a,b,d,e,f,g⟩|⟨a,b,d,e,f,g⟩|⟨a,b,d,e,f,g,h⟩
    ·simp[isLet,a,b]at k2;simp[isLet,a,b];exact rd (i+1) ⟨hi,k2⟩
    ·simp[isLet,a,b,d]at k2;simp[isLet,a,b,d];exact rd (i+1) ⟨hi,k2⟩
    all_goals
     simp[isLet,isName, *]at k2;simp[isLet,isName, *]
   ·rcases cls c with⟨a,b⟩|⟨a,b,d⟩|⟨a,b,d,e⟩|⟨a,b,d,e,f⟩|⟨a,b,d,e,f⟩|⟨a,b,d,e,f,g⟩|⟨a,b,d,e,f,g⟩|⟨a,b,d,e,f,g,h⟩
    ·simp[isLet,a,b]at k2;simp[isLet,a,b];exact rd (i+1) ⟨hi,k2⟩
    ·simp[isLet,a,b,d]at k2;simp[isLet,a,b,d];exact rd (i+1) ⟨hi,k2⟩
    ·simp[isLet,kN,a,b,d,e]at k2;have k:c<48:=by omega
     simp[isLet,isName,a,b,e,j,k,k2]
    ·simp[isLet,kN,a,b,d,e,f,j]at k2;have k:¬c<48:=by omega
     have e2:¬57<c:=o_
     simp[isLet,a,b,k,e2,f,j];exact rd (i+1) ⟨hi,k2⟩
    ·simp[isLet,kN,a,b,d,e,f]at k2;have k:¬c<48:=by omega
     have e2:57<c:=o_
     simp[isLet,isName,a,b,k,e2,f,j,k2]
    ·subst g;simp[isLet,kN,j]at k2;simp[isLet,j];exact rd (i+1) ⟨hi,k2⟩
    ·simp[isLet,kN,a,b,d,e,f,g]at k2;have k:¬c<48:=by omega
     have e2:57<c:=o_
     simp[isLet,isName,a,b,d,k,e2,g,j,k2]
    ·simp[isLet,kN,a,b,d,e,f,g,h]at k2;have k:¬c<48:=by omega
     have e2:57<c:=o_
     simp[isLet,isName,a,b,d,e,k,e2,h,j,k2]
  ·obtain⟨n,_⟩:=aFT m hi o;have z:isLet (s[i]:Int)=false:=by simp[isLet];omega
   have y:kN (s[i]:Int)=false:=by simp[kN];omega
   have x:¬(s[i]:Int)=95:=o_
   simp[z,y,x]at k2;rcases q:a7 (iH s) i with⟨c,d⟩
   rw[q]at n;have t:isLet (c:Int)=false:=by simp[isLet];omega
   have u:¬(c:Int)=95:=o_
   have v:¬(c:Int)<48:=o_
   have w:57<(c:Int):=o_
   simp[hi,q];refine c1 (JE _) ?_
   by_cases j:i=0
   ·simp[t,j,isName,k2]
   ·simp[t,j,u,v,w,isName,k2]
 ·have:i=s.length:=by omega
  subst this;simp[pE]at k2;cases hs:s with
  |nil=>simp[isName]
  |cons a r=>
   rw[hs]at k2;rcases EM 24 s.length with⟨g,l⟩|⟨g,l⟩
   ·rw[hs]at g l;have:¬(r.length+1)<=24:=by simp at g;omega
    simp at l;simp[isName,k2,this];omega
   ·rw[hs]at g l;have:(r.length+1)<=24:=by simp at l;omega
    simp at l;simp[isName,k2,this];omega
theorem ie{s:List Nat}(h:cz s=0):aJ 2000 (aS s):=by
 obtain⟨b,c⟩:=Ke h;have a:(10:Nat)^mD<=2^2000:=by decide+kernel
 exact⟨ey b a,ey c a⟩
theorem Bg:aR 1=[49]:=Jr (n:=1) d_
def fQ(q:Rat):Int:=if bP q<0\/0<c8 q 1 then 3 else 0
def Bt(s:List Nat):Int:=if cz s=0 then fQ (aS s)else cz s
theorem JH(s:List Nat)(hs:kG s):aq prog 271 [.str s] (.int .i64 (Bt s)):=by
 have d:=AH s hs;refine gA_ nf func271 mix ?_;rw[Bt]
 by_cases c:cz s=0
 ·have o:=ie c;have f:=nE (aS s) (o.mono d_);have g:=ue (aS s) 1 (o.mono d_) (by exact⟨by decide+kernel,by decide+kernel⟩);rw[(iQ c).1]at f g;rw[Bg]at g;rw[if_pos c,fQ];rw[c]at d;generalize bP (aS s)=x,c8 (aS s) 1=y at*
  by_cases a:x<0
  ·simp(maxDischargeDepth:=99) [f271,aa,a,c1 d,c1 f]
  ·by_cases b:0<y
   ·simp(maxDischargeDepth:=99) [f271,aa,a,b,c1 d,c1 f,c2 g]
   ·simp(maxDischargeDepth:=99) [f271,aa,a,b,c1 d,c1 f,c2 g]
 ·rw[if_neg c];generalize cz s=e at*;simp[f271,aa,c,c1 d]
def iY(o p:dT):Bool:=decide (o.cR=p.cR)&&(decide (c8 (aS o.a) (aS p.b)<=0)&&decide (c8 (aS p.a) (aS o.b)<=0))
def ig(n:Nat)(c:List dT)(p:dT):Int:=
 if isName p.name=false then 8
 else if c.any (fun o=>decide (o.name=p.name))=true then 9
 else if p.cR<0\/(n:Int)<=p.cR then 10
 else if cz p.a≠0 then cz p.a
 else if cz p.b≠0 then cz p.b
 else if max (fQ (aS p.a)) (fQ (aS p.b))≠0 then max (fQ (aS p.a)) (fQ (aS p.b))
 else if 0<c8 (aS p.a) (aS p.b)then 11
 else if c.any (fun o=>iY o p)=true then 17 else 0
def wx(p:dT):Prop:=kG p.name/\kG p.a/\kG p.b
def aj.pk(t:aj)(i:Nat):dT:=t.aV.getD i ⟨[],0,[],[]⟩
@[simp] theorem aj.I9{t:aj}{i:Nat}(h:i<t.aV.length):t.aV[i]'h=t.pk i:=by
 rw[aj.pk,ck,bv h];rfl
theorem aj.kI{t:aj}{i:Nat}(h:i<t.aV.length):t.aV[i]?=some (t.pk i):=by rw[bv h,aj.I9]
theorem yT{α:Type}{f:α->Bool}{l:List α}{i:Nat}{x:α}(h:l[i]?=some x):(l.take (i+1)).any f=((l.take i).any f||f x):=by
 rw[b5,h];simp
theorem VE(t:aj)(i:Nat)(hi:i<t.aV.length)(U:t.aV.length<=1000000)(hc:t.cs.length<=1000000)(P:∀p∈t.aV,wx p)(Q:∀j,j<i->cz (t.pk j).a=0/\cz (t.pk j).b=0):
 aq prog 210 [cw t,.int .i64 i] (.int .i64 (ig t.cs.length (t.aV.take i) (t.pk i))):=by
 have v:=aj.kI hi;obtain⟨R,D,E⟩:=P _ (be v);have m:=EK (t.pk i).name R.1;have N:=AH (t.pk i).a D;have O:=AH (t.pk i).b E;refine gA_ nf func210 mix ?_;rw[ig];cases hn:isName (t.pk i).name
 ·rw[hn]at m;simp[f210,aa,v,hi,c1 m]
 rw[hn]at m;rw[if_neg d_];simp[f210,aa,v,hi];refine c1 m ?_;simp[aa];refine lp (α:=Nat) (fun j=>⟨[(6,.p (.int .i64 j)),(5,.ptr 1 []),(2,.ptr 0 []),(1,.p (.int .i64 i))],[.box false (.p (cw t)),.box false (.p (fV (t.pk i)))]⟩) (fun j=>j<=i/\(t.aV.take j).any (fun o=>decide (o.name=(t.pk i).name))=false) (fun j=>i-j) 0 s_ ?_;rintro j ⟨V,C⟩
 by_cases q:j<i
 ·have z:j<t.aV.length:=by omega
  have g:=aj.kI z;have f:=cE (i:=j) o_
  by_cases n:(t.pk j).name=(t.pk i).name
  ·have:(t.aV.take i).any (fun o=>decide (o.name=(t.pk i).name))=true:=by
    rw[b1];exact⟨t.pk j,be (i:=j) (by rw[b0,if_pos q];exact g),by simp[n]⟩
   rw[if_pos this];simp[q,z,g,n,aa]
  ·simp[q,z,g,n,f,aa];exact rd (j+1) ⟨q,by rw[yT g,C];simp[n]⟩
 have:j=i:=o_
 subst this;rw[C,if_neg d_];have u:((t.pk j).cR<0\/(t.cs.length:Int)<=(t.pk j).cR)\/(¬(t.pk j).cR<0/\¬(t.cs.length:Int)<=(t.pk j).cR):=o_
 rcases u with u|⟨K,L⟩
 ·rw[if_pos u]
  by_cases e1:(t.pk j).cR<0
  ·simp[e1,aa]
  ·have e2:(t.cs.length:Int)<=(t.pk j).cR:=by omega
   simp[e1,e2,aa]
 rw[if_neg o_];have J:¬j<j:=o_
 simp[K,L,J,aa];refine c1 N ?_
 by_cases c:cz (t.pk j).a=0
 case neg=>
  rw[if_pos c];simp[c,aa]
 rw[if_neg (by simp[c])];simp[c,aa];refine c1 O ?_
 by_cases d:cz (t.pk j).b=0
 case neg=>
  rw[if_pos d];simp[d,aa]
 rw[if_neg (by simp[d])];simp[d,aa];have F:=ie c;have G:=ie d;have x:=JH (t.pk j).a D;have y:=JH (t.pk j).b E;rw[Bt,if_pos c]at x;rw[Bt,if_pos d]at y;have A:=ue (aS (t.pk j).a) (aS (t.pk j).b) (F.mono d_) (G.mono d_);rw[(iQ c).1,(iQ d).1]at A;refine e1 x ?_;simp[aa];refine e1 y ?_;have em:max (fQ (aS (t.pk j).a)) (fQ (aS (t.pk j).b))=if fQ (aS (t.pk j).a)<fQ (aS (t.pk j).b)then fQ (aS (t.pk j).b)else fQ (aS (t.pk j).a):=by split<;>omega
 simp[aa,<-em];clear em x y;generalize max (fQ (aS (t.pk j).a)) (fQ (aS (t.pk j).b))=M at*
 by_cases hm:M=0
 case neg=>
  simp[hm,aa]
 subst hm;simp[aa];refine c2 A ?_
 by_cases s:0<c8 (aS (t.pk j).a) (aS (t.pk j).b)
 ·rw[if_pos s];simp[s,aa]
 rw[if_neg s];simp[s,aa];refine lp (α:=Nat) (fun k=>⟨[(8,.p (.int .i64 k)),(5,.ptr 1 []),(2,.ptr 0 []),(1,.p (.int .i64 j))],[.box false (.p (cw t)),.box false (.p (fV (t.pk j)))]⟩) (fun k=>k<=j/\(t.aV.take k).any (fun o=>iY o (t.pk j))=false) (fun k=>j-k) 0 s_ ?_;rintro k ⟨k1,k2⟩
 by_cases hk:k<j
 ·have e:k<t.aV.length:=by omega
  have gk:=aj.kI e;have f:=cE (i:=k) o_;obtain⟨H,I⟩:=Q k hk;have S:=ie H;have T:=ie I;have l:=ue (aS (t.pk k).a) (aS (t.pk j).b) (S.mono d_) (G.mono d_);have w:=ue (aS (t.pk j).a) (aS (t.pk k).b) (F.mono d_) (T.mono d_);rw[(iQ H).1,(iQ d).1]at l;rw[(iQ c).1,(iQ I).1]at w;have B:iY (t.pk k) (t.pk j)=true->(t.aV.take j).any (fun o=>iY o (t.pk j))=true:=fun h=>by
   rw[b1];exact⟨t.pk k,be (i:=k) (by rw[b0,if_pos hk];exact gk),h⟩
  have r:iY (t.pk k) (t.pk j)=false->(t.aV.take (k+1)).any (fun o=>iY o (t.pk j))=false:=fun h=>by
   rw[yT gk,k2,h];rfl
  rw[iY]at B r
  by_cases e1:(t.pk k).cR=(t.pk j).cR
  ·by_cases e2:c8 (aS (t.pk k).a) (aS (t.pk j).b)<=0
   ·by_cases e3:c8 (aS (t.pk j).a) (aS (t.pk k).b)<=0
    ·rw[if_pos (B (by simp[e1,e2,e3]))];simp[hk,e,gk,e1,aa,e2,e3,c2 l,c2 w]
    ·simp[hk,e,gk,e1,aa];refine c2 l ?_;simp[e1,e2,aa];refine c2 w ?_;simp[e1,e2,e3,f,aa];exact rd (k+1) ⟨hk,r (by simp[e3])⟩
   ·simp[hk,e,gk,e1,aa];refine c2 l ?_;simp[e1,e2,f,aa];exact rd (k+1) ⟨hk,r (by simp[e2])⟩
  ·simp[hk,e,gk,e1,f,aa];exact rd (k+1) ⟨hk,r (by simp[e1])⟩
 ·have:k=j:=by omega
  subst this;rw[k2,if_neg d_];simp[aa]
structure NV where
 x:NF
 y:NF
noncomputable def cV(v:NV):PV:=.st 141 [eF v.x,eF v.y]
@[simp] theorem aU5(v:NV):aK (cV v)=.agg 141:=rfl
@[simp] theorem aTv(v:NV):cm (cV v)=[eF v.x,eF v.y]:=rfl
@[simp] theorem aSE:prog.cellsOf 141=8:=k_
@[simp] theorem aSD:prog.cellsOf 159=12:=k_
theorem tj(x y:NF):cV ⟨x,y⟩=.st 141 [eF x,eF y]:=rfl
def NV.q(v:NV):V2:=⟨v.x.q,v.y.q⟩
def NV.add(v w:NV):NV:=⟨v.x.add w.x,v.y.add w.y⟩
def NV.sub(v w:NV):NV:=⟨v.x.sub w.x,v.y.sub w.y⟩
def NV.times(v:NV)(k:NF):NV:=⟨v.x.mul k,v.y.mul k⟩
def NV.dot(v w:NV):NF:=(v.x.mul w.x).add (v.y.mul w.y)
def NV.bg(v w:NV):NF:=(v.x.mul w.y).sub (v.y.mul w.x)
theorem NV.eH(v w:NV):(v.sub w).q=v.q.sub w.q:=by simp only[NV.sub,NV.q,V2.sub,NF.eH]
theorem NV.Xc(v w:NV):(v.add w).q=v.q.add w.q:=rfl
theorem NV.EV(v:NV)(k:NF):(v.times k).q=v.q.mul k.q:=rfl
theorem NV.jq(v w:NV):(v.dot w).q=v.q.dot w.q:=rfl
theorem NV.mq(v w:NV):(v.bg w).q=v.q.bg w.q:=NF.eH _ _
theorem vR(v w:NV)(a:bc kQ v.q)(b:bc kQ w.q):aq prog 118 [cV v,cV w] (cV (v.sub w)):=by
 have c:=nG v.x w.x (eQ a.1) (eQ b.1);have d:=nG v.y w.y (eQ a.2) (eQ b.2);refine gA_ nf func118 mix ?_;rw[NV.sub,tj];simp(maxDischargeDepth:=99) [f118,aa,e2 c,e2 d]
theorem D2(v:NV)(k:NF)(a:bc kQ v.q)(hk:aJ kQ k.q):aq prog 127 [cV v,eF k] (cV (v.times k)):=by
 have b:=fU v.x k (eQ a.1) (eQ hk);have c:=fU v.y k (eQ a.2) (eQ hk);refine gA_ nf func127 mix ?_;rw[NV.times,tj];simp(maxDischargeDepth:=99) [f127,aa,e2 b,e2 c]
theorem vQ(v w:NV)(a:bc kQ v.q)(b:bc kQ w.q):aq prog 132 [cV v,cV w] (eF (v.dot w)):=by
 have c:=fU v.x w.x (eQ a.1) (eQ b.1);have d:=fU v.y w.y (eQ a.2) (eQ b.2);have e:=rJ (v.x.mul w.x) (v.y.mul w.y) ((bh a.1 b.1).mono d_) ((bh a.2 b.2).mono d_);refine gA_ nf func132 mix ?_;rw[NV.dot];simp(maxDischargeDepth:=99) [f132,aa,e2 c,e2 d,e2 e]
theorem EO(v w:NV)(a:bc kQ v.q)(b:bc kQ w.q):aq prog 154 [cV v,cV w] (eF (v.bg w)):=by
 have c:=fU v.x w.y (eQ a.1) (eQ b.2);have d:=fU v.y w.x (eQ a.2) (eQ b.1);have e:=nG (v.x.mul w.y) (v.y.mul w.x) ((bh a.1 b.2).mono d_) ((bh a.2 b.1).mono d_);refine gA_ nf func154 mix ?_;rw[NV.bg];simp(maxDischargeDepth:=99) [f154,aa,e2 c,e2 d,e2 e]
theorem xJ(v:NV)(a:bc kQ v.q):aq prog 119 [cV v] (eF (v.dot v)):=by
 refine gA_ nf func119 mix ?_;simp[f119,aa,c2 (vQ v v a a)]
def NV.from(p:bM):NV:=⟨⟨aS p.x,false⟩,⟨aS p.y,false⟩⟩
theorem Ig(p:bM)(d:cz p.x=0)(e:cz p.y=0)(a:jx p):aq prog 67 [cW p] (cV (.from p)):=by
 have b:=lZ p.x d a.1.1;have c:=lZ p.y e a.2.1;refine gA_ nf func67 mix ?_;rw[NV.from,tj];simp(maxDischargeDepth:=99) [f67,aa,e1 b,e1 c]
structure NS where
 a:NF
 b:NF
 d:NF
noncomputable def cj(s:NS):PV:=.st 159 [eF s.a,eF s.b,eF s.d]
@[simp] theorem aU4(s:NS):aK (cj s)=.agg 159:=rfl
@[simp] theorem aTu(s:NS):cm (cj s)=[eF s.a,eF s.b,eF s.d]:=rfl
theorem qj(a b d:NF):cj ⟨a,b,d⟩=.st 159 [eF a,eF b,eF d]:=rfl
def NS.q(s:NS):S3:=⟨s.a.q,s.b.q,s.d.q⟩
def dC(k:Nat)(s:NS):Prop:=aJ k s.a.q/\aJ k s.b.q/\aJ k s.d.q
def nL(s:S3):Bool:=pD s.a||pD s.b||pD s.d
theorem Im(s:NS)(h:dC kB s):aq prog 77 [cj s] (.bool (nL s.q)):=by
 have c:=C9 s.a h.1;have e:=C9 s.b h.2.1;have f:=C9 s.d h.2.2;refine gA_ nf func77 mix ?_;rw[nL,NS.q];dsimp only;generalize pD s.a.q=x,pD s.b.q=y,pD s.d.q=z at*;cases x
 ·cases y
  ·simp(maxDischargeDepth:=99) [f77,aa,c1 c,c1 e,c1 f]
  ·simp(maxDischargeDepth:=99) [f77,aa,c1 c,c1 e]
 ·simp[f77,aa,c1 c]
theorem Ir(s:NS)(h:dC kB s):aq prog 78 [cj s] (eS s.q):=by
 have c:=C2 s.a h.1;have e:=C2 s.b h.2.1;have f:=C2 s.d h.2.2;refine gA_ nf func78 mix ?_;rw[NS.q,ky];simp(maxDischargeDepth:=99) [f78,aa,e1 c,e1 e,e1 f]
theorem mL{q:Rat}(h:aJ 1800 q):pD q=false:=by
 have a:(br q.num.natAbs).length<=600:=AX (K:=1800) (k:=600) h.1 d_ d_;have b:(br q.den).length<=600:=AX (K:=1800) (k:=600) h.2 d_ d_;rw[pD,mS,mS,decide_eq_false o_,decide_eq_false o_];rfl
def NF.width(r:Int):NF:=.int (4*r*r)
theorem Fg(r:Int):(NF.width r).q=bK r:=rfl
theorem aEX(r:Int)(a:0<=r)(b:r<=1000000):aq prog 121 [.int .i64 r] (eF (.width r)):=by
 have e:=xZ a b;have c:=lL (4*r*r) o_ o_;have w1:a6.wrap (4*r)=4*r:=aU _ o_ o_;have d:a6.wrap (4*r*r)=4*r*r:=aU _ o_ o_;refine gA_ nf func121 mix ?_;rw[NF.width];simp[f121,w1,d,aa,c1 c]
structure NM where
 w:NV
 d:NV
 root:NF
noncomputable def jH(m:NM):PV:=.st 148 [cV m.w,cV m.d,eF m.root]
@[simp] theorem za(m:NM):aK (jH m)=.agg 148:=rfl
@[simp] theorem aTt(m:NM):cm (jH m)=[cV m.w,cV m.d,eF m.root]:=rfl
theorem D4(a b:NV)(d:NF):jH ⟨a,b,d⟩=.st 148 [cV a,cV b,eF d]:=rfl
def NM.of(width:NF)(p d b:NV):NM:=⟨b.sub p,d,(((b.sub p).dot d).mul ((b.sub p).dot d)).sub ((d.dot d).mul (((b.sub p).dot (b.sub p)).sub width))⟩
def AW(width:NF)(p d b:NV):Bool:=decide (0<=c8 ((b.sub p).dot (b.sub p)).q width.q)&&decide (0<bP ((b.sub p).dot d).q)&&decide (0<bP (NM.of width p d b).root.q)
theorem aEw(width:NF)(p d b:NV)(j:aJ 500 width.q)(t:bc 200 p.q)(f:bc 500 d.q)(s:bc 200 b.q):aq prog 122 [eF width,cV p,cV d,cV b] (.aC [jH (.of width p d b),.bool (AW width p d b)]):=by
 have a:bc 401 (b.sub p).q:=by rw[NV.eH];exact gD s t
 have e:=dh a a;have c:=dh a f;have k:=dh f f;have g:=fK e j;have r:=vR b p (s.mono d_) (t.mono d_);obtain⟨w,u⟩:∃w,b.sub p=w:=⟨_,rfl⟩
 have y:NM.of width p d b=⟨w,d,((w.dot d).mul (w.dot d)).sub ((d.dot d).mul ((w.dot w).sub width))⟩:=by rw[NM.of,u]
 rw[AW,y,D4];rw[u]at r a e c g⊢;have x:bc kQ w.q:=a.mono d_;have v:bc kQ d.q:=f.mono d_;have C:=vQ w d x v;have D:=fU (w.dot d) (w.dot d) (c.mono d_) (c.mono d_);have F:=xJ d v;have n:=xJ w x;have z:=nG (w.dot w) width (e.mono d_) (j.mono d_);have q1:((w.dot w).sub width).q=w.q.dot w.q-width.q:=NF.eH _ _;have E:=fU (d.dot d) ((w.dot w).sub width) (k.mono d_) (by rw[q1];exact g.mono d_);have G:(((w.dot d).mul (w.dot d)).sub ((d.dot d).mul ((w.dot w).sub width))).q=w.q.dot d.q*w.q.dot d.q-d.q.dot d.q*(w.q.dot w.q-width.q):=by rw[NF.eH,NF.IZ,NF.IZ,q1];rfl
 have A:=nG ((w.dot d).mul (w.dot d)) ((d.dot d).mul ((w.dot w).sub width)) ((bh c c).mono d_) (by rw[NF.IZ,q1];exact(bh k g).mono d_);have B:=tC (w.dot w) width (e.mono d_) (j.mono d_);have i:=nH (w.dot d);have m:=nH (((w.dot d).mul (w.dot d)).sub ((d.dot d).mul ((w.dot w).sub width)));simp only[show∀q:Rat,(if q<0 then(-1:Int)else if q=0 then 0 else 1)=bP q from fun _=>rfl]at i m;refine gA_ nf func122 mix ?_;dsimp only;generalize ((w.dot d).mul (w.dot d)).sub ((d.dot d).mul ((w.dot w).sub width))=root at*;generalize bP root.q=s2,bP (w.dot d).q=s1,c8 (w.dot w).q width.q=o at*;simp[f122,aa];refine c2 r ?_;simp[aa];refine c2 C ?_;simp[aa];refine e2 D ?_;simp[aa];refine e1 F ?_;simp[aa];refine e1 n ?_;simp[aa];refine e2 z ?_;simp[aa];refine e2 E ?_;simp[aa];refine e2 A ?_;simp[aa];refine⟨r_,?_⟩;refine e1 n ?_;simp[aa];refine e2 B ?_
 by_cases h:0<=o
 ·by_cases l:0<s1
  ·simp(maxDischargeDepth:=99) [aa,h,l,e1 i,e1 m]
  ·simp[aa,h,l,e1 i]
 ·simp[aa,h]
def NM.far(m:NM):NS:=⟨(m.w.dot m.d).div (m.d.dot m.d),(m.d.dot m.d).inv.neg,m.root⟩
theorem aEm(m:NM)(c:bc 500 m.w.q)(a:bc 500 m.d.q)(hz:m.d.q.dot m.d.q≠0):aq prog 123 [jH m] (cj m.far):=by
 obtain⟨w,d,root⟩:=m;dsimp only at c a hz;have b:=dh a a;have g:=xJ d (a.mono d_);have e:=vQ w d (c.mono d_) (a.mono d_);have h:=vT (w.dot d) (d.dot d) ((dh c a).mono d_) (b.mono d_) hz;have hI:=yc (d.dot d) (b.mono d_) hz;have f:=ph (d.dot d).inv ((lH b).mono d_);refine gA_ nf func123 mix ?_;rw[NM.far,qj];dsimp only;rw[D4];simp(maxDischargeDepth:=99) [f123,aa,c1 g,e2 e,e2 h,e1 hI,e1 f]
theorem Mz(p:bM)(j:jx p):aq prog 65 [cW p] (.int .i64 (jR p)):=by
 have f:=B8 p j;have k:bN [eB p,bn (decide (p.x=[48]/\p.y=[48])) 6]=jR p:=by
  rw[jR,bN,bN,bN,bn]
  by_cases h:eB p=0
  ·by_cases g:p.x=[48]/\p.y=[48]
   ·simp[h,g]
   ·simp[h,g]
  ·simp[h]
 refine gA_ nf func65 mix ?_;rw[<-k];obtain⟨x,y⟩:=p;simp only[cW]at*;generalize eB ⟨x,y⟩=c at*;have e:∀b:Bool,decide (x=[48]/\y=[48])=b->aq prog 64 [.bool b,.int .i64 6] (.int .i64 (bn b 6))/\aq prog 63 [.seq [.int .i64 c,.int .i64 (bn b 6)]] (.int .i64 (bN [c,bn (decide (x=[48]/\y=[48])) 6])):=fun b i=>by
  rw[i];exact⟨zu b 6,zC [c,bn b 6] s_⟩
 generalize bN [c,bn (decide (x=[48]/\y=[48])) 6]=res at*
 by_cases hx:x=[48]
 ·by_cases hy:y=[48]
  ·obtain⟨d,a⟩:=e true (by simp[hx,hy]);simp[f65,aa];refine e1 f ?_;simp[aa,hx,hy];refine e2 d ?_;simp[aa];refine ep a t_ t_ ?_;simp
   repeat' first|rfl|apply am
  ·obtain⟨d,a⟩:=e false (by simp[hx,hy]);simp[f65,aa];refine e1 f ?_;simp[aa,hx,hy];refine e2 d ?_ (h1:=by simp[hy]);simp[aa];refine ep a t_ t_ ?_;simp
   repeat' first|rfl|apply am
 ·obtain⟨d,a⟩:=e false (by simp[hx]);simp[f65,aa];refine e1 f ?_;simp[aa,hx];refine e2 d ?_;simp[aa];refine ep a t_ t_ ?_;simp
  repeat' first|rfl|apply am
theorem rk:∀l:List Int,bN l=0↔∀e∈l,e=0
 |[]=>by simp[bN]
 |e::r=>by
  rw[bN]
  by_cases h:e=0
  ·rw[if_pos h,rk r];simp[h]
  ·rw[if_neg h];simp[h]
theorem kn{p:bM}(h:eB p=0):cz p.x=0/\cz p.y=0:=by
 have:=(rk _).1 h;exact⟨this _ s_,this _ s_⟩
theorem Ag{p:bM}(h:jR p=0):eB p=0/\¬(p.x=[48]/\p.y=[48]):=by
 rw[jR]at h
 split at h
 ·cases h
 ·rename_i a;exact⟨h,fun x=>a ⟨h,x⟩⟩
def vP(p:bM):V2:=⟨aS p.x,aS p.y⟩
theorem iD(p:bM):(NV.from p).q=vP p:=rfl
theorem sq_nonneg(a:Rat):0<=a*a:=by
 rcases Rat.le_total (a:=0) (b:=a)with h|h
 ·exact fl h h
 ·have c:0<=-a:=by
   have:=Rat.neg_le_neg h
   rwa [fw]at this
  have:=fl c c
  rwa [Rat.neg_mul,Rat.mul_neg,Rat.neg_neg]at this
theorem Mf{a b:Rat}(h:a*a+b*b=0):a=0/\b=0:=by
 have key:∀x y:Rat,x*x+y*y=0->x=0:=fun x y h=>by
  have c:=sq_nonneg x;have d:=sq_nonneg y;have e:x*x<=0:=by
   have f:x*x+0<=x*x+y*y:=(Rat.add_le_add_left).2 d
   rwa [Rat.add_zero,h]at f
  have g:x*x=0:=Rat.le_antisymm e c;rcases e8.1 g with h|h<;>exact h
 exact⟨key a b h,key b a (by rw[Rat.add_comm];exact h)⟩
theorem aF2{p:bM}(h:jR p=0):(vP p).dot (vP p)≠0:=by
 obtain⟨c,d⟩:=Ag h;obtain⟨e,f⟩:=kn c;intro hz;obtain⟨a,b⟩:=Mf hz;apply d;have e1:=(iQ e).1;have e2:=(iQ f).1;simp only[vP]at a b;rw[a,o8]at e1;rw[b,o8]at e2;exact⟨e1.symm,e2.symm⟩
def lg:PV:=.st 58 [.str [],.str [],.str []]
theorem FG{k:Nat}{p:bM}(h:bc k (vP p)):bc k (NV.from p).q:=h
def DF:PV:=.st 121 [.int .i64 0,.aI]
def zeroV:PV:=.st 141 [.st 123 [DF,DF],.st 123 [DF,DF]]
@[simp] theorem aVA:aK zeroV=.agg 141:=rfl
def Ad(p:bM):Bool:=decide (p.x.length<=40)&&decide (p.y.length<=40)&&(decide (eB p≠0)||(fW p.x 9&&fW p.y 9))
theorem aEM(p:bM)(i:jx p):aq prog 7 [cW p] (.bool (Ad p)):=by
 have h:=Cd p i;have j:=HE p 9 i d_;refine gA_ nf func7 mix ?_;rw[Ad];obtain⟨x,y⟩:=p;simp only[cW]at*;generalize eB ⟨x,y⟩=c,(fW x 9&&fW y 9)=f at*
 by_cases d:x.length<=40
 ·have a:(x.length:Int)<=40:=by omega
  by_cases e:y.length<=40
  ·have b:(y.length:Int)<=40:=by omega
   by_cases g:c=0
   ·simp[f7,a,b,aa];refine c1 h ?_;simp[g,aa];refine c2 j ?_;simp[d,e,g]
   ·simp[f7,a,b,aa,d,e,g,c1 h]
  ·have b:¬(y.length:Int)<=40:=by omega
   simp[f7,a,b,e,aa]
 ·have a:¬(x.length:Int)<=40:=by omega
  simp[f7,a,d,aa]
theorem yo{s:List Nat}(h:fW s 9=true):aJ 30 (aS s):=by
 simp only[fW,ax,decide_eq_true_eq]at h;have a:=RN h.1.2;have b:=RN h.2;exact⟨eM a d_,eM b d_⟩
theorem Xq{p:bM}(h:Ad p=true)(a:eB p=0):bc 30 (vP p):=by
 simp only[Ad,a,ne_eq,not_true_eq_false,decide_false,Bool.false_or,ax]at h;exact⟨yo h.2.1,yo h.2.2⟩
theorem Mg:prog.stoodInHeld 59=false:=k_
@[simp] theorem aS4:qp prog 59=true:=k_
def jo(a b c d e f:List Nat):Bool:=decide (a=d/\b=e/\c=f)
@[simp] theorem aS8{a b c d e f:List Nat}:gE prog 9 59 (.st 58 [.str a,.str b,.str c]) (.st 58 [.str d,.str e,.str f])=some (jo a b c d e f):=by
 have g:=underlying59;have:((a==d)&&((b==e)&&((c==f)&&true)))=jo a b c d e f:=by
  rw[jo,ay];simp
 rw[<-this];simp[gE,g,Mg,ju,aK]
theorem qG{a b:Nat}{x y:NF}(h:aJ a x.q)(c:aJ b y.q):aJ (a+b+1) (x.add y).q:=ku h c
theorem Bw{a b:Nat}{x y:NF}(h:aJ a x.q)(c:aJ b y.q):aJ (a+b+1) (x.sub y).q:=by rw[NF.eH];exact fK h c
theorem dO{a b:Nat}{x y:NF}(h:aJ a x.q)(c:aJ b y.q):aJ (a+b) (x.mul y).q:=bh h c
theorem B2{a b:Nat}{x y:NF}(h:aJ a x.q)(c:aJ b y.q):aJ (a+b) (x.div y).q:=gQ h c
theorem sj{a:Nat}{x:NF}(h:aJ a x.q):aJ a (x.inv).q:=lH h
theorem nS{a:Nat}{x:NF}(h:aJ a x.q):aJ a (x.neg).q:=jQ h
theorem nT(s:NS)(hs:dC 30000 s):aq prog 133 [cj s] (.int .i64 (bR s.q)):=by
 have g:=nH s.a;have h:=nH s.b;have i:=nH s.d;have l:=fU s.a s.a (hs.1.mono d_) (hs.1.mono d_);have m:=fU s.b s.b (hs.2.1.mono d_) (hs.2.1.mono d_);have n:=fU (s.b.mul s.b) s.d ((dO hs.2.1 hs.2.1).mono d_) (hs.2.2.mono d_);have p:=tC (s.a.mul s.a) ((s.b.mul s.b).mul s.d) ((dO hs.1 hs.1).mono d_) ((dO (dO hs.2.1 hs.2.1) hs.2.2).mono d_);have q1:bR s.q=jJ (bP s.a.q) (bP s.b.q*bP s.d.q) (c8 (s.a.mul s.a).q ((s.b.mul s.b).mul s.d).q):=rfl;rw[q1];rw[show(if s.a.q<0 then(-1:Int)else if s.a.q=0 then 0 else 1)=bP s.a.q from rfl]at g;rw[show(if s.b.q<0 then(-1:Int)else if s.b.q=0 then 0 else 1)=bP s.b.q from rfl]at h;rw[show(if s.d.q<0 then(-1:Int)else if s.d.q=0 then 0 else 1)=bP s.d.q from rfl]at i;have e:=l6 s.a.q;have f:=l8 (l6 s.b.q) (l6 s.d.q);have k:=Is (s.a.mul s.a).q ((s.b.mul s.b).mul s.d).q;have w1:=l7 f;refine gA_ nf func133 mix ?_;clear q1;generalize c8 (s.a.mul s.a).q ((s.b.mul s.b).mul s.d).q=o,bP s.a.q=x,bP s.b.q=y1,bP s.d.q=y2 at*;have j:=l7 (l8 e f);have r:=l7 (l8 e k);simp[f133,aa,-aX];rw[aX];simp[-aX,aa];rw[aX];simp[-aX,aa];refine e1 g ?_;simp[aa];refine e1 h ?_;simp[aa];refine e1 i ?_;simp[aa,w1];generalize y1*y2=y at*;rw[jJ]
 by_cases c2:x=0
 ·subst c2;rw[if_pos o_,if_pos rfl];simp[aa]
 ·by_cases c:0<=x*y
  ·rw[if_pos c,if_neg c2];simp[c,c2,j,aa]
  ·rw[if_neg c];simp(maxDischargeDepth:=99) [c,c2,j,aa,r,e2 l,e2 m,e2 n,e2 p]
structure NB where
 a:NV
 b:NV
 d:NF
noncomputable def jG(n:NB):PV:=.st 152 [cV n.a,cV n.b,eF n.d]
@[simp] theorem aU3(n:NB):aK (jG n)=.agg 152:=rfl
@[simp] theorem aTs(n:NB):cm (jG n)=[cV n.a,cV n.b,eF n.d]:=rfl
theorem yr(a b:NV)(d:NF):jG ⟨a,b,d⟩=.st 152 [cV a,cV b,eF d]:=rfl
def NB.q(n:NB):P4:=⟨⟨n.a.x.q,n.b.x.q,n.d.q⟩,⟨n.a.y.q,n.b.y.q,n.d.q⟩⟩
def okB(k:Nat)(n:NB):Prop:=bc k n.a.q/\bc k n.b.q/\aJ k n.d.q
theorem okB.mono{k l:Nat}{n:NB}(h:okB k n)(a:k<=l):okB l n:=⟨h.1.mono a,h.2.1.mono a,h.2.2.mono a⟩
def NB.sx(n:NB):NS:=⟨n.a.x,n.b.x,n.d⟩
def NB.sy(n:NB):NS:=⟨n.a.y,n.b.y,n.d⟩
def yC(p:P4):Bool:=nL p.x||nL p.y
def tE:PV:=.st 60 [lg,lg]
theorem Td(n:NB)(h:okB kB n):aq prog 73 [jG n] (if yC n.q=true then .aC [tE,.int .i64 4]else .aC [gY n.q,.int .i64 0]):=by
 have f:dC kB n.sx:=⟨h.1.1,h.2.1.1,h.2.2⟩
 have g:dC kB n.sy:=⟨h.1.2,h.2.1.2,h.2.2⟩
 have a:=Im n.sx f;have b:=Im n.sy g;have c:=Ir n.sx f;have e:=Ir n.sy g;rw[show n.sx.q=n.q.x from rfl]at a c;rw[show n.sy.q=n.q.y from rfl]at b e;rw[NB.sx,qj]at a c;rw[NB.sy,qj]at b e;refine gA_ nf func73 mix ?_;obtain⟨⟨i,j⟩,⟨bx,k⟩,d⟩:=n;rw[yC,tE,lg,gY];generalize (NB.q ⟨⟨i,j⟩,⟨bx,k⟩,d⟩)=p at*;dsimp only at*;clear f g h;cases hx:nL p.x
 ·cases hy:nL p.y
  ·rw[hx]at a;rw[hy]at b;simp+decide (maxDischargeDepth:=99) [f73,aa,yr,tj,c1 a,c1 b,e1 c,e1 e]
  ·rw[hx]at a;rw[hy]at b;simp+decide (maxDischargeDepth:=99) [f73,aa,yr,tj,c1 a,c1 b]
 ·rw[hx]at a;simp+decide (maxDischargeDepth:=99) [f73,aa,yr,tj,c1 a]
theorem Tn{a b:Rat}(h:a-b=0):a=b:=by
 have c:=congrArg (·+b) h
 simpa[Rat.sub_add_cancel,Rat.zero_add]using c
theorem Tm(e:Int):∀l:List Int,bN (l++[e])=if bN l=0 then e else bN l
 |[]=>by by_cases h:e=0<;>simp[bN,h]
 |x::l=>by
  simp only[ed,bN,Tm e l]
  by_cases hx:x=0
  ·simp[hx]
  ·simp[hx]
@[simp] theorem aS2:qp prog 72=true:=k_
theorem aQQ:prog.stoodInHeld 72=false:=k_
theorem D8{n:Nat}{a b c d e f:List Nat}:gE prog (n+2) 59 (.st 58 [.str a,.str b,.str c]) (.st 58 [.str d,.str e,.str f])=some (jo a b c d e f):=by
 have g:=underlying59;have:((a==d)&&((b==e)&&((c==f)&&true)))=jo a b c d e f:=by
  rw[jo,ay];simp
 rw[<-this];simp[gE,g,Mg,ju,aK]
@[simp] theorem aS6{a b c d e f a' b' c' d' e' g:List Nat}:gE prog 9 72 (.st 60 [.st 58 [.str a,.str b,.str c],.st 58 [.str d,.str e,.str f]]) (.st 60 [.st 58 [.str a',.str b',.str c'],.st 58 [.str d',.str e',.str g]])=some (jo a b c a' b' c'&&jo d e f d' e' g):=by
 have j:=underlying72;have h:=D8 (n:=6) (a:=a) (b:=b) (c:=c) (d:=a') (e:=b') (f:=c');have i:=D8 (n:=6) (a:=d) (b:=e) (c:=f) (d:=d') (e:=e') (f:=g);rw[show(6+2:Nat)=8 from rfl]at h i;rw[gE]
 case heq=>exact j
 simp[aQQ,ju,h,i,aK]
theorem pq{q:Rat}(h:0<q):bP q=1:=by
 rw[bP,if_neg (by grind),if_neg (by grind)]
theorem qC{q:Rat}(h:q<0):bP q= -1:=by rw[bP,if_pos h]
theorem qK:bP 0=0:=d_
theorem Mk{x y:Rat}(h:y<x):c8 x y=1:=by
 rw[c8,if_neg (by grind),if_neg (by grind)]
def ir{α:Type}(a:List α->α->Int)(l:List α)(i:Nat):Int:=match l[i]? with
 |some x=>a (l.take i) x
 |none=>0
def mn{α:Type}(a:List α->α->Int)(l:List α):Int:=bN ((ce l.length).map (ir a l))
theorem JA{f:Nat->Int}:∀(n i:Nat),(∀j,j<i->f j=0)->i<n->f i≠0->bN ((ce n).map f)=f i
 |0,i,_,h,_=>by omega
 |n+1,i,a,g,b=>by
  rw[dd,ee,bl,b3,Tm]
  by_cases hi:i<n
  ·rw[JA n i a hi b,if_neg b]
  ·have:i=n:=by omega
   subst this;rw[(rk _).2 (by intro e c;obtain⟨j,d,rfl⟩:=cx.1 c;exact a j (da.1 d)),if_pos rfl]
theorem wL{α:Type}{a:List α->α->Int}{l:List α}{i:Nat}{x:α}(h:∀j,j<i->ir a l j=0)(hx:l[i]?=some x)(hn:a (l.take i) x≠0):mn a l=a (l.take i) x:=by
 have hi:=(List.getElem?_eq_some_iff.1 hx).1;have e:ir a l i=a (l.take i) x:=by rw[ir,hx]
 rw[mn,JA _ i h hi (by rw[e];exact hn),e]
theorem qE{α:Type}{b:List α->α->Int}{l:List α}:mn b l=0↔∀j,j<l.length->ir b l j=0:=by
 rw[mn,rk];constructor
 ·intro h j a;exact h _ (cx.2 ⟨j,da.2 a,rfl⟩)
 ·intro h e c;obtain⟨j,a,rfl⟩:=cx.1 c;exact h j (da.1 a)
theorem wK{α:Type}{a:List α->α->Int}{l:List α}{i:Nat}{x:α}(h:∀j,j<i->ir a l j=0)(hx:l[i]?=some x)(hn:a (l.take i) x=0):∀j,j<i+1->ir a l j=0:=by
 intro j c
 by_cases b:j=i
 ·subst b;rw[ir,hx];exact hn
 ·exact h j o_
def kM(t:aj)(bef:List de)(s:de):Int:=
 if isName s.name=false then 8
 else if bef.any (fun o=>decide (o.name=s.name))=true then 9
 else if eB s.pt≠0 then eB s.pt
 else if t.on (vP s.pt)<0 then 16 else 0
def gH(t:aj):Int:=
 if t.cs.length<3 then 2
 else if 12<t.cs.length then 5
 else if t.cs.any gT=true then 3
 else if t.gh=false then 15
 else if t.aD<1\/1000<t.aD then 3
 else if 12<t.aV.length then 5
 else if mn (ig t.cs.length) t.aV≠0 then mn (ig t.cs.length) t.aV
 else if 256<t.an.length then 5
 else mn (kM t) t.an
def qt(p:de):Prop:=kG p.name/\jx p.pt
def aj.sp(t:aj)(i:Nat):de:=t.an.getD i ⟨[],⟨[],[]⟩⟩
@[simp] theorem aj.mZ{t:aj}{i:Nat}(h:i<t.an.length):t.an[i]'h=t.sp i:=by
 rw[aj.sp,ck,bv h];rfl
theorem aj.eK{t:aj}{i:Nat}(h:i<t.an.length):t.an[i]?=some (t.sp i):=by rw[bv h,aj.mZ]
structure iu(t:aj):Prop where
 cl:t.cs.length<=1000000
 pl:t.aV.length<=1000000
 sl:t.an.length<=1000000
 pk:∀p∈t.aV,wx p
 sp:∀s∈t.an,qt s
def jY(t:aj)(name:List Nat):Int:=match t.an.findIdx? (fun s=>decide (s.name=name))with
 |some i=>i
 |none=>-1
theorem Bx{n:Nat}{c:List dT}{p:dT}(h:ig n c p=0):cz p.a=0/\cz p.b=0:=by
 rw[ig]at h
 split at h
 ·omega
 split at h
 ·omega
 split at h
 ·omega
 split at h
 ·contradiction
 split at h
 ·contradiction
 rename_i d e;exact⟨aT.1 d,aT.1 e⟩
theorem aD9(t:aj)(name:List Nat)(h:t.an.length<=1000000):aq prog 212 [cw t,.str name] (.int .i64 (jY t name)):=by
 refine gA_ nf func212 mix ?_;simp[f212,aa];refine lp (α:=Nat) (fun i=>⟨[(5,.p (.int .i64 i)),(2,.ptr 0 []),(1,.p (.str name))],[.box false (.p (cw t))]⟩) (fun i=>i<=t.an.length/\∀j,j<i->¬(t.sp j).name=name) (fun i=>t.an.length-i) 0 s_ ?_;rintro i ⟨g,c⟩
 by_cases hi:i<t.an.length
 ·have d:=aj.eK hi;have f:=cE (i:=i) o_
  by_cases a:(t.sp i).name=name
  ·have:jY t name=i:=by
    have:t.an.findIdx? (fun s=>decide (s.name=name))=some i:=by
     rw[b4];refine⟨hi,by rw[aj.mZ];simp[a],fun j b=>?_⟩;rw[aj.mZ];simp[c j b]
    rw[jY,this]
   simp[hi,d,a,this,aa]
  ·simp[hi,d,a,f,aa];exact rd (i+1) ⟨hi,fun j b=>by
    by_cases e:j=i
    ·subst e;exact a
    ·exact c j o_⟩
 ·have:i=t.an.length:=by omega
  subst this;have:jY t name= -1:=by
   have:t.an.findIdx? (fun s=>decide (s.name=name))=none:=by
    rw[cy];intro s hs;obtain⟨j,b,rfl⟩:=bw.1 hs;rw[aj.mZ];simp[c j b]
   rw[jY,this]
  simp[this,aa]
theorem aQS{t:aj}{i:Nat}(hi:i<t.an.length):jY t (t.sp i).name<i↔(t.an.take i).any (fun o=>decide (o.name=(t.sp i).name))=true:=by
 obtain⟨k,hk⟩:∃k,t.an.findIdx? (fun s=>decide (s.name=(t.sp i).name))=some k:=by
  cases h:t.an.findIdx? (fun s=>decide (s.name=(t.sp i).name))with
  |some k=>exact⟨k,rfl⟩
  |none=>
   rw[cy]at h;have:=h _ (be (aj.eK hi));simp at this
 rw[jY,hk];rw[b4]at hk;obtain⟨k1,k2,k3⟩:=hk;rw[b1];constructor
 ·intro h;have h:k<i:=by simp only at h;omega
  exact⟨t.an[k],be (i:=k) (by rw[b0,if_pos h,bv k1]),k2⟩
 ·rintro⟨o,b,a⟩;obtain⟨j,c,rfl⟩:=bw.1 b;simp only[cb]at c;simp only;rw[db]at a;have:¬j<k:=fun d=>by
   have:=k3 j d;rw[a]at this;simp at this
  omega
theorem VB(t:aj)(J:iu t):aq prog 111 [cw t] (.int .i64 (gH t)):=by
 obtain⟨s,K,L,H,I⟩:=J;refine gA_ nf func111 mix ?_;rw[gH]
 by_cases c1:t.cs.length<3
 ·have cI:(t.cs.length:Int)<3:=by omega
  rw[if_pos c1];simp[f111,aa,cI]
 have v:¬(t.cs.length:Int)<3:=o_
 rw[if_neg c1]
 by_cases c2:12<t.cs.length
 ·have cI:(12:Int)<t.cs.length:=by omega
  rw[if_pos c2];simp[f111,aa,v,cI]
 have y:¬(12:Int)<t.cs.length:=o_
 rw[if_neg c2];simp[f111,aa,v,y];refine lp (α:=Nat) (fun i=>⟨[(3,.p (.int .i64 i)),(1,.ptr 0 [])],[.box false (.p (cw t))]⟩) (fun i=>i<=t.cs.length/\(t.cs.take i).any gT=false) (fun i=>t.cs.length-i) 0 s_ ?_;rintro i ⟨i1,i2⟩
 by_cases hi:i<t.cs.length
 ·have k:=aj.get hi;have f:=cE (i:=i) o_;have l:=aEn (t.at i);cases hf:gT (t.at i)
  ·rw[hf]at l;simp[hi,k,aa];refine c1_ l ?_;simp[f,aa];exact rd (i+1) ⟨hi,by rw[yT k,i2,hf];rfl⟩
  ·rw[hf]at l;have:t.cs.any gT=true:=b1.2 ⟨t.at i,be k,hf⟩;rw[if_pos this];simp[hi,k,aa,c1_ l]
 have:i=t.cs.length:=o_
 subst this;rw[bf]at i2;have hn:∀p∈t.cs,eX p:=fun p G=>JJ (by
  cases h:gT p
  ·rfl
  ·rw[b1.2 ⟨p,G,h⟩]at i2;cases i2)
 have C:=We t s hn;rw[i2,if_neg d_];simp[aa];refine c1_ C ?_;cases P:t.gh
 ·simp[aa]
 rw[if_neg d_];have u:(t.aD<1\/1000<t.aD)\/(¬t.aD<1/\¬1000<t.aD):=o_
 rcases u with u|⟨r1,x⟩
 ·rw[if_pos u]
  by_cases e1:t.aD<1
  ·simp[e1,aa]
  ·have e2:1000<t.aD:=by omega
   simp[e1,e2,aa]
 rw[if_neg o_]
 by_cases c3:12<t.aV.length
 ·have cI:(12:Int)<t.aV.length:=by omega
  rw[if_pos c3];simp[r1,x,cI,aa]
 have z:¬(12:Int)<t.aV.length:=o_
 rw[if_neg c3];simp[r1,x,z,aa];refine lp (α:=Nat) (fun i=>⟨[(4,.p (.int .i64 i)),(1,.ptr 0 [])],[.box false (.p (cw t))]⟩) (fun i=>i<=t.aV.length/\∀j,j<i->ir (ig t.cs.length) t.aV j=0) (fun i=>t.aV.length-i) 0 s_ ?_;rintro i ⟨k1,k2⟩
 by_cases hk:i<t.aV.length
 ·have gk:=aj.kI hk;have f:=cE (i:=i) o_;have b:=VE t i hk K s H (fun j F=>by
   have:=k2 j F;rw[ir,aj.kI o_]at this;exact Bx this)
  by_cases e:ig t.cs.length (t.aV.take i) (t.pk i)=0
  ·rw[e]at b;simp[hk,aa];refine c2_ b ?_;simp[f,aa];exact rd (i+1) ⟨hk,wK k2 gk e⟩
  ·have E:=wL k2 gk e;rw[E,if_pos e];simp[hk,aa,e,c2_ b]
 have:i=t.aV.length:=o_
 subst this;have D:=qE.2 k2;rw[D,if_neg d_]
 by_cases c4:256<t.an.length
 ·have cI:(256:Int)<t.an.length:=by omega
  rw[if_pos c4];simp[cI,aa]
 have A:¬(256:Int)<t.an.length:=o_
 rw[if_neg c4];simp[A,aa];refine lp (α:=Nat) (fun i=>⟨[(6,.p (.int .i64 i)),(1,.ptr 0 [])],[.box false (.p (cw t))]⟩) (fun i=>i<=t.an.length/\∀j,j<i->ir (kM t) t.an j=0) (fun i=>t.an.length-i) 0 s_ ?_;rintro i ⟨s1,s2⟩
 by_cases hs:i<t.an.length
 ·have a:=aj.eK hs;have f:=cE (i:=i) o_;obtain⟨N,O⟩:=I _ (be a);have c:=EK (t.sp i).name N.1;have m:=aD9 t (t.sp i).name L;have b:=Cd (t.sp i).pt O;have w:=aQS hs;have g:kM t (t.an.take i) (t.sp i)≠0->mn (kM t) t.an=kM t (t.an.take i) (t.sp i):=wL s2 a;have M:kM t (t.an.take i) (t.sp i)=0->∀j,j<i+1->ir (kM t) t.an j=0:=wK s2 a;have ev:kM t (t.an.take i) (t.sp i)=if isName (t.sp i).name=false then 8 else if(t.an.take i).any (fun o=>decide (o.name=(t.sp i).name))=true then 9 else if eB (t.sp i).pt≠0 then eB (t.sp i).pt else if t.on (vP (t.sp i).pt)<0 then 16 else 0:=rfl
  cases n:isName (t.sp i).name
  ·rw[n]at c;rw[n,if_pos rfl]at ev;rw[g (by rw[ev];decide),ev];simp[hs,a,aa,c1_ c]
  rw[n]at c;rw[n,if_neg d_]at ev
  by_cases d:jY t (t.sp i).name<i
  ·rw[if_pos (w.1 d)]at ev;rw[g (by rw[ev];decide),ev];simp[hs,a,aa,d,c1_ c,c2_ m]
  rw[if_neg (fun h=>d (w.2 h))]at ev
  by_cases pe:eB (t.sp i).pt=0
  case neg=>
   rw[if_pos pe]at ev;rw[g (by rw[ev];exact pe),ev];simp(maxDischargeDepth:=99) [hs,a,aa,d,pe,c1_ c,c2_ m,c1_ b]
  rw[if_neg (by simp[pe])]at ev;obtain⟨g1,g2⟩:=kn pe;have r:=Tw t (vP (t.sp i).pt) s hn ⟨(ie g1).mono d_,(ie g2).mono d_⟩;have B:eV (vP (t.sp i).pt)=cW (t.sp i).pt:=by
   rw[eV,vP];dsimp only;rw[(iQ g1).1,(iQ g2).1]
  rw[B]at r;rw[pe]at b
  by_cases q:t.on (vP (t.sp i).pt)<0
  ·rw[if_pos q]at ev;rw[g (by rw[ev];decide),ev];simp(maxDischargeDepth:=99) [hs,a,aa,d,q,c1_ c,c2_ m,c1_ b,c2_ r]
  ·rw[if_neg q]at ev;simp[hs,a,aa];refine c1_ c ?_;simp[aa];refine c2_ m ?_;simp[d,aa];refine c1_ b ?_;simp[aa];refine c2_ r ?_;simp[q,f,aa];exact rd (i+1) ⟨hs,M ev⟩
 ·have:i=t.an.length:=by omega
  subst this;rw[qE.2 s2];simp[aa]
open Go.Proofs Go.Proofs.YtdjojlnnobkliaaGreatDoor
section
variable{H:Type}{W:World}{ad:Nat->Prop}
theorem Bo:∀d:a4 H,1<=Rows.uptoBulk d:=by
 intro d;cases d with
 |lit l=>cases l<;>simp[Rows.uptoBulk]
 |_=>simp[Rows.uptoBulk]
theorem BB{α:Type}{n:Nat}{t e:TypeId}{F:α->PV}{ok:α->Prop}(g:prog.underlying t=some (.slice e))
 (p:∀(d:a4 H),(∃c,bd prog W ad (bS prog n e d) c)->Rows.uptoBulk d<=1048576->∃a,bS prog n e d=F a/\ok a/\2<=Rows.uptoBulk d)
 {d:a4 H}(h:∃cs,bd prog W ad (bS prog (n+1) t d) cs)(k:Rows.uptoBulk d<=1048576):∃l:List α,bS prog (n+1) t d=.seq (l.map F)/\(∀a∈l,ok a)/\l.length<=1000000:=by
 obtain⟨cs,h⟩:=h;cases d with
 |nil=>exact⟨[],by simp[bS,g],(fun _ h=>nomatch h),s_⟩
 |slice f sp=>
  simp only[bS,g,bd]at h⊢;have i:∀e'∈f.map (bS prog n e),∃c,bd prog W ad e' c:=by
   rcases h with⟨h,_⟩|⟨_,_,_,_,w,h,_⟩
   ·rw[h];intro _ h;cases h
   ·exact JS h
  have key:∀f:List (a4 H),(∀e'∈f.map (bS prog n e),∃c,bd prog W ad e' c)->Rows.uptoBulkAll f<=1048576->∃l:List α,f.map (bS prog n e)=l.map F/\(∀a∈l,ok a)/\2*l.length<=Rows.uptoBulkAll f:=by
   intro f
   induction f with
   |nil=>intro _ _;exact⟨[],rfl,(fun _ h=>nomatch h),s_⟩
   |cons d r v=>
    intro i k;rw[Rows.uptoBulkAll]at k⊢;obtain⟨a,q,u,m⟩:=p d (i _ dq) o_;obtain⟨l,j,o,y⟩:=v (fun e' s=>i e' (dl _ s)) o_;refine⟨a::l,by simp only[bl];rw[q,j],fun x hx=>?_,by rw[ec];omega⟩;rcases List.mem_cons.1 hx with rfl|hx
    ·exact u
    ·exact o x hx
  rw[Rows.uptoBulk]at k;obtain⟨l,j,m,o⟩:=key f i o_;exact⟨l,by rw[j],m,o_⟩
 |lit l=>simp only[bS,g,bd]at h
 |ptr d=>simp only[bS,g,bd]at h
 |agg l=>simp only[bS,g,bd]at h
 |iface a b=>simp only[bS,g,bd]at h
 |map l=>simp only[bS,g,bd]at h
 |held a=>simp only[bS,g,bd]at h
theorem yU{n:Nat}{d:a4 H}(h:∃cs,bd prog W ad (bS prog (n+1) 9 d) cs)(a:Rows.uptoBulk d<=1048576):∃s:List Nat,bS prog (n+1) 9 d=.str s/\kG s:=by
 obtain⟨cs,h⟩:=h;cases d with
 |lit l=>
  cases l with
  |string bytes=>
   refine⟨bytes.map (·.toNat),by simp only[bS,Jm],?_,?_⟩
   ·rw[Rows.uptoBulk]at a;rw[dg];omega
   ·intro c hc;obtain⟨u,_,rfl⟩:=cx.1 hc;exact u.toNat_lt
  |_=>simp only[bS,Jm,bd]at h
 |_=>simp only[bS,Jm,bd]at h
theorem aRv:∃a b:a5,prog.underlying 202=some (.struct #[a,b])/\a.type=3/\b.type=3:=⟨_,_,underlying202,rfl,rfl⟩
theorem Ve:prog.underlyingId 202=201:=k_
theorem Wh{m n:Nat}(j:m=n+1){d:a4 H}(h:∃cs,bd prog W ad (bS prog (m+1) 202 d) cs)(o:Rows.uptoBulk d<=1048576):∃p:fg,bS prog (m+1) 202 d=cX p/\True/\2<=Rows.uptoBulk d:=by
 obtain⟨cs,h⟩:=h;obtain⟨f0,f1,f,t0,t1⟩:=aRv;cases d with
 |agg l=>
  simp only[bS,f,bd]at h⊢;obtain⟨q,k,e,c,_⟩:=h;rw[Ve,aQ3]at e;cases e
  match l,c with
  |[],c=>simp[bt]at c
  |[x],c=>simp[bt]at c
  |x::y::r,c=>
   have:=Bo x;simp only[cc,bl,bt,cd,b3,t0,t1]at c⊢;obtain⟨c0,_,_,g1,_,c1,_,_,g2,_⟩:=c;subst j;obtain⟨a,g⟩:=Bz (n:=n) x c0 g1;obtain⟨b,i⟩:=Bz (n:=n) y c1 g2;refine⟨⟨a,b⟩,by rw[g,i,Ve];rfl,trivial,?_⟩;rw[Rows.uptoBulk,Rows.uptoBulkAll];omega
 |_=>simp only[bS,f,bd]at h
theorem aRt:∃a b c d:a5,prog.underlying 83=some (.struct #[a,b,c,d])/\a.type=9/\b.type=3/\c.type=30/\d.type=30:=⟨_,_,_,_,underlying83,rfl,rfl,rfl,rfl⟩
theorem Vc:prog.underlyingId 83=82:=k_
theorem VR{m n:Nat}(q:m=n+1){d:a4 H}(h:∃cs,bd prog W ad (bS prog (m+1) 83 d) cs)(o:Rows.uptoBulk d<=1048576):∃p:dT,bS prog (m+1) 83 d=fV p/\wx p/\2<=Rows.uptoBulk d:=by
 obtain⟨cs,h⟩:=h;obtain⟨f0,f1,f2,f3,g,t0,t1,t2,t3⟩:=aRt;cases d with
 |agg l=>
  have e:∀x∈l,Rows.uptoBulk x<=1048576:=fun x hx=>by
   have:=tG.ym hx;rw[Rows.uptoBulk]at o;omega
  simp only[bS,g,bd]at h⊢;obtain⟨B,A,f,c,_⟩:=h;rw[Vc,aQ7]at f;cases f
  match l,c with
  |[],c=>simp[bt]at c
  |[x],c=>simp[bt]at c
  |[x,y],c=>simp[bt]at c
  |[x,y,z],c=>simp[bt]at c
  |x::y::z::w::r,c=>
   have:=Bo x;simp only[cc,bl,bt,cd,b3,t0,t1,t2,t3]at c⊢;obtain⟨c0,_,_,g0,_,c1,_,_,g1,_,c2,_,_,g2,_,c3,_,_,g3,_⟩:=c;subst q;obtain⟨a,i,k⟩:=yU (n:=n) ⟨c0,g0⟩ (e x s_);obtain⟨b,j⟩:=Bz (n:=n) y c1 g1;obtain⟨u,eu,s⟩:=DQ (n:=n) ⟨c2,g2⟩ (e z s_);obtain⟨v,ev,t⟩:=DQ (n:=n) ⟨c3,g3⟩ (e w s_);refine⟨⟨a,b,u,v⟩,by rw[i,j,eu,ev,Vc];rfl,⟨k,s,t⟩,?_⟩;rw[Rows.uptoBulk,Rows.uptoBulkAll];omega
 |_=>simp only[bS,g,bd]at h
theorem aRx:∃a b:a5,prog.underlying 146=some (.struct #[a,b])/\a.type=9/\b.type=32:=⟨_,_,underlying146,rfl,rfl⟩
theorem Vg:prog.underlyingId 146=76:=k_
theorem Wf{m n:Nat}(s:m=n+2){d:a4 H}(h:∃cs,bd prog W ad (bS prog (m+1) 146 d) cs)(o:Rows.uptoBulk d<=1048576):∃p:de,bS prog (m+1) 146 d=bE p/\qt p/\2<=Rows.uptoBulk d:=by
 obtain⟨cs,h⟩:=h;obtain⟨f0,f1,g,t0,t1⟩:=aRx;cases d with
 |agg l=>
  have f:∀x∈l,Rows.uptoBulk x<=1048576:=fun x hx=>by
   have:=tG.ym hx;rw[Rows.uptoBulk]at o;omega
  simp only[bS,g,bd]at h⊢;obtain⟨u,t,e,c,_⟩:=h;rw[Vg,U7]at e;cases e
  match l,c with
  |[],c=>simp[bt]at c
  |[x],c=>simp[bt]at c
  |x::y::r,c=>
   have:=Bo x;simp only[cc,bl,bt,cd,b3,t0,t1]at c⊢;obtain⟨c0,_,_,g1,_,c1,_,_,g2,_⟩:=c;subst s;obtain⟨a,i,k⟩:=yU (n:=n+1) ⟨c0,g1⟩ (f x s_);obtain⟨b,j,q⟩:=GU (n:=n) ⟨c1,g2⟩ (f y s_);refine⟨⟨a,b⟩,by rw[i,j,Vg];rfl,⟨k,q⟩,?_⟩;rw[Rows.uptoBulk,Rows.uptoBulkAll];omega
 |_=>simp only[bS,g,bd]at h
theorem aRy:∃a b c d:a5,prog.underlying 26=some (.struct #[a,b,c,d])/\a.type=22/\b.type=3/\c.type=23/\d.type=24:=⟨_,_,_,_,underlying26,rfl,rfl,rfl,rfl⟩
theorem Vh:prog.underlyingId 26=25:=k_
theorem aQ8{m n:Nat}(p:m=n+4){d:a4 H}(h:∃cs,bd prog W ad (bS prog (m+1) 26 d) cs)(e:Rows.uptoBulk d<=1048576):∃t:aj,bS prog (m+1) 26 d=cw t/\True/\iu t:=by
 obtain⟨cs,h⟩:=h;obtain⟨f0,f1,f2,f3,j,t0,t1,t2,t3⟩:=aRy;cases d with
 |agg l=>
  have g:∀x∈l,Rows.uptoBulk x<=1048576:=fun x hx=>by
   have:=tG.ym hx;rw[Rows.uptoBulk]at e;omega
  simp only[bS,j,bd]at h⊢;obtain⟨E,D,i,c,_⟩:=h;rw[Vh,aQ4]at i;cases i
  match l,c with
  |[],c=>simp[bt]at c
  |[x],c=>simp[bt]at c
  |[x,y],c=>simp[bt]at c
  |[x,y,z],c=>simp[bt]at c
  |x::y::z::w::r,c=>
   simp only[cc,bl,bt,cd,b3,t0,t1,t2,t3]at c⊢;obtain⟨c0,_,_,g0,_,c1,_,_,g1,_,c2,_,_,g2,_,c3,_,_,g3,_⟩:=c;subst p;obtain⟨a,k,_,A⟩:=BB (n:=n+3) aRo (F:=cX) (ok:=fun _=>True) (fun d f e=>Wh (n:=n+1) rfl f e) ⟨c0,g0⟩ (g x s_);obtain⟨b,o⟩:=Bz (n:=n+3) y c1 g1;obtain⟨u,eu,q,B⟩:=BB (n:=n+3) aRp (F:=fV) (ok:=wx) (fun d f e=>VR (n:=n+1) rfl f e) ⟨c2,g2⟩ (g z s_);obtain⟨v,ev,s,C⟩:=BB (n:=n+3) aRq (F:=bE) (ok:=qt) (fun d f e=>Wf (n:=n) rfl f e) ⟨c3,g3⟩ (g w s_);exact⟨⟨a,b,u,v⟩,by rw[k,o,eu,ev,Vh];rfl,trivial,A,B,C,q,s⟩
 |_=>simp only[bS,j,bd]at h
end
def gd(p:dT):PV:=.st 82 [.str p.name,.int .i64 p.cR,.str p.a,.str p.b]
def iR(p:de):PV:=.st 76 [.str p.name,cW p.pt]
def bW(t:aj):PV:=.st 42 [.seq (t.cs.map cX),.int .i64 t.aD,.seq (t.aV.map gd),.seq (t.an.map iR)]
@[simp] theorem aU8(p:dT):aK (gd p)=.agg 82:=rfl
@[simp] theorem aTy(p:dT):cm (gd p)=[.str p.name,.int .i64 p.cR,.str p.a,.str p.b]:=rfl
@[simp] theorem aVf(p:de):aK (iR p)=.agg 76:=rfl
@[simp] theorem aTF(p:de):cm (iR p)=[.str p.name,cW p.pt]:=rfl
@[simp] theorem aVi(t:aj):aK (bW t)=.agg 42:=rfl
@[simp] theorem aTH(t:aj):cm (bW t)=[.seq (t.cs.map cX),.int .i64 t.aD,.seq (t.aV.map gd),.seq (t.an.map iR)]:=rfl
@[simp] theorem aSK:prog.cellsOf 42=4:=k_
theorem aES(p:fg):aq prog 222 [cX p] (.bool (gT p)):=by
 obtain⟨x,y⟩:=p;refine gA_ nf func222 mix ?_;have e1:max x y=if x<y then y else x:=by split<;>omega
 have e2:min x y=if y<x then y else x:=by split<;>omega
 rw[gT,e1,e2]
 by_cases h:(if x<y then y else x)<=10000
 ·have a:¬10000<(if x<y then y else x):=by omega
  by_cases b:(if y<x then y else x)< -10000
  ·simp[f222,aa,h,a,b]
  ·simp[f222,aa,h,a,b]
 ·have a:10000<(if x<y then y else x):=by omega
  simp[f222,aa,h,a]
def idxFrom{α:Type}(p:α->Bool):List α->Nat->Int
 |[],_=>-1
 |x::r,i=>if p x then(i:Int)else idxFrom p r (i+1)
theorem tZ{α:Type}(p:α->Bool):∀(l:List α)(i:Nat),decide (0<=idxFrom p l i)=l.any p
 |[],i=>by simp[idxFrom]
 |x::r,i=>by
  by_cases h:p x
  ·simp[idxFrom,h]
  ·simp[idxFrom,h,tZ p r]
theorem VP(l:List fg)(h:l.length<=1000000):
 aq prog 281 [.seq (l.map cX),.func 222 [] []] (.int .i64 (idxFrom gT l 0)):=by
 refine gA_ nf func281 mix ?_;simp[f281];refine lp (α:=Nat) (fun i=>⟨[(8,.p (.int .i64 i)),(7,.p (.int .i64 l.length)),(1,.p (.func 222 [] [])),(0,.p (.seq (l.map cX)))],[]⟩) (fun i=>i<=l.length/\idxFrom gT l 0=idxFrom gT (l.drop i) i) (fun i=>l.length-i) 0 s_ ?_;rintro i ⟨k1,k2⟩
 by_cases hi:i<l.length
 ·rw[bi hi]at k2;have b:=cE (i:=i) o_;simp[hi];refine c1 (aES l[i]) ?_
  by_cases a:gT l[i]
  ·simp[idxFrom,a]at k2;simp[a,k2]
  ·simp[idxFrom,a]at k2;simp[a,b];exact rd (i+1) ⟨hi,k2⟩
 ·have:i=l.length:=by omega
  subst this;simp[idxFrom]at k2;simp[k2]
theorem VA(l:List fg)(h:l.length<=1000000):
 aq prog 221 [.seq (l.map cX),.func 222 [] []] (.bool (l.any gT)):=by
 refine gA_ nf func221 mix ?_;simp[f221];refine c2 (VP l h) ?_;simp[<-tZ gT l 0]
def pN(l:List fg):List (PV×PV):=l.map (fun p=>(cX p,PV.bool true))
theorem Kd{p q:fg}(h:¬p=q):¬(p.x=q.x/\p.y=q.y):=fun⟨a,b⟩=>h (by cases p;cases q;simp_all)
theorem aGk(a b c d:Int):gE prog 9 202 (.st 201 [.int .i64 a,.int .i64 b]) (.st 201 [.int .i64 c,.int .i64 d])=some ((a==c)&&((b==d)&&true)):=k_
@[simp] theorem E3(p q:fg):gE prog 9 202 (cX p) (cX q)=some (decide (p=q)):=by
 rw[cX,cX,aGk]
 by_cases h:p=q
 ·subst h;simp
 ·rw[decide_eq_false h];have:=Kd h
  by_cases a:p.x=q.x
  ·have b:¬p.y=q.y:=fun b=>this ⟨a,b⟩;simp[a,b]
  ·simp[a]
theorem Kc(p q:fg):kz (cX p) (cX q)=some (decide (p=q)):=by
 by_cases h:p=q
 ·subst h;simp[cX,kz,A5]
 ·rw[decide_eq_false h];have:=Kd h
  by_cases a:p.x=q.x
  ·have b:¬p.y=q.y:=fun b=>this ⟨a,b⟩;simp[cX,kz,A5,a,beq_false_of_ne b]
  ·simp[cX,kz,A5,beq_false_of_ne a]
theorem aGj(p q:fg):pA prog 202 (cX p) (cX q)=some (decide (p=q)):=by
 have e1:=E3 p q;have e2:=Kc p q;rw[cX]at e1 e2⊢;rw[pA,e1,e2];simp
@[simp] theorem JP(q:fg):∀l:List fg,gp prog 202 (pN l) (cX q)=some (if q∈l then some (.bool true)else none)
 |[]=>rfl
 |p::r=>by
  rw[pN,bl,gp,aGj]
  by_cases h:q=p
  ·simp[h]
  ·have:=JP q r;rw[pN]at this;simp[h,this]
theorem VL{q:fg}{l:List fg}(h:¬q∈l):oO prog 202 (pN l) (cX q)=some none:=by
 have:=JP q l;rw[if_neg h]at this;rw[cX]at this⊢;rw[oO,this]
theorem JQ{q:fg}:∀{l:List fg},¬q∈l->gI (pN l) (cX q) (.bool true)=pN (l++[q])
 |[],_=>rfl
 |p::r,h=>by
  have a:¬q=p:=fun e=>h (e▸dq);have b:¬q∈r:=fun e=>h (dl _ e);have:=JQ b;rw[pN]at this⊢;rw[bl,gI,Kc,this];simp[a,pN]
theorem aPm:qp prog 202=true:=k_
@[simp high] theorem aSu(c:Bool)(H:al)(p q:fg):lh prog .neq 202 c H (.p (cX p)) (.p (cX q))=some (True,{v:=.p (.bool !(decide (p=q)))}):=by
 have e:=E3 p q;rw[cX,cX]at*;simp[lh,e,aPm]
@[simp high] theorem aTl(q:fg):fY prog 202 (cX q)=true:=by
 have e1:=E3 q q;rw[cX]at e1⊢;rw[fY];simp[e1]
theorem V8(a c:fg):mr a a c=0:=by simp[mr]
theorem VM(a b:fg):mr a b a=0:=by simp[mr]
theorem JZ{t:aj}(e:3<=t.cs.length){j k:Nat}(c:j<t.cs.length)(hk:k<t.cs.length)(d:j≠k)(b:t.at j=t.at k):t.gh=false:=by
 rw[aj.gh,decide_eq_false_iff_not];intro h
 by_cases hx:k=t.nx j
 ·obtain⟨m,m1,m2,m3⟩:∃m,m<t.cs.length/\m≠j/\m≠k:=by
   rcases ew j k with a|a|a
   ·by_cases e0:j=0
    ·by_cases e1:k=1
     ·exact⟨2,o_,o_,o_⟩
     ·exact⟨1,o_,o_,o_⟩
    ·exact⟨0,o_,o_,o_⟩
   ·exact(d a).elim
   ·by_cases e0:k=0
    ·by_cases e1:j=1
     ·exact⟨2,o_,o_,o_⟩
     ·exact⟨1,o_,o_,o_⟩
    ·exact⟨0,o_,o_,o_⟩
  have:=h j c m m1 m2 (hx▸m3);rw[<-hx,<-b,V8]at this;omega
 ·have:=h j c k hk (Ne.symm d) hx;rw[<-b,VM]at this;omega
theorem Wb(t:aj)(ah:3<=t.cs.length)(ai:t.cs.length<=1000000)(hn:∀p∈t.cs,eX p):aq prog 223 [bW t] (.bool t.gh):=by
 refine gA_ nf func223 mix ?_;generalize q:t.cs.length=n at*;simp[f223,aa,q];refine lp (α:=Nat) (fun i=>⟨[(16,.p (.int .i64 i)),(15,.p (.int .i64 n)),(14,.p (.seq (t.cs.map cX))),(3,.map 1),(1,.ptr 0 [])],[.box false (.p (bW t)),.map false (pN (t.cs.take i))]⟩) (fun i=>i<=n/\∀j k,j<k->k<i->t.at j≠t.at k) (fun i=>n-i) 0 s_ ?_ (hh:=by simp[pN]);rintro i ⟨ag,E⟩
 by_cases hi:i<n
 ·have G:=aj.get (t:=t) (i:=i) o_;have z:=cE (i:=i) o_;have V:t.cs.take (i+1)=t.cs.take i++[t.at i]:=by rw[b5,G];rfl
  simp[-fY,hi,q,G,aa]
  by_cases f:t.at i∈t.cs.take i
  ·obtain⟨j,s,r⟩:=bw.1 f;rw[cb]at s;rw[db,aj.aQ o_]at r;have P:=JZ o_ (j:=j) (k:=i) o_ o_ o_ r;simp[f,P]
  ·have hI:=VL f;have H:=JQ f;rw[<-V]at H;simp[-fY,-oO,f,hI,H,z];exact rd (i+1) ⟨hi,fun j k w hk=>by
    by_cases S:k=i
    ·subst S;intro r;exact f (r▸be (i:=j) (by rw[b0,if_pos w];exact aj.get o_))
    ·exact E j k w o_⟩
 have Q:i=n:=o_
 subst Q;have inj:∀j k,j<i->k<i->t.at j=t.at k->j=k:=fun j k s hk r=>by
  rcases ew j k with h|h|h
  ·exact(E j k h hk r).elim
  ·exact h
  ·exact(E k j h s r.symm).elim
 simp[q,aa];refine lp (α:=Nat) (fun m=>⟨[(32,.p (.int .i64 m)),(31,.p (.int .i64 i)),(30,.p (.seq (t.cs.map cX))),(6,.p (.int .i64 i)),(1,.ptr 0 [])],[.box false (.p (bW t))]⟩) (fun m=>m<=i/\∀j,j<m->t.qD j i) (fun m=>i-m) 0 s_ ?_;rintro m ⟨g1,g2⟩;have T:¬i=0:=o_
 by_cases f:m<i
 ·have L:=aj.get (t:=t) (i:=m) o_;have z:=cE (i:=m) o_;have U:t.nx m<i:=by rw[<-q];exact t.lA o_ m
  have M:=aj.get (t:=t) (i:=t.nx m) o_;have e1:((m:Int)+1).tmod (i:Int)=((t.nx m:Nat):Int):=by
   rw[aj.nx,q,a9,a8 o_];rfl
  simp[f,q,L,M,z,e1,T,aa];refine⟨r_,?_⟩;refine lp (α:=Nat) (fun k=>⟨[(48,.p (.int .i64 k)),(47,.p (.int .i64 i)),(46,.p (.seq (t.cs.map cX))),(9,.ptr 2 []),(8,.ptr 1 []),(32,.p (.int .i64 m)),(31,.p (.int .i64 i)),(30,.p (.seq (t.cs.map cX))),(6,.p (.int .i64 i)),(1,.ptr 0 [])],[.box false (.p (bW t)),.box false (.p (cX (t.at m))),.box false (.p (cX (t.at (t.nx m))))]⟩) (fun k=>k<=i/\t.qD m k) (fun k=>i-k) 0 (by simp[aj.qD]) ?_;rintro k ⟨q1,D⟩
  by_cases hk:k<i
  ·have gk:=aj.get (t:=t) (i:=k) o_;have F:=cE (i:=k) o_
   by_cases c1:t.at k=t.at m
   ·have:=inj _ _ hk f c1;subst this;simp[-lh,lh.eq_1,hk,gk,F,aa];exact rd (k+1) ⟨hk,fun j s=>by
     by_cases w:j=k
     ·intro h;exact(h w).elim
     ·exact D j o_⟩
   ·by_cases c2:t.at k=t.at (t.nx m)
    ·have:=inj _ _ hk U c2;have c3:¬t.at (t.nx m)=t.at m:=by rw[<-c2];exact c1
     simp[-lh,lh.eq_1,hk,gk,F,c2,c3,aa];exact rd (k+1) ⟨hk,fun j s=>by
      by_cases w:j=k
      ·intro _ h;exact(h o_).elim
      ·exact D j o_⟩
    ·have K:k≠m:=fun e=>c1 (by rw[e]);have nx:k≠t.nx m:=fun e=>c2 (by rw[e]);have O:mr (t.at m) (t.at (t.nx m)) (t.at k)=((t.at (t.nx m)).x-(t.at m).x)*((t.at k).y-(t.at m).y)-((t.at (t.nx m)).y-(t.at m).y)*((t.at k).x-(t.at m).x):=rfl;have W:=aj.fc hn (i:=m) o_;have X:=aj.fc hn (i:=t.nx m) o_;have Y:=aj.fc hn (i:=k) o_;have J:t.qD m (k+1)↔0<mr (t.at m) (t.at (t.nx m)) (t.at k):=⟨fun h=>h k o_ K nx,fun h j s u v=>by
      by_cases w:j=k
      ·subst w;exact h
      ·exact D j o_ u v⟩
     have I:¬0<mr (t.at m) (t.at (t.nx m)) (t.at k)->t.gh=false:=fun h=>by
      rw[aj.gh,decide_eq_false_iff_not];intro N;exact h (N m o_ k o_ K nx)
     rw[O]at J I;simp[-lh,lh.eq_1,hk,gk,F,c1,c2,aa];simp only[eX]at W X Y;generalize t.at m=A,t.at (t.nx m)=B,t.at k=C at*;obtain⟨c,d⟩:=A;obtain⟨bx,g⟩:=B;obtain⟨l,o⟩:=C;dsimp only at*;have w1:a6.wrap (bx-c)=bx-c:=aU _ o_ o_;have Z:a6.wrap (o-d)=o-d:=aU _ o_ o_;have ab:a6.wrap (g-d)=g-d:=aU _ o_ o_
     have ac:a6.wrap (l-c)=l-c:=aU _ o_ o_;have ak:=Bq (a:=bx-c) (b:=o-d) (A:=20000) (B:=20000) o_ o_ o_ o_;have al:=Bq (a:=g-d) (b:=l-c) (A:=20000) (B:=20000) o_ o_ o_ o_;have ad:a6.wrap ((bx-c)*(o-d))=(bx-c)*(o-d):=aU _ o_ o_;have ae:a6.wrap ((g-d)*(l-c))=(g-d)*(l-c):=aU _ o_ o_;have af:a6.wrap ((bx-c)*(o-d)-(g-d)*(l-c))=(bx-c)*(o-d)-(g-d)*(l-c):=aU _ o_ o_;simp[w1,Z,ab,ac,ad,ae,af]
     by_cases hc:(bx-c)*(o-d)-(g-d)*(l-c)<=0
     ·have:=I o_;simp[hc,this]
     ·simp[hc];exact rd (k+1) ⟨hk,J.2 o_⟩
  ·have:k=i:=by omega
   subst this;simp[z];exact rd (m+1) ⟨f,fun j s=>by
    by_cases R:j=m
    ·subst R;exact D
    ·exact g2 j o_⟩
 ·have:m=i:=by omega
  subst this;have:t.gh=true:=by
   rw[aj.gh,decide_eq_true_eq,q];exact g2
  simp[this]
noncomputable def gA(v:NV):PV:=.st 272 [eF v.x,eF v.y]
@[simp] theorem aVh(v:NV):aK (gA v)=.agg 272:=rfl
@[simp] theorem aTG(v:NV):cm (gA v)=[eF v.x,eF v.y]:=rfl
@[simp] theorem aSJ:prog.cellsOf 272=8:=k_
theorem E4(x y:NF):gA ⟨x,y⟩=.st 272 [eF x,eF y]:=rfl
noncomputable def yw(a b:NV):PV:=.st 321 [gA a,gA b]
@[simp] theorem aUY(a b:NV):aK (yw a b)=.agg 321:=rfl
@[simp] theorem aTo(a b:NV):cm (yw a b)=[gA a,gA b]:=rfl
theorem Iw(p:bM)(d:cz p.x=0)(e:cz p.y=0)(a:jx p):aq prog 203 [cW p] (gA (.from p)):=by
 have b:=lZ p.x d a.1.1;have c:=lZ p.y e a.2.1;refine gA_ nf func203 mix ?_;rw[NV.from,E4];simp(maxDischargeDepth:=99) [f203,aa,e1 b,e1 c]
def dA(p:fg):NV:=⟨.int p.x,.int p.y⟩
theorem JD(p:fg)(h:eX p):aq prog 343 [cX p] (gA (dA p)):=by
 simp only[eX]at h;have a:=lL p.x o_ o_;have b:=lL p.y o_ o_;refine gA_ nf func343 mix ?_;rw[dA,E4];simp(maxDischargeDepth:=99) [f343,aa,e1 a,e1 b]
theorem E6(v w:NV)(a:bc kQ v.q)(b:bc kQ w.q):aq prog 264 [gA v,gA w] (gA (v.sub w)):=by
 have c:=nG v.x w.x (eQ a.1) (eQ b.1);have d:=nG v.y w.y (eQ a.2) (eQ b.2);refine gA_ nf func264 mix ?_;rw[NV.sub,E4];simp(maxDischargeDepth:=99) [f264,aa,e2 c,e2 d]
theorem V3(v w:NV)(a:bc kQ v.q)(b:bc kQ w.q):aq prog 265 [gA v,gA w] (eF (v.bg w)):=by
 have c:=fU v.x w.y (eQ a.1) (eQ b.2);have d:=fU v.y w.x (eQ a.2) (eQ b.1);have e:=nG (v.x.mul w.y) (v.y.mul w.x) ((bh a.1 b.2).mono d_) ((bh a.2 b.1).mono d_);refine gA_ nf func265 mix ?_;rw[NV.bg];simp(maxDischargeDepth:=99) [f265,aa,e2 c,e2 d,e2 e]
theorem aER(t:aj)(i:Nat)(hi:i<t.cs.length)(j:t.cs.length<=1000000)(hn:∀p∈t.cs,eX p):aq prog 312 [bW t,.int .i64 i] (yw (dA (t.at i)) (dA (t.at (t.nx i)))):=by
 have a:=t.lA o_ i;have b:=JD (t.at i) (aj.fc hn hi);have c:=JD (t.at (t.nx i)) (aj.fc hn a);have w1:=cE (i:=i) o_;have e1:((i:Int)+1).tmod (t.cs.length:Int)=((t.nx i:Nat):Int):=by
  rw[aj.nx,a9,a8 o_];rfl
 have h:¬t.cs.length=0:=o_
 have g:¬t.cs=[]:=by intro e;rw[e]at hi;simp at hi
 have d:=aj.get hi;have f:=aj.get a;refine gA_ nf func312 mix ?_;rw[yw];simp(maxDischargeDepth:=99) [f312,aa,w1,e1,h,g,d,f,hi,a,e1_ b,e1_ c]
theorem aEV(t:aj):aq prog 263 [bW t] (.func 311 [] [.cM (bW t)]):=by
 refine gA_ nf func263 mix ?_;simp[f263];show iq [.box false (.p (bW t))] 7 (.p (bW t)) (bW t);rw[BD];exact Wk.refl _
noncomputable def BC(t:aj)(i:Nat):List PV:=[.int .i64 i,yw (dA (t.at i)) (dA (t.at (t.nx i)))]
theorem EN{t:aj}{i:Nat}(h:i<t.cs.length):((ce t.cs.length).map (BC t))[i]?=some (BC t i):=by
 rw[ea,ej h];rfl
theorem aQy(t:aj)(g:t.cs.length<=1000000)(hn:∀p∈t.cs,eX p):Stream prog 311 [] [.cM (bW t)] ((ce t.cs.length).map (BC t)):=by
 intro b k e H' hk a j d;rw[dg,dz]at hk d;refine iC nf (i_ func311) mix (by simp[f311]) ?_;simp[f311,aa];refine lp (α:=Nat) (fun i=>⟨[(7,.p (.int .i64 i)),(6,.p (.int .i64 t.cs.length)),(1,.p (.cM (bW t))),(0,.map b)],e i⟩) (fun i=>i<=k) (fun i=>k-i) 0 s_ ?_ (hr:=by simp;exact(a 0 o_).2) (hr2:=(a 0 o_).1);rintro i l
 by_cases hi:i<t.cs.length
 ·have f:=aER t i hi g hn;have h:=cE (i:=i) o_;simp[hi];refine c2 f ?_;simp
  by_cases c:i<k
  ·refine⟨e (i+1),_,j i _ c (EN hi),?_⟩;simp[h];exact rd (i+1) c (hr:=by simp;exact(a (i+1) c).2) (hr2:=(a (i+1) c).1)
  ·have:i=k:=by omega
   subst this;rcases d with⟨e1,_⟩|⟨y,e1,e2⟩
   ·omega
   ·rw[EN hi]at e1;injection e1 with e1
    subst e1;refine⟨H',_,e2,?_⟩;simp
 ·have:i=t.cs.length:=by omega
  subst this;rcases d with⟨e1,e2⟩|⟨y,e1,e2⟩
  ·have:t.cs.length=k:=by omega
   subst this;simp[e2]
  ·rw[ei (by simp;omega)]at e1;cases e1
noncomputable def Ba(t:aj)(v:NV)(L:fk)(i:Nat):al:=[.box false (.p (bW t)),.box false (.p (gA v)),.box false (.p (.int .i64 (t.tP v.q i))),.loop L]
theorem TD(t:aj)(v:NV)(l:t.cs.length<=1000000)(hn:∀p∈t.cs,eX p)(f:bc 3000 v.q):aq prog 204 [bW t,gA v] (.int .i64 (t.on v.q)):=by
 refine gA_ nf func204 mix ?_;simp[f204,aa];refine c1 (aEV t) ?_;simp;refine rf (aQy t l hn) rfl s_ (Ba t v) t.cs.length s_ (fun L=>rfl) ?_ ?_ ?_
 ·intro L a i hi;refine⟨rfl,by simp[Ba],fun _ hx=>?_⟩;simp[Ba]at hx⊢;exact hx
 ·intro L a i x hi hx;rw[EN hi]at hx;injection hx with hx
  subst hx;have b:=ic (aj.fc hn hi);have g:=ic (aj.fc hn (t.lA o_ i));have q1:bc 29 ((dA (t.at (t.nx i))).sub (dA (t.at i))).q:=by rw[NV.eH];exact gD g b
  have m:bc 3015 (v.sub (dA (t.at i))).q:=by rw[NV.eH];exact gD f b
  have h:=E6 (dA (t.at (t.nx i))) (dA (t.at i)) (g.mono d_) (b.mono d_);have j:=E6 v (dA (t.at i)) (f.mono d_) (b.mono d_);have k:=V3 ((dA (t.at (t.nx i))).sub (dA (t.at i))) (v.sub (dA (t.at i))) (q1.mono d_) (m.mono d_);have d:=nH (((dA (t.at (t.nx i))).sub (dA (t.at i))).bg (v.sub (dA (t.at i))));have c:bP (((dA (t.at (t.nx i))).sub (dA (t.at i))).bg (v.sub (dA (t.at i)))).q=t.side i v.q:=by
   rw[NV.mq,NV.eH,NV.eH];rfl
  rw[bP]at c;rw[c]at d;have hs:=aj.JF t v.q i;rw[J1]at hs;refine wG nf mix a rfl rfl k_ ?_;have e:=congrArg fk.env a;dsimp only at e;clear a c;generalize (dA (t.at (t.nx i))).sub (dA (t.at i))=W,v.sub (dA (t.at i))=U at*;generalize W.bg U=C at*;simp[Ba,BC,yw,aa];refine e2 h ?_;simp[aa];refine e2 j ?_;simp[aa];refine e2 k ?_;simp[aa];refine e1 d ?_;simp[aa];refine⟨r_,?_⟩;rw[<-hs];refine dJ.og s_ s_ s_ s_ ?_;simp;exact yV e s_
 ·intro L a;refine .inl ⟨s_,?_⟩;simp[Ba,aj.on]
theorem JG(s:List Nat)(hs:kG s)(h:cz s=0):aq prog 286 [.str s] (.int .i64 (fQ (aS s))):=by
 have o:=ie h;have d:=lZ s h hs.1;have c:=nH ⟨aS s,false⟩;have g:=lL 1 d_ d_;have e:=tC ⟨aS s,false⟩ (.int 1) (o.mono d_) ((show aJ 1 (NF.int 1).q from⟨d_,d_⟩).mono d_);have e2:(if(⟨aS s,false⟩:NF).q<0 then(-1:Int)else if(⟨aS s,false⟩:NF).q=0 then 0 else 1)=bP (aS s):=rfl;have e4:c8 (⟨aS s,false⟩:NF).q (NF.int 1).q=c8 (aS s) 1:=rfl;rw[e2]at c;rw[e4]at e;have f:=fun b=>jX b 3;refine gA_ nf func286 mix ?_;rw[fQ];clear e2 e4 o;generalize bP (aS s)=x,c8 (aS s) 1=y,(⟨aS s,false⟩:NF)=v at*
 by_cases a:x<0
 ·simp[f286,aa];refine c1 d ?_;simp[aa];refine e1_ c ?_;simp[a,aa];refine e2_ (f true) ?_;simp[bn];omega
 ·by_cases b:0<y
  ·simp[f286,aa];refine c1 d ?_;simp[aa];refine e1_ c ?_;simp[a,aa];refine e1_ g ?_;simp[a,aa];refine e2_ e ?_;simp[a,b,aa];refine e2_ (f true) ?_;simp[bn];omega
  ·simp[f286,aa];refine c1 d ?_;simp[aa];refine e1_ c ?_;simp[a,aa];refine e1_ g ?_;simp[a,aa];refine e2_ e ?_;simp[a,b,aa];refine e2_ (f false) ?_;simp[bn];omega
def sc(p:dT):Prop:=wx p/\cz p.a=0/\cz p.b=0
theorem aET(p o:dT)(r:sc p)(q:sc o):aq prog 285 [gd p,gd o] (.bool (iY o p)):=by
 obtain⟨⟨_,u,v⟩,l,m⟩:=r;obtain⟨⟨_,s,t⟩,j,k⟩:=q;have d:=lZ p.a l u.1;have e:=lZ o.b k t.1;have c:=tC ⟨aS p.a,false⟩ ⟨aS o.b,false⟩ ((ie l).mono d_) ((ie k).mono d_);have g:=lZ o.a j s.1;have i:=lZ p.b m v.1;have f:=tC ⟨aS o.a,false⟩ ⟨aS p.b,false⟩ ((ie j).mono d_) ((ie m).mono d_);dsimp only at c f;refine gA_ nf func285 mix ?_;rw[iY];generalize c8 (aS p.a) (aS o.b)=x,c8 (aS o.a) (aS p.b)=y,(⟨aS p.a,false⟩:NF)=v1,(⟨aS p.b,false⟩:NF)=v2,(⟨aS o.a,false⟩:NF)=v3,(⟨aS o.b,false⟩:NF)=v4 at*
 by_cases c1:o.cR=p.cR
 case neg=>
  have n:¬p.cR=o.cR:=fun h=>c1 h.symm;simp[f285,aa,c1,n]
 by_cases c2:x<=0
 ·by_cases c3:y<=0
  ·simp(maxDischargeDepth:=99) [f285,aa,c1,c2,c3,e1_ d,e1_ e,e2_ c,e1_ g,e1_ i,e2_ f]
  ·simp(maxDischargeDepth:=99) [f285,aa,c1,c2,c3,e1_ d,e1_ e,e2_ c,e1_ g,e1_ i,e2_ f]
 ·simp(maxDischargeDepth:=99) [f285,aa,c1,c2,e1_ d,e1_ e,e2_ c]
theorem V0(p o:dT):dE prog 283 [.box false (.p (gd p))] [.p (gd o),.ptr 0 []] [.box false (.p (gd p))] (.p (.bool (decide (o.name=p.name)))):=by
 refine iC nf (i_ func283) mix (by simp[f283]) ?_
 by_cases h:o.name=p.name
 ·simp[f283,aa,h];exact dJ.og s_ s_ s_ s_ s_
 ·simp[f283,aa,h];exact dJ.og s_ s_ s_ s_ s_
theorem V7(p:dT)(l:List dT)(h:l.length<=1000000):
 dE prog 135 [.box false (.p (gd p))] [.p (.seq (l.map gd)),.func 283 [] [.ptr 0 []]] [.box false (.p (gd p))] (.p (.int .i64 (idxFrom (fun o=>decide (o.name=p.name)) l 0))):=by
 refine iC nf (i_ func135) mix (by simp[f135]) ?_;simp[f135];refine lp (α:=Nat) (fun i=>⟨[(8,.p (.int .i64 i)),(7,.p (.int .i64 l.length)),(1,.func 283 [] [.ptr 0 []]),(0,.p (.seq (l.map gd)))],[.box false (.p (gd p))]⟩) (fun i=>i<=l.length/\idxFrom (fun o=>decide (o.name=p.name)) l 0=idxFrom (fun o=>decide (o.name=p.name)) (l.drop i) i) (fun i=>l.length-i) 0 s_ ?_;rintro i ⟨k1,k2⟩;have a:=cE (i:=i) o_
 by_cases hi:i<l.length
 ·rw[bi hi,idxFrom]at k2;simp[hi];refine cf (V0 p l[i]) [0] ?_
  by_cases hk:l[i].name=p.name
  ·simp[hk]at k2;simp[hk,k2,bA]
  ·simp[hk]at k2;simp[hk,a,bA];exact rd (i+1) ⟨hi,k2⟩
 ·have:i=l.length:=by omega
  subst this;simp[idxFrom]at k2;simp[k2]
theorem VV(p:dT)(l:List dT)(h:l.length<=1000000):
 dE prog 282 [.box false (.p (gd p))] [.p (.seq (l.map gd)),.func 283 [] [.ptr 0 []]] [.box false (.p (gd p))] (.p (.bool (l.any (fun o=>decide (o.name=p.name))))):=by
 refine iC nf (i_ func282) mix (by simp[f282]) ?_;simp[f282];refine cf (V7 p l h) [0] ?_;have:=tZ (fun o=>decide (o.name=p.name)) l 0;simp[bA,<-this]
theorem VZ(p o:de):dE prog 288 [.box false (.p (iR p))] [.p (iR o),.ptr 0 []] [.box false (.p (iR p))] (.p (.bool (decide (o.name=p.name)))):=by
 refine iC nf (i_ func288) mix (by simp[f288]) ?_
 by_cases h:o.name=p.name
 ·simp[f288,aa,h];exact dJ.og s_ s_ s_ s_ s_
 ·simp[f288,aa,h];exact dJ.og s_ s_ s_ s_ s_
theorem VI(p:de)(l:List de)(h:l.length<=1000000):
 dE prog 323 [.box false (.p (iR p))] [.p (.seq (l.map iR)),.func 288 [] [.ptr 0 []]] [.box false (.p (iR p))] (.p (.int .i64 (idxFrom (fun o=>decide (o.name=p.name)) l 0))):=by
 refine iC nf (i_ func323) mix (by simp[f323]) ?_;simp[f323];refine lp (α:=Nat) (fun i=>⟨[(8,.p (.int .i64 i)),(7,.p (.int .i64 l.length)),(1,.func 288 [] [.ptr 0 []]),(0,.p (.seq (l.map iR)))],[.box false (.p (iR p))]⟩) (fun i=>i<=l.length/\idxFrom (fun o=>decide (o.name=p.name)) l 0=idxFrom (fun o=>decide (o.name=p.name)) (l.drop i) i) (fun i=>l.length-i) 0 s_ ?_;rintro i ⟨k1,k2⟩;have a:=cE (i:=i) o_
 by_cases hi:i<l.length
 ·rw[bi hi,idxFrom]at k2;simp[hi];refine cf (VZ p l[i]) [0] ?_
  by_cases hk:l[i].name=p.name
  ·simp[hk]at k2;simp[hk,k2,bA]
  ·simp[hk]at k2;simp[hk,a,bA];exact rd (i+1) ⟨hi,k2⟩
 ·have:i=l.length:=by omega
  subst this;simp[idxFrom]at k2;simp[k2]
theorem VU(p:de)(l:List de)(h:l.length<=1000000):
 dE prog 287 [.box false (.p (iR p))] [.p (.seq (l.map iR)),.func 288 [] [.ptr 0 []]] [.box false (.p (iR p))] (.p (.bool (l.any (fun o=>decide (o.name=p.name))))):=by
 refine iC nf (i_ func287) mix (by simp[f287]) ?_;simp[f287];refine cf (VI p l h) [0] ?_;have:=tZ (fun o=>decide (o.name=p.name)) l 0;simp[bA,<-this]
theorem VX(p:dT)(c:sc p)(l:List dT)(h:l.length<=1000000)(b:∀o∈l,sc o):
 aq prog 135 [.seq (l.map gd),.func 285 [gd p] []] (.int .i64 (idxFrom (fun o=>iY o p) l 0)):=by
 refine gA_ nf func135 mix ?_;simp[f135];refine lp (α:=Nat) (fun i=>⟨[(8,.p (.int .i64 i)),(7,.p (.int .i64 l.length)),(1,.p (.func 285 [gd p] [])),(0,.p (.seq (l.map gd)))],[]⟩) (fun i=>i<=l.length/\idxFrom (fun o=>iY o p) l 0=idxFrom (fun o=>iY o p) (l.drop i) i) (fun i=>l.length-i) 0 s_ ?_;rintro i ⟨k1,k2⟩;have d:=cE (i:=i) o_
 by_cases hi:i<l.length
 ·rw[bi hi,idxFrom]at k2;have a:=aET p l[i] c (b _ (c9 hi));simp[hi];refine c2 a ?_;cases hk:iY l[i] p
  ·simp[hk]at k2;simp[d];exact rd (i+1) ⟨hi,k2⟩
  ·simp[hk]at k2;simp[k2]
 ·have:i=l.length:=by omega
  subst this;simp[idxFrom]at k2;simp[k2]
theorem VD(p:dT)(b:sc p)(l:List dT)(h:l.length<=1000000)(a:∀o∈l,sc o):
 aq prog 282 [.seq (l.map gd),.func 285 [gd p] []] (.bool (l.any (fun o=>iY o p))):=by
 refine gA_ nf func282 mix ?_;simp[f282];refine c2 (VX p b l h a) ?_;have:=tZ (fun o=>iY o p) l 0;simp[<-this]
def mW(n:Nat)(c:List dT)(p:dT):Int:=bN [bn (!isName p.name) 8,bn (c.any fun o=>decide (o.name=p.name)) 9,bn (decide (p.cR<0\/(n:Int)<=p.cR)) 10,cz p.a,cz p.b]
def Et(c:List dT)(p:dT):Int:=bN [fQ (aS p.a),fQ (aS p.b),bn (decide (0<c8 (aS p.a) (aS p.b))) 11,bn (c.any fun o=>iY o p) 17]
theorem Bp(q:Rat):fQ q=0\/fQ q=3:=by
 rw[fQ];split
 ·exact .inr rfl
 ·exact .inl rfl
theorem VS(n:Nat)(e:List dT)(p:dT):ig n e p=if mW n e p=0 then Et e p else mW n e p:=by
 rw[ig,mW,Et];generalize cz p.a=ca;generalize cz p.b=i;have j:=Bp (aS p.a);have h:=Bp (aS p.b);generalize fQ (aS p.a)=r,fQ (aS p.b)=s at*;generalize c8 (aS p.a) (aS p.b)=y;generalize (e.any fun o=>iY o p)=m;generalize (e.any fun o=>decide (o.name=p.name))=a;have k:max (0:Int) 3=3:=rfl;have l:max (3:Int) 0=3:=rfl;cases q:isName p.name
 ·simp[bN,bn]
 cases a
 case true=>simp[bN,bn]
 by_cases c:p.cR<0\/(n:Int)<=p.cR
 ·simp[bN,bn,c]
 by_cases d:ca=0
 case neg=>simp[bN,bn,c,d]
 by_cases f:i=0
 case neg=>simp[bN,bn,c,d,f]
 rcases j with rfl|rfl
 ·rcases h with rfl|rfl
  ·by_cases g:0<y
   ·simp[bN,bn,c,d,f,g]
   ·cases m<;>simp[bN,bn,c,d,f,g]
  ·simp[bN,bn,c,d,f,k]
 ·rcases h with rfl|rfl
  ·simp[bN,bn,c,d,f,l]
  ·simp[bN,bn,c,d,f]
theorem VK{n:Nat}{bef:List dT}{p:dT}(h:mW n bef p=0):cz p.a=0/\cz p.b=0:=by
 rw[mW,rk]at h;exact⟨h _ s_,h _ s_⟩
theorem VC(t:aj)(p:dT)(d:List dT)(N:t.cs.length<=1000000)(I:wx p)(m:d.length<=1000000)(H:∀o∈d,sc o):
 aq prog 225 [bW t,gd p,.seq (d.map gd)] (.int .i64 (ig t.cs.length d p)):=by
 obtain⟨E,j,k⟩:=I;have k1:=VV p d m;have k2:=EU p.name E.1;have k3:=jX (!isName p.name) 8;have k4:=jX (d.any fun o=>decide (o.name=p.name)) 9;have k5:=fun b=>jX b 10;have k6:=DJ p.a j.1 j.2;have k7:=DJ p.b k.1 k.2;have k8:=ud [bn (!isName p.name) 8,bn (d.any fun o=>decide (o.name=p.name)) 9,bn (decide (p.cR<0\/(t.cs.length:Int)<=p.cR)) 10,cz p.a,cz p.b] s_;have g:=VK (n:=t.cs.length) (bef:=d) (p:=p);rw[VS];have s:=fun h:mW t.cs.length d p=0=>VD p ⟨⟨E,j,k⟩,(g h).1,(g h).2⟩ d m H;have u:=fun h:mW t.cs.length d p=0=>JG p.a j (g h).1;have v:=fun h:mW t.cs.length d p=0=>JG p.b k (g h).2;have w:=fun h:mW t.cs.length d p=0=>lZ p.a (g h).1 j.1;have x:=fun h:mW t.cs.length d p=0=>lZ p.b (g h).2 k.1;have q:=fun h:mW t.cs.length d p=0=>tC ⟨aS p.a,false⟩ ⟨aS p.b,false⟩ ((ie (g h).1).mono d_) ((ie (g h).2).mono d_);dsimp only at q;have D:=jX (decide (0<c8 (aS p.a) (aS p.b))) 11;have z:=jX (d.any fun o=>iY o p) 17;have i:=ud [fQ (aS p.a),fQ (aS p.b),bn (decide (0<c8 (aS p.a) (aS p.b))) 11,bn (d.any fun o=>iY o p) 17] s_;have B:mW t.cs.length d p=bN [bn (!isName p.name) 8,bn (d.any fun o=>decide (o.name=p.name)) 9,bn (decide (p.cR<0\/(t.cs.length:Int)<=p.cR)) 10,cz p.a,cz p.b]:=rfl;have C:Et d p=bN [fQ (aS p.a),fQ (aS p.b),bn (decide (0<c8 (aS p.a) (aS p.b))) 11,bn (d.any fun o=>iY o p) 17]:=rfl;rw[<-B]at k8;rw[<-C]at i;clear B C g;generalize mW t.cs.length d p=l,Et d p=M,cz p.a=J,cz p.b=K,fQ (aS p.a)=V,fQ (aS p.b)=W,c8 (aS p.a) (aS p.b)=A,(d.any fun o=>decide (o.name=p.name))=F,(d.any fun o=>iY o p)=L,isName p.name=G,(⟨aS p.a,false⟩:NF)=v1,(⟨aS p.b,false⟩:NF)=v2 at*;refine gA_ nf func225 mix ?_;have r:∀b:Bool,decide (p.cR<0\/(t.cs.length:Int)<=p.cR)=b->aq prog 201 [.bool b,.int .i64 10] (.int .i64 (bn b 10))/\aq prog 200 [.seq [.int .i64 (bn (!G) 8),.int .i64 (bn F 9),.int .i64 (bn b 10),.int .i64 J,.int .i64 K]] (.int .i64 l):=fun b m=>by
  rw[m]at k8;exact⟨k5 b,by simpa using k8⟩
 simp at i;have y:aq prog 201 [.bool (decide (0<A)),.int .i64 11] (.int .i64 (bn (decide (0<A)) 11)):=D;clear k5 k8 D;generalize O:bn (!G) 8=w1,P:bn F 9=S,Q:bn (decide (0<A)) 11=T,R:bn L 17=U at*;simp[f225,-aX,aa];rw[aX];simp[-aX,aa];rw[aX];simp[-aX,aa];refine cf k1 [1] ?_;simp[-aX,aa,bA,sig]
 by_cases e:p.cR<0
 ·obtain⟨f1,f2⟩:=r true (by simp[e]);rw[aX,aX];simp[-aX,aa];refine e1_ k2 ?_;simp[-aX,aa];refine e2_ k3 ?_;simp[-aX,aa];refine e2_ k4 ?_;simp[-aX,aa,e];refine e2_ f1 ?_;simp[-aX,aa,e];refine e1_ k6 ?_;simp[-aX,aa,e];refine e1_ k7 ?_;simp[-aX,aa,e];refine ep f2 t_ t_ ?_;simp[-aX,aa,e];refine⟨r_,?_⟩
  by_cases c:l=0
  case neg=>simp[c,aa]
  simp[c,aa];refine c2_ (s c) ?_;simp[aa];refine e1_ (u c) ?_;simp[aa];refine e1_ (v c) ?_;simp[aa];refine e1_ (w c) ?_;simp[aa];refine e1_ (x c) ?_;simp[aa];refine e2_ (q c) ?_;simp[aa];refine e2_ y ?_;simp[aa];refine e2_ z ?_;simp[aa];refine ep i t_ t_ ?_;simp[aa];exact⟨by repeat' first|rfl|apply am,fun h=>(h c).elim⟩
 by_cases f:(t.cs.length:Int)<=p.cR
 ·obtain⟨f1,f2⟩:=r true (by simp[e,f]);rw[aX,aX];simp[-aX,aa];refine e1_ k2 ?_;simp[-aX,aa];refine e2_ k3 ?_;simp[-aX,aa];refine e2_ k4 ?_;simp[-aX,aa,e,f];refine e2_ f1 ?_;simp[-aX,aa,e,f];refine e1_ k6 ?_;simp[-aX,aa,e,f];refine e1_ k7 ?_;simp[-aX,aa,e,f];refine ep f2 t_ t_ ?_;simp[-aX,aa,e,f];refine⟨r_,?_⟩
  by_cases c:l=0
  case neg=>simp[c,aa]
  simp[c,aa];refine c2_ (s c) ?_;simp[aa];refine e1_ (u c) ?_;simp[aa];refine e1_ (v c) ?_;simp[aa];refine e1_ (w c) ?_;simp[aa];refine e1_ (x c) ?_;simp[aa];refine e2_ (q c) ?_;simp[aa];refine e2_ y ?_;simp[aa];refine e2_ z ?_;simp[aa];refine ep i t_ t_ ?_;simp[aa];exact⟨by repeat' first|rfl|apply am,fun h=>(h c).elim⟩
 ·obtain⟨f1,f2⟩:=r false (by simp[e,f]);rw[aX,aX];simp[-aX,aa];refine e1_ k2 ?_;simp[-aX,aa];refine e2_ k3 ?_;simp[-aX,aa];refine e2_ k4 ?_;simp[-aX,aa,e,f];refine e2_ f1 ?_;simp[-aX,aa,e,f];refine e1_ k6 ?_;simp[-aX,aa,e,f];refine e1_ k7 ?_;simp[-aX,aa,e,f];refine ep f2 t_ t_ ?_;simp[-aX,aa,e,f];refine⟨r_,?_⟩
  by_cases c:l=0
  case neg=>simp[c,aa]
  simp[c,aa];refine c2_ (s c) ?_;simp[aa];refine e1_ (u c) ?_;simp[aa];refine e1_ (v c) ?_;simp[aa];refine e1_ (w c) ?_;simp[aa];refine e1_ (x c) ?_;simp[aa];refine e2_ (q c) ?_;simp[aa];refine e2_ y ?_;simp[aa];refine e2_ z ?_;simp[aa];refine ep i t_ t_ ?_;simp[aa];exact⟨by repeat' first|rfl|apply am,fun h=>(h c).elim⟩
def kJ(a:List de)(s:de):Int:=bN [bn (!isName s.name) 8,bn (a.any fun o=>decide (o.name=s.name)) 9,eB s.pt]
theorem VQ(t:aj)(b:List de)(s:de):kM t b s=if kJ b s=0 then bn (decide (t.on (vP s.pt)<0)) 16 else kJ b s:=by
 rw[kM,kJ];generalize eB s.pt=c;generalize (b.any fun o=>decide (o.name=s.name))=a;cases e:isName s.name
 ·simp[bN,bn]
 cases a
 case true=>simp[bN,bn]
 by_cases d:c=0
 case neg=>simp[bN,bn,d]
 simp[bN,bn,d]
theorem JN{bef:List de}{s:de}(h:kJ bef s=0):eB s.pt=0:=by
 rw[kJ,rk]at h;exact h _ s_
theorem VW(t:aj)(s:de)(a:List de)(l:t.cs.length<=1000000)(hn:∀p∈t.cs,eX p)(hs:qt s)(k:a.length<=1000000):
 aq prog 227 [bW t,iR s,.seq (a.map iR)] (.int .i64 (kM t a s)):=by
 obtain⟨r,g⟩:=hs;have k1:=VU s a k;have k2:=EU s.name r.1;have k3:=jX (!isName s.name) 8;have k4:=jX (a.any fun o=>decide (o.name=s.name)) 9;have k6:=B8 s.pt g;have k8:=ud [bn (!isName s.name) 8,bn (a.any fun o=>decide (o.name=s.name)) 9,eB s.pt] s_;have c:=JN (bef:=a) (s:=s);rw[VQ];have m:=fun h:kJ a s=0=>Iw s.pt (kn (c h)).1 (kn (c h)).2 g;have f:=fun h:kJ a s=0=>TD t (.from s.pt) l hn (FG ⟨(ie (kn (c h)).1).mono d_,(ie (kn (c h)).2).mono d_⟩);have n:=jX (decide (t.on (vP s.pt)<0)) 16;rw[iD]at f;have e:kJ a s=bN [bn (!isName s.name) 8,bn (a.any fun o=>decide (o.name=s.name)) 9,eB s.pt]:=rfl;rw[<-e]at k8;clear e c;generalize kJ a s=d,t.on (vP s.pt)=y,eB s.pt=u,(a.any fun o=>decide (o.name=s.name))=i,isName s.name=j,NV.from s.pt=v1 at*;refine gA_ nf func227 mix ?_;have q:aq prog 200 [.seq [.int .i64 (bn (!j) 8),.int .i64 (bn i 9),.int .i64 u]] (.int .i64 d):=by simpa using k8
 clear k8;generalize v:bn (!j) 8=w1,w:bn i 9=z,x:bn (decide (y<0)) 16=A at*;simp[f227,aa];refine cf k1 [1] ?_;simp[aa,bA,sig];refine e1_ k2 ?_;simp[aa];refine e2_ k3 ?_;simp[aa];refine e2_ k4 ?_;simp[aa];refine e1_ k6 ?_;simp[aa];refine ep q t_ t_ ?_;simp[aa];refine⟨r_,?_⟩
 by_cases b:d=0
 case neg=>simp[b,aa]
 simp[b,aa];refine e1_ (m b) ?_;simp[aa];refine e2_ (f b) ?_;simp[aa];refine e2_ n ?_;simp[aa];exact fun h=>(h b).elim
def lT{α:Type}(b:Nat)(a:List α->α->Int)(l:List α):Int:=if b<l.length then 5 else mn a l
theorem Di{α:Type}{n:Nat}{f:α->PV}(h:∀a,aa (.p (f a))≠.bad/\bU prog (aa (.p (f a)))=n)(l:List α):fZ prog n (l.map (AV.p∘f)):=zD.2 fun v b=>by
 obtain⟨a,_,rfl⟩:=cx.1 b;exact h a
theorem OI(l:List dT):fZ prog 4 (l.map (AV.p∘gd)):=Di (fun r=>⟨by simp[aa],by simp[aa]⟩) l
theorem OJ(l:List de):fZ prog 3 (l.map (AV.p∘iR)):=Di (fun r=>⟨by simp[aa],by simp[aa]⟩) l
theorem Wa(t:aj)(a:Nat)(h:t.cs.length<=1000000)(m:t.aV.length<=1000000)(c:∀p∈t.aV,wx p):
 aq prog 224 [.seq (t.aV.map gd),.int .i64 a,.func 225 [bW t] []] (.int .i64 (lT a (ig t.cs.length) t.aV)):=by
 refine gA_ nf func224 mix ?_;rw[lT]
 by_cases c1:a<t.aV.length
 ·have cI:(a:Int)<t.aV.length:=by omega
  rw[if_pos c1];simp[f224,cI]
 have d:¬(a:Int)<t.aV.length:=o_
 rw[if_neg c1];simp[f224,d];refine lp (α:=Nat) (fun i=>⟨[(16,.p (.int .i64 i)),(15,.p (.int .i64 t.aV.length)),(14,.p (.seq (t.aV.map gd))),(0,.p (.seq (t.aV.map gd))),(2,.p (.func 225 [bW t] []))],[]⟩) (fun i=>i<=t.aV.length/\∀j,j<i->ir (ig t.cs.length) t.aV j=0) (fun i=>t.aV.length-i) 0 s_ ?_;rintro i ⟨k1,k2⟩
 by_cases hk:i<t.aV.length
 ·have gk:=aj.kI hk;have l:=cE (i:=i) o_;have b:=VC t (t.pk i) (t.aV.take i) h (c _ (be gk)) (by rw[cb];omega) (fun o k=>by
   obtain⟨j,f,rfl⟩:=bw.1 k;rw[cb]at f;rw[db];have:=k2 j o_;have g:=aj.kI (t:=t) (i:=j) o_;rw[ir,g]at this;rw[aj.I9 o_];exact⟨c _ (be g),Bx this⟩)
  rw[dp]at b
  by_cases he:ig t.cs.length (t.aV.take i) (t.pk i)=0
  ·rw[he]at b;have:=wK k2 gk he;simp[hk,gk,aa];refine⟨⟨k1,OI _⟩,?_⟩;refine e3_ b ?_;simp[l,aa];exact rd (i+1) ⟨hk,this⟩
  ·have e:=wL k2 gk he;rw[e];simp[hk,gk,aa];refine⟨⟨k1,OI _⟩,?_⟩;simp[he,aa,e3_ b]
 ·have:i=t.aV.length:=by omega
  subst this;rw[qE.2 k2];simp
theorem V9(t:aj)(a:Nat)(e:t.cs.length<=1000000)(hn:∀p∈t.cs,eX p)(h:t.an.length<=1000000)(f:∀p∈t.an,qt p):
 aq prog 226 [.seq (t.an.map iR),.int .i64 a,.func 227 [bW t] []] (.int .i64 (lT a (kM t) t.an)):=by
 refine gA_ nf func226 mix ?_;rw[lT]
 by_cases c1:a<t.an.length
 ·have cI:(a:Int)<t.an.length:=by omega
  rw[if_pos c1];simp[f226,cI]
 have c:¬(a:Int)<t.an.length:=o_
 rw[if_neg c1];simp[f226,c];refine lp (α:=Nat) (fun i=>⟨[(16,.p (.int .i64 i)),(15,.p (.int .i64 t.an.length)),(14,.p (.seq (t.an.map iR))),(0,.p (.seq (t.an.map iR))),(2,.p (.func 227 [bW t] []))],[]⟩) (fun i=>i<=t.an.length/\∀j,j<i->ir (kM t) t.an j=0) (fun i=>t.an.length-i) 0 s_ ?_;rintro i ⟨k1,k2⟩
 by_cases hk:i<t.an.length
 ·have gk:=aj.eK hk;have g:=cE (i:=i) o_;have b:=VW t (t.sp i) (t.an.take i) e hn (f _ (be gk)) (by rw[cb];omega);rw[dp]at b
  by_cases he:kM t (t.an.take i) (t.sp i)=0
  ·rw[he]at b;have:=wK k2 gk he;simp[hk,gk,aa];refine⟨⟨k1,OJ _⟩,?_⟩;refine e3_ b ?_;simp[g,aa];exact rd (i+1) ⟨hk,this⟩
  ·have d:=wL k2 gk he;rw[d];simp[hk,gk,aa];refine⟨⟨k1,OJ _⟩,?_⟩;simp[he,aa,e3_ b]
 ·have:i=t.an.length:=by omega
  subst this;rw[qE.2 k2];simp
def pM(t:aj):Int:=bN [bn (decide ((t.cs.length:Int)<3)) 2,bn (decide (12<(t.cs.length:Int))) 5,bn (t.cs.any gT) 3]
def rZ(t:aj):Int:=bN [bn (!t.gh) 15,bn (decide (t.aD<1\/1000<t.aD)) 3,lT 12 (ig t.cs.length) t.aV]
theorem JB{t:aj}(h:pM t=0):3<=t.cs.length/\t.cs.length<=12/\∀p∈t.cs,eX p:=by
 rw[pM,rk]at h;have b:=h (bn (decide ((t.cs.length:Int)<3)) 2) s_;have d:=h (bn (decide (12<(t.cs.length:Int))) 5) s_;have a:=h (bn (t.cs.any gT) 3) s_;refine⟨?_,?_,fun p e=>JJ ?_⟩
 ·by_cases c:(t.cs.length:Int)<3
  ·simp[bn,c]at b
  ·omega
 ·by_cases c:12<(t.cs.length:Int)
  ·simp[bn,c]at d
  ·omega
 ·cases hf:gT p
  ·rfl
  ·have:t.cs.any gT=true:=b1.2 ⟨p,e,hf⟩;rw[this]at a;simp[bn]at a
theorem ER(t:aj):gH t=if pM t=0 then(if rZ t=0 then lT 256 (kM t) t.an else rZ t)else pM t:=by
 rw[gH,pM,rZ,lT,lT]
 by_cases c1:t.cs.length<3
 ·have:(t.cs.length:Int)<3:=by omega
  simp[bN,bn,c1,this]
 have b:¬(t.cs.length:Int)<3:=o_
 by_cases c2:12<t.cs.length
 ·have:(12:Int)<t.cs.length:=by omega
  simp[bN,bn,c1,c2,b,this]
 have c:¬(12:Int)<t.cs.length:=o_
 generalize t.cs.any gT=a;cases a
 case true=>simp[bN,bn,c1,c2,b,c]
 cases t.gh
 ·simp[bN,bn,c1,c2,b,c]
 by_cases c3:t.aD<1\/1000<t.aD
 ·simp[bN,bn,c1,c2,b,c,c3]
 by_cases c4:12<t.aV.length
 ·simp[bN,bn,c1,c2,b,c,c3,c4]
 generalize mn (ig t.cs.length) t.aV=e
 by_cases c5:e=0
 ·simp[bN,bn,c1,c2,b,c,c3,c4,c5]
 ·simp[bN,bn,c1,c2,b,c,c3,c4,c5]
theorem VF(t:aj)(v:iu t):aq prog 124 [bW t] (.int .i64 (gH t)):=by
 obtain⟨j,z,A,s,u⟩:=v;have k1:=jX (decide ((t.cs.length:Int)<3)) 2;have k2:=jX (decide (12<(t.cs.length:Int))) 5;have k3:=VA t.cs j;have k4:=jX (t.cs.any gT) 3;have k5:=ud [bn (decide ((t.cs.length:Int)<3)) 2,bn (decide (12<(t.cs.length:Int))) 5,bn (t.cs.any gT) 3] s_;have z1:=JB (t:=t);rw[ER];have w:=fun h:pM t=0=>Wb t (z1 h).1 j (z1 h).2.2;have x:=jX (!t.gh) 15;have q:=fun b=>jX b 3;have l:=Wa t 12 j z s;have i:=ud [bn (!t.gh) 15,bn (decide (t.aD<1\/1000<t.aD)) 3,lT 12 (ig t.cs.length) t.aV] s_;have m:=fun h:pM t=0=>V9 t 256 j (z1 h).2.2 A u;have o:pM t=bN [bn (decide ((t.cs.length:Int)<3)) 2,bn (decide (12<(t.cs.length:Int))) 5,bn (t.cs.any gT) 3]:=rfl;have p:rZ t=bN [bn (!t.gh) 15,bn (decide (t.aD<1\/1000<t.aD)) 3,lT 12 (ig t.cs.length) t.aV]:=rfl;rw[<-o]at k5;rw[<-p]at i;clear o p z1;generalize pM t=n,rZ t=g,lT 12 (ig t.cs.length) t.aV=E,lT 256 (kM t) t.an=L,t.cs.any gT=F,t.gh=G,H:bn (decide ((t.cs.length:Int)<3)) 2=w1,I:bn (decide (12<(t.cs.length:Int))) 5=B at*;generalize J:bn F 3=C,K:bn (!G) 15=D at*;have k:∀b:Bool,decide (t.aD<1\/1000<t.aD)=b->aq prog 201 [.bool b,.int .i64 3] (.int .i64 (bn b 3))/\aq prog 200 [.seq [.int .i64 D,.int .i64 (bn b 3),.int .i64 E]] (.int .i64 g):=fun b r=>by
  rw[r]at i;exact⟨q b,by simpa using i⟩
 have y:aq prog 200 [.seq [.int .i64 w1,.int .i64 B,.int .i64 C]] (.int .i64 n):=by simpa using k5
 clear i q k5;refine gA_ nf func124 mix ?_;simp[f124,aa];refine e2_ k1 ?_;simp[aa];refine e2_ k2 ?_;simp[aa];refine e2_ k3 ?_;simp[aa];refine e2_ k4 ?_;simp[aa];refine ep y t_ t_ ?_;simp[aa];refine⟨r_,?_⟩
 by_cases a:n=0
 case neg=>simp[a,aa]
 simp[a,aa];refine e1_ (w a) ?_;simp[aa];refine e2_ x ?_;simp[aa]
 by_cases r1:t.aD<1
 ·have c:¬1<=t.aD:=by omega
  obtain⟨f1,f2⟩:=k true (by simp[r1]);simp[r1,c,aa];refine e2_ f1 ?_;simp[r1,c,aa];refine e3_ l ?_;simp[r1,c,aa];refine ep f2 t_ t_ ?_;simp[r1,c,aa];refine⟨r_,?_⟩
  by_cases d:g=0
  case neg=>simp[a,d,aa]
  simp[a,d,aa];refine c3_ (m a) ?_;simp[a,d,aa]
 have c:1<=t.aD:=o_
 by_cases e:1000<t.aD
 ·have f:¬t.aD<=1000:=by omega
  obtain⟨f1,f2⟩:=k true (by simp[r1,e]);simp[r1,c,e,f,aa];refine e2_ f1 ?_;simp[r1,c,e,f,aa];refine e3_ l ?_;simp[r1,c,e,f,aa];refine ep f2 t_ t_ ?_;simp[r1,c,e,f,aa];refine⟨r_,?_⟩
  by_cases d:g=0
  case neg=>simp[a,d,aa]
  simp[a,d,aa];refine c3_ (m a) ?_;simp[a,d,aa]
 ·have f:t.aD<=1000:=by omega
  obtain⟨f1,f2⟩:=k false (by simp[r1,e]);simp[r1,c,e,f,aa];refine e2_ f1 ?_;simp[r1,c,e,f,aa];refine e3_ l ?_;simp[r1,c,e,f,aa];refine ep f2 t_ t_ ?_;simp[r1,c,e,f,aa];refine⟨r_,?_⟩
  by_cases d:g=0
  case neg=>simp[a,d,aa]
  simp[a,d,aa];refine c3_ (m a) ?_;simp[a,d,aa]
noncomputable def vX(i:Nat)(a w:NV):PV:=.st 157 [.int .i64 i,cV a,cV w]
@[simp] theorem aUX(i:Nat)(a w:NV):aK (vX i a w)=.agg 157:=rfl
@[simp] theorem aTn(i:Nat)(a w:NV):cm (vX i a w)=[.int .i64 i,cV a,cV w]:=rfl
@[simp] theorem aSB:prog.cellsOf 157=17:=k_
def aj.cG(t:aj)(i:Nat):NV:=(dA (t.at (t.nx i))).sub (dA (t.at i))
theorem aj.rW(t:aj)(i:Nat):(t.cG i).q=t.bI i:=by rw[aj.cG,NV.eH];rfl
theorem JM(p:fg)(h:eX p):aq prog 191 [cX p] (cV (dA p)):=by
 simp only[eX]at h;have a:=lL p.x o_ o_;have b:=lL p.y o_ o_;refine gA_ nf func191 mix ?_;rw[dA,tj];simp(maxDischargeDepth:=99) [f191,aa,e1 a,e1 b]
theorem aEl(t:aj):aq prog 151 [bW t] (.func 241 [] [.cM (bW t)]):=by
 refine gA_ nf func151 mix ?_;simp[f151];show iq [.box false (.p (bW t))] 7 (.p (bW t)) (bW t);rw[BD];exact Wk.refl _
noncomputable def uc(t:aj)(i:Nat):List PV:=[vX i (dA (t.at i)) (t.cG i)]
def iL(t:aj)(i:Nat):al:=[.box false (.p (cX (t.at i))),.box false (.p (cX (t.at (t.nx i))))]
theorem EP{t:aj}{i:Nat}(h:i<t.cs.length):((ce t.cs.length).map (uc t))[i]?=some (uc t i):=by
 rw[ea,ej h];rfl
theorem aQx(t:aj)(F:t.cs.length<=1000000)(hn:∀p∈t.cs,eX p):J8 prog 241 [] [.cM (bW t)] ((ce t.cs.length).map (uc t)) (iL t):=by
 intro b k d E H' hk a B g;rw[dg,dz]at hk g;refine iC nf (i_ func241) mix (by simp[f241]) ?_;simp[f241,aa];refine lp (α:=Nat) (fun i=>⟨[(9,.p (.int .i64 i)),(8,.p (.int .i64 t.cs.length)),(7,.p (.seq (t.cs.map cX))),(1,.p (.cM (bW t))),(0,.map b)],d i⟩) (fun i=>i<=k) (fun i=>k-i) 0 s_ ?_ (hr:=by simp;exact(a 0 o_).2) (hr2:=(a 0 o_).1);rintro i x
 by_cases hi:i<t.cs.length
 ·have n:=cE (i:=i) o_;have h:=t.lA o_ i;have v:=aj.get hi;have w:=aj.get h;have e1:((i:Int)+1).tmod (t.cs.length:Int)=((t.nx i:Nat):Int):=by
   rw[aj.nx,a9,a8 o_];rfl
  have A:¬t.cs.length=0:=o_
  have z:¬t.cs=[]:=by intro e;rw[e]at hi;simp at hi
  have C:=ic (aj.fc hn hi);have D:=ic (aj.fc hn h);have j:=JM (t.at i) (aj.fc hn hi);have q:=JM (t.at (t.nx i)) (aj.fc hn h);have l:=vR (dA (t.at (t.nx i))) (dA (t.at i)) (D.mono d_) (C.mono d_);have r:(dA (t.at (t.nx i))).sub (dA (t.at i))=t.cG i:=rfl;rw[r]at l;simp[hi,n,e1,A,z,v,w,aa];refine⟨r_,?_⟩;refine e1_ j ?_;simp[aa];refine e1_ q ?_;simp[aa];refine e1_ j ?_;simp[aa];refine e2_ l ?_;simp[aa];have m:eA (d i++iL t i) (d i++iL t i):=eA.app (a i x).1 (by simp[iL])
  by_cases c:i<k
  ·obtain⟨g1,g2,g3,g4,g5⟩:=B i _ c (EP hi);refine yk g1 rfl g2 m g3 (by rfl) (by rfl) fun s f=>?_;simp[f,n];exact rd (i+1) c (hn:=g4) (hh:=g5) (hr:=by simp;exact(a (i+1) c).2) (hr2:=(a (i+1) c).1)
  ·have:i=k:=by omega
   subst this;rcases g with⟨e1,_⟩|⟨y,o,e1,e2,e3,e4,e5,e6,u⟩
   ·omega
   ·rw[EP hi]at e1;injection e1 with e1
    subst e1;refine yk e2 rfl e3 m e4 (by rfl) (by rfl) fun s f=>?_;simp[f];exact .inr (dJ.og e5 trivial e6 trivial u)
 ·have:i=t.cs.length:=by omega
  subst this;rcases g with⟨e1,e2⟩|⟨y,o,e1,e2⟩
  ·have:t.cs.length=k:=by omega
   subst this;simp[e2]
  ·rw[ei (by simp;omega)]at e1;cases e1
theorem VG{t:aj}{v:NV}{i:Nat}(hn:∀p∈t.cs,eX p)(d:bc 3000 v.q)(hi:i<t.cs.length):
 aq prog 118 [cV v,cV (dA (t.at i))] (cV (v.sub (dA (t.at i))))/\aq prog 154 [cV (t.cG i),cV (v.sub (dA (t.at i)))] (eF ((t.cG i).bg (v.sub (dA (t.at i)))))/\
 aq prog 188 [eF ((t.cG i).bg (v.sub (dA (t.at i))))] (.int .i64 (t.side i v.q)):=by
 have a:=ic (aj.fc hn hi);have e:=ic (aj.fc hn (t.lA o_ i));have q1:bc 29 (t.cG i).q:=by rw[aj.cG,NV.eH];exact gD e a
 have f:bc 3015 (v.sub (dA (t.at i))).q:=by rw[NV.eH];exact gD d a
 refine⟨vR v (dA (t.at i)) (d.mono d_) (a.mono d_),EO (t.cG i) (v.sub (dA (t.at i))) (q1.mono d_) (f.mono d_),?_⟩;have b:=nH ((t.cG i).bg (v.sub (dA (t.at i))));have c:bP ((t.cG i).bg (v.sub (dA (t.at i)))).q=t.side i v.q:=by rw[NV.mq,NV.eH,aj.rW];rfl
 rw[bP]at c;rw[c]at b;exact b
def NS.add(s t:NS):NS:=⟨s.a.add t.a,s.b.add t.b,s.d⟩
def NS.neg(s:NS):NS:=⟨s.a.neg,s.b.neg,s.d⟩
def NS.times(s:NS)(k:NF):NS:=⟨s.a.mul k,s.b.mul k,s.d⟩
def NB.bg(n:NB)(e:NV):NS:=⟨e.bg n.a,e.bg n.b,n.d⟩
theorem sr(s t:NS)(hs:dC 30000 s)(c:dC 30000 t):aq prog 159 [cj s,cj t] (cj (s.add t)):=by
 have d:=rJ s.a t.a (hs.1.mono d_) (c.1.mono d_);have e:=rJ s.b t.b (hs.2.1.mono d_) (c.2.1.mono d_);refine gA_ nf func159 mix ?_;rw[NS.add,qj];simp(maxDischargeDepth:=99) [f159,aa,e2 d,e2 e]
theorem E8(s:NS)(hs:dC 30000 s):aq prog 153 [cj s] (cj s.neg):=by
 have c:=ph s.a (hs.1.mono d_);have d:=ph s.b (hs.2.1.mono d_);refine gA_ nf func153 mix ?_;rw[NS.neg,qj];simp(maxDischargeDepth:=99) [f153,aa,e1 c,e1 d]
theorem BA(s:NS)(k:NF)(hs:dC 30000 s)(hk:aJ 30000 k.q):aq prog 161 [cj s,eF k] (cj (s.times k)):=by
 have c:=fU s.a k (hs.1.mono d_) (hk.mono d_);have d:=fU s.b k (hs.2.1.mono d_) (hk.mono d_);refine gA_ nf func161 mix ?_;rw[NS.times,qj];simp(maxDischargeDepth:=99) [f161,aa,e2 c,e2 d]
theorem V5(n:NB)(e:NV)(hn:okB 8000 n)(c:bc 8000 e.q):aq prog 152 [jG n,cV e] (cj (n.bg e)):=by
 have d:=EO e n.a (c.mono d_) (hn.1.mono d_);have f:=EO e n.b (c.mono d_) (hn.2.1.mono d_);refine gA_ nf func152 mix ?_;rw[NB.bg,qj];simp(maxDischargeDepth:=99) [f152,aa,e2 d,e2 f]
theorem VO(v:NV):aq prog 125 [cV v] (jG ⟨v,⟨.int 0,.int 0⟩,.int 0⟩):=by
 have a:=lL 0 d_ d_;have b:=lL 0 d_ d_;have c:=lL 0 d_ d_;refine gA_ nf func125 mix ?_;rw[yr,tj (.int 0) (.int 0)];simp(maxDischargeDepth:=99) [f125,aa,e1 a,e1 b,e1 c]
def NS.plain(a d:NF):NS:=⟨a,.int 0,d⟩
def NS.norm(s:NS):NF:=(s.a.mul s.a).sub ((s.b.mul s.b).mul s.d)
open Classical in
noncomputable def NS.under(s:NS)(k:NF):NS:=if s.norm.q=0 then .plain (k.div (s.a.add s.a)) s.d else⟨(k.mul s.a).div s.norm,(k.mul s.b).neg.div s.norm,s.d⟩
theorem so(a d:NF):aq prog 160 [eF a,eF d] (cj (.plain a d)):=by
 have b:=lL 0 d_ d_;refine gA_ nf func160 mix ?_;rw[NS.plain,qj];simp[f160,aa,e1 b]
theorem aRd{x:NF}(h:x.q≠0):(x.add x).q≠0:=by
 show x.q+x.q≠0;intro e;apply h
 grind
theorem aEW(s:NS)(k:NF)(hs:dC 3000 s)(hk:aJ 3000 k.q)(e:s.norm.q=0->s.a.q≠0):aq prog 228 [cj s,eF k] (cj (s.under k)):=by
 have k1:=fU s.a s.a (hs.1.mono d_) (hs.1.mono d_);have k2:=fU s.b s.b (hs.2.1.mono d_) (hs.2.1.mono d_);have k3:=fU (s.b.mul s.b) s.d ((dO hs.2.1 hs.2.1).mono d_) (hs.2.2.mono d_);have k4:=nG (s.a.mul s.a) ((s.b.mul s.b).mul s.d) ((dO hs.1 hs.1).mono d_) ((dO (dO hs.2.1 hs.2.1) hs.2.2).mono d_);have k5:=nH s.norm;have k6:=rJ s.a s.a (hs.1.mono d_) (hs.1.mono d_);have k7:=fun h:s.norm.q=0=>vT k (s.a.add s.a) (hk.mono d_) ((qG hs.1 hs.1).mono d_) (aRd (e h));have k8:=so (k.div (s.a.add s.a)) s.d;have i:=fU k s.a (hk.mono d_) (hs.1.mono d_);have f:=fun h:¬s.norm.q=0=>vT (k.mul s.a) s.norm ((dO hk hs.1).mono d_) ((show aJ 15001 s.norm.q from(Bw (dO hs.1 hs.1) (dO (dO hs.2.1 hs.2.1) hs.2.2))).mono d_) h;have l:=fU k s.b (hk.mono d_) (hs.2.1.mono d_);have m:=ph (k.mul s.b) ((dO hk hs.2.1).mono d_);have g:=fun h:¬s.norm.q=0=>vT ((k.mul s.b).neg) s.norm ((nS (dO hk hs.2.1)).mono d_) ((show aJ 15001 s.norm.q from(Bw (dO hs.1 hs.1) (dO (dO hs.2.1 hs.2.1) hs.2.2))).mono d_) h;rw[show(s.a.mul s.a).sub ((s.b.mul s.b).mul s.d)=s.norm from rfl]at k4;refine gA_ nf func228 mix ?_;rw[NS.under]
 by_cases hz:s.norm.q=0
 ·have c:(if s.norm.q<0 then(-1:Int)else if s.norm.q=0 then 0 else 1)=0:=by rw[hz];rfl
  rw[c]at k5;have p:=k7 hz;rw[if_pos hz];clear k7 f g e hz c;generalize k.div (s.a.add s.a)=r,s.a.add s.a=t,s.norm=n at*;simp+decide (maxDischargeDepth:=99) [f228,aa,e2 k1,e2 k2,e2 k3,e2 k4,c1 k5,e2 k6,e2 p,e2 k8]
 ·have c:¬(if s.norm.q<0 then(-1:Int)else if s.norm.q=0 then 0 else 1)=0:=by
   split<;>decide
  have j:=f hz;have o:=g hz;rw[if_neg hz,qj];clear k7 f g e;generalize (if s.norm.q<0 then(-1:Int)else if s.norm.q=0 then 0 else 1)=u at*;clear hz;generalize (k.mul s.a).div s.norm=r1,(k.mul s.b).neg.div s.norm=t,s.norm=n at*;simp+decide (maxDischargeDepth:=99) [f228,aa,c,e2 k1,e2 k2,e2 k3,e2 k4,c1 k5,e2 i,e2 j,e2 l,e1 m,e2 o]
structure XD where
 i:Nat
 a:NV
 w:NV
 g:NF
 s:NS
noncomputable def gS(x:XD):PV:=.st 161 [vX x.i x.a x.w,eF x.g,cj x.s]
@[simp] theorem aUZ(x:XD):aK (gS x)=.agg 161:=rfl
@[simp] theorem aTp(x:XD):cm (gS x)=[vX x.i x.a x.w,eF x.g,cj x.s]:=rfl
@[simp] theorem aSC:prog.cellsOf 161=33:=k_
def lN(x:XD):Prop:=x.i<=1000000/\aJ 1900 x.g.q/\dC 1900 x.s
def tI(x y:XD):Int:=if bR ((y.s.times x.g).add ((x.s.times y.g).neg)).q=0 then(x.i:Int)-y.i else bR ((y.s.times x.g).add ((x.s.times y.g).neg)).q
theorem wJ{a b:Nat}{s:NS}{k:NF}(hs:dC a s)(hk:aJ b k.q):dC (a+b) (s.times k):=⟨dO hs.1 hk,dO hs.2.1 hk,hs.2.2.mono o_⟩
theorem Bv{a:Nat}{s:NS}(hs:dC a s):dC a s.neg:=⟨nS hs.1,nS hs.2.1,hs.2.2⟩
theorem zb{a b:Nat}{s t:NS}(hs:dC a s)(c:dC b t):dC (a+b+1) (s.add t):=⟨qG hs.1 c.1,qG hs.2.1 c.2.1,hs.2.2.mono o_⟩
theorem dC.mono{k l:Nat}{s:NS}(h:dC k s)(a:k<=l):dC l s:=⟨h.1.mono a,h.2.1.mono a,h.2.2.mono a⟩
theorem VN(x y:XD)(hx:lN x)(d:lN y):aq prog 156 [gS x,gS y] (.int .i64 (tI x y)):=by
 obtain⟨e,b,a⟩:=hx;obtain⟨y1,y2,y3⟩:=d;have k1:=BA y.s x.g (y3.mono d_) (b.mono d_);have k2:=BA x.s y.g (a.mono d_) (y2.mono d_);have k3:=E8 (x.s.times y.g) ((wJ a y2).mono d_);have k4:=sr (y.s.times x.g) (x.s.times y.g).neg ((wJ y3 b).mono d_) ((Bv (wJ a y2)).mono d_);have k5:=nT ((y.s.times x.g).add (x.s.times y.g).neg) ((zb (wJ y3 b) (Bv (wJ a y2))).mono d_);have w1:a6.wrap ((x.i:Int)-y.i)=(x.i:Int)-y.i:=aU _ o_ o_;refine gA_ nf func156 mix ?_;rw[tI];generalize bR ((y.s.times x.g).add (x.s.times y.g).neg).q=r at*;generalize (y.s.times x.g).add (x.s.times y.g).neg=v1 at*;generalize (x.s.times y.g).neg=v2 at*;generalize x.s.times y.g=v3,y.s.times x.g=v4 at*
 by_cases c:r=0
 ·simp(maxDischargeDepth:=99) [f156,aa,c,w1,e2 k1,e2 k2,e1 k3,e2 k4,e1 k5]
 ·simp(maxDischargeDepth:=99) [f156,aa,c,e2 k1,e2 k2,e1 k3,e2 k4,e1 k5]
theorem FC(x:XD)(hx:lN x)(b:x.s.norm.q=0->x.s.a.q≠0):aq prog 128 [gS x] (cj (x.s.under x.g)):=by
 obtain⟨e,c,d⟩:=hx;have k1:=aEW x.s x.g (d.mono d_) (c.mono d_) b;refine gA_ nf func128 mix ?_;generalize x.s.under x.g=r at*;simp[f128,aa,c2 k1]
def wu(m x:XD):XD:=if tI x m<0 then x else m
def iV(m:XD)(l:List XD):XD:=l.foldl wu m
theorem EL(m:XD):iV m []=m:=List.foldl_nil
theorem VT(m x:XD)(r:List XD):iV m (x::r)=iV (wu m x) r:=List.foldl_cons ..
def zF:PV:=.st 123 [.st 121 [.int .i64 0,.aI],.st 121 [.int .i64 0,.aI]]
def zV:PV:=.st 141 [zF,zF]
def Bi:PV:=.st 161 [.st 157 [.int .i64 0,zV,zV],zF,.st 159 [zF,zF,zF]]
@[simp] theorem aWK:cF prog 162=some Bi:=k_
@[simp] theorem aVw:aK Bi=.agg 161:=rfl
theorem Wd(a:XD)(l:List XD)(g:l.length<=1000000)(d:lN a)(hx:∀x∈l,lN x):
 aq prog 155 [.seq ((a::l).map gS),.func 156 [] []] (gS (iV a l)):=by
 refine gA_ nf func155 mix ?_;have e:¬((l.length:Int)+1<1):=o_
 simp[f155,e];refine lp (α:=Nat×XD) (fun(i,m)=>⟨[(6,.p (.int .i64 ((i+1:Nat):Int))),(5,.ptr 1 []),(4,.ptr 0 []),(0,.p (.seq (gS a::l.map gS))),(1,.p (.func 156 [] []))],[.box false (.p Bi),.box false (.p (gS m))]⟩) (fun(i,m)=>i<=l.length/\lN m/\iV m (l.drop i)=iV a l) (fun(i,_)=>l.length-i) (0,a) (by simp;exact d) ?_ (he:=s_);rintro⟨i,m⟩ ⟨g1,g2,g3⟩;dsimp only at g1 g2 g3⊢
 by_cases hi:i<l.length
 ·have b:a6.wrap ((i:Int)+1+1)=(i:Int)+1+1:=aU _ o_ o_;have f:=VN l[i] m (hx _ (c9 hi)) g2;rw[bi hi,VT]at g3;simp[hi];refine⟨o_,?_⟩;refine e2 f ?_;rw[wu]at g3
  by_cases c:tI l[i] m<0
  ·rw[if_pos c]at g3;simp[c,hi,b];exact⟨o_,rd (i+1,l[i]) ⟨hi,hx _ (c9 hi),g3⟩⟩
  ·rw[if_neg c]at g3;simp[c,b];exact rd (i+1,m) ⟨hi,g2,g3⟩
 ·have:i=l.length:=by omega
  subst this;rw[List.drop_length,EL]at g3;subst g3;simp
@[simp] theorem aTN:cm Bi=[.st 157 [.int .i64 0,zV,zV],zF,.st 159 [zF,zF,zF]]:=rfl
def aj.bV(t:aj)(p:NV)(n:NB)(i:Nat):XD:=⟨i,dA (t.at i),t.cG i,(t.cG i).bg (p.sub (dA (t.at i))),(n.bg (t.cG i)).neg⟩
def aj.pos(t:aj)(n:NB)(i:Nat):Bool:=decide (0<bR ((n.bg (t.cG i)).neg).q)
def aj.fM(t:aj)(p:NV)(n:NB)(m:Nat):List XD:=((ce m).filter (t.pos n)).map (t.bV p n)
theorem aj.ET(t:aj)(p:NV)(n:NB)(m:Nat):t.fM p n (m+1)=if t.pos n m=true then t.fM p n m++[t.bV p n m]else t.fM p n m:=by
 rw[aj.fM,dd,List.filter_append,ee]
 by_cases h:t.pos n m=true
 ·rw[if_pos h,List.filter_cons_of_pos h];rfl
 ·rw[if_neg h,List.filter_cons_of_neg h,List.filter_nil,b3,List.append_nil];rfl
theorem aj.J7(t:aj)(p:NV)(n:NB)(m:Nat):(t.fM p n m).length<=m:=by
 rw[aj.fM,dg];have:=List.length_filter_le (t.pos n) (ce m)
 rwa [dz]at this
theorem Bu{t:aj}{p:NV}{n:NB}{i:Nat}(j:t.cs.length<=1000000)(hn:∀c∈t.cs,eX c)(f:bc 800 p.q)(d:okB 900 n)(hi:i<t.cs.length):lN (t.bV p n i):=by
 have e:=ic (aj.fc hn hi);have g:=ic (aj.fc hn (t.lA o_ i));have q1:bc 29 (t.cG i).q:=by rw[aj.cG,NV.eH];exact gD g e
 have h:bc 815 (p.sub (dA (t.at i))).q:=by rw[NV.eH];exact gD f e
 refine⟨?_,?_,jQ ?_,jQ ?_,d.2.2.mono d_⟩
 ·show i<=1000000;omega
 ·show aJ 1900 ((t.cG i).bg (p.sub (dA (t.at i)))).q;rw[NV.mq];exact(nQ q1 h).mono d_
 ·show aJ 1900 ((t.cG i).bg n.a).q;rw[NV.mq];exact(nQ q1 d.1).mono d_
 ·show aJ 1900 ((t.cG i).bg n.b).q;rw[NV.mq];exact(nQ q1 d.2.1).mono d_
noncomputable def gZ(t:aj)(p:NV)(n:NB)(s:AV)(L:fk):al:=[.box false (.p (bW t)),.box false (.p (cV p)),.box false (.p (jG n)),.box false (.p Bi),.box false s,.loop L]
noncomputable def jt(t:aj)(p:NV)(n:NB)(L:fk):List XD->al
 |[]=>gZ t p n (.p .aI) L
 |x::r=>gZ t p n (.sl 11 r.length 33 0 (r.length+1)) L++[.hole,.hole,.hole,.hole,.hole,.arr .grow r.length 33 ((x::r).map fun x=>.p (gS x))]
noncomputable def TV(t:aj)(p:NV)(n:NB)(L:fk)(i:Nat):al:=
 if t.pos n i=true then
  match t.fM p n i with
  |[]=>gZ t p n (.sl 11 0 33 0 1) L++iL t i++[.hole,.hole,.hole,.arr .grow 0 33 [.p (gS (t.bV p n i))]]
  |x::r=>gZ t p n (.sl 11 (r.length+1) 33 0 (r.length+2)) L++[.hole,.hole,.hole,.hole,.hole,.arr .grow (r.length+1) 33 ((x::r++[t.bV p n i]).map fun x=>.p (gS x))]++iL t i
 else jt t p n L (t.fM p n i)++iL t i
theorem Tz(t:aj)(p:NV)(n:NB)(u:t.cs.length<=1000000)(hn:∀c∈t.cs,eX c)(y:bc 800 p.q)(d:okB 900 n)(o:XD)(l:List XD)(w:t.fM p n t.cs.length=o::l):aq prog 75 [bW t,cV p,jG n] (gS (iV o l)):=by
 refine gA_ nf func75 mix ?_;simp[f75,aa];refine c1 (aEl t) ?_;simp;refine rfd (aQx t u hn) rfl s_ (fun L i=>jt t p n L (t.fM p n i)) (fun L i=>TV t p n L i) t.cs.length s_ (fun L=>rfl) ?_ ?_ ?_
 ·intro L a i hi;generalize t.fM p n i=z;cases z with
  |nil=>
   refine⟨rfl,by simp[jt,gZ],fun _ hx=>?_⟩;simp[jt,gZ]at hx⊢;exact hx
  |cons x r=>
   refine⟨rfl,by simp[jt,gZ],fun _ hx=>?_⟩;simp[jt,gZ]at hx⊢;exact hx
 ·intro L a i x hi hx;rw[EP o_]at hx;injection hx with hx
  subst hx;have C:=Bu u hn y d hi;obtain⟨B,a2,a3⟩:=VG hn (y.mono d_) hi;have hs:=aj.ET t p n i;have v:=aj.J7 t p n i;have G:=ic (aj.fc hn hi);have H:=ic (aj.fc hn (t.lA o_ i));have q1:bc 29 (t.cG i).q:=by rw[aj.cG,NV.eH];exact gD H G
  have I:dC 1900 (n.bg (t.cG i)).neg:=C.2.2;have J:dC 1900 (n.bg (t.cG i)):=⟨by rw[NB.bg,NV.mq];exact(nQ q1 d.1).mono d_,by rw[NB.bg,NV.mq];exact(nQ q1 d.2.1).mono d_,d.2.2.mono d_⟩
  have g:=V5 n (t.cG i) (d.mono d_) (q1.mono d_);have k:=E8 (n.bg (t.cG i)) (J.mono d_);have m:=nT (n.bg (t.cG i)).neg (I.mono d_);have E:t.pos n i=decide (0<bR ((n.bg (t.cG i)).neg).q):=rfl;have K:t.bV p n i=⟨i,dA (t.at i),t.cG i,(t.cG i).bg (p.sub (dA (t.at i))),(n.bg (t.cG i)).neg⟩:=rfl;rw[TV];have e:=congrArg fk.env a;dsimp only at e;clear C I J q1 G H a3;generalize t.fM p n (i+1)=A,t.fM p n i=z at*
  by_cases b:t.pos n i=true
  case neg=>
   rw[if_neg b]at hs⊢;subst hs;have f:¬0<bR ((n.bg (t.cG i)).neg).q:=by rw[E]at b;simpa using b
   have F:bR ((n.bg (t.cG i)).neg).q<=0:=o_
   generalize bR ((n.bg (t.cG i)).neg).q=M,(n.bg (t.cG i)).neg=v2,n.bg (t.cG i)=v1 at*;refine⟨?_,s_,fun j _ h=>h,by cases A<;>rfl,?_⟩
   ·cases A with
    |nil=>
     refine wG nf mix a rfl rfl k_ ?_;clear a;simp[jt,gZ,uc,iL,aa];refine c2 g ?_;simp[aa];refine c1 k ?_;simp[aa];refine c1 m ?_;simp[aa,f,F];refine dJ.og s_ s_ s_ s_ ?_;simp;exact yV e s_
    |cons x r=>
     refine wG nf mix a rfl rfl k_ ?_;clear a;simp[jt,gZ,uc,iL,aa];refine c2 g ?_;simp[aa];refine c1 k ?_;simp[aa];refine c1 m ?_;simp[aa,f,F];refine dJ.og s_ s_ s_ s_ ?_;simp;exact yV e s_
   ·cases A with
    |nil=>simp[jt,gZ,iL]
    |cons x r=>simp[jt,gZ,iL]
  rw[if_pos b]at hs⊢;have f:0<bR ((n.bg (t.cG i)).neg).q:=by rw[E]at b;simpa using b
  rw[b,K]at*;generalize bR ((n.bg (t.cG i)).neg).q=M,(n.bg (t.cG i)).neg=v2,n.bg (t.cG i)=v1,(t.cG i).bg (p.sub (dA (t.at i)))=v3,p.sub (dA (t.at i))=v4 at*;cases z with
  |nil=>
   rw[List.nil_append]at hs;subst hs;refine⟨?_,by simp[jt,gZ,iL],fun j s h=>?_,rfl,?_⟩
   ·refine wG nf mix a rfl rfl k_ ?_;clear a;simp[jt,gZ,uc,iL,aa];refine c2 g ?_;simp[aa];refine c1 k ?_;simp[aa];refine c1 m ?_;simp[aa,f];refine e2_ B ?_;simp[aa];refine e2_ a2 ?_;simp[aa];refine⟨d_,⟨by repeat' first|rfl|apply am,by repeat' first|rfl|apply am⟩,?_⟩;refine dJ.og s_ s_ (by simp[gS]) s_ ?_;simp;exact yV e s_
   ·rcases j with _|_|_|_|_|_|_|_|j
    all_goals first|(simp[gZ,iL]at h;done)|(simp[jt,gZ,iL]at s;omega)
   ·simp[jt,gZ,iL]
  |cons x r=>
   have N:r.length+2<=dH:=by
    have:i<=1000000:=o_
    rw[ec]at v;simp only[dH];omega
   rw[ed]at hs;subst hs;refine⟨?_,by simp[jt,gZ,iL],fun j s h=>?_,by simp[jt,gZ],?_⟩
   ·refine wG nf mix a rfl rfl k_ ?_;clear a;simp[jt,gZ,uc,iL,aa];refine c2 g ?_;simp[aa];refine c1 k ?_;simp[aa];refine c1 m ?_;simp[aa,f];refine e2_ B ?_;simp[aa];refine e2_ a2 ?_;simp[aa];refine⟨o_,⟨by repeat' first|rfl|apply am,by repeat' first|rfl|apply am⟩,?_⟩;refine dJ.og (by simp[gS]) s_ (by simp[gS]) s_ ?_;simp;exact yV e s_
   ·rcases j with _|_|_|_|_|_|_|_|_|_|_|_|_|_|j
    all_goals first|(simp[gZ,iL]at h;done)|(simp[jt,gZ,iL];done)|(simp[jt,gZ,iL]at s;omega)
   ·simp[jt,gZ,iL]
 ·intro L a;refine .inl ⟨s_,?_⟩;rw[w];simp[jt,gZ];have D:∀x∈o::l,lN x:=fun x hx=>by
   rw[<-w,aj.fM]at hx;obtain⟨i,hi,rfl⟩:=cx.1 hx;exact Bu u hn y d (da.1 (eo.1 hi).1)
  have v:=aj.J7 t p n t.cs.length;rw[w,ec]at v;refine cp (Wd o l o_ (D _ dq) (fun x hx=>D x (dl _ hx))) (by simp[pG,mh,VY (vs:=l.map gS) (l:=l.map fun x=>AV.p (gS x)) s_];exact⟨rfl,rfl⟩) ?_;simp
theorem Fv(t:aj)(i:Nat)(hi:i<t.cs.length)(c:t.cs.length<=1000000)(hn:∀p∈t.cs,eX p):aq prog 92 [cw t,.int .i64 i] (.aC [eV (dQ (t.at i)),eV (t.bI i)]):=by
 have b:=aj.get hi;have g:=ic (aj.fc hn hi);have h:=ic (aj.fc hn (t.lA o_ i));have d:=Bs (t.at i) (aj.fc hn hi);have e:=E7 t i hi c;have f:=Bs (t.at (t.nx i)) (aj.fc hn (t.lA o_ i));have a:=po (dQ (t.at (t.nx i))) (dQ (t.at i)) (h.mono d_) (g.mono d_);rw[show(dQ (t.at (t.nx i))).sub (dQ (t.at i))=t.bI i from rfl]at a;refine gA_ nf func92 mix ?_;generalize t.bI i=w at*;simp+decide (maxDischargeDepth:=99) [f92,aa,b,hi,e1 d,e2 e,e1 f,e2 a]
def aj.eJ(t:aj)(d:V2)(i:Nat):Rat:=d.bg (t.bI i)
def aj.iU(t:aj)(p d:V2)(i:Nat):Rat:=(t.bI i).bg (p.sub (dQ (t.at i)))/t.eJ d i
def aj.gF(t:aj)(p d:V2):Nat->Int×Rat
 |0=>(-1,0)
 |m+1=>if bP (t.eJ d m)<=0 then t.gF p d m else if(t.gF p d m).1<0\/c8 (t.iU p d m) (t.gF p d m).2<0 then((m:Int),t.iU p d m)else t.gF p d m
theorem EX{t:aj}{p d:V2}{i:Nat}(hn:∀c∈t.cs,eX c)(f:bc 90 p)(e:bc 90 d)(hi:i<t.cs.length):aJ 239 (t.eJ d i)/\aJ 269 ((t.bI i).bg (p.sub (dQ (t.at i))))/\aJ 508 (t.iU p d i):=by
 have w:=aj.okW hn hi;have g:=ic (aj.fc hn hi);have a:=nQ e w;have b:=nQ w (gD f g);exact⟨a.mono d_,b.mono d_,(gQ b a).mono d_⟩
theorem JI{t:aj}{p d:V2}(hn:∀c∈t.cs,eX c)(b:bc 90 p)(a:bc 90 d):∀m,m<=t.cs.length->aJ 508 (t.gF p d m).2
 |0,_=>(show aJ 1 (0:Rat)from⟨d_,d_⟩).mono d_
 |m+1,h=>by
  have e:=JI hn b a m o_;rw[aj.gF]
  split
  ·exact e
  ·split
   ·exact(EX hn b a o_).2.2
   ·exact e
theorem aDP(t:aj)(p d:V2)(n:t.cs.length<=1000000)(hn:∀c∈t.cs,eX c)(a:bc 90 p)(g:bc 90 d):aq prog 79 [cw t,eV p,eV d] (.aC [.int .i64 (t.gF p d t.cs.length).1,.str (aR (t.gF p d t.cs.length).2)]):=by
 refine gA_ nf func79 mix ?_;have k:aR 0=[48]:=o8;simp[f79,aa];refine lp (α:=Nat) (fun i=>⟨[(10,.p (.int .i64 i)),(9,.p (.str (aR (t.gF p d i).2))),(8,.p (.int .i64 (t.gF p d i).1)),(5,.ptr 2 []),(4,.ptr 1 []),(3,.ptr 0 [])],[.box false (.p (cw t)),.box false (.p (eV p)),.box false (.p (eV d))]⟩) (fun i=>i<=t.cs.length) (fun i=>t.cs.length-i) 0 s_ ?_ (he:=by simp[aj.gF,k]);rintro i m
 by_cases hi:i<t.cs.length
 ·have f:=cE (i:=i) o_;obtain⟨h,r,s⟩:=EX hn a g hi;have u:=JI hn a g i m;have w:=aj.okW hn hi;have j:=ic (aj.fc hn hi);have k1:=Fv t i hi n hn;have k2:=Bn d (t.bI i) (g.mono d_) (w.mono d_);have k3:=nE (t.eJ d i) (h.mono d_);have k4:=po p (dQ (t.at i)) (a.mono d_) (j.mono d_);have k5:=Bn (t.bI i) (p.sub (dQ (t.at i))) (w.mono d_) ((gD a j).mono d_);rw[show d.bg (t.bI i)=t.eJ d i from rfl]at k2;have hs:t.gF p d (i+1)=if bP (t.eJ d i)<=0 then t.gF p d i else if(t.gF p d i).1<0\/c8 (t.iU p d i) (t.gF p d i).2<0 then((i:Int),t.iU p d i)else t.gF p d i:=rfl
  by_cases c1:bP (t.eJ d i)<=0
  ·rw[if_pos c1]at hs;simp[hi,aa];refine c2 k1 ?_;simp[aa];refine c2 k2 ?_;simp[aa];refine c1_ k3 ?_;simp[aa,c1,f];exact rd (i+1) hi (he:=by rw[hs];simp)
  ·rw[if_neg c1]at hs;have q:t.eJ d i≠0:=fun e=>c1 (by rw[e];decide);have k6:=pQ ((t.bI i).bg (p.sub (dQ (t.at i)))) (t.eJ d i) (r.mono d_) (h.mono d_) q;rw[show(t.bI i).bg (p.sub (dQ (t.at i)))/t.eJ d i=t.iU p d i from rfl]at k6;have k7:=ue (t.iU p d i) (t.gF p d i).2 (s.mono d_) (u.mono d_);generalize v:t.gF p d i=F at*;obtain⟨b,l⟩:=F;dsimp only at*;generalize c8 (t.iU p d i) l=o at*
   by_cases c2:b<0
   ·rw[if_pos (.inl c2)]at hs;simp[hi,aa];refine c2_ k1 ?_;simp[aa];refine c2_ k2 ?_;simp[aa];refine c1_ k3 ?_;simp[aa,c1];refine e2_ k4 ?_;simp[aa];refine e2_ k5 ?_;simp[aa];refine e2_ k6 ?_;simp[aa,c2,f];exact rd (i+1) hi (he:=by rw[hs];simp)
   ·by_cases c3:o<0
    ·rw[if_pos (.inr c3)]at hs;simp[hi,aa];refine c2_ k1 ?_;simp[aa];refine c2_ k2 ?_;simp[aa];refine c1_ k3 ?_;simp[aa,c1];refine e2_ k4 ?_;simp[aa];refine e2_ k5 ?_;simp[aa];refine e2_ k6 ?_;simp[aa,c2];refine c2_ k7 ?_;simp[aa,c2,c3,f];exact rd (i+1) hi (he:=by rw[hs];simp)
    ·rw[if_neg o_]at hs;simp[hi,aa];refine c2_ k1 ?_;simp[aa];refine c2_ k2 ?_;simp[aa];refine c1_ k3 ?_;simp[aa,c1];refine e2_ k4 ?_;simp[aa];refine e2_ k5 ?_;simp[aa];refine e2_ k6 ?_;simp[aa,c2];refine c2_ k7 ?_;simp[aa,c2,c3,f];exact rd (i+1) hi (he:=by rw[hs];simp)
 ·have:i=t.cs.length:=by omega
  subst this;simp
theorem rU{t:aj}(h:gH t=0):3<=t.cs.length/\t.cs.length<=12/\(∀p∈t.cs,eX p)/\t.gh=true:=by
 rw[ER]at h
 by_cases d:pM t=0
 ·rw[if_pos d]at h
  by_cases e:rZ t=0
  ·obtain⟨a,b,c⟩:=JB d;refine⟨a,b,c,?_⟩;rw[rZ,rk]at e;have f:=e (bn (!t.gh) 15) s_;cases hc:t.gh
   ·rw[hc]at f;simp[bn]at f
   ·rfl
  ·rw[if_neg e]at h;exact(e h).elim
 ·rw[if_neg d]at h;exact(d h).elim
def cZ(d:bM):NB:=⟨.from d,⟨.int 0,.int 0⟩,.int 0⟩
theorem Wg(x o:Int):jJ x 0 o=x:=by
 rw[jJ]
 by_cases h:x=0
 ·simp[h]
 ·simp;omega
theorem Jx{s:S3}(c:s.b=0):bR s=bP s.a:=by
 rw[bR,c,show bP (0:Rat)=0 from rfl,Int.zero_mul,Wg]
theorem JL{a b:Rat}:c8 a b<0↔a<b:=by
 rw[c8];constructor
 ·intro h
  split at h
  ·assumption
  ·split at h<;>omega
 ·intro h;rw[if_pos h];decide
theorem EW{a:Rat}:bP a<=0↔a<=0:=by
 rw[bP]
 split
 ·grind
 ·split<;>grind
theorem wF(t:aj)(d:bM)(i:Nat):((cZ d).bg (t.cG i)).neg.q=⟨t.eJ (vP d) i,0,0⟩:=by
 have c:((cZ d).bg (t.cG i)).neg.a.q=t.eJ (vP d) i:=by
  show -((t.cG i).bg (NV.from d)).q=_;rw[NV.mq,aj.rW,iD,aj.eJ,V2.bg,V2.bg]
  grind
 have e:((cZ d).bg (t.cG i)).neg.b.q=0:=by
  show -((t.cG i).bg ⟨.int 0,.int 0⟩).q=0;rw[NV.mq];show -((t.cG i).q.x*0-(t.cG i).q.y*0)=0
  grind
 rw[NS.q,c,e];rfl
theorem JO(t:aj)(d:bM)(i:Nat):t.pos (cZ d) i=decide (0<t.eJ (vP d) i):=by
 rw[aj.pos,wF,Jx rfl];dsimp only;have:=EW (a:=t.eJ (vP d) i)
 by_cases h:0<t.eJ (vP d) i
 ·have b:¬bP (t.eJ (vP d) i)<=0:=fun e=>by have:=this.1 e;grind
  rw[decide_eq_true h,decide_eq_true o_]
 ·have b:bP (t.eJ (vP d) i)<=0:=this.2 (by grind);rw[decide_eq_false h,decide_eq_false o_]
theorem TZ(t:aj)(p:bM)(n:NB)(i:Nat):(t.bV (.from p) n i).g.q=(t.bI i).bg ((vP p).sub (dQ (t.at i))):=by
 show((t.cG i).bg ((NV.from p).sub (dA (t.at i)))).q=_;rw[NV.mq,NV.eH,aj.rW];rfl
theorem E0(t:aj)(p d:bM)(i:Nat):(t.bV (.from p) (cZ d) i).s.norm.q=t.eJ (vP d) i*t.eJ (vP d) i:=by
 have h:=wF t d i;show(((((cZ d).bg (t.cG i)).neg.a).mul (((cZ d).bg (t.cG i)).neg.a)).sub (((((cZ d).bg (t.cG i)).neg.b).mul (((cZ d).bg (t.cG i)).neg.b)).mul (((cZ d).bg (t.cG i)).neg.d))).q=_;rw[NF.eH];show(((cZ d).bg (t.cG i)).neg.q.a)*(((cZ d).bg (t.cG i)).neg.q.a)-(((cZ d).bg (t.cG i)).neg.q.b)*(((cZ d).bg (t.cG i)).neg.q.b)*(((cZ d).bg (t.cG i)).neg.q.d)=_;rw[h]
 grind
theorem aGq(t:aj)(p d:bM)(i:Nat)(h:t.eJ (vP d) i≠0):((t.bV (.from p) (cZ d) i).s.under (t.bV (.from p) (cZ d) i).g).a.q=t.iU (vP p) (vP d) i:=by
 have hn:=E0 t p d i;have f:=TZ t p (cZ d) i;have hs:(t.bV (.from p) (cZ d) i).s.a.q=t.eJ (vP d) i:=congrArg S3.a (wF t d i);have c:¬(t.bV (.from p) (cZ d) i).s.norm.q=0:=by
  rw[hn];intro e;rcases e8.1 e with e|e<;>exact h e
 generalize t.bV (.from p) (cZ d) i=x at*;rw[NS.under,if_neg c];show x.g.q*x.s.a.q/x.s.norm.q=_;rw[hn,f,hs,aj.iU];generalize t.eJ (vP d) i=a,(t.bI i).bg ((vP p).sub (dQ (t.at i)))=b at*
 grind
theorem aFf(t:aj)(p d:bM){i j:Nat}(w:j<i)(hi:0<t.eJ (vP d) i)(u:0<t.eJ (vP d) j):tI (t.bV (.from p) (cZ d) i) (t.bV (.from p) (cZ d) j)<0↔t.iU (vP p) (vP d) i<t.iU (vP p) (vP d) j:=by
 have e:∀a b:Nat,((t.bV (.from p) (cZ d) b).s.times (t.bV (.from p) (cZ d) a).g).q=⟨t.eJ (vP d) b*(t.bI a).bg ((vP p).sub (dQ (t.at a))),0,0⟩:=by
  intro a b;have r:=TZ t p (cZ d) a;have hs:(t.bV (.from p) (cZ d) b).s.q=⟨t.eJ (vP d) b,0,0⟩:=wF t d b;generalize t.bV (.from p) (cZ d) a=x,t.bV (.from p) (cZ d) b=y at*;rw[NS.q]at hs⊢;injection hs with c f o
  show(⟨y.s.a.q*x.g.q,y.s.b.q*x.g.q,y.s.d.q⟩:S3)=_;rw[c,f,o,r,fv]
 have hc:(((t.bV (.from p) (cZ d) j).s.times (t.bV (.from p) (cZ d) i).g).add ((t.bV (.from p) (cZ d) i).s.times (t.bV (.from p) (cZ d) j).g).neg).q=⟨t.eJ (vP d) j*(t.bI i).bg ((vP p).sub (dQ (t.at i)))+-(t.eJ (vP d) i*(t.bI j).bg ((vP p).sub (dQ (t.at j)))),0,0⟩:=by
  have c:=e i j;have f:=e j i;generalize (t.bV (.from p) (cZ d) j).s.times (t.bV (.from p) (cZ d) i).g=x,(t.bV (.from p) (cZ d) i).s.times (t.bV (.from p) (cZ d) j).g=y at*;rw[NS.q]at c f⊢;injection c with l a2 a3
  injection f with m n v
  show(⟨x.a.q+-y.a.q,x.b.q+-y.b.q,x.d.q⟩:S3)=_;rw[l,a2,a3,m,n,show(0:Rat)+-0=0 by grind]
 rw[tI,hc,Jx rfl];dsimp only;rw[aj.iU,aj.iU];show(if bP _=0 then(i:Int)-(j:Int)else bP _)<0↔_;generalize t.eJ (vP d) i=a,t.eJ (vP d) j=b,(t.bI i).bg ((vP p).sub (dQ (t.at i)))=g,(t.bI j).bg ((vP p).sub (dQ (t.at j)))=k at*;have key:b*g+-(a*k)<0↔g/a<k/b:=by
  rw[Rat.div_lt_iff hi,fb,fm,Rat.mul_comm b⁻¹ a,<-fm,<-fb,Rat.lt_div_iff u];constructor<;>intro h<;>grind
 rw[bP]
 by_cases c1:b*g+-(a*k)<0
 ·rw[if_pos c1];exact⟨fun _=>key.1 c1,fun _=>by rw[if_neg d_];decide⟩
 ·rw[if_neg c1];have:¬g/a<k/b:=fun h=>c1 (key.2 h)
  by_cases c2:b*g+-(a*k)=0
  ·rw[if_pos c2,if_pos rfl];exact⟨fun h=>by omega,fun h=>(this h).elim⟩
  ·rw[if_neg c2,if_neg d_];exact⟨fun h=>by omega,fun h=>(this h).elim⟩
theorem J6(t:aj)(p d:bM):∀m:Nat,match t.fM (.from p) (cZ d) m with
  |[]=>t.gF (vP p) (vP d) m=(-1,0)
  |m0::l=>∃j,j<m/\0<t.eJ (vP d) j/\iV m0 l=t.bV (.from p) (cZ d) j/\t.gF (vP p) (vP d) m=((j:Int),t.iU (vP p) (vP d) j)
 |0=>rfl
 |m+1=>by
  have b:=J6 t p d m;have hs:t.gF (vP p) (vP d) (m+1)=if bP (t.eJ (vP d) m)<=0 then t.gF (vP p) (vP d) m else if(t.gF (vP p) (vP d) m).1<0\/c8 (t.iU (vP p) (vP d) m) (t.gF (vP p) (vP d) m).2<0 then((m:Int),t.iU (vP p) (vP d) m)else t.gF (vP p) (vP d) m:=rfl
  rw[aj.ET,JO,hs]
  by_cases a:0<t.eJ (vP d) m
  ·rw[decide_eq_true a,if_pos rfl,if_neg (fun h=>by have:=EW.1 h;grind)];generalize n:t.fM (.from p) (cZ d) m=L at*;cases L with
   |nil=>
    dsimp only at b;rw[b,if_pos (.inl d_)];exact⟨m,o_,a,EL _,rfl⟩
   |cons m0 l=>
    obtain⟨j,i,e,f,g⟩:=b;rw[ed];dsimp only;have k:iV m0 (l++[t.bV (.from p) (cZ d) m])=wu (iV m0 l) (t.bV (.from p) (cZ d) m):=by
     rw[iV,eb];rfl
    have hc:=aFf t p d i a e;rw[k,f,g,wu];dsimp only
    by_cases c:t.iU (vP p) (vP d) m<t.iU (vP p) (vP d) j
    ·rw[if_pos (hc.2 c),if_pos (.inr (JL.2 c))];exact⟨m,o_,a,rfl,rfl⟩
    ·rw[if_neg (fun h=>c (hc.1 h)),if_neg (fun h=>by
      rcases h with h|h
      ·omega
      ·exact c (JL.1 h))]
     exact⟨j,o_,e,rfl,rfl⟩
  ·rw[decide_eq_false a,if_neg d_,if_pos (EW.2 (by grind))];generalize t.fM (.from p) (cZ d) m=L at*;cases L with
   |nil=>exact b
   |cons m0 l=>
    obtain⟨j,i,e,f,g⟩:=b;exact⟨j,o_,e,f,g⟩
theorem V1{dx dy a b c d:Rat}(f:dx*b-dy*a=0)(g:dx*d-dy*c=0)(h:¬a*d-b*c=0):dx=0/\dy=0:=by
 have e1:dx*(a*d-b*c)=0:=by grind
 have e2:dy*(a*d-b*c)=0:=by grind
 constructor
 ·rcases e8.1 e1 with e|e
  ·exact e
  ·exact(h e).elim
 ·rcases e8.1 e2 with e|e
  ·exact e
  ·exact(h e).elim
theorem aGn(t:aj)(d:V2)(v:3<=t.cs.length)(hc:t.gh=true)(q:¬(d.x=0/\d.y=0)):∃i,i<t.cs.length/\0<t.eJ d i:=by
 refine a0 fun r=>?_;have p:∀i,i<t.cs.length->t.eJ d i<=0:=fun i hi=>by
  by_cases h:0<t.eJ d i
  ·exact(r ⟨i,hi,h⟩).elim
  ·grind
 obtain⟨f,hf⟩:∃f:Nat->Rat,f=fun i=>d.bg (dQ (t.at i)):=⟨_,rfl⟩
 have step:∀i,i<t.cs.length->f (t.nx i)<=f i:=fun i hi=>by
  have:=p i hi;rw[aj.eJ,aj.bI,V2.bg,V2.sub]at this;rw[hf];dsimp only at this⊢;rw[V2.bg,V2.bg]
  grind
 have a:∀i,i+1<t.cs.length->t.nx i=i+1:=fun i hi=>Nat.mod_eq_of_lt hi;have u:t.nx (t.cs.length-1)=0:=by
  rw[aj.nx,Nat.sub_add_cancel o_];exact Nat.mod_self _
 have o:∀k,2+k<t.cs.length->f (2+k)<=f 2:=fun k=>by
  induction k with
  |zero=>intro _;exact Rat.le_refl
  |succ k s=>
   intro h;have g:=step (2+k) o_;rw[a _ o_]at g;exact Rat.le_trans g (s o_)
 have j:=step 0 o_;have l:=step 1 o_;have m:=o (t.cs.length-3) o_;have n:=step (t.cs.length-1) o_;rw[a 0 o_]at j;rw[a 1 o_]at l;rw[u]at n;rw[show 2+(t.cs.length-3)=t.cs.length-1 by omega]at m;have b:f 1=f 0:=by grind
 have c:f 2=f 0:=by grind
 rw[aj.gh,decide_eq_true_eq]at hc;have hx:=hc 0 o_ 2 o_ d_ (by rw[a 0 o_];decide);rw[a 0 o_,mr]at hx;rw[hf]at b c;dsimp only at b c;rw[V2.bg,V2.bg,dQ,dQ]at b c;dsimp only at b c;generalize t.at 0=A,t.at (0+1)=B,t.at 2=C at*;have hq:¬(((B.x:Rat)-A.x)*((C.y:Rat)-A.y)-((B.y:Rat)-A.y)*((C.x:Rat)-A.x))=0:=by
  intro e;have e2:(((B.x-A.x)*(C.y-A.y)-(B.y-A.y)*(C.x-A.x):Int):Rat)=((0:Int):Rat):=by
   rw[e9,fd,fd,e9,e9,e9,e9];exact e
  have:=Rat.intCast_inj.1 e2;omega
 exact q (V1 (dx:=d.x) (dy:=d.y) (by grind) (by grind) hq)
theorem pL(s:List Nat)(n:Int):aq prog 110 [.str s,.int .i64 n] (.bool (decide ((s.length:Int)<=n))):=by
 refine gA_ nf func110 mix ?_;simp[f110]
def lP(p:dT):Bool:=decide (p.name.length<=40)&&(decide (p.a.length<=40)&&decide (p.b.length<=40))
def jy(s:de):Bool:=decide (s.name.length<=40)&&(decide (s.pt.x.length<=40)&&decide (s.pt.y.length<=40))
def nR(t:aj):Bool:=!(decide (14<t.cs.length)||(decide (14<t.aV.length)||((decide (8<t.an.length)&&decide (t.an.length<=256))||decide (258<t.an.length))))&&(t.aV.all lP&&t.an.all jy)
theorem rV{α:Type}{f:α->Bool}{l:List α}{i:Nat}{x:α}(h:l[i]?=some x):(l.take (i+1)).all f=((l.take i).all f&&f x):=by
 rw[b5,h];simp
theorem kK{α:Type}{f:α->Bool}{l:List α}{i:Nat}{x:α}(h:l[i]?=some x)(hf:f x=false):l.all f=false:=by
 cases a:l.all f
 ·rfl
 ·rw[List.all_eq_true]at a;rw[a x (be h)]at hf;cases hf
theorem J0(t:aj)(B:t.cs.length<=1000000)(C:t.aV.length<=1000000)(D:t.an.length<=1000000):aq prog 39 [cw t] (.bool (nR t)):=by
 refine gA_ nf func39 mix ?_;have s:nR t=(!(decide (14<t.cs.length)||(decide (14<t.aV.length)||((decide (8<t.an.length)&&decide (t.an.length<=256))||decide (258<t.an.length))))&&(t.aV.all lP&&t.an.all jy)):=rfl
 by_cases c1:14<t.cs.length
 ·have q:(14:Int)<t.cs.length:=by omega
  have o:nR t=false:=by rw[s];simp[c1]
  simp[f39,aa,q,o]
 have q:¬(14:Int)<t.cs.length:=o_
 by_cases c2:14<t.aV.length
 ·have r:(14:Int)<t.aV.length:=by omega
  have o:nR t=false:=by rw[s];simp[c2]
  simp[f39,aa,q,r,o]
 have r:¬(14:Int)<t.aV.length:=o_
 have tail:(8<t.an.length->¬t.an.length<=256)->¬258<t.an.length->nR t=(t.aV.all lP&&t.an.all jy):=fun A z=>by
  rw[s]
  by_cases h:8<t.an.length
  ·have:=A h;simp[c1,c2,h,this,z]
  ·simp[c1,c2,h,z]
 by_cases c3:8<t.an.length
 ·have u:(8:Int)<t.an.length:=by omega
  by_cases c4:t.an.length<=256
  ·have w:(t.an.length:Int)<=256:=by omega
   have o:nR t=false:=by rw[s];simp[c3,c4]
   simp[f39,aa,q,r,u,w,o]
  ·have w:¬(t.an.length:Int)<=256:=by omega
   by_cases c5:258<t.an.length
   ·have v:(258:Int)<t.an.length:=by omega
    have o:nR t=false:=by rw[s];simp[c5]
    simp[f39,aa,q,r,u,w,v,o]
   ·have v:¬(258:Int)<t.an.length:=by omega
    rw[tail (fun _=>c4) c5];simp[f39,aa,q,r,u,w,v];refine lp (α:=Nat) (fun i=>⟨[(3,.p (.int .i64 i)),(1,.ptr 0 [])],[.box false (.p (cw t))]⟩) (fun i=>i<=t.aV.length/\(t.aV.take i).all lP=true) (fun i=>t.aV.length-i) 0 s_ ?_;rintro i ⟨k1,k2⟩
    by_cases hi:i<t.aV.length
    ·have c:=aj.kI hi;have n:=cE (i:=i) o_;have f:=pL (t.pk i).a 40;have j:=pL (t.pk i).b 40;have g:lP (t.pk i)=(decide ((t.pk i).name.length<=40)&&(decide ((t.pk i).a.length<=40)&&decide ((t.pk i).b.length<=40))):=rfl
     by_cases m:(t.pk i).name.length<=40
     ·have d:¬(40:Int)<(t.pk i).name.length:=by omega
      by_cases a2:(t.pk i).a.length<=40
      ·have k:((t.pk i).a.length:Int)<=40:=by omega
       rw[decide_eq_true k]at f
       by_cases a3:(t.pk i).b.length<=40
       ·have l:((t.pk i).b.length:Int)<=40:=by omega
        rw[decide_eq_true l]at j;have e:lP (t.pk i)=true:=by rw[g];simp[m,a2,a3]
        simp[hi,c,d,aa];refine c2_ f ?_;simp[hi,c,d,aa];refine c2_ j ?_;simp[hi,c,d,n,aa];exact rd (i+1) ⟨hi,by rw[rV c,k2,e];rfl⟩
       ·have l:¬((t.pk i).b.length:Int)<=40:=by omega
        rw[decide_eq_false l]at j;have e:lP (t.pk i)=false:=by rw[g];simp[a3]
        rw[kK c e];simp[hi,c,d,aa,n,c2_ f,c2_ j]
      ·have k:¬((t.pk i).a.length:Int)<=40:=by omega
       rw[decide_eq_false k]at f;have e:lP (t.pk i)=false:=by rw[g];simp[a2]
       rw[kK c e];simp[hi,c,d,aa,c2_ f]
     ·have d:(40:Int)<(t.pk i).name.length:=by omega
      have e:lP (t.pk i)=false:=by rw[g];simp[m]
      rw[kK c e];simp[hi,c,d,aa]
    have:i=t.aV.length:=o_
    subst this;rw[bf]at k2;rw[k2,av];simp[aa];refine lp (α:=Nat) (fun i=>⟨[(4,.p (.int .i64 i)),(1,.ptr 0 [])],[.box false (.p (cw t))]⟩) (fun i=>i<=t.an.length/\(t.an.take i).all jy=true) (fun i=>t.an.length-i) 0 s_ ?_;rintro i ⟨k1,k2⟩
    by_cases hi:i<t.an.length
    ·have c:=aj.eK hi;have n:=cE (i:=i) o_;have f:=pL (t.sp i).pt.x 40;have j:=pL (t.sp i).pt.y 40;have g:jy (t.sp i)=(decide ((t.sp i).name.length<=40)&&(decide ((t.sp i).pt.x.length<=40)&&decide ((t.sp i).pt.y.length<=40))):=rfl
     by_cases m:(t.sp i).name.length<=40
     ·have d:¬(40:Int)<(t.sp i).name.length:=by omega
      by_cases a2:(t.sp i).pt.x.length<=40
      ·have k:((t.sp i).pt.x.length:Int)<=40:=by omega
       rw[decide_eq_true k]at f
       by_cases a3:(t.sp i).pt.y.length<=40
       ·have l:((t.sp i).pt.y.length:Int)<=40:=by omega
        rw[decide_eq_true l]at j;have e:jy (t.sp i)=true:=by rw[g];simp[m,a2,a3]
        simp[hi,c,d,aa];refine c2_ f ?_;simp[hi,c,d,aa];refine c2_ j ?_;simp[hi,c,d,n,aa];exact rd (i+1) ⟨hi,by rw[rV c,k2,e];rfl⟩
       ·have l:¬((t.sp i).pt.y.length:Int)<=40:=by omega
        rw[decide_eq_false l]at j;have e:jy (t.sp i)=false:=by rw[g];simp[a3]
        rw[kK c e];simp[hi,c,d,aa,n,c2_ f,c2_ j]
      ·have k:¬((t.sp i).pt.x.length:Int)<=40:=by omega
       rw[decide_eq_false k]at f;have e:jy (t.sp i)=false:=by rw[g];simp[a2]
       rw[kK c e];simp[hi,c,d,aa,c2_ f]
     ·have d:(40:Int)<(t.sp i).name.length:=by omega
      have e:jy (t.sp i)=false:=by rw[g];simp[m]
      rw[kK c e];simp[hi,c,d,aa]
    have:i=t.an.length:=o_
    subst this;rw[bf]at k2;rw[k2];simp[aa]
 ·have u:¬(8:Int)<t.an.length:=by omega
  have v:¬(258:Int)<t.an.length:=o_
  rw[tail (fun h=>absurd h c3) o_];simp[f39,aa,q,r,u,v];refine lp (α:=Nat) (fun i=>⟨[(3,.p (.int .i64 i)),(1,.ptr 0 [])],[.box false (.p (cw t))]⟩) (fun i=>i<=t.aV.length/\(t.aV.take i).all lP=true) (fun i=>t.aV.length-i) 0 s_ ?_;rintro i ⟨k1,k2⟩
  by_cases hi:i<t.aV.length
  ·have c:=aj.kI hi;have n:=cE (i:=i) o_;have f:=pL (t.pk i).a 40;have j:=pL (t.pk i).b 40;have g:lP (t.pk i)=(decide ((t.pk i).name.length<=40)&&(decide ((t.pk i).a.length<=40)&&decide ((t.pk i).b.length<=40))):=rfl
   by_cases m:(t.pk i).name.length<=40
   ·have d:¬(40:Int)<(t.pk i).name.length:=by omega
    by_cases a2:(t.pk i).a.length<=40
    ·have k:((t.pk i).a.length:Int)<=40:=by omega
     rw[decide_eq_true k]at f
     by_cases a3:(t.pk i).b.length<=40
     ·have l:((t.pk i).b.length:Int)<=40:=by omega
      rw[decide_eq_true l]at j;have e:lP (t.pk i)=true:=by rw[g];simp[m,a2,a3]
      simp[hi,c,d,aa];refine c2_ f ?_;simp[hi,c,d,aa];refine c2_ j ?_;simp[hi,c,d,n,aa];exact rd (i+1) ⟨hi,by rw[rV c,k2,e];rfl⟩
     ·have l:¬((t.pk i).b.length:Int)<=40:=by omega
      rw[decide_eq_false l]at j;have e:lP (t.pk i)=false:=by rw[g];simp[a3]
      rw[kK c e];simp[hi,c,d,aa,n,c2_ f,c2_ j]
    ·have k:¬((t.pk i).a.length:Int)<=40:=by omega
     rw[decide_eq_false k]at f;have e:lP (t.pk i)=false:=by rw[g];simp[a2]
     rw[kK c e];simp[hi,c,d,aa,c2_ f]
   ·have d:(40:Int)<(t.pk i).name.length:=by omega
    have e:lP (t.pk i)=false:=by rw[g];simp[m]
    rw[kK c e];simp[hi,c,d,aa]
  have:i=t.aV.length:=o_
  subst this;rw[bf]at k2;rw[k2,av];simp[aa];refine lp (α:=Nat) (fun i=>⟨[(4,.p (.int .i64 i)),(1,.ptr 0 [])],[.box false (.p (cw t))]⟩) (fun i=>i<=t.an.length/\(t.an.take i).all jy=true) (fun i=>t.an.length-i) 0 s_ ?_;rintro i ⟨k1,k2⟩
  by_cases hi:i<t.an.length
  ·have c:=aj.eK hi;have n:=cE (i:=i) o_;have f:=pL (t.sp i).pt.x 40;have j:=pL (t.sp i).pt.y 40;have g:jy (t.sp i)=(decide ((t.sp i).name.length<=40)&&(decide ((t.sp i).pt.x.length<=40)&&decide ((t.sp i).pt.y.length<=40))):=rfl
   by_cases m:(t.sp i).name.length<=40
   ·have d:¬(40:Int)<(t.sp i).name.length:=by omega
    by_cases a2:(t.sp i).pt.x.length<=40
    ·have k:((t.sp i).pt.x.length:Int)<=40:=by omega
     rw[decide_eq_true k]at f
     by_cases a3:(t.sp i).pt.y.length<=40
     ·have l:((t.sp i).pt.y.length:Int)<=40:=by omega
      rw[decide_eq_true l]at j;have e:jy (t.sp i)=true:=by rw[g];simp[m,a2,a3]
      simp[hi,c,d,aa];refine c2_ f ?_;simp[hi,c,d,aa];refine c2_ j ?_;simp[hi,c,d,n,aa];exact rd (i+1) ⟨hi,by rw[rV c,k2,e];rfl⟩
     ·have l:¬((t.sp i).pt.y.length:Int)<=40:=by omega
      rw[decide_eq_false l]at j;have e:jy (t.sp i)=false:=by rw[g];simp[a3]
      rw[kK c e];simp[hi,c,d,aa,n,c2_ f,c2_ j]
    ·have k:¬((t.sp i).pt.x.length:Int)<=40:=by omega
     rw[decide_eq_false k]at f;have e:jy (t.sp i)=false:=by rw[g];simp[a2]
     rw[kK c e];simp[hi,c,d,aa,c2_ f]
   ·have d:(40:Int)<(t.sp i).name.length:=by omega
    have e:jy (t.sp i)=false:=by rw[g];simp[m]
    rw[kK c e];simp[hi,c,d,aa]
  have:i=t.an.length:=o_
  subst this;rw[bf]at k2;rw[k2];simp[aa]
theorem XZ(l:List fg):fZ prog 2 (l.map (AV.p∘cX)):=Di (fun r=>⟨by simp[aa],by simp[aa]⟩) l
theorem wM{α:Type}{f:α->AV}{l:List α}{j:Nat}{x:α}(h:l[j+1]?=some x):(l.take (j+1+1)).map f=(l.map f).take (j+1)++[f x]:=by
 rw[b5 (i:=j+1),h,ee,dp];rfl
theorem mu{N:Nat×Nat->Prop}{α:Type}{f:α->PV}{k:Nat}{l:List α}:ba N ((l.map (AV.p∘f)).take k)=True:=by
 rw[df,eq_iff_iff,iff_true];intro x hx;obtain⟨a,_,rfl⟩:=cx.1 (List.mem_of_mem_take hx);trivial
theorem rY:gd=fV:=rfl
theorem rX:iR=bE:=rfl
theorem wN{α:Type}{l:List α}{x:α}(h:l[0]?=some x):l.take 1=[x]:=by
 rw[b5 (i:=0),h];rfl
theorem Wc(t:aj)(s:t.cs.length<=1000000)(u:t.aV.length<=1000000)(v:t.an.length<=1000000):aq prog 18 [cw t] (bW t):=by
 have r:(1000000:Nat)<dH:=d_
 have w1:a6.wrap 1=1:=d_
 refine gA_ nf func18 mix ?_;simp[f18,aa];refine⟨⟨XZ _,o_⟩,?_⟩
 by_cases hc:t.cs=[]
 ·simp[hc];refine⟨⟨by repeat' first|rfl|apply am,by repeat' first|rfl|apply am⟩,?_⟩;refine lp (α:=Nat) (fun i=>match i with
    |0=>⟨[(18,.p (.int .i64 0)),(17,.p (.int .i64 t.aV.length)),(16,.p (.seq (t.aV.map fV))),(3,.ptr 3 []),(2,.ptr 1 []),(1,.ptr 0 [])],[.box false (.p (cw t)),.box false (.p (.st 42 [.aI,.int .i64 0,.aI,.aI])),.arr .exact 0 2 [],.box false (.st 42 [.sl 2 0 2 0 0,.p (.int .i64 t.aD),.p .aI,.p .aI])]⟩
    |m+1=>⟨[(18,.p (.int .i64 ((m+1:Nat):Int))),(17,.p (.int .i64 t.aV.length)),(16,.p (.seq (t.aV.map fV))),(3,.ptr 3 []),(2,.ptr 1 []),(1,.ptr 0 [])],[.box false (.p (cw t)),.box false (.p (.st 42 [.aI,.int .i64 0,.aI,.aI])),.arr .exact 0 2 [],.box false (.st 42 [.sl 2 0 2 0 0,.p (.int .i64 t.aD),.sl 6 m 4 0 (m+1),.p .aI]),.hole,.hole,.arr .grow m 4 ((t.aV.take (m+1)).map (AV.p∘fV))]⟩) (fun i=>i<=t.aV.length) (fun i=>t.aV.length-i) 0 s_ ?_
  rintro i o
  by_cases hi:i<t.aV.length
  ·have a:=aj.kI hi;rcases i with _|j
   ·have b:=wN a;simp[hi,a,w1,aa];exact⟨o_,rd 1 hi (hh:=by simp[b]) (hr2:=by simp[mu])⟩
   ·have h:a6.wrap ((j:Int)+1+1)=(j:Int)+1+1:=aU _ o_ o_;have hI:(j:Int)+1<t.aV.length:=by omega
    have b:=wM (f:=AV.p∘fV) a;simp[hi,hI,a,h,aa];exact⟨o_,⟨o_,o_⟩,rd (j+2) hi (hh:=by simp at b;simp[b]) (hr2:=by simp[mu])⟩
  have q:i=t.aV.length:=o_
  rcases i with _|j
  ·have n:t.aV=[]:=b2.1 q.symm;simp[n,aa];refine lp (α:=Nat) (fun i=>match i with
     |0=>⟨[(32,.p (.int .i64 0)),(31,.p (.int .i64 t.an.length)),(30,.p (.seq (t.an.map bE))),(3,.ptr 3 []),(2,.ptr 1 []),(1,.ptr 0 [])],[.box false (.p (cw t)),.box false (.p (.st 42 [.aI,.int .i64 0,.aI,.aI])),.arr .exact 0 2 [],.box false (.st 42 [.sl 2 0 2 0 0,.p (.int .i64 t.aD),.p .aI,.p .aI])]⟩
     |m+1=>⟨[(32,.p (.int .i64 ((m+1:Nat):Int))),(31,.p (.int .i64 t.an.length)),(30,.p (.seq (t.an.map bE))),(3,.ptr 3 []),(2,.ptr 1 []),(1,.ptr 0 [])],[.box false (.p (cw t)),.box false (.p (.st 42 [.aI,.int .i64 0,.aI,.aI])),.arr .exact 0 2 [],.box false (.st 42 [.sl 2 0 2 0 0,.p (.int .i64 t.aD),.p .aI,.sl 6 m 3 0 (m+1)]),.hole,.hole,.arr .grow m 3 ((t.an.take (m+1)).map (AV.p∘bE))]⟩) (fun i=>i<=t.an.length) (fun i=>t.an.length-i) 0 s_ ?_
   rintro i o
   by_cases hi:i<t.an.length
   ·have a:=aj.eK hi;rcases i with _|j
    ·have b:=wN a;simp[hi,a,w1,aa];exact⟨o_,rd 1 hi (hh:=by simp[b]) (hr2:=by simp[mu])⟩
    ·have h:a6.wrap ((j:Int)+1+1)=(j:Int)+1+1:=aU _ o_ o_;have hI:(j:Int)+1<t.an.length:=by omega
     have b:=wM (f:=AV.p∘bE) a;simp[hi,hI,a,h,aa];exact⟨o_,⟨o_,o_⟩,rd (j+2) hi (hh:=by simp at b;simp[b]) (hr2:=by simp[mu])⟩
   have d:i=t.an.length:=o_
   rcases i with _|c
   ·have e:t.an=[]:=b2.1 d.symm;simp[e,aa];simp[bW,hc,n,e,rY,rX]
   ·have hI:¬((c:Int)+1<t.an.length):=by omega
    have g:t.an.take (c+1)=t.an:=by rw[d,bf]
    simp[hI,g,aa];have l:(t.an.map (AV.p∘bE)).take (c+1)=t.an.map (AV.p∘bE):=bo (by simp;omega);simp[bW,hc,n,l,rY,rX];omega
  ·have hI:¬((j:Int)+1<t.aV.length):=by omega
   have g:t.aV.take (j+1)=t.aV:=by rw[q,bf]
   simp[hI,g,aa];refine lp (α:=Nat) (fun i=>match i with
    |0=>⟨[(32,.p (.int .i64 0)),(31,.p (.int .i64 t.an.length)),(30,.p (.seq (t.an.map bE))),(3,.ptr 3 []),(2,.ptr 1 []),(1,.ptr 0 [])],[.box false (.p (cw t)),.box false (.p (.st 42 [.aI,.int .i64 0,.aI,.aI])),.arr .exact 0 2 [],.box false (.st 42 [.sl 2 0 2 0 0,.p (.int .i64 t.aD),.sl 6 j 4 0 (j+1),.p .aI]),.hole,.hole,.arr .grow j 4 (t.aV.map (AV.p∘fV))]⟩
    |m+1=>⟨[(32,.p (.int .i64 ((m+1:Nat):Int))),(31,.p (.int .i64 t.an.length)),(30,.p (.seq (t.an.map bE))),(3,.ptr 3 []),(2,.ptr 1 []),(1,.ptr 0 [])],[.box false (.p (cw t)),.box false (.p (.st 42 [.aI,.int .i64 0,.aI,.aI])),.arr .exact 0 2 [],.box false (.st 42 [.sl 2 0 2 0 0,.p (.int .i64 t.aD),.sl 6 j 4 0 (j+1),.sl 9 m 3 0 (m+1)]),.hole,.hole,.arr .grow j 4 (t.aV.map (AV.p∘fV)),.hole,.hole,.arr .grow m 3 ((t.an.take (m+1)).map (AV.p∘bE))]⟩) (fun i=>i<=t.an.length) (fun i=>t.an.length-i) 0 s_ ?_
   rintro i o
   by_cases hi:i<t.an.length
   ·have a:=aj.eK hi;rcases i with _|j
    ·have b:=wN a;simp[hi,a,w1,aa];exact⟨o_,rd 1 hi (hh:=by simp[b]) (hr2:=by simp[mu])⟩
    ·have h:a6.wrap ((j:Int)+1+1)=(j:Int)+1+1:=aU _ o_ o_;have hI:(j:Int)+1<t.an.length:=by omega
     have b:=wM (f:=AV.p∘bE) a;simp[hi,hI,a,h,aa];exact⟨o_,⟨o_,o_⟩,rd (j+2) hi (hh:=by simp at b;simp[b]) (hr2:=by simp[mu])⟩
   have d:i=t.an.length:=o_
   rcases i with _|c
   ·have e:t.an=[]:=b2.1 d.symm;simp[e,aa];have k:(t.aV.map (AV.p∘fV)).take (j+1)=t.aV.map (AV.p∘fV):=bo (by simp;omega);simp[bW,hc,k,e,rY,rX];omega
   ·have hI:¬((c:Int)+1<t.an.length):=by omega
    have g:t.an.take (c+1)=t.an:=by rw[d,bf]
    simp[hI,g,aa];have k:(t.aV.map (AV.p∘fV)).take (j+1)=t.aV.map (AV.p∘fV):=bo (by simp;omega);have l:(t.an.map (AV.p∘bE)).take (c+1)=t.an.map (AV.p∘bE):=bo (by simp;omega);simp[bW,hc,k,l,rY,rX];omega
 ·simp[hc];refine⟨⟨by repeat' first|rfl|apply am,by repeat' first|rfl|apply am⟩,?_⟩;refine lp (α:=Nat) (fun i=>match i with
    |0=>⟨[(18,.p (.int .i64 0)),(17,.p (.int .i64 t.aV.length)),(16,.p (.seq (t.aV.map fV))),(3,.ptr 4 []),(2,.ptr 1 []),(1,.ptr 0 [])],[.box false (.p (cw t)),.box false (.p (.st 42 [.aI,.int .i64 0,.aI,.aI])),.arr .exact 0 2 [],.arr .grow 0 2 (t.cs.map (AV.p∘cX)),.box false (.st 42 [.sl 3 0 2 0 t.cs.length,.p (.int .i64 t.aD),.p .aI,.p .aI])]⟩
    |m+1=>⟨[(18,.p (.int .i64 ((m+1:Nat):Int))),(17,.p (.int .i64 t.aV.length)),(16,.p (.seq (t.aV.map fV))),(3,.ptr 4 []),(2,.ptr 1 []),(1,.ptr 0 [])],[.box false (.p (cw t)),.box false (.p (.st 42 [.aI,.int .i64 0,.aI,.aI])),.arr .exact 0 2 [],.arr .grow 0 2 (t.cs.map (AV.p∘cX)),.box false (.st 42 [.sl 3 0 2 0 t.cs.length,.p (.int .i64 t.aD),.sl 7 m 4 0 (m+1),.p .aI]),.hole,.hole,.arr .grow m 4 ((t.aV.take (m+1)).map (AV.p∘fV))]⟩) (fun i=>i<=t.aV.length) (fun i=>t.aV.length-i) 0 s_ ?_
  rintro i o
  by_cases hi:i<t.aV.length
  ·have a:=aj.kI hi;rcases i with _|j
   ·have b:=wN a;simp[hi,a,w1,aa];exact⟨o_,rd 1 hi (hh:=by simp[b]) (hr2:=by simp[mu])⟩
   ·have h:a6.wrap ((j:Int)+1+1)=(j:Int)+1+1:=aU _ o_ o_;have hI:(j:Int)+1<t.aV.length:=by omega
    have b:=wM (f:=AV.p∘fV) a;simp[hi,hI,a,h,aa];exact⟨o_,⟨o_,o_⟩,rd (j+2) hi (hh:=by simp at b;simp[b]) (hr2:=by simp[mu])⟩
  have q:i=t.aV.length:=o_
  rcases i with _|j
  ·have n:t.aV=[]:=b2.1 q.symm;simp[n,aa];refine lp (α:=Nat) (fun i=>match i with
     |0=>⟨[(32,.p (.int .i64 0)),(31,.p (.int .i64 t.an.length)),(30,.p (.seq (t.an.map bE))),(3,.ptr 4 []),(2,.ptr 1 []),(1,.ptr 0 [])],[.box false (.p (cw t)),.box false (.p (.st 42 [.aI,.int .i64 0,.aI,.aI])),.arr .exact 0 2 [],.arr .grow 0 2 (t.cs.map (AV.p∘cX)),.box false (.st 42 [.sl 3 0 2 0 t.cs.length,.p (.int .i64 t.aD),.p .aI,.p .aI])]⟩
     |m+1=>⟨[(32,.p (.int .i64 ((m+1:Nat):Int))),(31,.p (.int .i64 t.an.length)),(30,.p (.seq (t.an.map bE))),(3,.ptr 4 []),(2,.ptr 1 []),(1,.ptr 0 [])],[.box false (.p (cw t)),.box false (.p (.st 42 [.aI,.int .i64 0,.aI,.aI])),.arr .exact 0 2 [],.arr .grow 0 2 (t.cs.map (AV.p∘cX)),.box false (.st 42 [.sl 3 0 2 0 t.cs.length,.p (.int .i64 t.aD),.p .aI,.sl 7 m 3 0 (m+1)]),.hole,.hole,.arr .grow m 3 ((t.an.take (m+1)).map (AV.p∘bE))]⟩) (fun i=>i<=t.an.length) (fun i=>t.an.length-i) 0 s_ ?_
   rintro i o
   by_cases hi:i<t.an.length
   ·have a:=aj.eK hi;rcases i with _|j
    ·have b:=wN a;simp[hi,a,w1,aa];exact⟨o_,rd 1 hi (hh:=by simp[b]) (hr2:=by simp[mu])⟩
    ·have h:a6.wrap ((j:Int)+1+1)=(j:Int)+1+1:=aU _ o_ o_;have hI:(j:Int)+1<t.an.length:=by omega
     have b:=wM (f:=AV.p∘bE) a;simp[hi,hI,a,h,aa];exact⟨o_,⟨o_,o_⟩,rd (j+2) hi (hh:=by simp at b;simp[b]) (hr2:=by simp[mu])⟩
   have d:i=t.an.length:=o_
   rcases i with _|c
   ·have e:t.an=[]:=b2.1 d.symm;simp[e,aa];simp[bW,hc,n,e,rY,rX]
   ·have hI:¬((c:Int)+1<t.an.length):=by omega
    have g:t.an.take (c+1)=t.an:=by rw[d,bf]
    simp[hI,g,aa];have l:(t.an.map (AV.p∘bE)).take (c+1)=t.an.map (AV.p∘bE):=bo (by simp;omega);simp[bW,hc,n,l,rY,rX];omega
  ·have hI:¬((j:Int)+1<t.aV.length):=by omega
   have g:t.aV.take (j+1)=t.aV:=by rw[q,bf]
   simp[hI,g,aa];refine lp (α:=Nat) (fun i=>match i with
    |0=>⟨[(32,.p (.int .i64 0)),(31,.p (.int .i64 t.an.length)),(30,.p (.seq (t.an.map bE))),(3,.ptr 4 []),(2,.ptr 1 []),(1,.ptr 0 [])],[.box false (.p (cw t)),.box false (.p (.st 42 [.aI,.int .i64 0,.aI,.aI])),.arr .exact 0 2 [],.arr .grow 0 2 (t.cs.map (AV.p∘cX)),.box false (.st 42 [.sl 3 0 2 0 t.cs.length,.p (.int .i64 t.aD),.sl 7 j 4 0 (j+1),.p .aI]),.hole,.hole,.arr .grow j 4 (t.aV.map (AV.p∘fV))]⟩
    |m+1=>⟨[(32,.p (.int .i64 ((m+1:Nat):Int))),(31,.p (.int .i64 t.an.length)),(30,.p (.seq (t.an.map bE))),(3,.ptr 4 []),(2,.ptr 1 []),(1,.ptr 0 [])],[.box false (.p (cw t)),.box false (.p (.st 42 [.aI,.int .i64 0,.aI,.aI])),.arr .exact 0 2 [],.arr .grow 0 2 (t.cs.map (AV.p∘cX)),.box false (.st 42 [.sl 3 0 2 0 t.cs.length,.p (.int .i64 t.aD),.sl 7 j 4 0 (j+1),.sl 10 m 3 0 (m+1)]),.hole,.hole,.arr .grow j 4 (t.aV.map (AV.p∘fV)),.hole,.hole,.arr .grow m 3 ((t.an.take (m+1)).map (AV.p∘bE))]⟩) (fun i=>i<=t.an.length) (fun i=>t.an.length-i) 0 s_ ?_
   rintro i o
   by_cases hi:i<t.an.length
   ·have a:=aj.eK hi;rcases i with _|j
    ·have b:=wN a;simp[hi,a,w1,aa];exact⟨o_,rd 1 hi (hh:=by simp[b]) (hr2:=by simp[mu])⟩
    ·have h:a6.wrap ((j:Int)+1+1)=(j:Int)+1+1:=aU _ o_ o_;have hI:(j:Int)+1<t.an.length:=by omega
     have b:=wM (f:=AV.p∘bE) a;simp[hi,hI,a,h,aa];exact⟨o_,⟨o_,o_⟩,rd (j+2) hi (hh:=by simp at b;simp[b]) (hr2:=by simp[mu])⟩
   have d:i=t.an.length:=o_
   rcases i with _|c
   ·have e:t.an=[]:=b2.1 d.symm;simp[e,aa];have k:(t.aV.map (AV.p∘fV)).take (j+1)=t.aV.map (AV.p∘fV):=bo (by simp;omega);simp[bW,hc,k,e,rY,rX];omega
   ·have hI:¬((c:Int)+1<t.an.length):=by omega
    have g:t.an.take (c+1)=t.an:=by rw[d,bf]
    simp[hI,g,aa];have k:(t.aV.map (AV.p∘fV)).take (j+1)=t.aV.map (AV.p∘fV):=bo (by simp;omega);have l:(t.an.map (AV.p∘bE)).take (c+1)=t.an.map (AV.p∘bE):=bo (by simp;omega);simp[bW,hc,k,l,rY,rX];omega
theorem aGl(t:aj)(p d:bM)(e:3<=t.cs.length)(hc:t.gh=true)(k:¬((vP d).x=0/\(vP d).y=0)):∃j,j<t.cs.length/\0<t.eJ (vP d) j/\(∃a l,t.fM (.from p) (cZ d) t.cs.length=a::l/\iV a l=t.bV (.from p) (cZ d) j)/\t.gF (vP p) (vP d) t.cs.length=((j:Int),t.iU (vP p) (vP d) j):=by
 obtain⟨i,hi,n⟩:=aGn t (vP d) e hc k;have h:=J6 t p d t.cs.length;have m:t.bV (.from p) (cZ d) i∈t.fM (.from p) (cZ d) t.cs.length:=by
  rw[aj.fM];exact cx.2 ⟨i,eo.2 ⟨da.2 hi,by rw[JO,decide_eq_true n]⟩,rfl⟩
 generalize o:t.fM (.from p) (cZ d) t.cs.length=L at*;cases L with
 |nil=>cases m
 |cons a l=>
  obtain⟨j,b,c,f,g⟩:=h;exact⟨j,b,c,⟨a,l,rfl,f⟩,g⟩
theorem UR{x:bM}(hx:eB x=0):cW x=eV (vP x):=by
 obtain⟨g1,g2⟩:=kn hx;rw[eV,vP];dsimp only;rw[(iQ g1).1,(iQ g2).1]
def gv(r:Int)(a b:V2):Int:=c8 ((a.sub b).dot (a.sub b)) (bK r)
def iM(t:aj)(bef:List de)(s:de):Int:=
 if isName s.name=false then 8
 else if bef.any (fun o=>decide (o.name=s.name))=true then 9
 else if eB s.pt≠0 then eB s.pt
 else if t.on (vP s.pt)<0 then 16
 else if bef.any (fun o=>decide (gv t.aD (vP o.pt) (vP s.pt)<0))=true then 17 else 0
def vO(t b:aj):Int:=if 24<b.an.length then 5 else mn (iM t) b.an
def iN(t b:aj):Int:=if gH t≠0 then gH t else vO t b
structure jZ(b:aj):Prop where
 sl:b.an.length<=1000000
 sp:∀s∈b.an,qt s
theorem qH{t:aj}(h:gH t=0):1<=t.aD/\t.aD<=1000:=by
 rw[gH]at h
 split at h
 ·omega
 split at h
 ·omega
 split at h
 ·omega
 split at h
 ·omega
 split at h
 ·omega
 omega
theorem yY{s:bM}(h:eB s=0):eV (vP s)=cW s/\bc 2000 (vP s):=by
 obtain⟨g1,g2⟩:=kn h;refine⟨?_,ie g1,ie g2⟩;rw[eV,vP];dsimp only;rw[(iQ g1).1,(iQ g2).1]
theorem Wz(t:aj)(a:0<=t.aD)(b:t.aD<=1000000):aq prog 273 [cw t] (.str (aR (bK t.aD))):=by
 have e:=xZ a b;have c:=DC (4*t.aD*t.aD) o_ o_;have w1:a6.wrap (4*t.aD)=4*t.aD:=aU _ o_ o_;have d:a6.wrap (4*t.aD*t.aD)=4*t.aD*t.aD:=aU _ o_ o_;refine gA_ nf func273 mix ?_;rw[bK];simp[f273,aa,w1,d,c1 c]
theorem WA(t:aj)(a b:V2)(d:0<=t.aD)(e:t.aD<=1000000)(f:bc 2000 a)(g:bc 2000 b):aq prog 214 [cw t,eV a,eV b] (.int .i64 (gv t.aD a b)):=by
 have c:=gD f g;have k1:=po a b (f.mono d_) (g.mono d_);have k2:=uV (a.sub b) (c.mono d_);have k3:=Wz t d e;have k4:=ue ((a.sub b).dot (a.sub b)) (bK t.aD) ((dh c c).mono d_) ((mG d e).mono d_);refine gA_ nf func214 mix ?_;rw[gv];simp(maxDischargeDepth:=99) [f214,aa,e2 k1,e1 k2,e1 k3,e2 k4]
theorem Ko{α:Type}{f:α->Bool}{l:List α}{i j:Nat}{x:α}(h:l[j]?=some x)(a:j<i)(hf:f x=true):(l.take i).any f=true:=by
 rw[b1];exact⟨x,be (i:=j) (by rw[b0,if_pos a];exact h),hf⟩
theorem Fa{t:aj}{a:List de}{s:de}(h:iM t a s=0):eB s.pt=0:=by
 rw[iM]at h
 split at h
 ·omega
 split at h
 ·omega
 split at h
 ·contradiction
 ·rename_i g;exact aT.1 g
theorem Wl(t b:aj)(v:gH t=0)(z:jZ b)(A:t.cs.length<=1000000):aq prog 112 [cw t,.seq (b.an.map bE)] (.int .i64 (vO t b)):=by
 obtain⟨O,B⟩:=z;obtain⟨_,_,hn,_⟩:=rU v;obtain⟨r0,r1⟩:=qH v;refine gA_ nf func112 mix ?_;rw[vO]
 by_cases c4:24<b.an.length
 ·have cI:(24:Int)<b.an.length:=by omega
  rw[if_pos c4];simp[f112,aa,cI]
 have x:¬(24:Int)<b.an.length:=o_
 rw[if_neg c4];simp[f112,aa,x];refine lp (α:=Nat) (fun i=>⟨[(5,.p (.int .i64 i)),(2,.ptr 0 []),(1,.p (.seq (b.an.map bE)))],[.box false (.p (cw t))]⟩) (fun i=>i<=b.an.length/\∀j,j<i->ir (iM t) b.an j=0) (fun i=>b.an.length-i) 0 s_ ?_;rintro i ⟨s1,s2⟩
 by_cases hs:i<b.an.length
 case neg=>
  have:i=b.an.length:=o_
  subst this;rw[qE.2 s2];simp[aa]
 have a:=aj.eK hs;have C:=cE (i:=i) o_;obtain⟨H,I⟩:=B _ (be a);have f:=EK (b.sp i).name H.1;have y:=Cd (b.sp i).pt I;have d:iM t (b.an.take i) (b.sp i)≠0->mn (iM t) b.an=iM t (b.an.take i) (b.sp i):=wL s2 a;have G:iM t (b.an.take i) (b.sp i)=0->∀j,j<i+1->ir (iM t) b.an j=0:=wK s2 a;have L:∀j,j<i->eB (b.sp j).pt=0:=fun j c=>by
  have:=s2 j c;rw[ir,aj.eK o_]at this;exact Fa this
 have ev:iM t (b.an.take i) (b.sp i)=if isName (b.sp i).name=false then 8 else if(b.an.take i).any (fun o=>decide (o.name=(b.sp i).name))=true then 9 else if eB (b.sp i).pt≠0 then eB (b.sp i).pt else if t.on (vP (b.sp i).pt)<0 then 16 else if(b.an.take i).any (fun o=>decide (gv t.aD (vP o.pt) (vP (b.sp i).pt)<0))=true then 17 else 0:=rfl
 clear s2;generalize iM t (b.an.take i) (b.sp i)=E,mn (iM t) b.an=M at*;cases l:isName (b.sp i).name
 ·rw[l]at f;rw[l,if_pos rfl]at ev;rw[d (by rw[ev];decide),ev];simp[hs,a,aa,c1_ f]
 rw[l]at f;rw[l,if_neg d_]at ev;simp[hs,a,aa];refine c1_ f ?_;simp[aa];refine lp (α:=Nat) (fun k=>⟨[(6,.p (.int .i64 k)),(5,.p (.int .i64 i)),(2,.ptr 0 []),(1,.p (.seq (b.an.map bE)))],[.box false (.p (cw t))]⟩) (fun k=>k<=i/\(b.an.take k).any (fun o=>decide (o.name=(b.sp i).name))=false) (fun k=>i-k) 0 s_ ?_;rintro k ⟨k1,k2⟩
 by_cases hk:k<i
 ·have r:k<b.an.length:=by omega
  have gk:=aj.eK r;have F:=cE (i:=k) o_
  by_cases h:(b.sp k).name=(b.sp i).name
  ·rw[if_pos (Ko gk hk (by simp[h]))]at ev;rw[d (by rw[ev];decide),ev];simp[hs,hk,r,gk,a,h,aa]
  ·simp[hs,hk,r,gk,a,h,F,aa];exact rd (k+1) ⟨hk,by rw[yT gk,k2];simp[h]⟩
 have:k=i:=o_
 subst this;rw[k2,if_neg d_]at ev;clear k1 k2 hk;have s:¬k<k:=o_
 simp[s,hs,a,aa];refine c1_ y ?_
 by_cases pe:eB (b.sp k).pt=0
 case neg=>
  rw[if_pos pe]at ev;rw[d (by rw[ev];exact pe),ev];simp[pe,aa]
 rw[if_neg (by simp[pe])]at ev;obtain⟨pl,ok⟩:=yY pe;have u:=Tw t (vP (b.sp k).pt) A hn (ok.mono d_);rw[pl]at u;simp[pe,hs,a,aa];refine e2_ u ?_
 by_cases m:t.on (vP (b.sp k).pt)<0
 ·rw[if_pos m]at ev;rw[d (by rw[ev];decide),ev];simp[m,aa]
 rw[if_neg m]at ev;simp[m,aa];refine lp (α:=Nat) (fun j=>⟨[(8,.p (.int .i64 j)),(5,.p (.int .i64 k)),(2,.ptr 0 []),(1,.p (.seq (b.an.map bE)))],[.box false (.p (cw t))]⟩) (fun j=>j<=k/\(b.an.take j).any (fun o=>decide (gv t.aD (vP o.pt) (vP (b.sp k).pt)<0))=false) (fun j=>k-j) 0 s_ ?_;rintro j ⟨N,w⟩
 by_cases c:j<k
 ·have q:j<b.an.length:=by omega
  have e:=aj.eK q;have D:=cE (i:=j) o_;obtain⟨K,J⟩:=yY (L j c);have n:=WA t (vP (b.sp j).pt) (vP (b.sp k).pt) o_ o_ J ok;rw[pl,K]at n
  by_cases g:gv t.aD (vP (b.sp j).pt) (vP (b.sp k).pt)<0
  ·rw[if_pos (Ko e c (by simp[g]))]at ev;rw[d (by rw[ev];decide),ev];simp[hs,c,q,e,a,aa,g,e3_ n]
  ·simp[hs,c,q,e,a,aa];refine e3_ n ?_;simp[g,D,aa];exact rd (j+1) ⟨c,by rw[yT e,w];simp[g]⟩
 have:j=k:=o_
 subst this;rw[w,if_neg d_]at ev;simp[s,C,aa];exact rd (j+1) ⟨hs,G ev⟩
theorem BG(t b:aj)(a:iu t)(c:jZ b):aq prog 41 [cw t,.seq (b.an.map bE)] (.int .i64 (iN t b)):=by
 have k1:=VB t a;refine gA_ nf func41 mix ?_;rw[iN]
 by_cases h:gH t=0
 ·rw[if_neg (by simp[h])];have k2:=Wl t b h c a.cl;rw[h]at k1;simp[f41,aa,c1_ k1,c2_ k2]
 ·rw[if_pos h];generalize gH t=e at*;simp[f41,aa,h,c1_ k1]
theorem aEQ(v w:NV)(a:bc kQ v.q)(b:bc kQ w.q):aq prog 313 [gA v,gA w] (eF (v.dot w)):=by
 have c:=fU v.x w.x (eQ a.1) (eQ b.1);have d:=fU v.y w.y (eQ a.2) (eQ b.2);have e:=rJ (v.x.mul w.x) (v.y.mul w.y) ((bh a.1 b.1).mono d_) ((bh a.2 b.2).mono d_);refine gA_ nf func313 mix ?_;rw[NV.dot];simp(maxDischargeDepth:=99) [f313,aa,e2 c,e2 d,e2 e]
theorem Ww(t:aj)(a:0<=t.aD)(b:t.aD<=1000000):aq prog 314 [bW t] (eF (.width t.aD)):=by
 have e:=xZ a b;have c:=lL (4*t.aD*t.aD) o_ o_;have w1:a6.wrap (4*t.aD)=4*t.aD:=aU _ o_ o_;have d:a6.wrap (4*t.aD*t.aD)=4*t.aD*t.aD:=aU _ o_ o_;refine gA_ nf func314 mix ?_;rw[NF.width];simp[f314,aa,w1,d,c1 c]
theorem L7(a b:V2):(b.sub a).dot (b.sub a)=(a.sub b).dot (a.sub b):=by
 simp only[V2.sub,V2.dot]
 grind
theorem Wy(t:aj)(a b:NV)(d:0<=t.aD)(e:t.aD<=1000000)(f:bc 2000 a.q)(g:bc 2000 b.q):aq prog 267 [bW t,gA a,gA b] (.int .i64 (gv t.aD a.q b.q)):=by
 have c:=gD g f;rw[<-NV.eH]at c;have k1:=E6 b a (g.mono d_) (f.mono d_);have k2:=aEQ (b.sub a) (b.sub a) (c.mono d_) (c.mono d_);have k3:=Ww t d e;have k4:=tC ((b.sub a).dot (b.sub a)) (.width t.aD) (by rw[NV.jq];exact(dh c c).mono d_) ((mG d e).mono d_);have hq:c8 ((b.sub a).dot (b.sub a)).q (NF.width t.aD).q=gv t.aD a.q b.q:=by
  rw[gv,NV.jq,NV.eH,L7];rfl
 rw[hq]at k4;refine gA_ nf func267 mix ?_;simp(maxDischargeDepth:=99) [f267,aa,c2 k1,e2 k2,e1 k3,e2 k4]
def yD(p:de):Prop:=qt p/\eB p.pt=0
theorem aGz(t:aj)(v:NV)(o:de)(b:0<=t.aD)(c:t.aD<=1000000)(e:bc 2000 v.q)(d:yD o):
 dE prog 266 [.box false (.p (bW t)),.box false (.p (gA v))] [.p (bE o),.ptr 0 [],.ptr 1 []] [.box false (.p (bW t)),.box false (.p (gA v))] (.p (.bool (decide (gv t.aD (vP o.pt) v.q<0)))):=by
 obtain⟨⟨h,f⟩,a⟩:=d;obtain⟨g1,g2⟩:=kn a;obtain⟨_,ok⟩:=yY a;have k1:=Iw o.pt g1 g2 f;have k2:=Wy t (.from o.pt) v b c (by rw[iD];exact ok) e;rw[iD]at k2;generalize gv t.aD (vP o.pt) v.q=y,NV.from o.pt=g at*;refine iC nf (i_ func266) mix (by simp[f266]) ?_;simp[f266,aa];refine e1_ k1 ?_;simp[aa];refine e3_ k2 ?_;simp[aa];exact dJ.og s_ s_ s_ s_ s_
theorem Ws(t:aj)(v:NV)(l:List de)(h:l.length<=1000000)(a:0<=t.aD)(b:t.aD<=1000000)(d:bc 2000 v.q)(c:∀o∈l,yD o):
 dE prog 261 [.box false (.p (bW t)),.box false (.p (gA v))] [.p (.seq (l.map bE)),.func 266 [] [.ptr 0 [],.ptr 1 []]] [.box false (.p (bW t)),.box false (.p (gA v))] (.p (.int .i64 (idxFrom (fun o=>decide (gv t.aD (vP o.pt) v.q<0)) l 0))):=by
 refine iC nf (i_ func261) mix (by simp[f261]) ?_;simp[f261];refine lp (α:=Nat) (fun i=>⟨[(8,.p (.int .i64 i)),(7,.p (.int .i64 l.length)),(1,.func 266 [] [.ptr 0 [],.ptr 1 []]),(0,.p (.seq (l.map bE)))],[.box false (.p (bW t)),.box false (.p (gA v))]⟩) (fun i=>i<=l.length/\idxFrom (fun o=>decide (gv t.aD (vP o.pt) v.q<0)) l 0=idxFrom (fun o=>decide (gv t.aD (vP o.pt) v.q<0)) (l.drop i) i) (fun i=>l.length-i) 0 s_ ?_;rintro i ⟨k1,k2⟩;have e:=cE (i:=i) o_
 by_cases hi:i<l.length
 ·rw[bi hi,idxFrom]at k2;simp[hi];refine cf (aGz t v l[i] a b d (c _ (c9 hi))) [0,1] ?_
  by_cases hk:gv t.aD (vP l[i].pt) v.q<0
  ·simp[hk]at k2;simp[hk,k2,bA]
  ·simp[hk]at k2;simp[hk,e,bA];exact rd (i+1) ⟨hi,k2⟩
 ·have:i=l.length:=by omega
  subst this;simp[idxFrom]at k2;simp[k2]
theorem Wo(t:aj)(v:NV)(l:List de)(h:l.length<=1000000)(a:0<=t.aD)(b:t.aD<=1000000)(d:bc 2000 v.q)(c:∀o∈l,yD o):
 dE prog 198 [.box false (.p (bW t)),.box false (.p (gA v))] [.p (.seq (l.map bE)),.func 266 [] [.ptr 0 [],.ptr 1 []]] [.box false (.p (bW t)),.box false (.p (gA v))] (.p (.bool (l.any (fun o=>decide (gv t.aD (vP o.pt) v.q<0))))):=by
 refine iC nf (i_ func198) mix (by simp[f198]) ?_;simp[f198];refine cf (Ws t v l h a b d c) [0,1] ?_;have:=tZ (fun o=>decide (gv t.aD (vP o.pt) v.q<0)) l 0;simp[bA,<-this]
theorem Wx(t:aj)(v:NV)(l:List de)(h:l.length<=1000000)(a:0<=t.aD)(b:t.aD<=1000000)(d:bc 2000 v.q)(c:∀o∈l,yD o):
 aq prog 205 [bW t,.seq (l.map bE),gA v] (.bool (!l.any (fun o=>decide (gv t.aD (vP o.pt) v.q<0)))):=by
 have k1:=Wo t v l h a b d c;generalize (l.any (fun o=>decide (gv t.aD (vP o.pt) v.q<0)))=y at*;refine gA_ nf func205 mix ?_;simp[f205,aa];refine cf k1 [0,1] ?_;simp[aa,bA]
theorem Wv(p o:de):dE prog 199 [.box false (.p (bE p))] [.p (bE o),.ptr 0 []] [.box false (.p (bE p))] (.p (.bool (decide (o.name=p.name)))):=by
 refine iC nf (i_ func199) mix (by simp[f199]) ?_
 by_cases h:o.name=p.name
 ·simp[f199,aa,h];exact dJ.og s_ s_ s_ s_ s_
 ·simp[f199,aa,h];exact dJ.og s_ s_ s_ s_ s_
theorem Wr(p:de)(l:List de)(h:l.length<=1000000):
 dE prog 261 [.box false (.p (bE p))] [.p (.seq (l.map bE)),.func 199 [] [.ptr 0 []]] [.box false (.p (bE p))] (.p (.int .i64 (idxFrom (fun o=>decide (o.name=p.name)) l 0))):=by
 refine iC nf (i_ func261) mix (by simp[f261]) ?_;simp[f261];refine lp (α:=Nat) (fun i=>⟨[(8,.p (.int .i64 i)),(7,.p (.int .i64 l.length)),(1,.func 199 [] [.ptr 0 []]),(0,.p (.seq (l.map bE)))],[.box false (.p (bE p))]⟩) (fun i=>i<=l.length/\idxFrom (fun o=>decide (o.name=p.name)) l 0=idxFrom (fun o=>decide (o.name=p.name)) (l.drop i) i) (fun i=>l.length-i) 0 s_ ?_;rintro i ⟨k1,k2⟩;have a:=cE (i:=i) o_
 by_cases hi:i<l.length
 ·rw[bi hi,idxFrom]at k2;simp[hi];refine cf (Wv p l[i]) [0] ?_
  by_cases hk:l[i].name=p.name
  ·simp[hk]at k2;simp[hk,k2,bA]
  ·simp[hk]at k2;simp[hk,a,bA];exact rd (i+1) ⟨hi,k2⟩
 ·have:i=l.length:=by omega
  subst this;simp[idxFrom]at k2;simp[k2]
theorem Wn(p:de)(l:List de)(h:l.length<=1000000):
 dE prog 198 [.box false (.p (bE p))] [.p (.seq (l.map bE)),.func 199 [] [.ptr 0 []]] [.box false (.p (bE p))] (.p (.bool (l.any (fun o=>decide (o.name=p.name))))):=by
 refine iC nf (i_ func198) mix (by simp[f198]) ?_;simp[f198];refine cf (Wr p l h) [0] ?_;have:=tZ (fun o=>decide (o.name=p.name)) l 0;simp[bA,<-this]
def yZ(r:Int)(a:List de)(v:V2):Bool:=a.any (fun o=>decide (gv r (vP o.pt) v<0))
def D9(t:aj)(a:List de)(s:de):Int:=bN [bn (decide (t.on (vP s.pt)<0)) 16,bn (a.any (fun o=>decide (gv t.aD (vP o.pt) (vP s.pt)<0))) 17]
theorem Wp(t:aj)(a:List de)(s:de):iM t a s=if kJ a s=0 then D9 t a s else kJ a s:=by
 rw[iM,kJ,D9];generalize t.on (vP s.pt)=y;generalize eB s.pt=d;generalize (a.any fun o=>decide (o.name=s.name))=e;generalize (a.any fun o=>decide (gv t.aD (vP o.pt) (vP s.pt)<0))=f;generalize isName s.name=g;cases g
 ·simp[bN,bn]
 cases e
 case true=>simp[bN,bn]
 by_cases b:d=0
 case neg=>simp[bN,bn,b]
 by_cases c:y<0
 ·simp[bN,bn,b,c]
 cases f
 ·simp[bN,bn,b,c]
 ·simp[bN,bn,b,c]
theorem aGE(t:aj)(s:de)(a:List de)(x:t.cs.length<=1000000)(j:gH t=0)(hs:qt s)(i:a.length<=1000000)(w:∀o∈a,yD o):
 dE prog 197 [.box false (.p (bW t))] [.p (bE s),.p (.seq (a.map bE)),.ptr 0 []] [.box false (.p (bW t))] (.p (.int .i64 (iM t a s))):=by
 obtain⟨_,_,hn,_⟩:=rU j;obtain⟨r0,r1⟩:=qH j;obtain⟨E,m⟩:=hs;have k1:=Wn s a i;have k2:=EU s.name E.1;have k3:=jX (!isName s.name) 8;have k4:=jX (a.any fun o=>decide (o.name=s.name)) 9;have k6:=B8 s.pt m;have k8:=ud [bn (!isName s.name) 8,bn (a.any fun o=>decide (o.name=s.name)) 9,eB s.pt] s_;have b:=JN (bef:=a) (s:=s);rw[Wp];have z:=fun h:kJ a s=0=>Iw s.pt (kn (b h)).1 (kn (b h)).2 m;have k:=fun h:kJ a s=0=>TD t (.from s.pt) x hn (FG ⟨(ie (kn (b h)).1).mono d_,(ie (kn (b h)).2).mono d_⟩);have A:=jX (decide (t.on (vP s.pt)<0)) 16;have l:kJ a s=0->aq prog 205 [bW t,.seq (a.map bE),gA (.from s.pt)] (.bool (!yZ t.aD a (NV.from s.pt).q)):=fun h=>Wx t (.from s.pt) a i o_ o_ (FG ⟨ie (kn (b h)).1,ie (kn (b h)).2⟩) w;have B:=jX (yZ t.aD a (vP s.pt)) 17;have d:=ud [bn (decide (t.on (vP s.pt)<0)) 16,bn (yZ t.aD a (vP s.pt)) 17] s_;simp only[iD]at k l;have f:kJ a s=bN [bn (!isName s.name) 8,bn (a.any fun o=>decide (o.name=s.name)) 9,eB s.pt]:=rfl;have g:D9 t a s=bN [bn (decide (t.on (vP s.pt)<0)) 16,bn (yZ t.aD a (vP s.pt)) 17]:=rfl;rw[<-f]at k8;rw[<-g]at d;clear f g b;generalize kJ a s=e,D9 t a s=v,yZ t.aD a (vP s.pt)=r,t.on (vP s.pt)=y,eB s.pt=F,(a.any fun o=>decide (o.name=s.name))=n,isName s.name=u,NV.from s.pt=v1 at*;refine iC nf (i_ func197) mix (by simp[f197]) ?_;have D:aq prog 200 [.seq [.int .i64 (bn (!u) 8),.int .i64 (bn n 9),.int .i64 F]] (.int .i64 e):=by simpa using k8
 have C:aq prog 200 [.seq [.int .i64 (bn (decide (y<0)) 16),.int .i64 (bn r 17)]] (.int .i64 v):=by simpa using d
 clear k8 d;generalize G:bn (!u) 8=w1,H:bn n 9=K,I:bn (decide (y<0)) 16=L,J:bn r 17=M at*;simp[f197,aa];refine cf k1 [1] ?_;simp[aa,bA,sig];refine e1_ k2 ?_;simp[aa];refine e2_ k3 ?_;simp[aa];refine e2_ k4 ?_;simp[aa];refine e1_ k6 ?_;simp[aa];refine ep D t_ t_ ?_;simp[aa];refine⟨r_,?_⟩
 by_cases c:e=0
 case neg=>
  simp[c,aa];exact dJ.og s_ s_ s_ s_ s_
 simp[c,aa];refine c1_ (z c) ?_;simp[aa];refine e2_ (k c) ?_;simp[aa];refine e2_ A ?_;simp[aa];refine e3_ (l c) ?_;simp[aa];refine e2_ B ?_;simp[aa];refine ep C t_ t_ ?_;simp[aa];refine⟨r_,?_⟩;exact⟨fun h=>(h c).elim,dJ.og s_ s_ s_ s_ s_⟩
theorem OH(l:List de):fZ prog 3 (l.map (AV.p∘bE)):=Di (fun r=>⟨by simp[aa],by simp[aa]⟩) l
theorem aGG(t b:aj)(h:t.cs.length<=1000000)(l:gH t=0)(c:jZ b):
 dE prog 196 [.box false (.p (bW t))] [.p (.seq (b.an.map bE)),.p (.int .i64 24),.func 197 [] [.ptr 0 []]] [.box false (.p (bW t))] (.p (.int .i64 (vO t b))):=by
 obtain⟨n,d⟩:=c;refine iC nf (i_ func196) mix (by simp[f196]) ?_;rw[vO]
 by_cases c1:24<b.an.length
 ·have cI:(24:Int)<b.an.length:=by omega
  rw[if_pos c1];simp[f196,cI]
 have e:¬(24:Int)<b.an.length:=o_
 rw[if_neg c1];simp[f196,e];refine lp (α:=Nat) (fun i=>⟨[(16,.p (.int .i64 i)),(15,.p (.int .i64 b.an.length)),(14,.p (.seq (b.an.map bE))),(2,.func 197 [] [.ptr 0 []]),(0,.p (.seq (b.an.map bE)))],[.box false (.p (bW t))]⟩) (fun i=>i<=b.an.length/\∀j,j<i->ir (iM t) b.an j=0) (fun i=>b.an.length-i) 0 s_ ?_;rintro i ⟨k1,k2⟩
 by_cases hk:i<b.an.length
 ·have gk:=aj.eK hk;have m:=cE (i:=i) o_;have a:=aGE t (b.sp i) (b.an.take i) h l (d _ (be gk)) (by rw[cb];omega) (fun o k=>by
   obtain⟨j,f,rfl⟩:=bw.1 k;rw[cb]at f;rw[db];have:=k2 j o_;have g:=aj.eK (t:=b) (i:=j) o_;rw[ir,g]at this;rw[aj.mZ o_];exact⟨d _ (be g),Fa this⟩)
  rw[dp]at a
  by_cases he:iM t (b.an.take i) (b.sp i)=0
  ·rw[he]at a;have:=wK k2 gk he;simp[hk,gk,aa];refine⟨⟨k1,OH _⟩,?_⟩;refine ef a [0] ?_;simp[m,aa,bA,sig];exact rd (i+1) ⟨hk,this⟩
  ·have c:=wL k2 gk he;rw[c];simp[hk,gk,aa];refine⟨⟨k1,OH _⟩,?_⟩;refine ef a [0] ?_;simp[he,aa,bA,sig];exact dJ.og s_ s_ s_ s_ s_
 ·have:i=b.an.length:=by omega
  subst this;rw[qE.2 k2];simp
theorem J9(t b:aj)(a:iu t)(c:jZ b):aq prog 105 [bW t,.seq (b.an.map bE)] (.int .i64 (iN t b)):=by
 have k1:=VF t a;refine gA_ nf func105 mix ?_;rw[iN]
 by_cases h:gH t=0
 ·rw[if_neg (by simp[h])];have k2:=aGG t b a.cl h c;rw[h]at k1;simp[f105,aa];refine c1_ k1 ?_;simp[aa];refine cf k2 [0] ?_;simp[aa,bA]
 ·rw[if_pos h];generalize gH t=e at*;simp[f105,aa,h,c1_ k1]
noncomputable def pj(l:List de):List (PV×PV):=l.map (fun s=>(.str s.name,cV (.from s.pt)))
def gW(l:List de)(n:List Nat):Option de:=l.find? (fun s=>decide (s.name=n))
theorem Ln(a b:List Nat):kz (.str a) (.str b)=some (decide (b=a)):=by
 rw[kz]
 by_cases h:b=a
 ·simp[h]
 ·simp[h];exact fun e=>h e.symm
@[simp] theorem Lm(T:TypeId)(q:List Nat):∀l:List de,gp prog T (pj l) (.str q)=some ((gW l q).map (fun s=>cV (.from s.pt)))
 |[]=>rfl
 |p::r=>by
  have:=Lm T q r;rw[pj]at this;rw[pj,bl,gp,pA,Ln,gW,eq]
  ·by_cases h:p.name=q
   ·simp[h]
   ·simp[h,this,gW]
  ·intro u fs h;cases h
theorem Lf(q:de):∀{l:List de},gW l q.name=none->gI (pj l) (.str q.name) (cV (.from q.pt))=pj (l++[q])
 |[],_=>rfl
 |p::r,h=>by
  rw[gW,eq]at h
  by_cases e:p.name=q.name
  ·simp[e]at h
  ·simp[e]at h;have:=Lf q (l:=r) (by rw[gW,c6];simpa using h);rw[pj]at this⊢;rw[bl,gI,Ln,this];simp[e,pj]
noncomputable def nr(t b:aj):PV:=.st 125 [bW t,.seq (b.an.map bE),.fu (pj b.an),eF (.width t.aD)]
@[simp] theorem aUW(t b:aj):aK (nr t b)=.agg 125:=rfl
@[simp] theorem aTm(t b:aj):cm (nr t b)=[bW t,.seq (b.an.map bE),.fu (pj b.an),eF (.width t.aD)]:=rfl
structure yE(b:aj):Prop where
 sl:b.an.length<=24
 sp:∀s∈b.an,yD s
 ne:∀i,i<b.an.length->gW (b.an.take i) (b.sp i).name=none
theorem KQ{t b:aj}(l:jZ b)(h:iN t b=0):gH t=0/\yE b/\(∀s∈b.an,0<=t.on (vP s.pt)):=by
 rw[iN]at h
 by_cases c:gH t=0
 case neg=>rw[if_pos c]at h;exact absurd h c
 rw[if_neg (by simp[c]),vO]at h
 by_cases f:24<b.an.length
 ·rw[if_pos f]at h;omega
 rw[if_neg f]at h;have k:=qE.1 h;have d:∀i,i<b.an.length->iM t (b.an.take i) (b.sp i)=0:=fun i hi=>by
  have:=k i hi
  rwa [ir,aj.eK hi]at this
 refine⟨c,⟨o_,fun s hs=>?_,fun i hi=>?_⟩,fun s hs=>?_⟩
 ·obtain⟨j,a,rfl⟩:=bw.1 hs;rw[aj.mZ a];exact⟨l.sp _ (be (aj.eK a)),Fa (d j a)⟩
 ·have:=d i hi;rw[iM]at this
  split at this
  ·omega
  split at this
  ·omega
  rename_i g;rw[gW,c6];intro x hx e;exact g (b1.2 ⟨x,hx,e⟩)
 ·obtain⟨j,a,rfl⟩:=bw.1 hs;rw[aj.mZ a];have:=d j a;rw[iM]at this
  split at this
  ·omega
  split at this
  ·omega
  split at this
  ·contradiction
  split at this
  ·omega
  omega
def ug:PV:=.st 125 [.st 42 [.aI,.int .i64 0,.aI,.aI],.aI,.gu,.st 123 [.st 121 [.int .i64 0,.aI],.st 121 [.int .i64 0,.aI]]]
@[simp] theorem aVv:aK ug=.agg 125:=rfl
theorem KR(t b:aj)(f:0<=t.aD)(g:t.aD<=1000000)(j:yE b):aq prog 108 [bW t,.seq (b.an.map bE)] (nr t b):=by
 obtain⟨q,k,e⟩:=j;have k1:=aEX t.aD f g;refine gA_ nf func108 mix ?_;rw[nr];simp[f108,aa];refine e1 k1 ?_;simp[aa];refine⟨rfl,?_⟩;refine lp (α:=Nat) (fun i=>⟨[(17,.p (.int .i64 i)),(16,.p (.int .i64 b.an.length)),(15,.p (.seq (b.an.map bE))),(5,.ptr 3 []),(4,.ptr 1 [])],[.box false (.p (bW t)),.box false (.p ug),.map false (pj (b.an.take i)),.box false (.st 125 [.p (bW t),.p (.seq (b.an.map bE)),.map 2,.p (eF (.width t.aD))])]⟩) (fun i=>i<=b.an.length) (fun i=>b.an.length-i) 0 s_ ?_ (hh:=by simp[ug,pj]);rintro i i1
 by_cases hi:i<b.an.length
 ·have a:=aj.eK hi;have m:=cE (i:=i) o_;obtain⟨⟨s,n⟩,o⟩:=k _ (be a);obtain⟨g1,g2⟩:=kn o;have h:=Ig (b.sp i).pt g1 g2 n;have d:=Lf (b.sp i) (e i hi);have l:b.an.take (i+1)=b.an.take i++[b.sp i]:=by rw[b5,a];rfl
  have c:=Lm 9 (b.sp i).name (b.an.take i);rw[e i hi]at c;rw[<-l]at d;generalize NV.from (b.sp i).pt=r at*;simp[hi,a,aa];refine e1 h ?_;simp[c,d,m,aa];exact rd (i+1) o_
 ·have:i=b.an.length:=by omega
  subst this;simp[aa]
def TU(p q:V2):PV:=.st 92 [eV p,eV q]
@[simp] theorem aVm(p q:V2):aK (TU p q)=.agg 92:=rfl
@[simp] theorem aTL(p q:V2):cm (TU p q)=[eV p,eV q]:=rfl
theorem wO{b:aj}(a:yE b){i:Nat}(hi:i<b.an.length):gW b.an (b.sp i).name=some (b.sp i):=by
 have h:=a.ne i hi;rw[gW]at h⊢;have e:b.an=b.an.take i++(b.sp i::b.an.drop (i+1)):=by
  rw[<-aj.mZ hi,<-bi hi,List.take_append_drop]
 generalize b.sp i=x at*;rw[e,List.find?_append,h];simp
def uh(t b:aj)(aP cg:List Nat):PV:=.st 28 [cw t,.seq (b.an.map bE),.str aP,.str cg]
@[simp] theorem aVd(t b:aj)(aP cg:List Nat):aK (uh t b aP cg)=.agg 28:=rfl
@[simp] theorem aTD(t b:aj)(aP cg:List Nat):cm (uh t b aP cg)=[cw t,.seq (b.an.map bE),.str aP,.str cg]:=rfl
theorem BI(b:aj)(name:List Nat)(k:b.an.length<=1000000):aq prog 25 [.seq (b.an.map bE),.str name] (.int .i64 (jY b name)):=by
 refine gA_ nf func25 mix ?_;simp[f25,aa];refine lp (α:=Nat) (fun i=>⟨[(5,.p (.int .i64 i)),(1,.p (.str name)),(0,.p (.seq (b.an.map bE)))],[]⟩) (fun i=>i<=b.an.length/\∀j,j<i->¬(b.sp j).name=name) (fun i=>b.an.length-i) 0 s_ ?_;rintro i ⟨h,d⟩
 by_cases hi:i<b.an.length
 ·have e:=aj.eK hi;have g:=cE (i:=i) o_
  by_cases a:(b.sp i).name=name
  ·have:jY b name=i:=by
    have:b.an.findIdx? (fun s=>decide (s.name=name))=some i:=by
     rw[b4];refine⟨hi,by rw[aj.mZ];simp[a],fun j c=>?_⟩;rw[aj.mZ];simp[d j c]
    rw[jY,this]
   simp[hi,e,a,this,aa]
  ·simp[hi,e,a,g,aa];exact rd (i+1) ⟨hi,fun j c=>by
    by_cases f:j=i
    ·subst f;exact a
    ·exact d j o_⟩
 ·have:i=b.an.length:=by omega
  subst this;have:jY b name= -1:=by
   have:b.an.findIdx? (fun s=>decide (s.name=name))=none:=by
    rw[cy];intro s hs;obtain⟨j,c,rfl⟩:=bw.1 hs;rw[aj.mZ];simp[d j c]
   rw[jY,this]
  simp[this,aa]
def hasB(b:aj)(name:List Nat)(i:Nat):Prop:=jY b name=i/\i<b.an.length/\gW b.an name=some (b.sp i)
theorem KP(b:aj)(name:List Nat):(∃i,hasB b name i)\/(jY b name= -1/\gW b.an name=none):=by
 cases h:b.an.findIdx? (fun s=>decide (s.name=name))with
 |some i=>
  left;have c:=h;rw[b4]at c;obtain⟨a,d,e⟩:=c;refine⟨i,by rw[jY,h],a,?_⟩;rw[gW,List.find?_eq_some_iff_getElem];rw[aj.mZ a]at d;exact⟨d,i,a,aj.mZ a,fun j f=>by have:=e j f;simpa using this⟩
 |none=>
  right;refine⟨by rw[jY,h],?_⟩;rw[cy]at h;rw[gW,c6];intro s hs;have:=h s hs;simpa using this
structure UC(t b:aj)(aP cg:List Nat)(i j:Nat):Prop where
 jz:gH t=0
 tl:t.cs.length<=1000000
 L:yE b
 It:∀s∈b.an,bc 60 (vP s.pt)
 ci:hasB b aP i
 bj:hasB b cg j
theorem UC.at{t b:aj}{aP cg:List Nat}{i j:Nat}(h:UC t b aP cg i j){k:Nat}(hk:k<b.an.length):eV (vP (b.sp k).pt)=cW (b.sp k).pt/\bc 60 (vP (b.sp k).pt):=by
 have m:=be (aj.eK hk);exact⟨(yY (h.L.sp _ m).2).1,h.It _ m⟩
def BJ(t b:aj)(aP cg:List Nat):PV:=.st 45 [bW t,.seq (b.an.map bE),.str aP,.str cg]
@[simp] theorem aVc(t b:aj)(aP cg:List Nat):aK (BJ t b aP cg)=.agg 45:=rfl
@[simp] theorem aTC(t b:aj)(aP cg:List Nat):cm (BJ t b aP cg)=[bW t,.seq (b.an.map bE),.str aP,.str cg]:=rfl
noncomputable def TT(t b:aj)(aP cg:List Nat):PV:=.st 127 [nr t b,BJ t b aP cg]
@[simp] theorem aVk(t b:aj)(aP cg:List Nat):aK (TT t b aP cg)=.agg 127:=rfl
@[simp] theorem aTJ(t b:aj)(aP cg:List Nat):cm (TT t b aP cg)=[nr t b,BJ t b aP cg]:=rfl
def aSf:PV:=.st 42 [.aI,.int .i64 0,.aI,.aI]
def Jo:PV:=.st 45 [aSf,.aI,.str [],.str []]
def Vm:PV:=.st 127 [ug,Jo]
@[simp] theorem aVx:aK Jo=.agg 45:=rfl
@[simp] theorem aVy:aK Vm=.agg 127:=rfl
@[simp] theorem aTO:cm Vm=[ug,Jo]:=rfl
def rS(n:Nat)(l:List de):Bool:=!((decide (n<l.length)&&decide (l.length<=24))||decide (26<l.length))&&l.all jy
theorem Kn(b:aj)(n:Nat)(v:b.an.length<=1000000)(hn:n<=1000):aq prog 40 [.seq (b.an.map bE),.int .i64 n] (.bool (rS n b.an)):=by
 refine gA_ nf func40 mix ?_;have o:rS n b.an=(!((decide (n<b.an.length)&&decide (b.an.length<=24))||decide (26<b.an.length))&&b.an.all jy):=rfl;have tail:(n<b.an.length->¬b.an.length<=24)->¬26<b.an.length->rS n b.an=b.an.all jy:=fun c a=>by
  rw[o]
  by_cases h:n<b.an.length
  ·have:=c h;simp[h,this,a]
  ·simp[h,a]
 have loop:(n<b.an.length->¬b.an.length<=24)->¬26<b.an.length->∀i,i<b.an.length->(jy (b.sp i)=false->rS n b.an=false):=fun c a i hi h=>by
  rw[tail c a];exact kK (aj.eK hi) h
 generalize rS n b.an=R at*
 by_cases c1:n<b.an.length/\b.an.length<=24
 ·have w:(n:Int)<b.an.length:=by omega
  have d:(b.an.length:Int)<=24:=o_
  have l:R=false:=by rw[o];simp[c1]
  simp[f40,aa,c1.1,d,l]
 by_cases c2:26<b.an.length
 ·have g:(26:Int)<b.an.length:=by omega
  have d:¬(b.an.length:Int)<=24:=o_
  have l:R=false:=by rw[o];simp[c2]
  by_cases c3:n<b.an.length
  ·simp[f40,aa,c3,d,g,l]
  ·simp[f40,aa,c3,g,l]
 have g:¬(26:Int)<b.an.length:=o_
 have tl:=tail (fun c a=>c1 ⟨c,a⟩) c2;have j:=loop (fun c a=>c1 ⟨c,a⟩) c2;clear tail loop o
 by_cases c3:n<b.an.length
 all_goals
  have d:n<b.an.length->¬(b.an.length:Int)<=24:=fun h=>by omega
  first
  |(have d:=d c3;simp[f40,aa,c3,d,g])
  |simp[f40,aa,c3,g]
  refine lp (α:=Nat) (fun i=>⟨[(5,.p (.int .i64 i)),(0,.p (.seq (b.an.map bE)))],[]⟩) (fun i=>i<=b.an.length/\(b.an.take i).all jy=true) (fun i=>b.an.length-i) 0 s_ ?_;rintro i ⟨k1,k2⟩
  by_cases hi:i<b.an.length
  ·have e:=aj.eK hi;have u:=cE (i:=i) o_;have k:=pL (b.sp i).pt.x 40;have q:=pL (b.sp i).pt.y 40;have m:jy (b.sp i)=(decide ((b.sp i).name.length<=40)&&(decide ((b.sp i).pt.x.length<=40)&&decide ((b.sp i).pt.y.length<=40))):=rfl;have j:=j i hi
   by_cases t:(b.sp i).name.length<=40
   case neg=>
    have f:(40:Int)<(b.sp i).name.length:=o_
    have:=j (by rw[m];simp[t]);simp[hi,e,f,this,aa]
   have f:¬(40:Int)<(b.sp i).name.length:=o_
   by_cases a2:(b.sp i).pt.x.length<=40
   case neg=>
    have r:¬((b.sp i).pt.x.length:Int)<=40:=o_
    rw[decide_eq_false r]at k;have:=j (by rw[m];simp[a2]);simp[hi,e,f,aa,this,c2_ k]
   have r:((b.sp i).pt.x.length:Int)<=40:=o_
   rw[decide_eq_true r]at k
   by_cases a3:(b.sp i).pt.y.length<=40
   case neg=>
    have s:¬((b.sp i).pt.y.length:Int)<=40:=o_
    rw[decide_eq_false s]at q;have:=j (by rw[m];simp[a3]);simp[hi,e,f,aa,this,c2_ k,c2_ q]
   have s:((b.sp i).pt.y.length:Int)<=40:=o_
   rw[decide_eq_true s]at q;simp[hi,e,f,aa];refine c2_ k ?_;simp[hi,e,aa];refine c2_ q ?_;simp[u,aa];exact rd (i+1) ⟨hi,by rw[rV e,k2,m];simp[t,a2,a3]⟩
  ·have:i=b.an.length:=by omega
   subst this;rw[bf]at k2;rw[tl,k2];simp
def rN(p:bM)(D:Nat):Bool:=fW p.x D&&fW p.y D
def tK(t b:aj)(n D:Nat):Bool:=
 nR t&&(rS n b.an&&(decide (b.an.length<=n)&&(decide (iN t b=0)&&(decide (t.an.length<=8)&&(t.aV.all (fun p=>fW p.a D&&fW p.b D)&&(t.an.all (fun s=>rN s.pt D)&&b.an.all (fun s=>rN s.pt D)))))))
theorem aDQ(t b:aj)(n D:Nat)(J:iu t)(I:jZ b)(hn:n<=1000)(N:D<=1000):aq prog 42 [cw t,.seq (b.an.map bE),.int .i64 n,.int .i64 D] (.bool (tK t b n D)):=by
 obtain⟨E,F,G,B,C⟩:=J;obtain⟨H,A⟩:=I;have j:=J0 t E F G;have m:=Kn b n H hn;have M:=BG t b ⟨E,F,G,B,C⟩ ⟨H,A⟩;refine gA_ nf func42 mix ?_;rw[tK];generalize iN t b=e at*;cases w:nR t
 ·rw[w]at j;simp[f42,aa,c1_ j]
 rw[w]at j;cases z:rS n b.an
 ·rw[z]at m;simp(maxDischargeDepth:=99) [f42,aa,c1_ j,c2_ m]
 rw[z]at m;simp[f42,aa];refine c1_ j ?_;simp[aa];refine c2_ m ?_
 by_cases o:b.an.length<=n
 case neg=>
  have u:n<b.an.length:=o_
  simp[o,u,aa]
 have u:¬n<b.an.length:=o_
 simp[o,u,aa];refine c2_ M ?_
 by_cases l:e=0
 case neg=>simp[l,aa]
 by_cases q:t.an.length<=8
 case neg=>
  have v:(8:Int)<t.an.length:=o_
  simp[l,q,v,aa]
 have v:¬(8:Int)<t.an.length:=o_
 simp[l,q,v,aa];refine lp (α:=Nat) (fun i=>⟨[(9,.p (.int .i64 i)),(4,.ptr 0 []),(3,.p (.int .i64 D)),(1,.p (.seq (b.an.map bE)))],[.box false (.p (cw t))]⟩) (fun i=>i<=t.aV.length/\(t.aV.take i).all (fun p=>fW p.a D&&fW p.b D)=true) (fun i=>t.aV.length-i) 0 s_ ?_;rintro i ⟨i1,i2⟩
 by_cases hi:i<t.aV.length
 ·have c:=aj.kI hi;have g:=cE (i:=i) o_;obtain⟨_,K,L⟩:=B _ (be c);have d:=D7 (t.pk i).a D K o_;have k:=D7 (t.pk i).b D L o_;have bad:(fW (t.pk i).a D&&fW (t.pk i).b D)=false->t.aV.all (fun p=>fW p.a D&&fW p.b D)=false:=fun h=>kK c h;cases f:fW (t.pk i).a D
  ·rw[f]at d;rw[bad (by rw[f];rfl)];simp[hi,c,aa,c2_ d]
  rw[f]at d;cases a2:fW (t.pk i).b D
  ·rw[a2]at k;rw[bad (by rw[a2];simp)];simp(maxDischargeDepth:=99) [hi,c,aa,c2_ d,c2_ k]
  rw[a2]at k;simp[hi,c,aa];refine c2_ d ?_;simp[hi,c,aa];refine c2_ k ?_;simp[g,aa];exact rd (i+1) ⟨hi,by rw[rV c,i2,f,a2];rfl⟩
 have:i=t.aV.length:=o_
 subst this;rw[bf]at i2;rw[i2];clear i1 i2 hi;simp[aa];refine lp (α:=Nat) (fun i=>⟨[(10,.p (.int .i64 i)),(4,.ptr 0 []),(3,.p (.int .i64 D)),(1,.p (.seq (b.an.map bE)))],[.box false (.p (cw t))]⟩) (fun i=>i<=t.an.length/\(t.an.take i).all (fun s=>rN s.pt D)=true) (fun i=>t.an.length-i) 0 s_ ?_;rintro i ⟨i1,i2⟩
 by_cases hi:i<t.an.length
 ·have c:=aj.eK hi;have g:=cE (i:=i) o_;have d:=HE (t.sp i).pt D (C _ (be c)).2 o_;have r:rN (t.sp i).pt D=(fW (t.sp i).pt.x D&&fW (t.sp i).pt.y D):=rfl;rw[<-r]at d;cases f:rN (t.sp i).pt D
  ·rw[f]at d;rw[kK c f];simp[hi,c,aa,c2_ d]
  rw[f]at d;simp[hi,c,aa];refine c2_ d ?_;simp[g,aa];exact rd (i+1) ⟨hi,by rw[rV c,i2,f];rfl⟩
 have:i=t.an.length:=o_
 subst this;rw[bf]at i2;rw[i2];clear i1 i2 hi;simp[aa];refine lp (α:=Nat) (fun i=>⟨[(11,.p (.int .i64 i)),(3,.p (.int .i64 D)),(1,.p (.seq (b.an.map bE)))],[]⟩) (fun i=>i<=b.an.length/\(b.an.take i).all (fun s=>rN s.pt D)=true) (fun i=>b.an.length-i) 0 s_ ?_;rintro i ⟨i1,i2⟩
 by_cases hi:i<b.an.length
 ·have c:=aj.eK hi;have g:=cE (i:=i) o_;have d:=HE (b.sp i).pt D (A _ (be c)).2 o_;have r:rN (b.sp i).pt D=(fW (b.sp i).pt.x D&&fW (b.sp i).pt.y D):=rfl;rw[<-r]at d;cases f:rN (b.sp i).pt D
  ·rw[f]at d;rw[kK c f];simp[hi,c,aa,c2_ d]
  rw[f]at d;simp[hi,c,aa];refine c2_ d ?_;simp[g,aa];exact rd (i+1) ⟨hi,by rw[rV c,i2,f];rfl⟩
 have:i=b.an.length:=o_
 subst this;rw[bf]at i2;rw[i2];simp[o,l,q,aa]
def uf(t b:aj)(aP cg:List Nat)(n:Nat):Bool:=
 decide (aP.length<=40)&&(decide (cg.length<=40)&&(nR t&&(rS n b.an&&(decide (iN t b≠0)||tK t b n 9))))
theorem W4(t b:aj)(aP cg:List Nat)(n:Nat)(a:iu t)(i:jZ b)(hn:n<=1000):aq prog 6 [uh t b aP cg,.int .i64 n] (.bool (uf t b aP cg n)):=by
 have g:=J0 t a.cl a.pl a.sl;have k:=Kn b n i.sl hn;have l:=BG t b a i;have m:=aDQ t b n 9 a i hn d_;refine gA_ nf func6 mix ?_;rw[uf];generalize iN t b=e,tK t b n 9=o at*
 by_cases d:aP.length<=40
 case neg=>
  have c:(40:Int)<aP.length:=o_
  simp[f6,d,c,aa]
 have c:¬(40:Int)<aP.length:=o_
 by_cases a2:cg.length<=40
 case neg=>
  have f:(40:Int)<cg.length:=o_
  simp[f6,a2,c,f,aa]
 have f:¬(40:Int)<cg.length:=o_
 cases j:nR t
 ·rw[j]at g;simp[f6,c,f,aa,c1_ g]
 rw[j]at g;simp[f6,d,a2,c,f,aa];refine c1_ g ?_;simp[aa];refine c2_ k ?_;cases p:rS n b.an
 ·simp[aa]
 simp[aa];refine c2_ l ?_
 by_cases h:e=0
 case neg=>simp[d,a2,h,aa]
 simp[h,aa];refine c4_ m ?_;simp[d,a2,h,aa]
theorem Wj(b:aj)(f:b.an.length<=1000000):aq prog 19 [.seq (b.an.map bE)] (.seq (b.an.map bE)):=by
 have g:(1000000:Nat)<dH:=d_
 have w1:a6.wrap 1=1:=d_
 refine gA_ nf func19 mix ?_;simp[f19,aa];refine lp (α:=Nat) (fun i=>⟨[(8,.p (.int .i64 i)),(7,.p (.int .i64 b.an.length)),(6,.p (.seq (b.an.map bE))),(3,.sl 0 i 3 0 i)],[.arr .grow i 3 ((b.an.map (AV.p∘bE)).take i)]⟩) (fun i=>i<=b.an.length) (fun i=>b.an.length-i) 0 s_ ?_;rintro i i1
 by_cases hi:i<b.an.length
 ·have a:=aj.eK hi;have e:=cE (i:=i) o_;have d:(b.an.map (AV.p∘bE)).take (i+1)=(b.an.map (AV.p∘bE)).take i++[.p (bE (b.sp i))]:=by
   rw[b5,ea,a];rfl
  have c:min i b.an.length=i:=o_
  simp[hi,a,e,c,aa];exact⟨o_,rd (i+1) hi (hh:=by simp[d]) (hr2:=by simp[mu])⟩
 ·have:i=b.an.length:=by omega
  subst this;simp[aa]
structure Bk where
 t:aj
 b:aj
 aP:List Nat
 cg:List Nat
def TS(s:Bk):PV:=uh s.t s.b s.aP s.cg
structure UD(s:Bk):Prop where
 t:iu s.t
 b:jZ s.b
 aP:kG s.aP
 cg:kG s.cg
section
variable{H:Type}{W:World}{ad:Nat->Prop}
theorem aRs:∃a b:a5,prog.underlying 77=some (.struct #[a,b])/\a.type=9/\b.type=32:=⟨_,_,underlying77,rfl,rfl⟩
theorem Vb:prog.underlyingId 77=76:=k_
theorem WB{m n:Nat}(s:m=n+2){d:a4 H}(h:∃cs,bd prog W ad (bS prog (m+1) 77 d) cs)(o:Rows.uptoBulk d<=1048576):∃p:de,bS prog (m+1) 77 d=bE p/\qt p/\2<=Rows.uptoBulk d:=by
 obtain⟨cs,h⟩:=h;obtain⟨f0,f1,g,t0,t1⟩:=aRs;cases d with
 |agg l=>
  have f:∀x∈l,Rows.uptoBulk x<=1048576:=fun x hx=>by
   have:=tG.ym hx;rw[Rows.uptoBulk]at o;omega
  simp only[bS,g,bd]at h⊢;obtain⟨u,t,e,c,_⟩:=h;rw[Vb,U7]at e;cases e
  match l,c with
  |[],c=>simp[bt]at c
  |[x],c=>simp[bt]at c
  |x::y::r,c=>
   have:=Bo x;simp only[cc,bl,bt,cd,b3,t0,t1]at c⊢;obtain⟨c0,_,_,g1,_,c1,_,_,g2,_⟩:=c;subst s;obtain⟨a,i,k⟩:=yU (n:=n+1) ⟨c0,g1⟩ (f x s_);obtain⟨b,j,q⟩:=GU (n:=n) ⟨c1,g2⟩ (f y s_);refine⟨⟨a,b⟩,by rw[i,j,Vb];rfl,⟨k,q⟩,?_⟩;rw[Rows.uptoBulk,Rows.uptoBulkAll];omega
 |_=>simp only[bS,g,bd]at h
theorem aRw:∃a b c d:a5,prog.underlying 29=some (.struct #[a,b,c,d])/\a.type=26/\b.type=27/\c.type=9/\d.type=9:=⟨_,_,_,_,underlying29,rfl,rfl,rfl,rfl⟩
theorem Vf:prog.underlyingId 29=28:=k_
theorem aQI{m n:Nat}(s:m=n+5){d:a4 H}(h:∃cs,bd prog W ad (bS prog (m+1) 29 d) cs)(f:Rows.uptoBulk d<=1048576):∃t:Bk,bS prog (m+1) 29 d=TS t/\True/\UD t:=by
 obtain⟨cs,h⟩:=h;obtain⟨f0,f1,f2,f3,i,t0,t1,t2,t3⟩:=aRw;cases d with
 |agg l=>
  have e:∀x∈l,Rows.uptoBulk x<=1048576:=fun x hx=>by
   have:=tG.ym hx;rw[Rows.uptoBulk]at f;omega
  simp only[bS,i,bd]at h⊢;obtain⟨E,D,g,c,_⟩:=h;rw[Vf,aQ5]at g;cases g
  match l,c with
  |[],c=>simp[bt]at c
  |[x],c=>simp[bt]at c
  |[x,y],c=>simp[bt]at c
  |[x,y,z],c=>simp[bt]at c
  |x::y::z::w::r,c=>
   simp only[cc,bl,bt,cd,b3,t0,t1,t2,t3]at c⊢;obtain⟨c0,_,_,g0,_,c1,_,_,g1,_,c2,_,_,g2,_,c3,_,_,g3,_⟩:=c;subst s;obtain⟨a,j,_,o⟩:=aQ8 (n:=n) rfl ⟨c0,g0⟩ (e x s_);obtain⟨b,k,p,C⟩:=BB (n:=n+4) aRr (F:=bE) (ok:=qt) (fun d q f=>WB (n:=n+1) rfl q f) ⟨c1,g1⟩ (e y s_);obtain⟨u,eu,A⟩:=yU (n:=n+4) ⟨c2,g2⟩ (e z s_);obtain⟨v,ev,B⟩:=yU (n:=n+4) ⟨c3,g3⟩ (e w s_);exact⟨⟨a,⟨[],0,[],b⟩,u,v⟩,by rw[j,k,eu,ev,Vf];rfl,trivial,o,⟨C,p⟩,A,B⟩
 |_=>simp only[bS,i,bd]at h
theorem WD{d:a4 H}(h:∃cs,bd prog W ad (bS prog 8 29 d) cs)(a:Rows.uptoBulk d<=1048576):∃t:Bk,bS prog 8 29 d=TS t/\True/\UD t:=aQI (n:=2) rfl h a
end
namespace Hk
mutual
def wD:PV->PV->Bool
 | .int .i64 a,.int .i64 b=>rM a b
 | .int .u64 a,.int .u64 b=>rM a b
 | .bool a,.bool b=>a==b
 | .str a,.str b=>wC a b
 | .aI,.aI=>true
 | .gu,.gu=>true
 | .dw f a,.dw g b=>bif f==g then nO a b else false
 | .seq a,.seq b=>nO a b
 | .fu a,.fu b=>yJ a b
 | .st u a,.st v b=>bif eP u v then nO a b else false
 | .aC a,.aC b=>nO a b
 | .func f a b,.func g c d=>bif eP f g then(bif nO a c then nO b d else false)else false
 | .cM a,.cM b=>wD a b
 |_,_=>false
def nO:List PV->List PV->Bool
 |[],[]=>true
 |a::l,b::m=>bif wD a b then nO l m else false
 |_,_=>false
def yJ:List (PV×PV)->List (PV×PV)->Bool
 |[],[]=>true
 |(a,c)::l,(b,d)::m=>bif wD a b then(bif wD c d then yJ l m else false)else false
 |_,_=>false
end
mutual
theorem Ae:∀{a b:PV},wD a b=true->a=b
 |a,b,h=>by
  unfold wD at h
  split at h
  ·rw[Dy h]
  ·rw[Dy h]
  ·rw[eq_of_beq h]
  ·rw[G9 h]
  ·rfl
  ·rfl
  ·rename_i f a g b;cases hf:f==g
   ·rw[hf]at h;cases h
   ·rw[hf,cond_true]at h;rw[eq_of_beq hf,sR h]
  ·rw[sR h]
  ·rw[QD h]
  ·simp only[ao]at h
   split at h
   ·rename_i i;rw[er i,sR h]
   ·cases h
  ·rw[sR h]
  ·simp only[ao]at h
   split at h
   ·rename_i i
    split at h
    ·rename_i e;rw[er i,sR e,sR h]
    ·cases h
   ·cases h
  ·rw[Ae h]
  ·cases h
theorem sR:∀{a b:List PV},nO a b=true->a=b
 |[],[],_=>rfl
 |[],_::_,h=>by simp[nO]at h
 |_::_,[],h=>by simp[nO]at h
 |a::l,b::m,h=>by
  simp only[nO,ao]at h
  split at h
  ·rename_i e;rw[Ae e,sR h]
  ·cases h
theorem QD:∀{a b:List (PV×PV)},yJ a b=true->a=b
 |[],[],_=>rfl
 |[],_::_,h=>by simp[yJ]at h
 |_::_,[],h=>by simp[yJ]at h
 |(a,c)::l,(b,d)::m,h=>by
  simp only[yJ,ao]at h
  split at h
  ·rename_i e
   split at h
   ·rename_i j;rw[Ae e,Ae j,QD h]
   ·cases h
  ·cases h
end
def Av:List (a1×List PV×PV)->a1->List PV->Option PV
 |[],f,vs=>hk f vs
 |(g,us,v)::r,f,vs=>bif eP g f then(bif nO us vs then some v else Av r f vs)else Av r f vs
def nh:List (a1×List PV×PV)->Prop
 |[]=>True
 |(g,us,v)::r=>aq prog g us v/\nh r
theorem zP:∀{l m:List (a1×List PV×PV)},nh l->nh m->nh (l++m)
 |[],_,_,h=>h
 |_::_,_,h,a=>⟨h.1,zP h.2 a⟩
theorem Gf:∀{l:List (a1×List PV×PV)},nh l->∀f vs v,Av l f vs=some v->aq prog f vs v
 |[],_,f,vs,v,h=>aGR h
 |(g,us,w)::r,a,f,vs,v,h=>by
  simp only[Av,ao]at h
  split at h
  ·rename_i b
   split at h
   ·rename_i hs;simp only[e7]at h;subst h;rw[<-sR hs,<-er b];exact a.1
   ·exact Gf a.2 f vs v h
  ·exact Gf a.2 f vs v h
def Up(v:PV):Option PV->Bool
 |some w=>wD v w
 |none=>false
theorem aOE{v:PV}{o:Option PV}(h:Up v o=true):o=some v:=by
 cases o with
 |none=>cases h
 |some w=>rw[Ae h]
def aP7:a1->a1->Nat:=fun _ _=>0
theorem dv(l:List (a1×List PV×PV))(a:nh l){f:a1}{vs:List PV}{v:PV}(h:Up v (UZ (Av l) aP7 f vs)=true):aq prog f vs v:=Q3 (Gf a) (aOE h)
end Hk
namespace lx
def T:PV:=.st 42 [.dw true [.st 201 [.int .i64 0,.int .i64 0],.st 201 [.int .i64 2000,.int .i64 0],.st 201 [.int .i64 2000,.int .i64 1000],.st 201 [.int .i64 0,.int .i64 1000]],.int .i64 30,.dw true [.st 82 [.str [97],.int .i64 0,.str [48],.str [49,47,50,48]],.st 82 [.str [99],.int .i64 1,.str [57,47,50,48],.str [49,49,47,50,48]]],.aI]
def B:PV:=.dw true [.st 76 [.str [99,117,101],.st 31 [.str [53,48,48],.str [53,48,48]]],.st 76 [.str [111,110,101],.st 31 [.str [49,48,48,48],.str [53,48,48]]],.st 76 [.str [116,119,111],.st 31 [.str [49,48,48,48],.str [55,48,48]]]]
def aP:PV:=.str [99,117,101]
def one:PV:=.str [111,110,101]
def X:PV:=.st 45 [T,B,aP,one]
def Y:PV:=.st 127 [.st 125 [T,B,.fu [(.str [99,117,101],.st 141 [.st 123 [.st 121 [.int .i64 500,.aI],.st 121 [.int .i64 1,.aI]],.st 123 [.st 121 [.int .i64 500,.aI],.st 121 [.int .i64 1,.aI]]]),(.str [111,110,101],.st 141 [.st 123 [.st 121 [.int .i64 1000,.aI],.st 121 [.int .i64 1,.aI]],.st 123 [.st 121 [.int .i64 500,.aI],.st 121 [.int .i64 1,.aI]]]),(.str [116,119,111],.st 141 [.st 123 [.st 121 [.int .i64 1000,.aI],.st 121 [.int .i64 1,.aI]],.st 123 [.st 121 [.int .i64 700,.aI],.st 121 [.int .i64 1,.aI]]])],.st 123 [.st 121 [.int .i64 3600,.aI],.st 121 [.int .i64 1,.aI]]],.st 45 [T,B,.str [99,117,101],.str [111,110,101]]]
def WR:PV:=.dw false (.int .i64 0::[.int .i64 1,.int .i64 2,.int .i64 3,.int .i64 4,.int .i64 5,.int .i64 6,.int .i64 7,.int .i64 8,.int .i64 9,.int .i64 10,.int .i64 11,.int .i64 12,.int .i64 13,.int .i64 14,.int .i64 15,.int .i64 16,.int .i64 17,.int .i64 18,.int .i64 19,.int .i64 20,.int .i64 21,.int .i64 22,.int .i64 23,.int .i64 24,.int .i64 25,.int .i64 26,.int .i64 27,.int .i64 28,.int .i64 29,.int .i64 30,.int .i64 31,.int .i64 32]++[.int .i64 33,.int .i64 34,.int .i64 35,.int .i64 36,.int .i64 37,.int .i64 38,.int .i64 39,.int .i64 40,.int .i64 41,.int .i64 42,.int .i64 43,.int .i64 44,.int .i64 45,.int .i64 46,.int .i64 47,.int .i64 48,.int .i64 49,.int .i64 50,.int .i64 51,.int .i64 52,.int .i64 53,.int .i64 54,.int .i64 55,.int .i64 56,.int .i64 57,.int .i64 58,.int .i64 59,.int .i64 60,.int .i64 61,.int .i64 62,.int .i64 63,.int .i64 64])
def k0:List (a1×List PV×PV):=[]
theorem Ur:Hk.nh k0:=trivial
theorem g1:aq prog 124 [T] (.int .i64 0):=Hk.dv k0 Ur k_
theorem g2:aq prog 105 [T,B] (.int .i64 0):=Hk.dv k0 Ur k_
def k1:List (a1×List PV×PV):=[(124,[T],.int .i64 0),(105,[T,B],.int .i64 0)]
theorem Us:Hk.nh k1:=⟨g1,g2,trivial⟩
theorem g3:aq prog 58 [X] (.aC [Y,.int .i64 0]):=Hk.dv k1 Us k_
def k2:List (a1×List PV×PV):=[(58,[X],.aC [Y,.int .i64 0])]++k1
theorem fp:Hk.nh k2:=Hk.zP (l:=[(58,[X],.aC [Y,.int .i64 0])]) ⟨g3,trivial⟩ Us
end lx
namespace lx
theorem y0:aq prog 101 [Y,.int .i64 0] (.aC [.str [],.int .i64 18]):=Hk.dv k2 fp k_
theorem y1:aq prog 101 [Y,.int .i64 1] (.aC [.str [],.int .i64 18]):=Hk.dv k2 fp k_
theorem y2:aq prog 101 [Y,.int .i64 2] (.aC [.str [],.int .i64 18]):=Hk.dv k2 fp k_
theorem y3:aq prog 101 [Y,.int .i64 3] (.aC [.str [],.int .i64 18]):=Hk.dv k2 fp k_
theorem y4:aq prog 101 [Y,.int .i64 4] (.aC [.str [],.int .i64 18]):=Hk.dv k2 fp k_
theorem y5:aq prog 101 [Y,.int .i64 5] (.aC [.str [],.int .i64 18]):=Hk.dv k2 fp k_
theorem y6:aq prog 101 [Y,.int .i64 6] (.aC [.str [],.int .i64 18]):=Hk.dv k2 fp k_
theorem y7:aq prog 101 [Y,.int .i64 7] (.aC [.str [],.int .i64 18]):=Hk.dv k2 fp k_
theorem y8:aq prog 101 [Y,.int .i64 8] (.aC [.str [],.int .i64 18]):=Hk.dv k2 fp k_
theorem y9:aq prog 101 [Y,.int .i64 9] (.aC [.str [],.int .i64 0]):=Hk.dv k2 fp k_
theorem y10:aq prog 101 [Y,.int .i64 10] (.aC [.str [],.int .i64 0]):=Hk.dv k2 fp k_
theorem y11:aq prog 101 [Y,.int .i64 11] (.aC [.str [],.int .i64 0]):=Hk.dv k2 fp k_
theorem y12:aq prog 101 [Y,.int .i64 12] (.aC [.str [],.int .i64 0]):=Hk.dv k2 fp k_
theorem y13:aq prog 101 [Y,.int .i64 13] (.aC [.str [],.int .i64 0]):=Hk.dv k2 fp k_
theorem y14:aq prog 101 [Y,.int .i64 14] (.aC [.str [],.int .i64 0]):=Hk.dv k2 fp k_
theorem y15:aq prog 101 [Y,.int .i64 15] (.aC [.str [],.int .i64 0]):=Hk.dv k2 fp k_
theorem y16:aq prog 101 [Y,.int .i64 16] (.aC [.str [],.int .i64 0]):=Hk.dv k2 fp k_
theorem y17:aq prog 101 [Y,.int .i64 17] (.aC [.str [],.int .i64 0]):=Hk.dv k2 fp k_
theorem y18:aq prog 101 [Y,.int .i64 18] (.aC [.str [],.int .i64 0]):=Hk.dv k2 fp k_
theorem y19:aq prog 101 [Y,.int .i64 19] (.aC [.str [],.int .i64 0]):=Hk.dv k2 fp k_
theorem y20:aq prog 101 [Y,.int .i64 20] (.aC [.str [],.int .i64 0]):=Hk.dv k2 fp k_
theorem y21:aq prog 101 [Y,.int .i64 21] (.aC [.str [],.int .i64 0]):=Hk.dv k2 fp k_
theorem y22:aq prog 101 [Y,.int .i64 22] (.aC [.str [],.int .i64 0]):=Hk.dv k2 fp k_
theorem y23:aq prog 101 [Y,.int .i64 23] (.aC [.str [],.int .i64 0]):=Hk.dv k2 fp k_
theorem y24:aq prog 101 [Y,.int .i64 24] (.aC [.str [],.int .i64 18]):=Hk.dv k2 fp k_
theorem y25:aq prog 101 [Y,.int .i64 25] (.aC [.str [],.int .i64 18]):=Hk.dv k2 fp k_
theorem y26:aq prog 101 [Y,.int .i64 26] (.aC [.str [],.int .i64 18]):=Hk.dv k2 fp k_
theorem y27:aq prog 101 [Y,.int .i64 27] (.aC [.str [],.int .i64 18]):=Hk.dv k2 fp k_
theorem y28:aq prog 101 [Y,.int .i64 28] (.aC [.str [],.int .i64 18]):=Hk.dv k2 fp k_
theorem y29:aq prog 101 [Y,.int .i64 29] (.aC [.str [],.int .i64 18]):=Hk.dv k2 fp k_
theorem y30:aq prog 101 [Y,.int .i64 30] (.aC [.str [],.int .i64 18]):=Hk.dv k2 fp k_
theorem y31:aq prog 101 [Y,.int .i64 31] (.aC [.str [],.int .i64 18]):=Hk.dv k2 fp k_
def k3:List (a1×List PV×PV):=[(101,[Y,.int .i64 0],.aC [.str [],.int .i64 18]),(101,[Y,.int .i64 1],.aC [.str [],.int .i64 18]),(101,[Y,.int .i64 2],.aC [.str [],.int .i64 18]),(101,[Y,.int .i64 3],.aC [.str [],.int .i64 18]),(101,[Y,.int .i64 4],.aC [.str [],.int .i64 18]),(101,[Y,.int .i64 5],.aC [.str [],.int .i64 18]),(101,[Y,.int .i64 6],.aC [.str [],.int .i64 18]),(101,[Y,.int .i64 7],.aC [.str [],.int .i64 18]),(101,[Y,.int .i64 8],.aC [.str [],.int .i64 18]),(101,[Y,.int .i64 9],.aC [.str [],.int .i64 0]),(101,[Y,.int .i64 10],.aC [.str [],.int .i64 0]),(101,[Y,.int .i64 11],.aC [.str [],.int .i64 0]),(101,[Y,.int .i64 12],.aC [.str [],.int .i64 0]),(101,[Y,.int .i64 13],.aC [.str [],.int .i64 0]),(101,[Y,.int .i64 14],.aC [.str [],.int .i64 0]),(101,[Y,.int .i64 15],.aC [.str [],.int .i64 0]),(101,[Y,.int .i64 16],.aC [.str [],.int .i64 0]),(101,[Y,.int .i64 17],.aC [.str [],.int .i64 0]),(101,[Y,.int .i64 18],.aC [.str [],.int .i64 0]),(101,[Y,.int .i64 19],.aC [.str [],.int .i64 0]),(101,[Y,.int .i64 20],.aC [.str [],.int .i64 0]),(101,[Y,.int .i64 21],.aC [.str [],.int .i64 0]),(101,[Y,.int .i64 22],.aC [.str [],.int .i64 0]),(101,[Y,.int .i64 23],.aC [.str [],.int .i64 0]),(101,[Y,.int .i64 24],.aC [.str [],.int .i64 18]),(101,[Y,.int .i64 25],.aC [.str [],.int .i64 18]),(101,[Y,.int .i64 26],.aC [.str [],.int .i64 18]),(101,[Y,.int .i64 27],.aC [.str [],.int .i64 18]),(101,[Y,.int .i64 28],.aC [.str [],.int .i64 18]),(101,[Y,.int .i64 29],.aC [.str [],.int .i64 18]),(101,[Y,.int .i64 30],.aC [.str [],.int .i64 18]),(101,[Y,.int .i64 31],.aC [.str [],.int .i64 18])]++k2
theorem kY:Hk.nh k3:=Hk.zP (l:=[(101,[Y,.int .i64 0],.aC [.str [],.int .i64 18]),(101,[Y,.int .i64 1],.aC [.str [],.int .i64 18]),(101,[Y,.int .i64 2],.aC [.str [],.int .i64 18]),(101,[Y,.int .i64 3],.aC [.str [],.int .i64 18]),(101,[Y,.int .i64 4],.aC [.str [],.int .i64 18]),(101,[Y,.int .i64 5],.aC [.str [],.int .i64 18]),(101,[Y,.int .i64 6],.aC [.str [],.int .i64 18]),(101,[Y,.int .i64 7],.aC [.str [],.int .i64 18]),(101,[Y,.int .i64 8],.aC [.str [],.int .i64 18]),(101,[Y,.int .i64 9],.aC [.str [],.int .i64 0]),(101,[Y,.int .i64 10],.aC [.str [],.int .i64 0]),(101,[Y,.int .i64 11],.aC [.str [],.int .i64 0]),(101,[Y,.int .i64 12],.aC [.str [],.int .i64 0]),(101,[Y,.int .i64 13],.aC [.str [],.int .i64 0]),(101,[Y,.int .i64 14],.aC [.str [],.int .i64 0]),(101,[Y,.int .i64 15],.aC [.str [],.int .i64 0]),(101,[Y,.int .i64 16],.aC [.str [],.int .i64 0]),(101,[Y,.int .i64 17],.aC [.str [],.int .i64 0]),(101,[Y,.int .i64 18],.aC [.str [],.int .i64 0]),(101,[Y,.int .i64 19],.aC [.str [],.int .i64 0]),(101,[Y,.int .i64 20],.aC [.str [],.int .i64 0]),(101,[Y,.int .i64 21],.aC [.str [],.int .i64 0]),(101,[Y,.int .i64 22],.aC [.str [],.int .i64 0]),(101,[Y,.int .i64 23],.aC [.str [],.int .i64 0]),(101,[Y,.int .i64 24],.aC [.str [],.int .i64 18]),(101,[Y,.int .i64 25],.aC [.str [],.int .i64 18]),(101,[Y,.int .i64 26],.aC [.str [],.int .i64 18]),(101,[Y,.int .i64 27],.aC [.str [],.int .i64 18]),(101,[Y,.int .i64 28],.aC [.str [],.int .i64 18]),(101,[Y,.int .i64 29],.aC [.str [],.int .i64 18]),(101,[Y,.int .i64 30],.aC [.str [],.int .i64 18]),(101,[Y,.int .i64 31],.aC [.str [],.int .i64 18])]) ⟨y0,y1,y2,y3,y4,y5,y6,y7,y8,y9,y10,y11,y12,y13,y14,y15,y16,y17,y18,y19,y20,y21,y22,y23,y24,y25,y26,y27,y28,y29,y30,y31,trivial⟩ fp
end lx
namespace lx
theorem z0:aq prog 62 [Y,.int .i64 9,.str [99]] (.bool false):=Hk.dv k3 kY k_
theorem z1:aq prog 62 [Y,.int .i64 10,.str [99]] (.bool false):=Hk.dv k3 kY k_
theorem z2:aq prog 62 [Y,.int .i64 11,.str [99]] (.bool false):=Hk.dv k3 kY k_
theorem z3:aq prog 62 [Y,.int .i64 12,.str [99]] (.bool false):=Hk.dv k3 kY k_
theorem z4:aq prog 62 [Y,.int .i64 13,.str [99]] (.bool false):=Hk.dv k3 kY k_
theorem z5:aq prog 62 [Y,.int .i64 14,.str [99]] (.bool false):=Hk.dv k3 kY k_
theorem z6:aq prog 62 [Y,.int .i64 15,.str [99]] (.bool false):=Hk.dv k3 kY k_
theorem z7:aq prog 62 [Y,.int .i64 16,.str [99]] (.bool true):=Hk.dv k3 kY k_
theorem z8:aq prog 62 [Y,.int .i64 17,.str [99]] (.bool false):=Hk.dv k3 kY k_
theorem z9:aq prog 62 [Y,.int .i64 18,.str [99]] (.bool false):=Hk.dv k3 kY k_
theorem z10:aq prog 62 [Y,.int .i64 19,.str [99]] (.bool false):=Hk.dv k3 kY k_
theorem z11:aq prog 62 [Y,.int .i64 20,.str [99]] (.bool false):=Hk.dv k3 kY k_
theorem z12:aq prog 62 [Y,.int .i64 21,.str [99]] (.bool false):=Hk.dv k3 kY k_
theorem z13:aq prog 62 [Y,.int .i64 22,.str [99]] (.bool false):=Hk.dv k3 kY k_
theorem z14:aq prog 62 [Y,.int .i64 23,.str [99]] (.bool false):=Hk.dv k3 kY k_
def k4:List (a1×List PV×PV):=[(62,[Y,.int .i64 9,.str [99]],.bool false),(62,[Y,.int .i64 10,.str [99]],.bool false),(62,[Y,.int .i64 11,.str [99]],.bool false),(62,[Y,.int .i64 12,.str [99]],.bool false),(62,[Y,.int .i64 13,.str [99]],.bool false),(62,[Y,.int .i64 14,.str [99]],.bool false),(62,[Y,.int .i64 15,.str [99]],.bool false),(62,[Y,.int .i64 16,.str [99]],.bool true),(62,[Y,.int .i64 17,.str [99]],.bool false),(62,[Y,.int .i64 18,.str [99]],.bool false),(62,[Y,.int .i64 19,.str [99]],.bool false),(62,[Y,.int .i64 20,.str [99]],.bool false),(62,[Y,.int .i64 21,.str [99]],.bool false),(62,[Y,.int .i64 22,.str [99]],.bool false),(62,[Y,.int .i64 23,.str [99]],.bool false)]++k3
theorem IX:Hk.nh k4:=Hk.zP (l:=[(62,[Y,.int .i64 9,.str [99]],.bool false),(62,[Y,.int .i64 10,.str [99]],.bool false),(62,[Y,.int .i64 11,.str [99]],.bool false),(62,[Y,.int .i64 12,.str [99]],.bool false),(62,[Y,.int .i64 13,.str [99]],.bool false),(62,[Y,.int .i64 14,.str [99]],.bool false),(62,[Y,.int .i64 15,.str [99]],.bool false),(62,[Y,.int .i64 16,.str [99]],.bool true),(62,[Y,.int .i64 17,.str [99]],.bool false),(62,[Y,.int .i64 18,.str [99]],.bool false),(62,[Y,.int .i64 19,.str [99]],.bool false),(62,[Y,.int .i64 20,.str [99]],.bool false),(62,[Y,.int .i64 21,.str [99]],.bool false),(62,[Y,.int .i64 22,.str [99]],.bool false),(62,[Y,.int .i64 23,.str [99]],.bool false)]) ⟨z0,z1,z2,z3,z4,z5,z6,z7,z8,z9,z10,z11,z12,z13,z14,trivial⟩ kY
end lx
namespace lx
theorem w0:aq prog 104 [Y,.st 82 [.str [97],.int .i64 0,.str [48],.str [49,47,50,48]]] (WR):=Hk.dv k2 fp k_
end lx
namespace lx
theorem w1:aq prog 104 [Y,.st 82 [.str [99],.int .i64 1,.str [57,47,50,48],.str [49,49,47,50,48]]] (WR):=Hk.dv k2 fp k_
end lx
namespace lx
theorem o:aq prog 32 [X] (.aC [.dw false [.int .i64 9,.int .i64 10,.int .i64 11,.int .i64 12,.int .i64 13,.int .i64 14,.int .i64 15,.int .i64 16,.int .i64 17,.int .i64 18,.int .i64 19,.int .i64 20,.int .i64 21,.int .i64 22,.int .i64 23],.int .i64 0]):=Hk.dv k4 IX k_
theorem p:aq prog 9 [X,.str [99]] (.aC [.dw false [.int .i64 16],.int .i64 0]):=Hk.dv k4 IX k_
def k5:List (a1×List PV×PV):=[(32,[X],.aC [.dw false [.int .i64 9,.int .i64 10,.int .i64 11,.int .i64 12,.int .i64 13,.int .i64 14,.int .i64 15,.int .i64 16,.int .i64 17,.int .i64 18,.int .i64 19,.int .i64 20,.int .i64 21,.int .i64 22,.int .i64 23],.int .i64 0]),(9,[X,.str [99]],.aC [.dw false [.int .i64 16],.int .i64 0]),(104,[Y,.st 82 [.str [97],.int .i64 0,.str [48],.str [49,47,50,48]]],WR),(104,[Y,.st 82 [.str [99],.int .i64 1,.str [57,47,50,48],.str [49,49,47,50,48]]],WR)]++k4
theorem aOW:Hk.nh k5:=Hk.zP (l:=[(32,[X],.aC [.dw false [.int .i64 9,.int .i64 10,.int .i64 11,.int .i64 12,.int .i64 13,.int .i64 14,.int .i64 15,.int .i64 16,.int .i64 17,.int .i64 18,.int .i64 19,.int .i64 20,.int .i64 21,.int .i64 22,.int .i64 23],.int .i64 0]),(9,[X,.str [99]],.aC [.dw false [.int .i64 16],.int .i64 0]),(104,[Y,.st 82 [.str [97],.int .i64 0,.str [48],.str [49,47,50,48]]],WR),(104,[Y,.st 82 [.str [99],.int .i64 1,.str [57,47,50,48],.str [49,49,47,50,48]]],WR)]) ⟨o,p,w0,w1,trivial⟩ IX
end lx
theorem awC:aq prog 8 [] (.bool true):=Hk.dv lx.k5 lx.aOW k_
namespace lx
end lx
def NS.mul(s t:NS):NS:=⟨(s.a.mul t.a).add ((s.b.mul t.b).mul s.d),(s.a.mul t.b).add (t.a.mul s.b),s.d⟩
theorem BX(s t:NS)(hs:dC 20000 s)(c:dC 20000 t):aq prog 157 [cj s,cj t] (cj (s.mul t)):=by
 have k1:=fU s.a t.a (hs.1.mono d_) (c.1.mono d_);have k2:=fU s.b t.b (hs.2.1.mono d_) (c.2.1.mono d_);have k3:=fU (s.b.mul t.b) s.d ((dO hs.2.1 c.2.1).mono d_) (hs.2.2.mono d_);have k4:=rJ (s.a.mul t.a) ((s.b.mul t.b).mul s.d) ((dO hs.1 c.1).mono d_) ((dO (dO hs.2.1 c.2.1) hs.2.2).mono d_);have k5:=fU s.a t.b (hs.1.mono d_) (c.2.1.mono d_);have k6:=fU t.a s.b (c.1.mono d_) (hs.2.1.mono d_);have k7:=rJ (s.a.mul t.b) (t.a.mul s.b) ((dO hs.1 c.2.1).mono d_) ((dO c.1 hs.2.1).mono d_);refine gA_ nf func157 mix ?_;rw[NS.mul,cj];simp(maxDischargeDepth:=99) [f157,aa,e2 k1,e2 k2,e2 k3,e2 k4,e2 k5,e2 k6,e2 k7]
def Er(s:NS):Prop:=aJ 600 s.a.q/\aJ 600 s.b.q/\aJ 1200 s.d.q
theorem LS(s t:NS)(hs:Er s)(f:Er t):aq prog 232 [cj s,cj t] (.int .i64 (dY s.q t.q)):=by
 have g:=Bw hs.1 f.1;have e:dC 1300 ⟨s.a.sub t.a,s.b,s.d⟩:=⟨g.mono d_,hs.2.1.mono d_,hs.2.2.mono d_⟩
 have k1:=nG s.a t.a (hs.1.mono d_) (f.1.mono d_);have k2:=nT ⟨s.a.sub t.a,s.b,s.d⟩ ⟨e.1.mono d_,e.2.1.mono d_,e.2.2.mono d_⟩;have k3:=nH t.b;have k4:=nH t.d;have k5:=BX ⟨s.a.sub t.a,s.b,s.d⟩ ⟨s.a.sub t.a,s.b,s.d⟩ ⟨e.1.mono d_,e.2.1.mono d_,e.2.2.mono d_⟩ ⟨e.1.mono d_,e.2.1.mono d_,e.2.2.mono d_⟩;have k6:=fU t.b t.b (f.2.1.mono d_) (f.2.1.mono d_);have k7:=fU (t.b.mul t.b) t.d ((dO f.2.1 f.2.1).mono d_) (f.2.2.mono d_);have j:=dO (dO f.2.1 f.2.1) f.2.2;have k8:=ph ((t.b.mul t.b).mul t.d) (j.mono d_);have k9:=so ((t.b.mul t.b).mul t.d).neg s.d;have h:dC 4900 (NS.mul ⟨s.a.sub t.a,s.b,s.d⟩ ⟨s.a.sub t.a,s.b,s.d⟩):=⟨(qG (dO g g) (dO (dO hs.2.1 hs.2.1) hs.2.2)).mono d_,(qG (dO g hs.2.1) (dO g hs.2.1)).mono d_,hs.2.2.mono d_⟩
 have i:dC 2500 (NS.plain ((t.b.mul t.b).mul t.d).neg s.d):=⟨(nS j).mono d_,aJ.mono (show aJ 20 (NF.int 0).q from pg d_ d_) d_,hs.2.2.mono d_⟩
 have nK:=sr (NS.mul ⟨s.a.sub t.a,s.b,s.d⟩ ⟨s.a.sub t.a,s.b,s.d⟩) (NS.plain ((t.b.mul t.b).mul t.d).neg s.d) ⟨h.1.mono d_,h.2.1.mono d_,h.2.2.mono d_⟩ ⟨i.1.mono d_,i.2.1.mono d_,i.2.2.mono d_⟩;have tM:=nT ((NS.mul ⟨s.a.sub t.a,s.b,s.d⟩ ⟨s.a.sub t.a,s.b,s.d⟩).add (NS.plain ((t.b.mul t.b).mul t.d).neg s.d)) ⟨(qG h.1 i.1).mono d_,(qG h.2.1 i.2.1).mono d_,hs.2.2.mono d_⟩;have q1:NS.q ⟨s.a.sub t.a,s.b,s.d⟩=⟨s.q.a-t.q.a,s.q.b,s.q.d⟩:=by simp only[NS.q,NF.eH]
 have p:((NS.mul ⟨s.a.sub t.a,s.b,s.d⟩ ⟨s.a.sub t.a,s.b,s.d⟩).add (NS.plain ((t.b.mul t.b).mul t.d).neg s.d)).q=⟨(s.q.a-t.q.a)*(s.q.a-t.q.a)+s.q.b*s.q.b*s.q.d-t.q.b*t.q.b*t.q.d,2*((s.q.a-t.q.a)*s.q.b),s.q.d⟩:=by
  have e1:(s.a.sub t.a).q=s.a.q-t.a.q:=NF.eH _ _;have hx:((NS.mul ⟨s.a.sub t.a,s.b,s.d⟩ ⟨s.a.sub t.a,s.b,s.d⟩).add (NS.plain ((t.b.mul t.b).mul t.d).neg s.d)).q=⟨(s.a.sub t.a).q*(s.a.sub t.a).q+s.b.q*s.b.q*s.d.q+-(t.b.q*t.b.q*t.d.q),((s.a.sub t.a).q*s.b.q+(s.a.sub t.a).q*s.b.q)+((0:Int):Rat),s.d.q⟩:=rfl;rw[hx,e1];have hz:((0:Int):Rat)=0:=rfl;rw[hz];show S3.mk _ _ _=S3.mk _ _ _;congr 1
  ·show _=(s.a.q-t.a.q)*(s.a.q-t.a.q)+s.b.q*s.b.q*s.d.q-t.b.q*t.b.q*t.d.q
   grind
  ·show _=2*((s.a.q-t.a.q)*s.b.q)
   grind
 rw[q1]at k2;rw[p]at tM;rw[show(if t.b.q<0 then(-1:Int)else if t.b.q=0 then 0 else 1)=bP t.q.b from rfl]at k3;rw[show(if t.d.q<0 then(-1:Int)else if t.d.q=0 then 0 else 1)=bP t.q.d from rfl]at k4;have k:=yp ⟨s.q.a-t.q.a,s.q.b,s.q.d⟩;have l:=l8 (Bm (l6 t.q.b)) (l6 t.q.d);have u:=yp ⟨(s.q.a-t.q.a)*(s.q.a-t.q.a)+s.q.b*s.q.b*s.q.d-t.q.b*t.q.b*t.q.d,2*((s.q.a-t.q.a)*s.q.b),s.q.d⟩;have n:-(bP t.q.b*bP t.q.d)= -bP t.q.b*bP t.q.d:=by rw[Int.neg_mul]
 rw[dY,n];clear q1 p g j h i e n;generalize bR ⟨(s.q.a-t.q.a)*(s.q.a-t.q.a)+s.q.b*s.q.b*s.q.d-t.q.b*t.q.b*t.q.d,2*((s.q.a-t.q.a)*s.q.b),s.q.d⟩=o,bR ⟨s.q.a-t.q.a,s.q.b,s.q.d⟩=x at*;have w0:=l7 (Bm (l6 t.q.b));generalize bP t.q.b=y1,bP t.q.d=y2 at*;have w1:=l7 l;have r:=l7 (l8 k l);have w:=l7 (l8 k u);generalize v:(NS.mul ⟨s.a.sub t.a,s.b,s.d⟩ ⟨s.a.sub t.a,s.b,s.d⟩).add (NS.plain ((t.b.mul t.b).mul t.d).neg s.d)=m1,NS.mul ⟨s.a.sub t.a,s.b,s.d⟩ ⟨s.a.sub t.a,s.b,s.d⟩=m2,NS.plain ((t.b.mul t.b).mul t.d).neg s.d=m3 at*;clear v;have m:cj ⟨s.a.sub t.a,s.b,s.d⟩=.st 159 [eF (s.a.sub t.a),eF s.b,eF s.d]:=rfl;rw[m]at k2 k5;clear m;generalize s.a.sub t.a=z,((t.b.mul t.b).mul t.d).neg=A,(t.b.mul t.b).mul t.d=B,t.b.mul t.b=C at*;refine gA_ nf func232 mix ?_;simp[f232,aa,-aX];rw[aX];simp[-aX,aa];rw[aX];simp[-aX,aa];refine e2 k1 ?_;simp[aa,-aX];refine⟨r_,?_⟩;rw[aX];simp[aa,-aX];refine e1 k2 ?_;simp[aa,-aX];refine e1 k3 ?_;simp[aa,-aX,w0];refine e1 k4 ?_;simp[aa,w0,w1];generalize -y1*y2=y at*;rw[jJ]
 by_cases c2:x=0
 ·subst c2;simp[aa]
 by_cases c:0<=x*y
 ·rw[if_pos c,if_neg c2];simp[c,c2,r,aa]
 ·rw[if_neg c];simp(maxDischargeDepth:=99) [c,c2,r,aa,w,e2 k5,e2 k6,e2 k7,e1 k8,e2 k9,e2 nK,e1 tM]
structure mU(t b:aj)(aP:List Nat)(i:Nat):Prop where
 jz:gH t=0
 tl:t.cs.length<=1000000
 L:yE b
 It:∀s∈b.an,bc 30 (vP s.pt)
 ci:hasB b aP i
 ap:∀k,k<b.an.length->k≠i->¬gv t.aD (vP (b.sp k).pt) (vP (b.sp i).pt)<0
 nn:∀k,k<b.an.length->(b.sp k).name≠[]
theorem mU.at{t b:aj}{aP:List Nat}{i:Nat}(h:mU t b aP i){k:Nat}(hk:k<b.an.length):eV (vP (b.sp k).pt)=cW (b.sp k).pt/\bc 30 (vP (b.sp k).pt):=by
 have m:=be (aj.eK hk);exact⟨(yY (h.L.sp _ m).2).1,h.It _ m⟩
theorem mU.name{t b:aj}{aP:List Nat}{i k:Nat}(h:mU t b aP i)(hk:k<b.an.length):(b.sp k).name=aP↔k=i:=by
 obtain⟨_,d,f⟩:=h.ci;have j:=wO h.L hk;have c:(b.sp i).name=aP:=by
  have:=List.find?_some (by rw[gW]at f;exact f);simpa using this
 constructor
 ·intro e;rcases ew k i with g|g|g
  ·have:=h.L.ne i d;rw[gW,c6]at this;have a:=this (b.sp k) (be (i:=k) (by rw[b0,if_pos g];exact aj.eK hk));simp[e,c]at a
  ·exact g
  ·have:=h.L.ne k hk;rw[gW,c6]at this;have a:=this (b.sp i) (be (i:=i) (by rw[b0,if_pos g];exact aj.eK d));simp[e,c]at a
 ·intro e;rw[e];exact c
def bk(b:aj)(i k:Nat):V2:=(vP (b.sp k).pt).sub (vP (b.sp i).pt)
def fS(t b:aj)(i:Nat)(d:V2)(k:Nat):S3:=uM t.aD (bk b i k) d
def jA(t b:aj)(i:Nat)(d:V2)(e:Rat)(k:Nat):Bool:=decide (k≠i)&&(tA t.aD (bk b i k) d&&decide (dY (fS t b i d k) ⟨e,0,0⟩<0))
def zk(t b:aj)(i:Nat)(d:V2)(e:Rat)(o:Option Nat)(k:Nat):Option Nat:=
 if jA t b i d e k then(match o with
  |none=>some k
  |some j=>if dY (fS t b i d k) (fS t b i d j)<0 then some k else some j)else o
def fG(t b:aj)(i:Nat)(d:V2)(e:Rat)(m:Nat):Option Nat:=(ce m).foldl (zk t b i d e) none
theorem Fl(t b:aj)(i:Nat)(d:V2)(e:Rat)(m:Nat):fG t b i d e (m+1)=zk t b i d e (fG t b i d e m) m:=by
 rw[fG,dd,eb];rfl
theorem wP(t b:aj)(i:Nat)(d:V2)(e:Rat):∀m j,fG t b i d e m=some j->j<m/\jA t b i d e j=true
 |0,j,h=>by simp[fG]at h
 |m+1,j,h=>by
  rw[Fl,zk.eq_def]at h;have c:=wP t b i d e m
  by_cases hc:jA t b i d e m=true
  ·rw[if_pos hc]at h;cases a:fG t b i d e m with
   |none=>rw[a]at h;simp only[e7]at h;subst h;exact⟨o_,hc⟩
   |some f=>
    rw[a]at h;have:=c f a;dsimp only at h
    split at h
    ·simp only[e7]at h;subst h;exact⟨o_,hc⟩
    ·simp only[e7]at h;subst h;exact⟨o_,this.2⟩
  ·rw[if_neg hc]at h;have:=c j h;exact⟨o_,this.2⟩
def di(t b:aj)(i:Nat)(d:bM)(k:Nat):NM:=.of (.width t.aD) (.from (b.sp i).pt) (.from d) (.from (b.sp k).pt)
theorem B3(t b:aj)(i:Nat)(d:bM)(k:Nat):(di t b i d k).far.q=fS t b i (vP d) k:=by
 have a:((NV.from (b.sp k).pt).sub (.from (b.sp i).pt)).q=bk b i k:=by rw[NV.eH];rfl
 rw[NM.far,NS.q,fS,uM];show S3.mk ((((NV.from (b.sp k).pt).sub (.from (b.sp i).pt)).dot (.from d)).q/((NV.from d).dot (.from d)).q) (-(((NV.from d).dot (.from d)).q)⁻¹) (NM.of (.width t.aD) (.from (b.sp i).pt) (.from d) (.from (b.sp k).pt)).root.q=_;rw[NV.jq,NV.jq,a,NM.of];congr 1;dsimp only;rw[NF.eH];show((((NV.from (b.sp k).pt).sub (.from (b.sp i).pt)).dot (.from d)).q*(((NV.from (b.sp k).pt).sub (.from (b.sp i).pt)).dot (.from d)).q)-(((NV.from d).dot (.from d)).q*(NF.sub (((NV.from (b.sp k).pt).sub (.from (b.sp i).pt)).dot ((NV.from (b.sp k).pt).sub (.from (b.sp i).pt))) (.width t.aD)).q)=_;rw[NF.eH,NV.jq,NV.jq,NV.jq,a];rfl
theorem WH{t b:aj}{aP:List Nat}{i k:Nat}{d:bM}(h:mU t b aP i)(hk:k<b.an.length)(f:k≠i):AW (.width t.aD) (.from (b.sp i).pt) (.from d) (.from (b.sp k).pt)=tA t.aD (bk b i k) (vP d):=by
 have a:((NV.from (b.sp k).pt).sub (.from (b.sp i).pt)).q=bk b i k:=by rw[NV.eH];rfl
 have c:=h.ap k hk f;have g:(NM.of (.width t.aD) (.from (b.sp i).pt) (.from d) (.from (b.sp k).pt)).root.q=bO t.aD (bk b i k) (vP d):=by
  have:=B3 t b i d k;rw[NS.q,fS,uM]at this;injection this
 rw[AW,g,NV.jq,NV.jq,a,tA];have:0<=c8 ((bk b i k).dot (bk b i k)) (NF.width t.aD).q:=by
  have e:gv t.aD (vP (b.sp k).pt) (vP (b.sp i).pt)=c8 ((bk b i k).dot (bk b i k)) (bK t.aD):=rfl;rw[e]at c;rw[Fg];omega
 rw[decide_eq_true this,av];rfl
def EG:PV:=.st 123 [.st 121 [.int .i64 0,.aI],.st 121 [.int .i64 0,.aI]]
def Jp:PV:=.st 141 [EG,EG]
def zM:PV:=.st 148 [Jp,Jp,EG]
@[simp] theorem aQL:aK zM=.agg 148:=rfl
@[simp high] theorem iI:cF prog 149=some zM:=k_
def kD(b:aj):Option Nat->List Nat
 |none=>[]
 |some j=>(b.sp j).name
noncomputable def lM(t b:aj)(i:Nat)(d:bM):Option Nat->PV
 |none=>zM
 |some j=>jH (di t b i d j)
@[simp] theorem aQJ(t b:aj)(i:Nat)(d:bM)(o:Option Nat):aK (lM t b i d o)=.agg 148:=by
 cases o
 ·exact aQL
 ·exact za _
structure UB(t b:aj)(i:Nat)(d:bM)(x:XD)(e:Rat):Prop where
 ex:∃m0 l,t.fM (.from (b.sp i).pt) (cZ d) t.cs.length=m0::l/\iV m0 l=x
 nz:x.s.norm.q=0->x.s.a.q≠0
 ok:lN x
 far:(x.s.under x.g).q=⟨e,0,0⟩
 sz:aJ 600 e
theorem Ml{s:NS}{a b c:Rat}(h:s.q=⟨a,b,c⟩)(g:aJ 600 a)(i:aJ 600 b)(hc:aJ 1200 c):Er s:=by
 rw[NS.q]at h;injection h with d e f
 exact⟨by rw[d];exact g,by rw[e];exact i,by rw[f];exact hc⟩
theorem kT{k:Nat}(h:1<=k):aJ k (0:Rat):=(show aJ 1 (0:Rat)from⟨d_,d_⟩).mono h
theorem IE{t b:aj}{aP:List Nat}{i k:Nat}{d:bM}(h:mU t b aP i)(hk:k<b.an.length)(c:bc 30 (vP d))(hz:(vP d).dot (vP d)≠0):aJ 600 (fS t b i (vP d) k).a/\aJ 600 (fS t b i (vP d) k).b/\aJ 1200 (fS t b i (vP d) k).d:=by
 obtain⟨r0,r1⟩:=qH h.jz;have e:bc 61 (bk b i k):=gD (h.at hk).2 (h.at h.ci.2.1).2;have f:=dh e c;have g:=dh c c;have j:=dh e e;have l:=mG (r:=t.aD) o_ o_;exact⟨(gQ f g).mono d_,(jQ (lH g)).mono d_,(fK (bh f f) (bh g (fK j l))).mono d_⟩
theorem Mt(t b:aj)(aP:List Nat)(i:Nat)(d:bM)(x:XD)(e:Rat)(h:mU t b aP i)(v:bc 30 (vP d))(hz:(vP d).dot (vP d)≠0)(u:UB t b i d x e):
 aq prog 138 [nr t b,.str aP,cV (.from d)] (.aC [.str (kD b (fG t b i (vP d) e b.an.length)),lM t b i d (fG t b i (vP d) e b.an.length),.bool (fG t b i (vP d) e b.an.length).isSome]):=by
 obtain⟨r0,r1⟩:=qH h.jz;obtain⟨_,_,hn,_⟩:=rU h.jz;have af:=h.L.sl;have K:=(h.at h.ci.2.1).2;have T:=h.ci.2.2;obtain⟨m0,l,ab,ac⟩:=u.ex;have k1:=VO (.from d);have k2:=Tz t (.from (b.sp i).pt) (cZ d) h.tl hn (by rw[iD];exact K.mono d_) ⟨by show bc 900 (NV.from d).q;rw[iD];exact v.mono d_,⟨kT d_,kT d_⟩,kT d_⟩ m0 l ab;rw[ac]at k2;have k3:=FC x u.ok u.nz;have M:Er (x.s.under x.g):=Ml u.far u.sz (kT d_) (kT d_);have N:=u.far;have P:cZ d=⟨.from d,⟨.int 0,.int 0⟩,.int 0⟩:=rfl;rw[<-P]at k1;have a:=fun k(hk:k<b.an.length)=>aEw (.width t.aD) (.from (b.sp i).pt) (.from d) (.from (b.sp k).pt) ((mG o_ o_).mono d_) (by rw[iD];exact K.mono d_) (by rw[iD];exact v.mono d_) (by rw[iD];exact(h.at hk).2.mono d_);have Q:=fun k(hk:k<b.an.length)=>aEm (di t b i d k) (by
  have ae:bc 61 (bk b i k):=gD (h.at hk).2 K;have S:(di t b i d k).w.q=bk b i k:=by show((NV.from (b.sp k).pt).sub (.from (b.sp i).pt)).q=_;rw[NV.eH];rfl
  rw[S];exact ae.mono d_) (by show bc 500 (NV.from d).q;rw[iD];exact v.mono d_) hz
 have J:=fun k(hk:k<b.an.length)=>Ml (s:=(di t b i d k).far) (B3 t b i d k) (IE h hk v hz).1 (IE h hk v hz).2.1 (IE h hk v hz).2.2;have n:=fun k(hk:k<b.an.length)=>LS (di t b i d k).far (x.s.under x.g) (J k hk) M;have E:=fun k j(hk:k<b.an.length)(H:j<b.an.length)=>LS (di t b i d k).far (di t b i d j).far (J k hk) (J j H);simp only[B3,N]at n E;have V:=fun k(hk:k<b.an.length)(W:k≠i)=>WH (d:=d) h hk W;have Y:∀k,NM.of (.width t.aD) (.from (b.sp i).pt) (.from d) (.from (b.sp k).pt)=di t b i d k:=fun _=>rfl;simp only[Y]at a;clear M N P;generalize x.s.under x.g=ad,cZ d=ai at*;refine gA_ nf func138 mix ?_;simp[f138,T,aa];refine e1_ k1 ?_;simp[aa];refine e3_ k2 ?_;simp[aa];refine⟨r_,?_⟩;refine c1_ k3 ?_;simp[aa];refine lp (α:=Nat) (fun m=>⟨[(33,.p (.int .i64 m)),(32,.p (.int .i64 b.an.length)),(31,.p (.seq (b.an.map bE))),(13,.ptr 6 []),(12,.p (.str (kD b (fG t b i (vP d) e m)))),(11,.ptr 5 []),(9,.ptr 3 []),(7,.ptr 2 []),(5,.ptr 1 []),(3,.ptr 0 []),(1,.p (.str aP))],
  [.box false (.p (nr t b)),.box false (.p (cV (.from d))),.box false (.p zM),.box false (.p (cV (.from (b.sp i).pt))),.hole,.box false (.p (cj ad)),.box false (.p (lM t b i d (fG t b i (vP d) e m)))]⟩) (fun m=>m<=b.an.length) (fun m=>b.an.length-m) 0 s_ ?_ (he:=by simp[fG,kD]) (hh:=by simp[fG,lM])
 rintro m m1
 by_cases hm:m<b.an.length
 case neg=>
  have:m=b.an.length:=o_
  subst this;have X:∀j,fG t b i (vP d) e b.an.length=some j->(b.sp j).name≠[]:=fun j H=>h.nn j (wP _ _ _ _ _ _ _ H).1;generalize fG t b i (vP d) e b.an.length=o at*;cases o with
  |none=>simp[kD,aa]
  |some j=>
   have:=X j rfl;simp[kD,this,aa]
 have r:=aj.eK hm;have A:=cE (i:=m) o_;have hs:=Fl t b i (vP d) e m;have U:=wP t b i (vP d) e m;have y:=wO h.L hm;have O:=h.name hm;have a:=a m hm;have B:=Q m hm;have n:=n m hm;rw[zk.eq_def]at hs
 by_cases hi:m=i
 ·have hc:jA t b i (vP d) e m=false:=by rw[jA,decide_eq_false (by simpa using hi)];rfl
  rw[hc,if_neg d_]at hs;have f:(b.sp m).name=aP:=O.2 hi;generalize AW (.width t.aD) (.from (b.sp i).pt) (.from d) (.from (b.sp m).pt)=ah at*;simp[hm,r,y,aa];refine c4_ a ?_;simp[f,A,aa];exact rd (m+1) hm (he:=by simp[hs]) (hh:=by simp[hs])
 have f:¬(b.sp m).name=aP:=fun h=>hi (O.1 h);rw[V m hm hi]at a;cases C:tA t.aD (bk b i m) (vP d)
 ·have hc:jA t b i (vP d) e m=false:=by rw[jA,C];simp
  rw[hc,if_neg d_]at hs;rw[C]at a;simp[hm,r,y,aa];refine c4_ a ?_;simp[f,A,aa];exact rd (m+1) hm (he:=by simp[hs]) (hh:=by simp[hs])
 rw[C]at a
 by_cases Z:dY (fS t b i (vP d) m) ⟨e,0,0⟩<0
 case neg=>
  have hc:jA t b i (vP d) e m=false:=by rw[jA,C];simp;intro _;omega
  have D:0<=dY (fS t b i (vP d) m) ⟨e,0,0⟩:=o_
  rw[hc,if_neg d_]at hs;generalize dY (fS t b i (vP d) m) ⟨e,0,0⟩=z at*;simp[hm,r,y,aa];refine c4_ a ?_;simp[f,aa];refine e1_ B ?_;simp[aa];refine e2_ n ?_;simp[D,A,aa];exact rd (m+1) hm (he:=by simp[hs]) (hh:=by simp[hs])
 have hc:jA t b i (vP d) e m=true:=by rw[jA,C,decide_eq_true Z];simp[hi]
 have D:¬0<=dY (fS t b i (vP d) m) ⟨e,0,0⟩:=o_
 rw[hc,if_pos rfl]at hs;cases G:fG t b i (vP d) e m with
 |none=>
  rw[G]at hs;dsimp only at hs;generalize dY (fS t b i (vP d) m) ⟨e,0,0⟩=z at*;simp[hm,r,y,kD,aa];refine c4_ a ?_;simp[f,aa];refine e1_ B ?_;simp[aa];refine e2_ n ?_;simp[D,A,aa];exact rd (m+1) hm (he:=by simp[hs,kD]) (hh:=by simp[hs,lM])
 |some j=>
  obtain⟨ag,_⟩:=U j G;have I:j<b.an.length:=o_
  have c:=h.nn j I;have R:=Q j I;have E:=E m j hm I;rw[G]at hs;dsimp only at hs;generalize dY (fS t b i (vP d) m) ⟨e,0,0⟩=z at*
  by_cases F:dY (fS t b i (vP d) m) (fS t b i (vP d) j)<0
  ·rw[if_pos F]at hs;generalize dY (fS t b i (vP d) m) (fS t b i (vP d) j)=z2 at*;simp[hm,r,y,kD,lM,aa];refine c4_ a ?_;simp[f,aa];refine e1_ B ?_;simp[aa];refine e2_ n ?_;simp[D,c,aa];refine e1_ B ?_;simp[c,aa];refine e1_ R ?_;simp[c,aa];refine e2_ E ?_;simp[F,c,A,aa];exact rd (m+1) hm (he:=by simp[hs,kD]) (hh:=by simp[hs,lM])
  ·rw[if_neg F]at hs;generalize dY (fS t b i (vP d) m) (fS t b i (vP d) j)=z2 at*;simp[hm,r,y,kD,lM,aa];refine c4_ a ?_;simp[f,aa];refine e1_ B ?_;simp[aa];refine e2_ n ?_;simp[D,c,aa];refine e1_ B ?_;simp[c,aa];refine e1_ R ?_;simp[c,aa];refine e2_ E ?_;simp[F,c,A,aa];exact rd (m+1) hm (he:=by simp[hs,kD]) (hh:=by simp[hs,lM])
def lQ(t b:aj)(aP:List Nat)(d:bM):Int:=if iN t b≠0 then iN t b else if gW b.an aP=none then 10 else jR d
theorem zd{t b:aj}{aP:List Nat}{d:bM}(h:lQ t b aP d=0):iN t b=0/\gW b.an aP≠none/\jR d=0:=by
 rw[lQ]at h
 by_cases a:iN t b=0
 case neg=>rw[if_pos a]at h;exact absurd h a
 rw[if_neg (by simp[a])]at h
 by_cases c:gW b.an aP=none
 ·rw[if_pos c]at h;omega
 rw[if_neg c]at h;exact⟨a,c,h⟩
structure rK(t b:aj)(aP:List Nat)(d:bM)(i:Nat)(x:XD)(e:Rat):Prop where
 C:mU t b aP i
 dk:bc 30 (vP d)
 nz:(vP d).dot (vP d)≠0
 E:UB t b i d x e
 ef:∃k:Int,t.gF (vP (b.sp i).pt) (vP d) t.cs.length=(k,e)
theorem W9(r:Int)(a b:V2):gv r a b=gv r b a:=by rw[gv,gv,L7]
theorem aPo{t b:aj}{aP:List Nat}(u:iu t)(n:jZ b)(h:iN t b=0)(hf:gW b.an aP≠none)(o:∀s∈b.an,bc 30 (vP s.pt)):∃i,mU t b aP i:=by
 obtain⟨c,m,_⟩:=KQ n h;rcases KP b aP with⟨i,hi⟩|⟨_,e⟩
 case inr=>exact absurd e hf
 rw[iN,if_neg (by simp[c]),vO]at h
 by_cases d:24<b.an.length
 ·rw[if_pos d]at h;omega
 rw[if_neg d]at h;have f:=qE.1 h;have l:∀i,i<b.an.length->iM t (b.an.take i) (b.sp i)=0:=fun i hi=>by
  have:=f i hi
  rwa [ir,aj.eK hi]at this
 have a:∀k,k<b.an.length->(b.sp k).name≠[]/\∀j,j<k->¬gv t.aD (vP (b.sp j).pt) (vP (b.sp k).pt)<0:=fun k hk=>by
  have:=l k hk;rw[iM]at this
  split at this
  ·omega
  rename_i g1
  split at this
  ·omega
  split at this
  ·contradiction
  split at this
  ·omega
  split at this
  ·omega
  rename_i g2;refine⟨fun e=>g1 (by rw[e];rfl),fun j p q=>g2 (b1.2 ⟨b.sp j,?_,decide_eq_true q⟩)⟩;exact be (i:=j) (by rw[b0,if_pos p];exact aj.eK o_)
 refine⟨i,c,u.cl,m,o,hi,fun k hk r=>?_,fun k hk=>(a k hk).1⟩;rcases Nat.lt_or_gt_of_ne r with g|g
 ·exact(a i hi.2.1).2 k g
 ·rw[W9];exact(a k hk).2 i g
theorem WW(t:aj)(p d:bM)(i:Nat)(h:t.eJ (vP d) i≠0):((t.bV (.from p) (cZ d) i).s.under (t.bV (.from p) (cZ d) i).g).q=⟨t.iU (vP p) (vP d) i,0,0⟩:=by
 have a:=aGq t p d i h;have hn:=E0 t p d i;have c:¬(t.bV (.from p) (cZ d) i).s.norm.q=0:=by
  rw[hn];intro e;rcases e8.1 e with e|e<;>exact h e
 have hs:(t.bV (.from p) (cZ d) i).s.b.q=0:=congrArg S3.b (wF t d i);have f:(t.bV (.from p) (cZ d) i).s.d.q=0:=congrArg S3.d (wF t d i);generalize t.bV (.from p) (cZ d) i=x at*;rw[NS.under,if_neg c]at a⊢;rw[NS.q];dsimp only at a⊢;rw[a,f];congr 1;show -(x.g.q*x.s.b.q)/x.s.norm.q=0;rw[hs,Rat.mul_zero,fw,fb,fv]
theorem aCu{t b:aj}{aP:List Nat}{d:bM}(g:iu t)(u:jZ b)(h:lQ t b aP d=0)(w:∀s∈b.an,bc 30 (vP s.pt))(f:bc 30 (vP d)):∃i x e,rK t b aP d i x e:=by
 obtain⟨o,p,r⟩:=zd h;obtain⟨i,c⟩:=aPo g u o p w;obtain⟨B,D,hn,hc⟩:=rU c.jz;have hz:=aF2 r;have v:¬((vP d).x=0/\(vP d).y=0):=fun⟨a,b⟩=>hz (by rw[V2.dot,a,b];decide+kernel);obtain⟨j,l,m,z,A⟩:=aGl t (b.sp i).pt d B hc v;have k:t.eJ (vP d) j≠0:=fun e=>by rw[e]at m;exact absurd m d_
 have n:=(c.at c.ci.2.1).2;have C:=(EX hn (n.mono (show 30<=90 by decide)) (f.mono (show 30<=90 by decide)) l).2.2;refine⟨i,_,t.iU (vP (b.sp i).pt) (vP d) j,c,f,hz,⟨z,fun e=>?_,?_,WW t _ d j k,C.mono d_⟩,⟨j,A⟩⟩
 ·rw[E0]at e;rcases e8.1 e with e|e<;>exact absurd e k
 ·exact Bu g.cl hn (by rw[iD];exact n.mono d_) ⟨by show bc 900 (NV.from d).q;rw[iD];exact f.mono d_,⟨kT d_,kT d_⟩,kT d_⟩ l
def tO(o:Option Nat):Int:=bn (!o.isSome) 7
theorem BM{d:bM}(h:jR d=0):cz d.x=0/\cz d.y=0:=kn (Ag h).1
theorem B4(t b:aj)(aP:List Nat)(d:bM)(i:Nat)(x:XD)(e:Rat)(p:iu t)(m:jZ b)(c:jx d)(j:lQ t b aP d=0)(h:rK t b aP d i x e)(o:Option Nat)(n:o=fG t b i (vP d) e b.an.length):
 aq prog 71 [bW t,.seq (b.an.map bE),.str aP,cW d] (.aC [nr t b,.str (kD b o),lM t b i d o,.int .i64 (tO o)]):=by
 obtain⟨k,q,a⟩:=zd j;obtain⟨r0,r1⟩:=qH h.C.jz;have l:=h.C.ci.2.2;have k1:=J9 t b p m;have k2:=KR t b o_ o_ h.C.L;have k3:=zu false 10;have k4:=Mz d c;have k5:=zC [0,0] s_;have k6:=Ig d (BM a).1 (BM a).2 c;have k7:=Mt t b aP i d x e h.C h.dk h.nz h.E;have k8:=zu (!o.isSome) 7;rw[k]at k1;rw[a]at k4;rw[<-n]at k7;have w0:bn false 10=0:=rfl;have g:bN [0,0]=0:=d_
 rw[w0]at k3;rw[g]at k5;simp only[bl,b3]at k5;rw[tO];generalize bn (!o.isSome) 7=w,kD b o=u at*;have f:=aQJ t b i d o;generalize lM t b i d o=r,o.isSome=s at*;refine gA_ nf func71 mix ?_;simp[f71,-iI,aa];refine c2_ k1 ?_;simp[-iI,aa];refine c2_ k2 ?_;simp[l,-iI,aa];refine e2_ k3 ?_;simp[-iI,aa];refine e1_ k4 ?_;simp[-iI,aa];refine ep k5 t_ t_ ?_;simp[-iI,aa];refine⟨r_,?_⟩;refine e1_ k6 ?_;simp[-iI,aa];refine e3_ k7 ?_;simp[f,-iI,aa];refine⟨r_,?_⟩;refine e2_ k8 ?_;simp[f,-iI,aa]
theorem W1(t b:aj)(aP:List Nat)(d:bM)(l:iu t)(g:jZ b)(k:jx d)(a:¬lQ t b aP d=0):
 aq prog 71 [bW t,.seq (b.an.map bE),.str aP,cW d] (.aC [ug,.str [],zM,.int .i64 (lQ t b aP d)]):=by
 have k1:=J9 t b l g;refine gA_ nf func71 mix ?_;rw[lQ]at a⊢;rw[ug,zM,Jp,EG]
 by_cases e:iN t b=0
 case neg=>
  rw[if_pos e]at a⊢;generalize iN t b=c at*;simp[f71,-iI,aa];refine c2_ k1 ?_;simp[a,-iI,aa]
 rw[if_neg (by simp[e])]at a⊢;rw[e]at k1;obtain⟨m,j,_⟩:=KQ g e;obtain⟨r0,r1⟩:=qH m;have k2:=KR t b o_ o_ j;have k4:=Mz d k
 by_cases f:gW b.an aP=none
 ·rw[if_pos f];have k3:=zu true 10;have k5:=zC [10,jR d] s_;rw[show bn true 10=10 from rfl]at k3;rw[show bN [10,jR d]=10 by rw[bN,if_neg d_]]at k5;simp only[bl,b3]at k5;generalize jR d=i at*;simp[f71,-iI,aa];refine c2_ k1 ?_;simp[-iI,aa];refine c2_ k2 ?_;simp[f,-iI,aa];refine e2_ k3 ?_;simp[-iI,aa];refine e1_ k4 ?_;simp[-iI,aa];refine ep k5 t_ t_ ?_;simp[-iI,aa];rfl
 ·rw[if_neg f]at a⊢;have k3:=zu false 10;have k5:=zC [0,jR d] s_;rw[show bn false 10=0 from rfl]at k3;rw[show bN [0,jR d]=jR d by rw[bN,if_pos rfl,bN,if_neg a]]at k5;simp only[bl,b3]at k5;obtain⟨s,hs⟩:∃s,gW b.an aP=some s:=by
   cases h:gW b.an aP with
   |none=>exact absurd h f
   |some s=>exact⟨s,rfl⟩
  generalize jR d=i at*;simp[f71,-iI,aa];refine c2_ k1 ?_;simp[-iI,aa];refine c2_ k2 ?_;simp[hs,-iI,aa];refine e2_ k3 ?_;simp[-iI,aa];refine e1_ k4 ?_;simp[-iI,aa];refine ep k5 t_ t_ ?_;simp[a,-iI,aa];rfl
end Go.ag
