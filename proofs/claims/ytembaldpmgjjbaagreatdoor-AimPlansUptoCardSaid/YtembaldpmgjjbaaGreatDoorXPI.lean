import Derived.Test.YtembaldpmgjjbaaGreatDoorXPH
import Derived.Test.YtembaldpmgjjbaaGreatDoorXThC
/- Parts of a proof. -/
set_option maxRecDepth 100000
set_option maxHeartbeats 4000000
set_option linter.unusedSimpArgs false
set_option linter.unusedVariables false
set_option linter.unusedSectionVars false
open Go.Proofs.Tryz
open And renaming intro->ao
open Bool renaming and_eq_true->av, true_and->ax
open Decidable renaming not_not->ay, by_contra->aT
open Go renaming DataW->a0, Field->a1
open Go.IntKind renaming i64->a4
open Go.Utf8 renaming decode->a5
open Int renaming tmod_eq_emod_of_nonneg->a6, natCast_emod->a7, natCast_nonneg->a8, natCast_mul->a9, tdiv_eq_ediv_of_nonneg->bb, natAbs_mul->be
open List renaming mem_of_getElem?->bf, drop_eq_getElem_cons->bi, take_length->bl, mem_iff_getElem->bo, take_of_length_le->bp, getElem?_eq_getElem->bv, length_eq_zero_iff->bw, map_cons->bI, any_eq_true->bV, findIdx?_eq_some_iff_getElem->b0, take_add_one->b1, length_take->b2, range->b3, getD_eq_getElem?_getD->b4, mem_map->b5, getElem_mem->ca, findIdx?_eq_none_iff->cb, getElem?_take->cc, map_nil->cd, zip_cons_cons->ck, mem_range->cx, zip_nil_left->cy, length_range->c6, getElem_take->c9, range_succ->da, length_map->db, mem_cons_of_mem->dd, map_take->dg, mem_cons_self->dl, find?_eq_none->dp, getElem?_map->dq, length_cons->dz, cons_append->ea, map_append->eb, length_filter_le->ec, getElem?_eq_none->ed, getElem?_range->ee, filter_append->ei, foldl_append->ej, all_eq_true->eo, mem_filter->eq, find?_cons->er, append_nil->ew
open Nat renaming mul_le_mul->ey, lt_trans->eM, lt_of_lt_of_le->eP, lt_trichotomy->e7, zero_le->e8, mod_lt->e9
open Rat renaming mul_eq_zero->fb, intCast_sub->fd, mul_nonneg->fi, div_def->fl, intCast_mul->fm, div_lt_iff->fv, mul_assoc->fw, le_total->gb
namespace Go.ae
open Go.ae renaming c1->c1_, c2->c2_, c3->c3_, c4->c4_, e0->e0_, e1->e1_, e2->e2_, e3->e3_, e4->e4_
open Go.Proofs
theorem JD{n:Nat}(h:n<10^80):aN ((n:Nat):Rat)=Hk.yI n:=by
 rw[Hk.DX h,aN,if_pos (by rfl),b6,if_neg (by show¬((n:Int)<0);omega)];rfl
theorem Wp:aN 2=[50]:=JD (n:=2) d_
def dU(s t:S3):Int:=jB (bW ⟨s.a-t.a,s.b,s.d⟩) (-(bE t.b*bE t.d)) (bW ⟨(s.a-t.a)*(s.a-t.a)+s.b*s.b*s.d-t.b*t.b*t.d,2*((s.a-t.a)*s.b),s.d⟩)
def yA(s:S3):Prop:=aL 1300 s.a/\aL 1300 s.b/\aL 1300 s.d
theorem BI{a:Int}(h:a= -1\/a=0\/a=1):-a= -1\/-a=0\/-a=1:=o_
theorem rD:aL 2 (2:Rat):=⟨d_,d_⟩
theorem Fw(s t:S3)(hs:il 1800 s)(e:il 1800 t)(f:aL 2601 (s.a-t.a)):al prog 109 [eS s,eS t] (.int .i64 (dU s t)):=by
 have p:=mB s.a t.a (hs.1.mono d_) (e.1.mono d_);have l:=B7 ⟨s.a-t.a,s.b,s.d⟩ (f.mono d_) (hs.2.1.mono d_) (hs.2.2.mono d_) ((bh (bh hs.2.1 hs.2.1) hs.2.2).mono d_);have q:=mA t.b (e.2.1.mono d_);have r:=mA t.d (e.2.2.mono d_);have k1:=ff (s.a-t.a) (s.a-t.a) (f.mono d_) (f.mono d_);have k2:=ff s.b s.b (hs.2.1.mono d_) (hs.2.1.mono d_);have k3:=ff (s.b*s.b) s.d ((bh hs.2.1 hs.2.1).mono d_) (hs.2.2.mono d_);have i:=jK (bh f f) (bh (bh hs.2.1 hs.2.1) hs.2.2);have k4:=qO ((s.a-t.a)*(s.a-t.a)) (s.b*s.b*s.d) ((bh f f).mono d_) ((bh (bh hs.2.1 hs.2.1) hs.2.2).mono d_);have g:=bh f hs.2.1;have k5:=ff (s.a-t.a) s.b (f.mono d_) (hs.2.1.mono d_);have k6:=ff 2 ((s.a-t.a)*s.b) (rD.mono d_) (g.mono d_);rw[Wp]at k6;have k7:=ff t.b t.b (e.2.1.mono d_) (e.2.1.mono d_);have k8:=ff (t.b*t.b) t.d ((bh e.2.1 e.2.1).mono d_) (e.2.2.mono d_);have j:=bh (bh e.2.1 e.2.1) e.2.2;have k9:=mB ((s.a-t.a)*(s.a-t.a)+s.b*s.b*s.d) (t.b*t.b*t.d) (i.mono d_) (j.mono d_);have jk:=B7 ⟨(s.a-t.a)*(s.a-t.a)+s.b*s.b*s.d-t.b*t.b*t.d,2*((s.a-t.a)*s.b),s.d⟩ ((gl i j).mono d_) ((bh rD g).mono d_) (hs.2.2.mono d_) ((bh (bh (bh rD g) (bh rD g)) hs.2.2).mono d_);have k:=yj ⟨s.a-t.a,s.b,s.d⟩;have h:=mI (mF t.b) (mF t.d);have n:=yj ⟨(s.a-t.a)*(s.a-t.a)+s.b*s.b*s.d-t.b*t.b*t.d,2*((s.a-t.a)*s.b),s.d⟩;have w1:=mH h;refine gA_ nf func109 mix ?_;rw[dU];generalize bW ⟨(s.a-t.a)*(s.a-t.a)+s.b*s.b*s.d-t.b*t.b*t.d,2*((s.a-t.a)*s.b),s.d⟩=o,bW ⟨s.a-t.a,s.b,s.d⟩=x,bE t.b=y1,bE t.d=y2 at*;rw[pS]at l jk;clear i g j f;have v:=mH (BI h);have m:=mH (mI k (BI h));have w:=mH (mI k n);have u:a4.wrap 0=0:=d_
 simp[f109,aa,-ba];rw[ba];simp[-ba,aa];rw[ba];simp[-ba,aa];refine e2 p ?_;simp[aa,-ba];refine⟨r_,?_⟩;rw[ba];simp[aa,-ba];refine e1 l ?_;simp[aa,-ba];refine e1 q ?_;simp[aa,-ba];refine e1 r ?_;simp[aa,w1,v];generalize -(y1*y2)=y at*;rw[jB]
 by_cases c:0<=x*y
 ·rw[if_pos c]
  by_cases c2:x=0
  ·subst c2;simp[u,aa]
  ·rw[if_neg c2];simp[c,c2,m,aa]
 ·rw[if_neg c];simp+decide (maxDischargeDepth:=99) [c,m,aa,w,e2 k1,e2 k2,e2 k3,e2 k4,e2 k5,e2 k6,e2 k7,e2 k8,e2 k9,c1 jk]
theorem E4(s t:S3)(hs:yA s)(a:yA t):al prog 109 [eS s,eS t] (.int .i64 (dU s t)):=
 Fw s t ⟨hs.1.mono d_,hs.2.1.mono d_,hs.2.2.mono d_⟩ ⟨a.1.mono d_,a.2.1.mono d_,a.2.2.mono d_⟩ (gl hs.1 a.1)
structure fh where
 x:Int
 y:Int
 deriving DecidableEq
structure du where
 name:List Nat
 cV:Int
 a:List Nat
 b:List Nat
structure de where
 name:List Nat
 pt:bS
structure ah where
 cs:List fh
 aC:Int
 aK:List du
 aj:List de
def dc(p:fh):PV:=.st 139 [.int .i64 p.x,.int .i64 p.y]
def fV(p:du):PV:=.st 108 [.str p.name,.int .i64 p.cV,.str p.a,.str p.b]
def bP(p:de):PV:=.st 90 [.str p.name,et p.pt]
def cA(t:ah):PV:=.st 25 [.seq (t.cs.map dc),.int .i64 t.aC,.seq (t.aK.map fV),.seq (t.aj.map bP)]
@[simp] theorem aUG(p:fh):aP (dc p)=.agg 139:=rfl
@[simp] theorem aS2(p:fh):cz (dc p)=[.int .i64 p.x,.int .i64 p.y]:=rfl
@[simp] theorem aUD(p:du):aP (fV p)=.agg 108:=rfl
@[simp] theorem aSZ(p:du):cz (fV p)=[.str p.name,.int .i64 p.cV,.str p.a,.str p.b]:=rfl
@[simp] theorem aUK(p:de):aP (bP p)=.agg 90:=rfl
@[simp] theorem aS6(p:de):cz (bP p)=[.str p.name,et p.pt]:=rfl
@[simp] theorem aUP(t:ah):aP (cA t)=.agg 25:=rfl
@[simp] theorem aTa(t:ah):cz (cA t)=[.seq (t.cs.map dc),.int .i64 t.aC,.seq (t.aK.map fV),.seq (t.aj.map bP)]:=rfl
@[simp] theorem aSa:prog.cellsOf 139=2:=k_
@[simp] theorem aR9:prog.cellsOf 108=4:=k_
@[simp] theorem aSd:prog.cellsOf 90=3:=k_
def ij(p:fh):Bool:=decide (10000<max p.x p.y)||decide (min p.x p.y< -10000)
theorem aKH(p:fh):al prog 125 [dc p] (.bool (ij p)):=by
 obtain⟨x,y⟩:=p;refine gA_ nf func125 mix ?_;have e1:max x y=if x<y then y else x:=by split<;>omega
 have e2:min x y=if y<x then y else x:=by split<;>omega
 rw[ij,e1,e2]
 by_cases h:(if x<y then y else x)<=10000
 ·have a:¬10000<(if x<y then y else x):=by omega
  by_cases b:(if y<x then y else x)< -10000
  ·simp[f125,aa,h,a,b]
  ·simp[f125,aa,h,a,b]
 ·have a:10000<(if x<y then y else x):=by omega
  simp[f125,aa,h,a]
def eH(p:fh):Prop:=-10000<=p.x/\p.x<=10000/\-10000<=p.y/\p.y<=10000
theorem JZ{p:fh}(h:ij p=false):eH p:=by
 simp only[ij,Bool.or_eq_false_iff,decide_eq_false_iff_not]at h;unfold eH;omega
def mR(a b c:fh):Int:=(b.x-a.x)*(c.y-a.y)-(b.y-a.y)*(c.x-a.x)
theorem BL{a b:Int}{A B:Int}(c:-A<=a)(d:a<=A)(e:-B<=b)(f:b<=B):-(A*B)<=a*b/\a*b<=A*B:=by
 have k1:a.natAbs<=A.natAbs:=o_
 have k2:b.natAbs<=B.natAbs:=o_
 have k3:=ey k1 k2;rw[<-be,<-be]at k3;have k4:0<=A*B:=Int.mul_nonneg o_ o_;omega
theorem Xo(a b c:fh)(i:eH a)(j:eH b)(hc:eH c):al prog 222 [dc a,dc b,dc c] (.int .i64 (mR a b c)):=by
 obtain⟨d,e⟩:=a;obtain⟨bx,f⟩:=b;obtain⟨g,h⟩:=c;simp only[eH]at i j hc;have w1:a4.wrap (bx-d)=bx-d:=aU _ o_ o_;have k:a4.wrap (h-e)=h-e:=aU _ o_ o_;have l:a4.wrap (f-e)=f-e:=aU _ o_ o_
 have m:a4.wrap (g-d)=g-d:=aU _ o_ o_;have q:=BL (a:=bx-d) (b:=h-e) (A:=20000) (B:=20000) o_ o_ o_ o_;have r:=BL (a:=f-e) (b:=g-d) (A:=20000) (B:=20000) o_ o_ o_ o_;have n:a4.wrap ((bx-d)*(h-e))=(bx-d)*(h-e):=aU _ o_ o_;have o:a4.wrap ((f-e)*(g-d))=(f-e)*(g-d):=aU _ o_ o_;have p:a4.wrap ((bx-d)*(h-e)-(f-e)*(g-d))=(bx-d)*(h-e)-(f-e)*(g-d):=aU _ o_ o_;refine gA_ nf func222 mix ?_;rw[mR];simp[f222,aa,w1,k,l,m,n,o,p]
def ah.nx(t:ah)(i:Nat):Nat:=(i+1)% t.cs.length
def ah.at(t:ah)(i:Nat):fh:=t.cs.getD i ⟨0,0⟩
theorem ah.get{t:ah}{i:Nat}(h:i<t.cs.length):t.cs[i]?=some (t.at i):=by
 rw[ah.at,b4,bv h];rfl
@[simp] theorem ah.aV{t:ah}{i:Nat}(h:i<t.cs.length):t.cs[i]'h=t.at i:=by
 rw[ah.at,b4,bv h];rfl
theorem ah.kM{t:ah}(h:0<t.cs.length)(i:Nat):t.nx i<t.cs.length:=e9 _ h
theorem BX(t:ah)(i:Nat)(h:i<t.cs.length)(d:t.cs.length<=1000000):al prog 219 [cA t,.int .i64 i] (dc (t.at (t.nx i))):=by
 have w1:a4.wrap ((i:Int)+1)=(i:Int)+1:=aU _ o_ o_;have hn:=t.kM o_ i;have e1:((i:Int)+1).tmod (t.cs.length:Int)=((t.nx i:Nat):Int):=by
  rw[ah.nx,a7,a6 o_];rfl
 have b:=ah.get hn;have c:¬t.cs.length=0:=o_
 have a:¬t.cs=[]:=by intro e;rw[e]at h;simp at h
 refine gA_ nf func219 mix ?_;simp[f219,aa,w1,e1,b,c,a]
def ah.rj(t:ah)(i:Nat)(m:Nat):Prop:=∀k,k<m->k≠i->k≠t.nx i->0<mR (t.at i) (t.at (t.nx i)) (t.at k)
instance(t:ah)(i m:Nat):Decidable (t.rj i m):=inferInstanceAs (Decidable (∀k,k<m->_))
def ah.ga(t:ah):Bool:=decide (∀i,i<t.cs.length->t.rj i t.cs.length)
theorem ah.eg{t:ah}(h:∀p∈t.cs,eH p){i:Nat}(hi:i<t.cs.length):eH (t.at i):=h _ (bf (ah.get hi))
theorem Xy(t:ah)(w:t.cs.length<=1000000)(hn:∀p∈t.cs,eH p):al prog 126 [cA t] (.bool t.ga):=by
 refine gA_ nf func126 mix ?_;generalize a:t.cs.length=n at*;simp[f126,aa,a];refine lp (α:=Nat) (fun i=>⟨[(4,.p (.int .i64 i)),(3,.p (.int .i64 n)),(1,.ptr 0 [])],[.box false (.p (cA t))]⟩) (fun i=>i<=n/\∀j,j<i->t.rj j n) (fun i=>n-i) 0 s_ ?_;rintro i ⟨u,o⟩
 by_cases hi:i<n
 ·simp[hi];refine lp (α:=Nat) (fun k=>⟨[(5,.p (.int .i64 k)),(4,.p (.int .i64 i)),(3,.p (.int .i64 n)),(1,.ptr 0 [])],[.box false (.p (cA t))]⟩) (fun k=>k<=n/\t.rj i k) (fun k=>n-k) 0 (by simp[ah.rj]) ?_;rintro k ⟨g1,g2⟩
  by_cases hk:k<n
  ·have q:=BX t i o_ o_;have x:t.nx i<n:=by rw[<-a];exact t.kM o_ i
   have d:=b8 (i:=i) o_;have e:=b8 (i:=k) o_;have e1:((i:Int)+1).tmod (n:Int)=((t.nx i:Nat):Int):=by
    rw[ah.nx,a,a7,a6 o_];rfl
   have r:=Xo (t.at i) (t.at (t.nx i)) (t.at k) (ah.eg hn o_) (ah.eg hn o_) (ah.eg hn o_);have f:=ah.get (t:=t) (i:=i) o_;have gk:=ah.get (t:=t) (i:=k) o_;have m:¬n=0:=o_
   by_cases c1:k=i
   ·subst c1;simp[hk,e];exact rd (k+1) ⟨hk,fun j g=>by
     by_cases l:j=k
     ·intro h;exact(h l).elim
     ·exact g2 j o_⟩
   ·have b:¬(k:Int)=(i:Int):=by omega
    by_cases c2:k=t.nx i
    ·rw[<-c2]at e1;simp[hk,b,d,e,e1,m];exact rd (k+1) ⟨hk,fun j g=>by
      by_cases l:j=k
      ·intro _ h;exact(h o_).elim
      ·exact g2 j o_⟩
    ·have c:¬(k:Int)=((t.nx i:Nat):Int):=by omega
     by_cases c3:mR (t.at i) (t.at (t.nx i)) (t.at k)<=0
     ·simp[hk,b,c,d,e,e1,m,f,gk,a,aa];refine e2_ q ?_;simp[hk,a,f,gk,b,c,aa];refine e3_ r ?_;simp[c3,b,c];have:t.ga=false:=by
       rw[ah.ga,decide_eq_false_iff_not];intro h;have:=h i o_ k o_ c1 c2;omega
      rw[this]
     ·simp[hk,b,c,d,e,e1,m,f,gk,a,aa];refine e2_ q ?_;simp[hk,a,f,gk,b,c,aa];refine e3_ r ?_;simp[c3,e,b,c];exact rd (k+1) ⟨hk,fun j g=>by
       by_cases l:j=k
       ·subst l;intro _ _;omega
       ·exact g2 j o_⟩
  ·have:k=n:=by omega
   subst this;have d:=b8 (i:=i) o_;simp[d];exact rd (i+1) ⟨hi,fun j g=>by
    by_cases s:j=i
    ·subst s;exact g2
    ·exact o j o_⟩
 ·have v:i=n:=by omega
  have:t.ga=true:=by
   rw[ah.ga,decide_eq_true_eq,a];intro j g;exact o j o_
  simp[hi,this]
def c7(p:fh):V2:=⟨(p.x:Rat),(p.y:Rat)⟩
theorem gE{p:fh}(h:eH p):aS 14 (c7 p):=by
 simp only[eH]at h;exact⟨ke o_ d_,ke o_ d_⟩
theorem wy(p:fh)(h:eH p):al prog 218 [dc p] (eV (c7 p)):=by
 have c:=h;simp only[eH]at h;have a:=A1 p.x o_ o_;have b:=A1 p.y o_ o_;refine gA_ nf func218 mix ?_;rw[c7,sF];simp(maxDischargeDepth:=99) [f218,aa,e1 a,e1 b]
def ah.bC(t:ah)(i:Nat):V2:=(c7 (t.at (t.nx i))).sub (c7 (t.at i))
def ah.side(t:ah)(i:Nat)(v:V2):Int:=bE ((t.bC i).aX (v.sub (c7 (t.at i))))
theorem ah.okW{t:ah}(h:∀p∈t.cs,eH p){i:Nat}(hi:i<t.cs.length):aS 29 (t.bC i):=eB (gE (ah.eg h (t.kM o_ i))) (gE (ah.eg h hi))
theorem aDn(t:ah)(i:Nat)(v:V2)(d:t.cs.length<=1000000)(hn:∀p∈t.cs,eH p)(hi:i<t.cs.length)(c:aS 3000 v):al prog 224 [cA t,.int .i64 i,eV v] (.int .i64 (t.side i v)):=by
 have a:=ah.get hi;have b:=gE (ah.eg hn hi);have m:=gE (ah.eg hn (t.kM o_ i));have e:=wy (t.at i) (ah.eg hn hi);have f:=BX t i hi d;have g:=wy (t.at (t.nx i)) (ah.eg hn (t.kM o_ i));have h:=lj (c7 (t.at (t.nx i))) (c7 (t.at i)) (m.mono d_) (b.mono d_);have j:=lj v (c7 (t.at i)) (c.mono d_) (b.mono d_);have k:=yQ (t.bC i) (v.sub (c7 (t.at i))) ((ah.okW hn hi).mono d_) ((eB c b).mono d_);have l:=mA ((t.bC i).aX (v.sub (c7 (t.at i)))) ((lB (ah.okW hn hi) (eB c b)).mono d_);refine gA_ nf func224 mix ?_;rw[ah.side];simp[f224,aa,a,hi];refine e1 e ?_;simp[aa,a,hi];refine e2 f ?_;simp[aa,a,hi];refine e1 g ?_;simp[aa,a,hi];refine⟨r_,?_⟩;refine e2 h ?_;simp[aa,a,hi];refine e2 j ?_;simp[aa,a,hi];refine e2 k ?_;simp[aa,a,hi];refine e1 l ?_;simp[aa,a,hi]
def ah.pY(t:ah)(v:V2)(m:Nat):Int:=(b3 m).foldl (fun o i=>min o (t.side i v)) 1
theorem ah.E6(t:ah)(v:V2)(m:Nat):t.pY v (m+1)=min (t.pY v m) (t.side m v):=by
 rw[ah.pY,da,ej];rfl
def ah.on(t:ah)(v:V2):Int:=t.pY v t.cs.length
theorem Kn(a b:Int):min a b=if b<a then b else a:=by split<;>omega
theorem IB(t:ah)(v:V2)(b:t.cs.length<=1000000)(hn:∀p∈t.cs,eH p)(c:aS 3000 v):al prog 130 [cA t,eV v] (.int .i64 (t.on v)):=by
 refine gA_ nf func130 mix ?_;simp[f130,aa];refine lp (α:=Nat) (fun i=>⟨[(6,.p (.int .i64 i)),(5,.p (.int .i64 (t.pY v i))),(3,.ptr 1 []),(2,.ptr 0 [])],[.box false (.p (cA t)),.box false (.p (eV v))]⟩) (fun i=>i<=t.cs.length) (fun i=>t.cs.length-i) 0 s_ ?_ (hh:=by simp[ah.pY]) (he:=by simp[ah.pY]);rintro i e
 by_cases hi:i<t.cs.length
 ·have a:=aDn t i v b hn hi c;have d:=b8 (i:=i) o_;have hs:=ah.E6 t v i;rw[Kn]at hs;simp[hi,aa];refine c3 a ?_;simp[d,<-hs];exact rd (i+1) hi
 ·have:i=t.cs.length:=by omega
  subst this;simp[ah.on,aa]
def isLet(c:Int):Bool:=(decide (97<=c)&&decide (c<=122))||(decide (65<=c)&&decide (c<=90))
def lE(c:Int):Bool:=decide (48<=c)&&decide (c<=57)
def pX:Nat->List Nat->Bool
 |_,[]=>true
 |i,c::r=>(isLet c||(decide (i≠0)&&(lE c||decide ((c:Int)=95))))&&pX (i+1) r
def isName(s:List Nat):Bool:=decide (1<=s.length)&&decide (s.length<=24)&&pX 0 s
theorem cls(c:Int):(97<=c/\c<=122)\/(¬97<=c/\65<=c/\c<=90)\/(¬97<=c/\¬65<=c/\¬48<=c/\¬c=95)\/(¬97<=c/\¬65<=c/\48<=c/\c<=57/\¬c=95)\/(¬97<=c/\¬65<=c/\48<=c/\¬c<=57/\¬c=95)\/
 (¬97<=c/\65<=c/\¬c<=90/\48<=c/\¬c<=57/\c=95)\/(¬97<=c/\65<=c/\¬c<=90/\48<=c/\¬c<=57/\¬c=95)\/(97<=c/\¬c<=122/\65<=c/\¬c<=90/\48<=c/\¬c<=57/\¬c=95):=o_
theorem JV(c:Int):al prog 255 [.int .i32 c] (.bool (isLet c)):=by
 refine gA_ nf func255 mix ?_;rcases cls c with⟨a,b⟩|⟨a,b,d⟩|⟨a,b,d,e⟩|⟨a,b,d,e,f⟩|⟨a,b,d,e,f⟩|⟨a,b,d,e,f,g⟩|⟨a,b,d,e,f,g⟩|⟨a,b,d,e,f,g,h⟩<;>simp[f255,isLet, *]
theorem JP{s:List Nat}{i:Nat}(hi:i<s.length):pX i (s.drop i)=((isLet s[i]||(decide (i≠0)&&(lE s[i]||decide ((s[i]:Int)=95))))&&pX (i+1) (s.drop (i+1))):=by
 rw[bi hi,pX]
theorem E5(s:List Nat)(h:s.length<=1048576):al prog 128 [.str s] (.bool (isName s)):=by
 refine gA_ nf func128 mix ?_;rcases E8 s.length 1 with⟨g1,m⟩|⟨g1,m⟩
 ·have:s.length=0:=by omega
  simp[f128,g1,isName,this]
 rcases E8 24 s.length with⟨g2,n⟩|⟨g2,n⟩
 ·have:¬s.length<=24:=by omega
  simp[f128,g1,g2,isName,this]
 simp[f128,g1,g2];have e0:isName s=pX 0 s:=by simp[isName];omega
 refine lp (α:=Nat) (fun i=>⟨[(3,.p (.int .i64 i)),(0,.p (.str s))],[]⟩) (fun i=>i<=s.length/\isName s=pX i (s.drop i)) (fun i=>s.length-i) 0 (by simp[e0]) ?_;rintro i ⟨k1,k2⟩
 by_cases hi:i<s.length
 ·rw[JP hi]at k2;have k:=b8 (i:=i) o_;generalize hc:(s[i]:Int)=c at*
  by_cases j:i=0
  ·subst j;have l:a4.wrap 1=1:=aU 1 o_ o_;rcases cls c with⟨a,b⟩|⟨a,b,d⟩|⟨a,b,d,e⟩|⟨a,b,d,e,f⟩|⟨a,b,d,e,f⟩|⟨a,b,d,e,f,g⟩|⟨a,b,d,e,f,g⟩|⟨a,b,d,e,f,g,h⟩
   ·simp[isLet,a,b]at k2;simp[hi,hc,a,b,l];exact rd 1 ⟨hi,by simpa using k2⟩
   ·simp[isLet,a,b,d]at k2;simp[hi,hc,a,b,d,l];exact rd 1 ⟨hi,by simpa using k2⟩
   all_goals
    simp[isLet, *]at k2;simp[hi,hc, *]
  ·rcases cls c with⟨a,b⟩|⟨a,b,d⟩|⟨a,b,d,e⟩|⟨a,b,d,e,f⟩|⟨a,b,d,e,f⟩|⟨a,b,d,e,f,g⟩|⟨a,b,d,e,f,g⟩|⟨a,b,d,e,f,g,h⟩
   ·simp[isLet,a,b]at k2;simp[hi,hc,a,b,k];exact rd (i+1) ⟨hi,k2⟩
   ·simp[isLet,a,b,d]at k2;simp[hi,hc,a,b,d,k];exact rd (i+1) ⟨hi,k2⟩
   ·simp[isLet,lE,a,b,d,e]at k2;simp[hi,hc,j,a,b,d,e,k2]
   ·simp[isLet,lE,a,b,d,e,j]at k2;simp[hi,hc,j,a,b,d,e,k];exact rd (i+1) ⟨hi,k2⟩
   ·simp[isLet,lE,a,b,d,e,f]at k2;simp[hi,hc,j,a,b,d,e,f,k2]
   ·subst g;simp[isLet,lE,j]at k2;simp[hi,hc,j,k];exact rd (i+1) ⟨hi,k2⟩
   ·simp[isLet,lE,a,b,d,e,f,g]at k2;simp[hi,hc,j,a,b,d,e,f,g,k2]
   ·simp[isLet,lE,a,b,d,e,f,g,h]at k2;simp[hi,hc,j,a,b,d,e,f,g,h,k2]
 ·have:i=s.length:=by omega
  subst this;simp[pX]at k2;simp[k2]
theorem JN(s:List Nat):(iL s).size=s.length:=by
 show(s.map UInt8.ofNat).toArray.size=_;simp
theorem J9(s:List Nat)(b:∀c∈s,c<256)(i:Nat)(h:i<s.length)(a:i<(iL s).size):((iL s)[i]'a).toNat=s[i]:=by
 have e:(iL s)[i]'a=UInt8.ofNat s[i]:=by
  have:(iL s)[i]'a=(s.map UInt8.ofNat).toArray[i]'(by simpa using h):=rfl;rw[this];simp
 rw[e];have:=b s[i] (ca h);simp;omega
theorem aLy{s:List Nat}(d:∀c∈s,c<256){i:Nat}(h:i<s.length)(b:s[i]<128):a5 (iL s) i=(s[i],1):=by
 have a:i<(iL s).size:=by rw[JN];exact h
 have e:=J9 s d i h a;rw[decode_ascii (iL s) i a (by rw[e];exact b),e]
theorem aLx{s:List Nat}(b:∀c∈s,c<256){i:Nat}(h:i<s.length)(d:¬s[i]<128):128<=(a5 (iL s) i).1/\1<=(a5 (iL s) i).2:=by
 have a:i<(iL s).size:=by rw[JN];exact h
 have e:=J9 s b i h a;exact decode_high (iL s) i a (by rw[e];omega)
theorem Fe(s:List Nat)(h:s.length<=1048576):al prog 176 [.str s] (.bool (isName s)):=by
 refine XC fun m=>?_;have m:∀c∈s,c<256:=by simpa[pE,fq]using m
 refine gA_ nf func176 mix ?_;simp[f176];refine lp (α:=Nat) (fun i=>⟨[(6,.ptr 0 []),(0,.p (.str s))],[.fC s i]⟩) (fun i=>i<=s.length/\pX 0 s=pX i (s.drop i)) (fun i=>s.length-i) 0 s_ ?_;rintro i ⟨k1,k2⟩
 by_cases hi:i<s.length
 ·rw[JP hi]at k2
  by_cases o:s[i]<128
  ·have n:=aLy m hi o;simp[hi,n];refine c1 (JV _) ?_;generalize hc:(s[i]:Int)=c at*
   by_cases j:i=0
   ·rcases cls c with⟨a,b⟩|⟨a,b,d⟩|⟨a,b,d,e⟩|⟨a,b,d,e,f⟩|⟨a,b,d,e,f⟩|⟨a,b,d,e,f,g⟩|⟨a,b,d,e,f,g⟩|⟨a,b,d,e,f,g,h⟩
    ·simp[isLet,a,b]at k2;simp[isLet,a,b];exact rd (i+1) ⟨hi,k2⟩
    ·simp[isLet,a,b,d]at k2;simp[isLet,a,b,d];exact rd (i+1) ⟨hi,k2⟩
    all_goals
     simp[isLet,isName, *]at k2;simp[isLet,isName, *]
   ·rcases cls c with⟨a,b⟩|⟨a,b,d⟩|⟨a,b,d,e⟩|⟨a,b,d,e,f⟩|⟨a,b,d,e,f⟩|⟨a,b,d,e,f,g⟩|⟨a,b,d,e,f,g⟩|⟨a,b,d,e,f,g,h⟩
    ·simp[isLet,a,b]at k2;simp[isLet,a,b];exact rd (i+1) ⟨hi,k2⟩
    ·simp[isLet,a,b,d]at k2;simp[isLet,a,b,d];exact rd (i+1) ⟨hi,k2⟩
    ·simp[isLet,lE,a,b,d,e]at k2;have k:c<48:=by omega
     simp[isLet,isName,a,b,e,j,k,k2]
    ·simp[isLet,lE,a,b,d,e,f,j]at k2;have k:¬c<48:=by omega
     have e2:¬57<c:=o_
     simp[isLet,a,b,k,e2,f,j];exact rd (i+1) ⟨hi,k2⟩
    ·simp[isLet,lE,a,b,d,e,f]at k2;have k:¬c<48:=by omega
     have e2:57<c:=o_
     simp[isLet,isName,a,b,k,e2,f,j,k2]
    ·subst g;simp[isLet,lE,j]at k2;simp[isLet,j];exact rd (i+1) ⟨hi,k2⟩
    ·simp[isLet,lE,a,b,d,e,f,g]at k2;have k:¬c<48:=by omega
     have e2:57<c:=o_
     simp[isLet,isName,a,b,d,k,e2,g,j,k2]
    ·simp[isLet,lE,a,b,d,e,f,g,h]at k2;have k:¬c<48:=by omega
     have e2:57<c:=o_
     simp[isLet,isName,a,b,d,e,k,e2,h,j,k2]
  ·obtain⟨n,_⟩:=aLx m hi o;have z:isLet (s[i]:Int)=false:=by simp[isLet];omega
   have y:lE (s[i]:Int)=false:=by simp[lE];omega
   have x:¬(s[i]:Int)=95:=o_
   simp[z,y,x]at k2;rcases q:a5 (iL s) i with⟨c,d⟩
   rw[q]at n;have t:isLet (c:Int)=false:=by simp[isLet];omega
   have u:¬(c:Int)=95:=o_
   have v:¬(c:Int)<48:=o_
   have w:57<(c:Int):=o_
   simp[hi,q];refine c1 (JV _) ?_
   by_cases j:i=0
   ·simp[t,j,isName,k2]
   ·simp[t,j,u,v,w,isName,k2]
 ·have:i=s.length:=by omega
  subst this;simp[pX]at k2;cases hs:s with
  |nil=>simp[isName]
  |cons a r=>
   rw[hs]at k2;rcases E8 24 s.length with⟨g,l⟩|⟨g,l⟩
   ·rw[hs]at g l;have:¬(r.length+1)<=24:=by simp at g;omega
    simp at l;simp[isName,k2,this];omega
   ·rw[hs]at g l;have:(r.length+1)<=24:=by simp at l;omega
    simp at l;simp[isName,k2,this];omega
theorem gN{s:List Nat}(h:cm s=0):aL 2000 (aO s):=by
 obtain⟨b,c⟩:=KJ h;have a:(10:Nat)^mD<=2^2000:=by decide+kernel
 exact⟨eP b a,eP c a⟩
theorem yJ:aN 1=[49]:=JD (n:=1) d_
def fO(q:Rat):Int:=if bE q<0\/0<cr q 1 then 3 else 0
def BO(s:List Nat):Int:=if cm s=0 then fO (aO s)else cm s
theorem JX(s:List Nat)(hs:ky s):al prog 223 [.str s] (.int .i64 (BO s)):=by
 have d:=AY s hs;refine gA_ nf func223 mix ?_;rw[BO]
 by_cases c:cm s=0
 ·have o:=gN c;have f:=mA (aO s) (o.mono d_);have g:=oL (aO s) 1 (o.mono d_) (by exact⟨by decide+kernel,by decide+kernel⟩);rw[(ia c).1]at f g;rw[yJ]at g;rw[if_pos c,fO];rw[c]at d;generalize bE (aO s)=x,cr (aO s) 1=y at*
  by_cases a:x<0
  ·simp(maxDischargeDepth:=99) [f223,aa,a,c1 d,c1 f]
  ·by_cases b:0<y
   ·simp(maxDischargeDepth:=99) [f223,aa,a,b,c1 d,c1 f,c2 g]
   ·simp(maxDischargeDepth:=99) [f223,aa,a,b,c1 d,c1 f,c2 g]
 ·rw[if_neg c];generalize cm s=e at*;simp[f223,aa,c,c1 d]
def iY(o p:du):Bool:=decide (o.cV=p.cV)&&(decide (cr (aO o.a) (aO p.b)<=0)&&decide (cr (aO p.a) (aO o.b)<=0))
def gY(n:Nat)(c:List du)(p:du):Int:=
 if isName p.name=false then 8
 else if c.any (fun o=>decide (o.name=p.name))=true then 9
 else if p.cV<0\/(n:Int)<=p.cV then 10
 else if cm p.a≠0 then cm p.a
 else if cm p.b≠0 then cm p.b
 else if max (fO (aO p.a)) (fO (aO p.b))≠0 then max (fO (aO p.a)) (fO (aO p.b))
 else if 0<cr (aO p.a) (aO p.b)then 11
 else if c.any (fun o=>iY o p)=true then 17 else 0
def vZ(p:du):Prop:=ky p.name/\ky p.a/\ky p.b
def ah.pk(t:ah)(i:Nat):du:=t.aK.getD i ⟨[],0,[],[]⟩
@[simp] theorem ah.EL{t:ah}{i:Nat}(h:i<t.aK.length):t.aK[i]'h=t.pk i:=by
 rw[ah.pk,b4,bv h];rfl
theorem ah.jo{t:ah}{i:Nat}(h:i<t.aK.length):t.aK[i]?=some (t.pk i):=by rw[bv h,ah.EL]
theorem yR{α:Type}{f:α->Bool}{l:List α}{i:Nat}{x:α}(h:l[i]?=some x):(l.take (i+1)).any f=((l.take i).any f||f x):=by
 rw[b1,h];simp
theorem W1(t:ah)(i:Nat)(hi:i<t.aK.length)(U:t.aK.length<=1000000)(hc:t.cs.length<=1000000)(P:∀p∈t.aK,vZ p)(Q:∀j,j<i->cm (t.pk j).a=0/\cm (t.pk j).b=0):
 al prog 127 [cA t,.int .i64 i] (.int .i64 (gY t.cs.length (t.aK.take i) (t.pk i))):=by
 have v:=ah.jo hi;obtain⟨R,D,E⟩:=P _ (bf v);have m:=E5 (t.pk i).name R.1;have N:=AY (t.pk i).a D;have O:=AY (t.pk i).b E;refine gA_ nf func127 mix ?_;rw[gY];cases hn:isName (t.pk i).name
 ·rw[hn]at m;simp[f127,aa,v,hi,c1 m]
 rw[hn]at m;rw[if_neg d_];simp[f127,aa,v,hi];refine c1 m ?_;simp[aa];refine lp (α:=Nat) (fun j=>⟨[(6,.p (.int .i64 j)),(5,.ptr 1 []),(2,.ptr 0 []),(1,.p (.int .i64 i))],[.box false (.p (cA t)),.box false (.p (fV (t.pk i)))]⟩) (fun j=>j<=i/\(t.aK.take j).any (fun o=>decide (o.name=(t.pk i).name))=false) (fun j=>i-j) 0 s_ ?_;rintro j ⟨V,C⟩
 by_cases q:j<i
 ·have z:j<t.aK.length:=by omega
  have g:=ah.jo z;have f:=b8 (i:=j) o_
  by_cases n:(t.pk j).name=(t.pk i).name
  ·have:(t.aK.take i).any (fun o=>decide (o.name=(t.pk i).name))=true:=by
    rw[bV];exact⟨t.pk j,bf (i:=j) (by rw[cc,if_pos q];exact g),by simp[n]⟩
   rw[if_pos this];simp[q,z,g,n,aa]
  ·simp[q,z,g,n,f,aa];exact rd (j+1) ⟨q,by rw[yR g,C];simp[n]⟩
 have:j=i:=o_
 subst this;rw[C,if_neg d_];have u:((t.pk j).cV<0\/(t.cs.length:Int)<=(t.pk j).cV)\/(¬(t.pk j).cV<0/\¬(t.cs.length:Int)<=(t.pk j).cV):=o_
 rcases u with u|⟨K,L⟩
 ·rw[if_pos u]
  by_cases e1:(t.pk j).cV<0
  ·simp[e1,aa]
  ·have e2:(t.cs.length:Int)<=(t.pk j).cV:=by omega
   simp[e1,e2,aa]
 rw[if_neg o_];have J:¬j<j:=o_
 simp[K,L,J,aa];refine c1 N ?_
 by_cases c:cm (t.pk j).a=0
 case neg=>
  rw[if_pos c];simp[c,aa]
 rw[if_neg (by simp[c])];simp[c,aa];refine c1 O ?_
 by_cases d:cm (t.pk j).b=0
 case neg=>
  rw[if_pos d];simp[d,aa]
 rw[if_neg (by simp[d])];simp[d,aa];have F:=gN c;have G:=gN d;have x:=JX (t.pk j).a D;have y:=JX (t.pk j).b E;rw[BO,if_pos c]at x;rw[BO,if_pos d]at y;have A:=oL (aO (t.pk j).a) (aO (t.pk j).b) (F.mono d_) (G.mono d_);rw[(ia c).1,(ia d).1]at A;refine e1 x ?_;simp[aa];refine e1 y ?_;have em:max (fO (aO (t.pk j).a)) (fO (aO (t.pk j).b))=if fO (aO (t.pk j).a)<fO (aO (t.pk j).b)then fO (aO (t.pk j).b)else fO (aO (t.pk j).a):=by split<;>omega
 simp[aa,<-em];clear em x y;generalize max (fO (aO (t.pk j).a)) (fO (aO (t.pk j).b))=M at*
 by_cases hm:M=0
 case neg=>
  simp[hm,aa]
 subst hm;simp[aa];refine c2 A ?_
 by_cases s:0<cr (aO (t.pk j).a) (aO (t.pk j).b)
 ·rw[if_pos s];simp[s,aa]
 rw[if_neg s];simp[s,aa];refine lp (α:=Nat) (fun k=>⟨[(8,.p (.int .i64 k)),(5,.ptr 1 []),(2,.ptr 0 []),(1,.p (.int .i64 j))],[.box false (.p (cA t)),.box false (.p (fV (t.pk j)))]⟩) (fun k=>k<=j/\(t.aK.take k).any (fun o=>iY o (t.pk j))=false) (fun k=>j-k) 0 s_ ?_;rintro k ⟨k1,k2⟩
 by_cases hk:k<j
 ·have e:k<t.aK.length:=by omega
  have gk:=ah.jo e;have f:=b8 (i:=k) o_;obtain⟨H,I⟩:=Q k hk;have S:=gN H;have T:=gN I;have l:=oL (aO (t.pk k).a) (aO (t.pk j).b) (S.mono d_) (G.mono d_);have w:=oL (aO (t.pk j).a) (aO (t.pk k).b) (F.mono d_) (T.mono d_);rw[(ia H).1,(ia d).1]at l;rw[(ia c).1,(ia I).1]at w;have B:iY (t.pk k) (t.pk j)=true->(t.aK.take j).any (fun o=>iY o (t.pk j))=true:=fun h=>by
   rw[bV];exact⟨t.pk k,bf (i:=k) (by rw[cc,if_pos hk];exact gk),h⟩
  have r:iY (t.pk k) (t.pk j)=false->(t.aK.take (k+1)).any (fun o=>iY o (t.pk j))=false:=fun h=>by
   rw[yR gk,k2,h];rfl
  rw[iY]at B r
  by_cases e1:(t.pk k).cV=(t.pk j).cV
  ·by_cases e2:cr (aO (t.pk k).a) (aO (t.pk j).b)<=0
   ·by_cases e3:cr (aO (t.pk j).a) (aO (t.pk k).b)<=0
    ·rw[if_pos (B (by simp[e1,e2,e3]))];simp[hk,e,gk,e1,aa,e2,e3,c2 l,c2 w]
    ·simp[hk,e,gk,e1,aa];refine c2 l ?_;simp[e1,e2,aa];refine c2 w ?_;simp[e1,e2,e3,f,aa];exact rd (k+1) ⟨hk,r (by simp[e3])⟩
   ·simp[hk,e,gk,e1,aa];refine c2 l ?_;simp[e1,e2,f,aa];exact rd (k+1) ⟨hk,r (by simp[e2])⟩
  ·simp[hk,e,gk,e1,f,aa];exact rd (k+1) ⟨hk,r (by simp[e1])⟩
 ·have:k=j:=by omega
  subst this;rw[k2,if_neg d_];simp[aa]
structure NV where
 x:NF
 y:NF
noncomputable def bQ(v:NV):PV:=.st 121 [eF v.x,eF v.y]
@[simp] theorem aUB(v:NV):aP (bQ v)=.agg 121:=rfl
@[simp] theorem aSX(v:NV):cz (bQ v)=[eF v.x,eF v.y]:=rfl
@[simp] theorem aR8:prog.cellsOf 121=8:=k_
@[simp] theorem aR7:prog.cellsOf 151=12:=k_
theorem qL(x y:NF):bQ ⟨x,y⟩=.st 121 [eF x,eF y]:=rfl
def NV.q(v:NV):V2:=⟨v.x.q,v.y.q⟩
def NV.add(v w:NV):NV:=⟨v.x.add w.x,v.y.add w.y⟩
def NV.sub(v w:NV):NV:=⟨v.x.sub w.x,v.y.sub w.y⟩
def NV.times(v:NV)(k:NF):NV:=⟨v.x.mul k,v.y.mul k⟩
def NV.dot(v w:NV):NF:=(v.x.mul w.x).add (v.y.mul w.y)
def NV.aX(v w:NV):NF:=(v.x.mul w.y).sub (v.y.mul w.x)
theorem NV.dJ(v w:NV):(v.sub w).q=v.q.sub w.q:=by simp only[NV.sub,NV.q,V2.sub,NF.dJ]
theorem NV.F1(v w:NV):(v.add w).q=v.q.add w.q:=rfl
theorem NV.uw(v:NV)(k:NF):(v.times k).q=v.q.mul k.q:=rfl
theorem NV.fU(v w:NV):(v.dot w).q=v.q.dot w.q:=rfl
theorem NV.kK(v w:NV):(v.aX w).q=v.q.aX w.q:=NF.dJ _ _
theorem N2(v w:NV)(a:aS kQ v.q)(b:aS kQ w.q):al prog 79 [bQ v,bQ w] (bQ (v.add w)):=by
 have c:=pP v.x w.x (dF a.1) (dF b.1);have d:=pP v.y w.y (dF a.2) (dF b.2);refine gA_ nf func79 mix ?_;rw[NV.add,qL];simp(maxDischargeDepth:=99) [f79,aa,e2 c,e2 d]
theorem pQ(v w:NV)(a:aS kQ v.q)(b:aS kQ w.q):al prog 67 [bQ v,bQ w] (bQ (v.sub w)):=by
 have c:=nW v.x w.x (dF a.1) (dF b.1);have d:=nW v.y w.y (dF a.2) (dF b.2);refine gA_ nf func67 mix ?_;rw[NV.sub,qL];simp(maxDischargeDepth:=99) [f67,aa,e2 c,e2 d]
theorem yi(v:NV)(k:NF)(a:aS kQ v.q)(hk:aL kQ k.q):al prog 80 [bQ v,eF k] (bQ (v.times k)):=by
 have b:=fF v.x k (dF a.1) (dF hk);have c:=fF v.y k (dF a.2) (dF hk);refine gA_ nf func80 mix ?_;rw[NV.times,qL];simp(maxDischargeDepth:=99) [f80,aa,e2 b,e2 c]
theorem sK(v w:NV)(a:aS kQ v.q)(b:aS kQ w.q):al prog 89 [bQ v,bQ w] (eF (v.dot w)):=by
 have c:=fF v.x w.x (dF a.1) (dF b.1);have d:=fF v.y w.y (dF a.2) (dF b.2);have e:=pP (v.x.mul w.x) (v.y.mul w.y) ((bh a.1 b.1).mono d_) ((bh a.2 b.2).mono d_);refine gA_ nf func89 mix ?_;rw[NV.dot];simp(maxDischargeDepth:=99) [f89,aa,e2 c,e2 d,e2 e]
theorem BN(v w:NV)(a:aS kQ v.q)(b:aS kQ w.q):al prog 155 [bQ v,bQ w] (eF (v.aX w)):=by
 have c:=fF v.x w.y (dF a.1) (dF b.2);have d:=fF v.y w.x (dF a.2) (dF b.1);have e:=nW (v.x.mul w.y) (v.y.mul w.x) ((bh a.1 b.2).mono d_) ((bh a.2 b.1).mono d_);refine gA_ nf func155 mix ?_;rw[NV.aX];simp(maxDischargeDepth:=99) [f155,aa,e2 c,e2 d,e2 e]
theorem sf(v:NV)(a:aS kQ v.q):al prog 68 [bQ v] (eF (v.dot v)):=by
 refine gA_ nf func68 mix ?_;simp[f68,aa,c2 (sK v v a a)]
def NV.from(p:bS):NV:=⟨⟨aO p.x,false⟩,⟨aO p.y,false⟩⟩
theorem Sl(p:bS)(d:cm p.x=0)(e:cm p.y=0)(a:ku p):al prog 51 [et p] (bQ (.from p)):=by
 have b:=mE p.x d a.1.1;have c:=mE p.y e a.2.1;refine gA_ nf func51 mix ?_;rw[NV.from,qL];simp(maxDischargeDepth:=99) [f51,aa,e1 b,e1 c]
structure NS where
 a:NF
 b:NF
 d:NF
noncomputable def ct(s:NS):PV:=.st 151 [eF s.a,eF s.b,eF s.d]
@[simp] theorem aUA(s:NS):aP (ct s)=.agg 151:=rfl
@[simp] theorem aSW(s:NS):cz (ct s)=[eF s.a,eF s.b,eF s.d]:=rfl
theorem tW(a b d:NF):ct ⟨a,b,d⟩=.st 151 [eF a,eF b,eF d]:=rfl
def NS.q(s:NS):S3:=⟨s.a.q,s.b.q,s.d.q⟩
def dK(k:Nat)(s:NS):Prop:=aL k s.a.q/\aL k s.b.q/\aL k s.d.q
def NF.width(r:Int):NF:=.int (4*r*r)
theorem yW(r:Int):(NF.width r).q=bH r:=rfl
theorem aLb(r:Int)(a:0<=r)(b:r<=1000000):al prog 70 [.int .i64 r] (eF (.width r)):=by
 have e:=xV a b;have c:=jx (4*r*r) o_ o_;have w1:a4.wrap (4*r)=4*r:=aU _ o_ o_;have d:a4.wrap (4*r*r)=4*r*r:=aU _ o_ o_;refine gA_ nf func70 mix ?_;rw[NF.width];simp[f70,w1,d,aa,c1 c]
structure NM where
 w:NV
 d:NV
 root:NF
noncomputable def pT(m:NM):PV:=.st 147 [bQ m.w,bQ m.d,eF m.root]
@[simp] theorem Ma(m:NM):aP (pT m)=.agg 147:=rfl
@[simp] theorem aSV(m:NM):cz (pT m)=[bQ m.w,bQ m.d,eF m.root]:=rfl
theorem Iu(a b:NV)(d:NF):pT ⟨a,b,d⟩=.st 147 [bQ a,bQ b,eF d]:=rfl
def NM.of(width:NF)(p d b:NV):NM:=⟨b.sub p,d,(((b.sub p).dot d).mul ((b.sub p).dot d)).sub ((d.dot d).mul (((b.sub p).dot (b.sub p)).sub width))⟩
def Bb(width:NF)(p d b:NV):Bool:=decide (0<=cr ((b.sub p).dot (b.sub p)).q width.q)&&decide (0<bE ((b.sub p).dot d).q)&&decide (0<bE (NM.of width p d b).root.q)
theorem aKQ(width:NF)(p d b:NV)(j:aL 500 width.q)(t:aS 200 p.q)(f:aS 500 d.q)(s:aS 200 b.q):al prog 71 [eF width,bQ p,bQ d,bQ b] (.aE [pT (.of width p d b),.bool (Bb width p d b)]):=by
 have a:aS 401 (b.sub p).q:=by rw[NV.dJ];exact eB s t
 have e:=cR a a;have c:=cR a f;have k:=cR f f;have g:=gl e j;have r:=pQ b p (s.mono d_) (t.mono d_);obtain⟨w,u⟩:∃w,b.sub p=w:=⟨_,rfl⟩
 have x:NM.of width p d b=⟨w,d,((w.dot d).mul (w.dot d)).sub ((d.dot d).mul ((w.dot w).sub width))⟩:=by rw[NM.of,u]
 rw[Bb,x,Iu];rw[u]at r a e c g⊢;have v:aS kQ w.q:=a.mono d_;have kd:aS kQ d.q:=f.mono d_;have B:=sK w d v kd;have C:=fF (w.dot d) (w.dot d) (c.mono d_) (c.mono d_);have E:=sf d kd;have n:=sf w v;have y:=nW (w.dot w) width (e.mono d_) (j.mono d_);have q1:((w.dot w).sub width).q=w.q.dot w.q-width.q:=NF.dJ _ _;have D:=fF (d.dot d) ((w.dot w).sub width) (k.mono d_) (by rw[q1];exact g.mono d_);have F:(((w.dot d).mul (w.dot d)).sub ((d.dot d).mul ((w.dot w).sub width))).q=w.q.dot d.q*w.q.dot d.q-d.q.dot d.q*(w.q.dot w.q-width.q):=by rw[NF.dJ,NF.Jc,NF.Jc,q1];rfl
 have z:=nW ((w.dot d).mul (w.dot d)) ((d.dot d).mul ((w.dot w).sub width)) ((bh c c).mono d_) (by rw[NF.Jc,q1];exact(bh k g).mono d_);have A:=nX (w.dot w) width (e.mono d_) (j.mono d_);have i:=mC (w.dot d);have m:=mC (((w.dot d).mul (w.dot d)).sub ((d.dot d).mul ((w.dot w).sub width)));simp only[show∀q:Rat,(if q<0 then(-1:Int)else if q=0 then 0 else 1)=bE q from fun _=>rfl]at i m;refine gA_ nf func71 mix ?_;dsimp only;generalize ((w.dot d).mul (w.dot d)).sub ((d.dot d).mul ((w.dot w).sub width))=root at*;generalize bE root.q=s2,bE (w.dot d).q=s1,cr (w.dot w).q width.q=o at*;simp[f71,aa];refine c2 r ?_;simp[aa];refine c2 B ?_;simp[aa];refine e2 C ?_;simp[aa];refine e1 E ?_;simp[aa];refine e1 n ?_;simp[aa];refine e2 y ?_;simp[aa];refine e2 D ?_;simp[aa];refine e2 z ?_;simp[aa];refine⟨r_,?_⟩;refine e1 n ?_;simp[aa];refine e2 A ?_
 by_cases h:0<=o
 ·by_cases l:0<s1
  ·simp(maxDischargeDepth:=99) [aa,h,l,e1 i,e1 m]
  ·simp[aa,h,l,e1 i]
 ·simp[aa,h]
def NM.dm(m:NM):NS:=⟨(m.w.dot m.d).div (m.d.dot m.d),(m.d.dot m.d).inv.neg,m.root⟩
theorem aKG(m:NM)(c:aS 500 m.w.q)(a:aS 500 m.d.q)(hz:m.d.q.dot m.d.q≠0):al prog 72 [pT m] (ct m.dm):=by
 obtain⟨w,d,root⟩:=m;dsimp only at c a hz;have b:=cR a a;have g:=sf d (a.mono d_);have e:=sK w d (c.mono d_) (a.mono d_);have h:=yl (w.dot d) (d.dot d) ((cR c a).mono d_) (b.mono d_) hz;have hI:=xX (d.dot d) (b.mono d_) hz;have f:=pN (d.dot d).inv ((lL b).mono d_);refine gA_ nf func72 mix ?_;rw[NM.dm,tW];dsimp only;rw[Iu];simp(maxDischargeDepth:=99) [f72,aa,c1 g,e2 e,e2 h,e1 hI,e1 f]
theorem F6(p:bS)(j:ku p):al prog 49 [et p] (.int .i64 (gV p)):=by
 have f:=Cl p j;have k:bN [dZ p,aZ (decide (p.x=[48]/\p.y=[48])) 6]=gV p:=by
  rw[gV,bN,bN,bN,aZ]
  by_cases h:dZ p=0
  ·by_cases g:p.x=[48]/\p.y=[48]
   ·simp[h,g]
   ·simp[h,g]
  ·simp[h]
 refine gA_ nf func49 mix ?_;rw[<-k];obtain⟨x,y⟩:=p;simp only[et]at*;generalize dZ ⟨x,y⟩=c at*;have e:∀b:Bool,decide (x=[48]/\y=[48])=b->al prog 48 [.bool b,.int .i64 6] (.int .i64 (aZ b 6))/\al prog 47 [.seq [.int .i64 c,.int .i64 (aZ b 6)]] (.int .i64 (bN [c,aZ (decide (x=[48]/\y=[48])) 6])):=fun b i=>by
  rw[i];exact⟨pz b 6,zP [c,aZ b 6] s_⟩
 generalize bN [c,aZ (decide (x=[48]/\y=[48])) 6]=res at*
 by_cases hx:x=[48]
 ·by_cases hy:y=[48]
  ·obtain⟨d,a⟩:=e true (by simp[hx,hy]);simp[f49,aa];refine e1 f ?_;simp[aa,hx,hy];refine e2 d ?_;simp[aa];refine ep a t_ t_ ?_;simp
   repeat' first|rfl|apply ao
  ·obtain⟨d,a⟩:=e false (by simp[hx,hy]);simp[f49,aa];refine e1 f ?_;simp[aa,hx,hy];refine e2 d ?_ (h1:=by simp[hy]);simp[aa];refine ep a t_ t_ ?_;simp
   repeat' first|rfl|apply ao
 ·obtain⟨d,a⟩:=e false (by simp[hx]);simp[f49,aa];refine e1 f ?_;simp[aa,hx];refine e2 d ?_;simp[aa];refine ep a t_ t_ ?_;simp
  repeat' first|rfl|apply ao
theorem rY:∀l:List Int,bN l=0↔∀e∈l,e=0
 |[]=>by simp[bN]
 |e::r=>by
  rw[bN]
  by_cases h:e=0
  ·rw[if_pos h,rY r];simp[h]
  ·rw[if_neg h];simp[h]
theorem kY{p:bS}(h:dZ p=0):cm p.x=0/\cm p.y=0:=by
 have:=(rY _).1 h;exact⟨this _ s_,this _ s_⟩
theorem Au{p:bS}(h:gV p=0):dZ p=0/\¬(p.x=[48]/\p.y=[48]):=by
 rw[gV]at h
 split at h
 ·cases h
 ·rename_i a;exact⟨h,fun x=>a ⟨h,x⟩⟩
def vP(p:bS):V2:=⟨aO p.x,aO p.y⟩
theorem fe(p:bS):(NV.from p).q=vP p:=rfl
theorem sq_nonneg(a:Rat):0<=a*a:=by
 rcases gb (a:=0) (b:=a)with h|h
 ·exact fi h h
 ·have c:0<=-a:=by
   have:=Rat.neg_le_neg h
   rwa [Rat.neg_zero]at this
  have:=fi c c
  rwa [Rat.neg_mul,Rat.mul_neg,Rat.neg_neg]at this
theorem L7{a b:Rat}(h:a*a+b*b=0):a=0/\b=0:=by
 have key:∀x y:Rat,x*x+y*y=0->x=0:=fun x y h=>by
  have c:=sq_nonneg x;have d:=sq_nonneg y;have e:x*x<=0:=by
   have f:x*x+0<=x*x+y*y:=(Rat.add_le_add_left).2 d
   rwa [Rat.add_zero,h]at f
  have g:x*x=0:=Rat.le_antisymm e c;rcases fb.1 g with h|h<;>exact h
 exact⟨key a b h,key b a (by rw[Rat.add_comm];exact h)⟩
theorem aLD{p:bS}(h:gV p=0):(vP p).dot (vP p)≠0:=by
 obtain⟨c,d⟩:=Au h;obtain⟨e,f⟩:=kY c;intro hz;obtain⟨a,b⟩:=L7 hz;apply d;have e1:=(ia e).1;have e2:=(ia f).1;simp only[vP]at a b;rw[a,pI]at e1;rw[b,pI]at e2;exact⟨e1.symm,e2.symm⟩
def vI:PV:=.st 65 [.str [],.str [],.str []]
theorem FV{k:Nat}{p:bS}(h:aS k (vP p)):aS k (NV.from p).q:=h
def V2.Bz(v:V2):V2:=⟨-v.y,v.x⟩
def fg:Nat->V2->V2
 |0,v=>v
 |i+1,v=>(fg i v).Bz
def pM(k:Nat):V2:=⟨ki (64-(k:Int)*k) (64+(k:Int)*k),ki (16*(k:Int)) (64+(k:Int)*k)⟩
def lP(n:Nat):V2:=fg (n/8) (pM (n% 8))
theorem RF{n d:Int}{k:Nat}(c:0<d)(a:n.natAbs<2^k)(b:d.natAbs<2^k):aL k (ki n d):=by
 obtain⟨m,rfl⟩:∃m:Nat,d=m:=⟨d.natAbs,o_⟩
 exact Dv o_ a (by simpa using b)
theorem GB{k:Nat}(h:k<8):aS 8 (pM k):=by
 have b:k*k<=7*7:=ey o_ o_;have a:((k:Int)*k)=((k*k:Nat):Int):=by rw[a9]
 refine⟨?_,?_⟩
 ·rw[pM,a];exact RF o_ o_ o_
 ·rw[pM,a];exact RF o_ o_ o_
theorem aOT{k:Nat}{v:V2}(h:aS k v):aS k v.Bz:=⟨j0 h.2,h.1⟩
theorem CV{k:Nat}{v:V2}(h:aS k v):∀i,aS k (fg i v)
 |0=>h
 |i+1=>aOT (CV h i)
theorem Mh(n:Nat)(h:n<32):al prog 118 [.int .i64 n] (eV (lP n)):=by
 obtain⟨k,hk⟩:∃k,n% 8=k:=⟨_,rfl⟩
 have w:k<8:=o_
 obtain⟨m,A⟩:∃m,n/8=m:=⟨_,rfl⟩
 have z:k*k<=7*7:=ey o_ o_;obtain⟨a,g⟩:∃a:Nat,k*k=a:=⟨_,rfl⟩
 have hI:(k:Int)*k=a:=by rw[<-a9,g]
 rw[g]at z;have j:=Ea (64-(k:Int)*k) (64+(k:Int)*k) (by rw[hI];omega) (by rw[hI];omega) (by rw[hI];omega);have l:=Ea (16*(k:Int)) (64+(k:Int)*k) (by rw[hI];omega) o_ (by rw[hI];omega);have o:=GB w;rw[lP,hk,A];have e0:pM k=⟨ki (64-(k:Int)*k) (64+(k:Int)*k),ki (16*(k:Int)) (64+(k:Int)*k)⟩:=rfl;rw[hI]at j l e0;have D:(n:Int).tmod 8=k:=by rw[a6 (a8 _)];omega
 have b:(n:Int).tdiv 8=m:=by rw[bb (a8 _)];omega
 have w0:a4.wrap (k:Int)=k:=aU _ o_ o_;have w1:a4.wrap (a:Int)=a:=aU _ o_ o_;have c:a4.wrap (64-(a:Int))=64-(a:Int):=aU _ o_ o_;have d:a4.wrap (64+(a:Int))=64+(a:Int):=aU _ o_ o_;have e:a4.wrap (16*(k:Int))=16*(k:Int):=aU _ o_ o_;have q:a4.wrap (m:Int)=m:=aU _ o_ o_;have F:m<4:=o_
 obtain⟨u,C⟩:∃u,pM k=u:=⟨_,rfl⟩
 rw[C]at e0 o⊢;refine gA_ nf func118 mix ?_;simp[f118,D,b,w0,w1,c,d,e,hI,aa];refine c2 j ?_;simp[w0,w1,c,d,e,hI,aa];refine c2 l ?_;simp[w0,w1,c,d,e,hI,aa];refine lp (α:=Nat) (fun i=>⟨[(5,.p (.int .i64 i)),(4,.ptr 1 []),(2,.ptr 0 []),(0,.p (.int .i64 n))],[.box false (.p (.st 31 [.str [],.str []])),.box false (.p (eV (fg i u)))]⟩)
  (fun i=>i<=m) (fun i=>m-i) 0 (e8 _) ?_ (hh:=by simp[fg,e0,sF])
 intro i hi;have E:a4.wrap ((i:Int)+1)=(i:Int)+1:=aU _ o_ o_;have r:=vJ (fg i u).y ((CV o i).2.mono d_)
 by_cases s:i<m
 ·have f:(i:Int)<m:=by omega
  have B:fg (i+1) u=⟨-(fg i u).y,(fg i u).x⟩:=rfl;generalize G:fg i u=v at*;obtain⟨x,y⟩:=v;rw[sF];simp[b,q,f,s,aa];refine e1 r ?_;simp[aa];refine⟨r_,?_⟩;exact rd (i+1) (show i+1<=m by omega) (he:=by simp[E]) (hh:=by simp[B,sF])
 ·have f:¬(i:Int)<m:=by omega
  have t:i=m:=o_
  subst t;simp[b,q,aa]
def NV.Bz(v:NV):NV:=⟨v.y.neg,v.x⟩
def NV.fg:Nat->NV->NV
 |0,v=>v
 |i+1,v=>(NV.fg i v).Bz
theorem NV.yf(v:NV):∀i,(NV.fg i v).q=Go.ae.fg i v.q
 |0=>rfl
 |i+1=>by rw[NV.fg,Go.ae.fg,<-NV.yf v i];rfl
def ka(k:Nat):NV:=NV.times ⟨.int (64-(k:Int)*k),.int (16*(k:Int))⟩ (NF.int (64+(k:Int)*k)).inv
theorem OH(n d:Int):ki n d=(n:Rat)*((d:Int):Rat)⁻¹:=by
 rw[ki,Rat.divInt_eq_div,fl]
theorem A2(k:Nat):(ka k).q=pM k:=by
 rw[ka,NV.uw,pM,OH,OH];rfl
def A4:PV:=.st 98 [.int .i64 0,.aM]
def zeroV:PV:=.st 121 [.st 100 [A4,A4],.st 100 [A4,A4]]
@[simp] theorem aU9:aP zeroV=.agg 121:=rfl
theorem N3(n:Nat)(h:n<32):al prog 63 [.int .i64 n] (bQ (NV.fg (n/8) (ka (n% 8)))):=by
 obtain⟨k,hk⟩:∃k,n% 8=k:=⟨_,rfl⟩
 have D:k<8:=o_
 obtain⟨m,F⟩:∃m,n/8=m:=⟨_,rfl⟩
 have E:k*k<=7*7:=ey o_ o_;obtain⟨a,o⟩:∃a:Nat,k*k=a:=⟨_,rfl⟩
 have hI:(k:Int)*k=a:=by rw[<-a9,o]
 rw[o]at E;rw[hk,F];have I:=jx (64-(a:Int)) o_ o_;have J:=jx (16*(k:Int)) o_ o_;have K:=jx (64+(a:Int)) o_ o_;have j:aL 8 (NF.int (64+(a:Int))).q:=ke o_ d_;have s:aL 8 (NF.int (64-(a:Int))).q:=ke o_ d_;have t:aL 8 (NF.int (16*(k:Int))).q:=ke o_ d_;have H:(NF.int (64+(a:Int))).q≠0:=by
  show((64+(a:Int):Int):Rat)≠0;intro h;have O:(64+(a:Int):Int)=0:=by exact_mod_cast h
  omega
 have L:=xX (NF.int (64+(a:Int))) (j.mono d_) H;have z:aS kQ (NV.mk (.int (64-(a:Int))) (.int (16*(k:Int)))).q:=⟨s.mono d_,t.mono d_⟩
 have r:=yi ⟨.int (64-(a:Int)),.int (16*(k:Int))⟩ (NF.int (64+(a:Int))).inv z ((lL j).mono d_);have M:aS 8 (ka k).q:=by rw[A2];exact GB D
 have e0:ka k=NV.times ⟨.int (64-(a:Int)),.int (16*(k:Int))⟩ (NF.int (64+(a:Int))).inv:=by rw[ka,hI]
 rw[<-e0,qL]at r;have b:(n:Int).tmod 8=k:=by rw[a6 (a8 _)];omega
 have c:(n:Int).tdiv 8=m:=by rw[bb (a8 _)];omega
 have w0:a4.wrap (k:Int)=k:=aU _ o_ o_;have w1:a4.wrap (a:Int)=a:=aU _ o_ o_;have d:a4.wrap (64-(a:Int))=64-(a:Int):=aU _ o_ o_;have e:a4.wrap (64+(a:Int))=64+(a:Int):=aU _ o_ o_;have f:a4.wrap (16*(k:Int))=16*(k:Int):=aU _ o_ o_;have g:a4.wrap (m:Int)=m:=aU _ o_ o_;have P:m<4:=o_
 generalize ka k=u at*;clear e0;refine gA_ nf func63 mix ?_;simp[f63,b,c,w0,w1,d,e,f,g,hI,aa];refine c1 I ?_;simp[b,c,w0,w1,d,e,f,g,hI,aa];refine c1 J ?_;simp[b,c,w0,w1,d,e,f,g,hI,aa];refine c1 K ?_;simp[b,c,w0,w1,d,e,f,g,hI,aa];refine c1 L ?_;simp[b,c,w0,w1,d,e,f,g,hI,aa];refine c2 r ?_;simp[b,c,w0,w1,d,e,f,g,hI,aa];refine lp (α:=Nat) (fun i=>⟨[(25,.p (.int .i64 i)),(24,.p (.int .i64 m)),(4,.ptr 1 []),(2,.ptr 0 [])],[.box false (.p zeroV),.box false (.p (bQ (NV.fg i u)))]⟩)
  (fun i=>i<=m) (fun i=>m-i) 0 (e8 _) ?_ (hh:=by simp[NV.fg,qL,bQ,zeroV,A4])
 intro i hi;have N:a4.wrap ((i:Int)+1)=(i:Int)+1:=aU _ o_ o_;have w:aS 8 (NV.fg i u).q:=by rw[NV.yf];exact CV M i
 have A:=pN (NV.fg i u).y (w.2.mono d_)
 by_cases B:i<m
 ·have G:NV.fg (i+1) u=⟨(NV.fg i u).y.neg,(NV.fg i u).x⟩:=rfl;generalize Q:NV.fg i u=v at*;obtain⟨x,y⟩:=v;have l:(i:Int)<m:=by omega
  rw[qL];simp[l,B,aa];refine e1 A ?_;simp[aa];refine⟨r_,?_⟩;exact rd (i+1) (show i+1<=m by omega) (he:=by simp[N]) (hh:=by simp[G,qL])
 ·have l:¬(i:Int)<m:=by omega
  have C:i=m:=o_
  subst C;simp[zeroV,aa]
def Aq(p:bS):Bool:=decide (p.x.length<=40)&&decide (p.y.length<=40)&&(decide (dZ p≠0)||(fX p.x 9&&fX p.y 9))
theorem aK2(p:bS)(i:ku p):al prog 5 [et p] (.bool (Aq p)):=by
 have h:=Cq p i;have j:=HO p 9 i d_;refine gA_ nf func5 mix ?_;rw[Aq];obtain⟨x,y⟩:=p;simp only[et]at*;generalize dZ ⟨x,y⟩=c,(fX x 9&&fX y 9)=f at*
 by_cases d:x.length<=40
 ·have a:(x.length:Int)<=40:=by omega
  by_cases e:y.length<=40
  ·have b:(y.length:Int)<=40:=by omega
   by_cases g:c=0
   ·simp[f5,a,b,aa];refine c1 h ?_;simp[g,aa];refine c2 j ?_;simp[d,e,g]
   ·simp[f5,a,b,aa,d,e,g,c1 h]
  ·have b:¬(y.length:Int)<=40:=by omega
   simp[f5,a,b,e,aa]
 ·have a:¬(x.length:Int)<=40:=by omega
  simp[f5,a,d,aa]
theorem tV{s:List Nat}(h:fX s 9=true):aL 30 (aO s):=by
 simp only[fX,av,decide_eq_true_eq]at h;have a:=Sp h.1.2;have b:=Sp h.2;exact⟨eM a d_,eM b d_⟩
theorem Zq{p:bS}(h:Aq p=true)(a:dZ p=0):aS 30 (vP p):=by
 simp only[Aq,a,ne_eq,not_true_eq_false,decide_false,Bool.false_or,av]at h;exact⟨tV h.2.1,tV h.2.2⟩
theorem ru{a b:Nat}{x y:NF}(h:aL a x.q)(c:aL b y.q):aL (a+b+1) (x.add y).q:=jK h c
theorem BQ{a b:Nat}{x y:NF}(h:aL a x.q)(c:aL b y.q):aL (a+b+1) (x.sub y).q:=by rw[NF.dJ];exact gl h c
theorem eL{a b:Nat}{x y:NF}(h:aL a x.q)(c:aL b y.q):aL (a+b) (x.mul y).q:=bh h c
theorem aOO{a b:Nat}{x y:NF}(h:aL a x.q)(c:aL b y.q):aL (a+b) (x.div y).q:=iq h c
theorem LX{a:Nat}{x:NF}(h:aL a x.q):aL a (x.inv).q:=lL h
theorem sZ{a:Nat}{x:NF}(h:aL a x.q):aL a (x.neg).q:=j0 h
theorem oO(s:NS)(hs:dK 30000 s):al prog 90 [ct s] (.int .i64 (bW s.q)):=by
 have g:=mC s.a;have h:=mC s.b;have i:=mC s.d;have l:=fF s.a s.a (hs.1.mono d_) (hs.1.mono d_);have m:=fF s.b s.b (hs.2.1.mono d_) (hs.2.1.mono d_);have n:=fF (s.b.mul s.b) s.d ((eL hs.2.1 hs.2.1).mono d_) (hs.2.2.mono d_);have p:=nX (s.a.mul s.a) ((s.b.mul s.b).mul s.d) ((eL hs.1 hs.1).mono d_) ((eL (eL hs.2.1 hs.2.1) hs.2.2).mono d_);have q1:bW s.q=jB (bE s.a.q) (bE s.b.q*bE s.d.q) (cr (s.a.mul s.a).q ((s.b.mul s.b).mul s.d).q):=rfl;rw[q1];rw[show(if s.a.q<0 then(-1:Int)else if s.a.q=0 then 0 else 1)=bE s.a.q from rfl]at g;rw[show(if s.b.q<0 then(-1:Int)else if s.b.q=0 then 0 else 1)=bE s.b.q from rfl]at h;rw[show(if s.d.q<0 then(-1:Int)else if s.d.q=0 then 0 else 1)=bE s.d.q from rfl]at i;have e:=mF s.a.q;have f:=mI (mF s.b.q) (mF s.d.q);have k:=Iy (s.a.mul s.a).q ((s.b.mul s.b).mul s.d).q;have w1:=mH f;refine gA_ nf func90 mix ?_;clear q1;generalize cr (s.a.mul s.a).q ((s.b.mul s.b).mul s.d).q=o,bE s.a.q=x,bE s.b.q=y1,bE s.d.q=y2 at*;have j:=mH (mI e f);have r:=mH (mI e k);simp[f90,aa,-ba];rw[ba];simp[-ba,aa];rw[ba];simp[-ba,aa];refine e1 g ?_;simp[aa];refine e1 h ?_;simp[aa];refine e1 i ?_;simp[aa,w1];generalize y1*y2=y at*;rw[jB]
 by_cases c2:x=0
 ·subst c2;rw[if_pos o_,if_pos rfl];simp[aa]
 ·by_cases c:0<=x*y
  ·rw[if_pos c,if_neg c2];simp[c,c2,j,aa]
  ·rw[if_neg c];simp(maxDischargeDepth:=99) [c,c2,j,aa,r,e2 l,e2 m,e2 n,e2 p]
structure NB where
 a:NV
 b:NV
 d:NF
noncomputable def kj(n:NB):PV:=.st 162 [bQ n.a,bQ n.b,eF n.d]
@[simp] theorem aUz(n:NB):aP (kj n)=.agg 162:=rfl
@[simp] theorem aSU(n:NB):cz (kj n)=[bQ n.a,bQ n.b,eF n.d]:=rfl
theorem TW(a b:NV)(d:NF):kj ⟨a,b,d⟩=.st 162 [bQ a,bQ b,eF d]:=rfl
def NB.q(n:NB):P4:=⟨⟨n.a.x.q,n.b.x.q,n.d.q⟩,⟨n.a.y.q,n.b.y.q,n.d.q⟩⟩
def okB(k:Nat)(n:NB):Prop:=aS k n.a.q/\aS k n.b.q/\aL k n.d.q
theorem okB.mono{k l:Nat}{n:NB}(h:okB k n)(a:k<=l):okB l n:=⟨h.1.mono a,h.2.1.mono a,h.2.2.mono a⟩
theorem T8{a b:Rat}(h:a-b=0):a=b:=by
 have c:=congrArg (·+b) h
 simpa[Rat.sub_add_cancel,Rat.zero_add]using c
theorem T7(e:Int):∀l:List Int,bN (l++[e])=if bN l=0 then e else bN l
 |[]=>by by_cases h:e=0<;>simp[bN,h]
 |x::l=>by
  simp only[ea,bN,T7 e l]
  by_cases hx:x=0
  ·simp[hx]
  ·simp[hx]
theorem aOR{q:Rat}{k:Nat}(h:aL k q)(hk:k<=1800):ky (aN q)/\cm (aN q)=0:=by
 have a:(bn q.num.natAbs).length<=600:=Be (K:=1800) (k:=600) (h.mono hk).1 d_ d_;have b:(bn q.den).length<=600:=Be (K:=1800) (k:=600) (h.mono hk).2 d_ d_;have d:=JJ q;exact⟨⟨o_,fun c hc=>eM (WW q c hc) d_⟩,aLh a b⟩
theorem pR{q:Rat}(h:0<q):bE q=1:=by
 rw[bE,if_neg (by grind),if_neg (by grind)]
theorem ri{q:Rat}(h:q<0):bE q= -1:=by rw[bE,if_pos h]
theorem rC:bE 0=0:=d_
theorem LV{x y:Rat}(h:y<x):cr x y=1:=by
 rw[cr,if_neg (by grind),if_neg (by grind)]
theorem WV{b t:V2}(h:b≠t):nQ (aN b.x) (aN b.y) (aN t.x) (aN t.y)=false:=by
 rw[nQ,decide_eq_false_iff_not];rintro⟨a,c⟩;obtain⟨bx,d⟩:=b;obtain⟨e,ty⟩:=t;dsimp only at a c;exact h (by rw[E0 a,E0 c])
def iC{α:Type}(a:List α->α->Int)(l:List α)(i:Nat):Int:=match l[i]? with
 |some x=>a (l.take i) x
 |none=>0
def mQ{α:Type}(a:List α->α->Int)(l:List α):Int:=bN ((b3 l.length).map (iC a l))
theorem JR{f:Nat->Int}:∀(n i:Nat),(∀j,j<i->f j=0)->i<n->f i≠0->bN ((b3 n).map f)=f i
 |0,i,_,h,_=>by omega
 |n+1,i,a,g,b=>by
  rw[da,eb,bI,cd,T7]
  by_cases hi:i<n
  ·rw[JR n i a hi b,if_neg b]
  ·have:i=n:=by omega
   subst this;rw[(rY _).2 (by intro e c;obtain⟨j,d,rfl⟩:=b5.1 c;exact a j (cx.1 d)),if_pos rfl]
theorem wC{α:Type}{a:List α->α->Int}{l:List α}{i:Nat}{x:α}(h:∀j,j<i->iC a l j=0)(hx:l[i]?=some x)(hn:a (l.take i) x≠0):mQ a l=a (l.take i) x:=by
 have hi:=(List.getElem?_eq_some_iff.1 hx).1;have e:iC a l i=a (l.take i) x:=by rw[iC,hx]
 rw[mQ,JR _ i h hi (by rw[e];exact hn),e]
theorem rk{α:Type}{b:List α->α->Int}{l:List α}:mQ b l=0↔∀j,j<l.length->iC b l j=0:=by
 rw[mQ,rY];constructor
 ·intro h j a;exact h _ (b5.2 ⟨j,cx.2 a,rfl⟩)
 ·intro h e c;obtain⟨j,a,rfl⟩:=b5.1 c;exact h j (cx.1 a)
theorem wA{α:Type}{a:List α->α->Int}{l:List α}{i:Nat}{x:α}(h:∀j,j<i->iC a l j=0)(hx:l[i]?=some x)(hn:a (l.take i) x=0):∀j,j<i+1->iC a l j=0:=by
 intro j c
 by_cases b:j=i
 ·subst b;rw[iC,hx];exact hn
 ·exact h j o_
def lD(t:ah)(bef:List de)(s:de):Int:=
 if isName s.name=false then 8
 else if bef.any (fun o=>decide (o.name=s.name))=true then 9
 else if dZ s.pt≠0 then dZ s.pt
 else if t.on (vP s.pt)<0 then 16 else 0
def gd(t:ah):Int:=
 if t.cs.length<3 then 2
 else if 12<t.cs.length then 5
 else if t.cs.any ij=true then 3
 else if t.ga=false then 15
 else if t.aC<1\/1000<t.aC then 3
 else if 12<t.aK.length then 5
 else if mQ (gY t.cs.length) t.aK≠0 then mQ (gY t.cs.length) t.aK
 else if 256<t.aj.length then 5
 else mQ (lD t) t.aj
def qV(p:de):Prop:=ky p.name/\ku p.pt
def ah.sp(t:ah)(i:Nat):de:=t.aj.getD i ⟨[],⟨[],[]⟩⟩
@[simp] theorem ah.mi{t:ah}{i:Nat}(h:i<t.aj.length):t.aj[i]'h=t.sp i:=by
 rw[ah.sp,b4,bv h];rfl
theorem ah.dY{t:ah}{i:Nat}(h:i<t.aj.length):t.aj[i]?=some (t.sp i):=by rw[bv h,ah.mi]
structure fu(t:ah):Prop where
 cl:t.cs.length<=1000000
 pl:t.aK.length<=1000000
 sl:t.aj.length<=1000000
 pk:∀p∈t.aK,vZ p
 sp:∀s∈t.aj,qV s
def jU(t:ah)(name:List Nat):Int:=match t.aj.findIdx? (fun s=>decide (s.name=name))with
 |some i=>i
 |none=>-1
theorem BR{n:Nat}{c:List du}{p:du}(h:gY n c p=0):cm p.a=0/\cm p.b=0:=by
 rw[gY]at h
 split at h
 ·omega
 split at h
 ·omega
 split at h
 ·omega
 split at h
 ·contradiction
 split at h
 ·contradiction
 rename_i d e;exact⟨ay.1 d,ay.1 e⟩
theorem aDy(t:ah)(name:List Nat)(h:t.aj.length<=1000000):al prog 129 [cA t,.str name] (.int .i64 (jU t name)):=by
 refine gA_ nf func129 mix ?_;simp[f129,aa];refine lp (α:=Nat) (fun i=>⟨[(5,.p (.int .i64 i)),(2,.ptr 0 []),(1,.p (.str name))],[.box false (.p (cA t))]⟩) (fun i=>i<=t.aj.length/\∀j,j<i->¬(t.sp j).name=name) (fun i=>t.aj.length-i) 0 s_ ?_;rintro i ⟨g,c⟩
 by_cases hi:i<t.aj.length
 ·have d:=ah.dY hi;have f:=b8 (i:=i) o_
  by_cases a:(t.sp i).name=name
  ·have:jU t name=i:=by
    have:t.aj.findIdx? (fun s=>decide (s.name=name))=some i:=by
     rw[b0];refine⟨hi,by rw[ah.mi];simp[a],fun j b=>?_⟩;rw[ah.mi];simp[c j b]
    rw[jU,this]
   simp[hi,d,a,this,aa]
  ·simp[hi,d,a,f,aa];exact rd (i+1) ⟨hi,fun j b=>by
    by_cases e:j=i
    ·subst e;exact a
    ·exact c j o_⟩
 ·have:i=t.aj.length:=by omega
  subst this;have:jU t name= -1:=by
   have:t.aj.findIdx? (fun s=>decide (s.name=name))=none:=by
    rw[cb];intro s hs;obtain⟨j,b,rfl⟩:=bo.1 hs;rw[ah.mi];simp[c j b]
   rw[jU,this]
  simp[this,aa]
theorem aQn{t:ah}{i:Nat}(hi:i<t.aj.length):jU t (t.sp i).name<i↔(t.aj.take i).any (fun o=>decide (o.name=(t.sp i).name))=true:=by
 obtain⟨k,hk⟩:∃k,t.aj.findIdx? (fun s=>decide (s.name=(t.sp i).name))=some k:=by
  cases h:t.aj.findIdx? (fun s=>decide (s.name=(t.sp i).name))with
  |some k=>exact⟨k,rfl⟩
  |none=>
   rw[cb]at h;have:=h _ (bf (ah.dY hi));simp at this
 rw[jU,hk];rw[b0]at hk;obtain⟨k1,k2,k3⟩:=hk;rw[bV];constructor
 ·intro h;have h:k<i:=by simp only at h;omega
  exact⟨t.aj[k],bf (i:=k) (by rw[cc,if_pos h,bv k1]),k2⟩
 ·rintro⟨o,b,a⟩;obtain⟨j,c,rfl⟩:=bo.1 b;simp only[b2]at c;simp only;rw[c9]at a;have:¬j<k:=fun d=>by
   have:=k3 j d;rw[a]at this;simp at this
  omega
theorem WY(t:ah)(J:fu t):al prog 59 [cA t] (.int .i64 (gd t)):=by
 obtain⟨s,K,L,H,I⟩:=J;refine gA_ nf func59 mix ?_;rw[gd]
 by_cases c1:t.cs.length<3
 ·have cI:(t.cs.length:Int)<3:=by omega
  rw[if_pos c1];simp[f59,aa,cI]
 have v:¬(t.cs.length:Int)<3:=o_
 rw[if_neg c1]
 by_cases c2:12<t.cs.length
 ·have cI:(12:Int)<t.cs.length:=by omega
  rw[if_pos c2];simp[f59,aa,v,cI]
 have y:¬(12:Int)<t.cs.length:=o_
 rw[if_neg c2];simp[f59,aa,v,y];refine lp (α:=Nat) (fun i=>⟨[(3,.p (.int .i64 i)),(1,.ptr 0 [])],[.box false (.p (cA t))]⟩) (fun i=>i<=t.cs.length/\(t.cs.take i).any ij=false) (fun i=>t.cs.length-i) 0 s_ ?_;rintro i ⟨i1,i2⟩
 by_cases hi:i<t.cs.length
 ·have k:=ah.get hi;have f:=b8 (i:=i) o_;have l:=aKH (t.at i);cases hf:ij (t.at i)
  ·rw[hf]at l;simp[hi,k,aa];refine c1_ l ?_;simp[f,aa];exact rd (i+1) ⟨hi,by rw[yR k,i2,hf];rfl⟩
  ·rw[hf]at l;have:t.cs.any ij=true:=bV.2 ⟨t.at i,bf k,hf⟩;rw[if_pos this];simp[hi,k,aa,c1_ l]
 have:i=t.cs.length:=o_
 subst this;rw[bl]at i2;have hn:∀p∈t.cs,eH p:=fun p G=>JZ (by
  cases h:ij p
  ·rfl
  ·rw[bV.2 ⟨p,G,h⟩]at i2;cases i2)
 have C:=Xy t s hn;rw[i2,if_neg d_];simp[aa];refine c1_ C ?_;cases P:t.ga
 ·simp[aa]
 rw[if_neg d_];have u:(t.aC<1\/1000<t.aC)\/(¬t.aC<1/\¬1000<t.aC):=o_
 rcases u with u|⟨r1,x⟩
 ·rw[if_pos u]
  by_cases e1:t.aC<1
  ·simp[e1,aa]
  ·have e2:1000<t.aC:=by omega
   simp[e1,e2,aa]
 rw[if_neg o_]
 by_cases c3:12<t.aK.length
 ·have cI:(12:Int)<t.aK.length:=by omega
  rw[if_pos c3];simp[r1,x,cI,aa]
 have z:¬(12:Int)<t.aK.length:=o_
 rw[if_neg c3];simp[r1,x,z,aa];refine lp (α:=Nat) (fun i=>⟨[(4,.p (.int .i64 i)),(1,.ptr 0 [])],[.box false (.p (cA t))]⟩) (fun i=>i<=t.aK.length/\∀j,j<i->iC (gY t.cs.length) t.aK j=0) (fun i=>t.aK.length-i) 0 s_ ?_;rintro i ⟨k1,k2⟩
 by_cases hk:i<t.aK.length
 ·have gk:=ah.jo hk;have f:=b8 (i:=i) o_;have b:=W1 t i hk K s H (fun j F=>by
   have:=k2 j F;rw[iC,ah.jo o_]at this;exact BR this)
  by_cases e:gY t.cs.length (t.aK.take i) (t.pk i)=0
  ·rw[e]at b;simp[hk,aa];refine c2_ b ?_;simp[f,aa];exact rd (i+1) ⟨hk,wA k2 gk e⟩
  ·have E:=wC k2 gk e;rw[E,if_pos e];simp[hk,aa,e,c2_ b]
 have:i=t.aK.length:=o_
 subst this;have D:=rk.2 k2;rw[D,if_neg d_]
 by_cases c4:256<t.aj.length
 ·have cI:(256:Int)<t.aj.length:=by omega
  rw[if_pos c4];simp[cI,aa]
 have A:¬(256:Int)<t.aj.length:=o_
 rw[if_neg c4];simp[A,aa];refine lp (α:=Nat) (fun i=>⟨[(6,.p (.int .i64 i)),(1,.ptr 0 [])],[.box false (.p (cA t))]⟩) (fun i=>i<=t.aj.length/\∀j,j<i->iC (lD t) t.aj j=0) (fun i=>t.aj.length-i) 0 s_ ?_;rintro i ⟨s1,s2⟩
 by_cases hs:i<t.aj.length
 ·have a:=ah.dY hs;have f:=b8 (i:=i) o_;obtain⟨N,O⟩:=I _ (bf a);have c:=E5 (t.sp i).name N.1;have m:=aDy t (t.sp i).name L;have b:=Cq (t.sp i).pt O;have w:=aQn hs;have g:lD t (t.aj.take i) (t.sp i)≠0->mQ (lD t) t.aj=lD t (t.aj.take i) (t.sp i):=wC s2 a;have M:lD t (t.aj.take i) (t.sp i)=0->∀j,j<i+1->iC (lD t) t.aj j=0:=wA s2 a;have ev:lD t (t.aj.take i) (t.sp i)=if isName (t.sp i).name=false then 8 else if(t.aj.take i).any (fun o=>decide (o.name=(t.sp i).name))=true then 9 else if dZ (t.sp i).pt≠0 then dZ (t.sp i).pt else if t.on (vP (t.sp i).pt)<0 then 16 else 0:=rfl
  cases n:isName (t.sp i).name
  ·rw[n]at c;rw[n,if_pos rfl]at ev;rw[g (by rw[ev];decide),ev];simp[hs,a,aa,c1_ c]
  rw[n]at c;rw[n,if_neg d_]at ev
  by_cases d:jU t (t.sp i).name<i
  ·rw[if_pos (w.1 d)]at ev;rw[g (by rw[ev];decide),ev];simp[hs,a,aa,d,c1_ c,c2_ m]
  rw[if_neg (fun h=>d (w.2 h))]at ev
  by_cases pe:dZ (t.sp i).pt=0
  case neg=>
   rw[if_pos pe]at ev;rw[g (by rw[ev];exact pe),ev];simp(maxDischargeDepth:=99) [hs,a,aa,d,pe,c1_ c,c2_ m,c1_ b]
  rw[if_neg (by simp[pe])]at ev;obtain⟨g1,g2⟩:=kY pe;have r:=IB t (vP (t.sp i).pt) s hn ⟨(gN g1).mono d_,(gN g2).mono d_⟩;have B:eV (vP (t.sp i).pt)=et (t.sp i).pt:=by
   rw[eV,vP];dsimp only;rw[(ia g1).1,(ia g2).1]
  rw[B]at r;rw[pe]at b
  by_cases q:t.on (vP (t.sp i).pt)<0
  ·rw[if_pos q]at ev;rw[g (by rw[ev];decide),ev];simp(maxDischargeDepth:=99) [hs,a,aa,d,q,c1_ c,c2_ m,c1_ b,c2_ r]
  ·rw[if_neg q]at ev;simp[hs,a,aa];refine c1_ c ?_;simp[aa];refine c2_ m ?_;simp[d,aa];refine c1_ b ?_;simp[aa];refine c2_ r ?_;simp[q,f,aa];exact rd (i+1) ⟨hs,M ev⟩
 ·have:i=t.aj.length:=by omega
  subst this;rw[rk.2 s2];simp[aa]
open Go.Proofs Go.Proofs.YtembaldpmgjjbaaGreatDoor
section
variable{H:Type}{W:World}{ad:Nat->Prop}
theorem BJ:∀d:a0 H,1<=Rows.uptoBulk d:=by
 intro d;cases d with
 |lit l=>cases l<;>simp[Rows.uptoBulk]
 |_=>simp[Rows.uptoBulk]
theorem BV{α:Type}{n:Nat}{t e:TypeId}{F:α->PV}{ok:α->Prop}(g:prog.underlying t=some (.slice e))
 (p:∀(d:a0 H),(∃c,bc prog W ad (bO prog n e d) c)->Rows.uptoBulk d<=1048576->∃a,bO prog n e d=F a/\ok a/\2<=Rows.uptoBulk d)
 {d:a0 H}(h:∃cs,bc prog W ad (bO prog (n+1) t d) cs)(k:Rows.uptoBulk d<=1048576):∃l:List α,bO prog (n+1) t d=.seq (l.map F)/\(∀a∈l,ok a)/\l.length<=1000000:=by
 obtain⟨cs,h⟩:=h;cases d with
 |nil=>exact⟨[],by simp[bO,g],(fun _ h=>nomatch h),s_⟩
 |slice f sp=>
  simp only[bO,g,bc]at h⊢;have i:∀e'∈f.map (bO prog n e),∃c,bc prog W ad e' c:=by
   rcases h with⟨h,_⟩|⟨_,_,_,_,w,h,_⟩
   ·rw[h];intro _ h;cases h
   ·exact Ka h
  have key:∀f:List (a0 H),(∀e'∈f.map (bO prog n e),∃c,bc prog W ad e' c)->Rows.uptoBulkAll f<=1048576->∃l:List α,f.map (bO prog n e)=l.map F/\(∀a∈l,ok a)/\2*l.length<=Rows.uptoBulkAll f:=by
   intro f
   induction f with
   |nil=>intro _ _;exact⟨[],rfl,(fun _ h=>nomatch h),s_⟩
   |cons d r v=>
    intro i k;rw[Rows.uptoBulkAll]at k⊢;obtain⟨a,q,u,m⟩:=p d (i _ dl) o_;obtain⟨l,j,o,y⟩:=v (fun e' s=>i e' (dd _ s)) o_;refine⟨a::l,by simp only[bI];rw[q,j],fun x hx=>?_,by rw[dz];omega⟩;rcases List.mem_cons.1 hx with rfl|hx
    ·exact u
    ·exact o x hx
  rw[Rows.uptoBulk]at k;obtain⟨l,j,m,o⟩:=key f i o_;exact⟨l,by rw[j],m,o_⟩
 |lit l=>simp only[bO,g,bc]at h
 |ptr d=>simp only[bO,g,bc]at h
 |agg l=>simp only[bO,g,bc]at h
 |iface a b=>simp only[bO,g,bc]at h
 |map l=>simp only[bO,g,bc]at h
 |held a=>simp only[bO,g,bc]at h
theorem yU{n:Nat}{d:a0 H}(h:∃cs,bc prog W ad (bO prog (n+1) 9 d) cs)(a:Rows.uptoBulk d<=1048576):∃s:List Nat,bO prog (n+1) 9 d=.str s/\ky s:=by
 obtain⟨cs,h⟩:=h;cases d with
 |lit l=>
  cases l with
  |string bytes=>
   refine⟨bytes.map (·.toNat),by simp only[bO,yK],?_,?_⟩
   ·rw[Rows.uptoBulk]at a;rw[db];omega
   ·intro c hc;obtain⟨u,_,rfl⟩:=b5.1 hc;exact u.toNat_lt
  |_=>simp only[bO,yK,bc]at h
 |_=>simp only[bO,yK,bc]at h
theorem aQX:∃a b:a1,prog.underlying 140=some (.struct #[a,b])/\a.type=3/\b.type=3:=⟨_,_,underlying140,rfl,rfl⟩
theorem Wu:prog.underlyingId 140=139:=k_
theorem XB{m n:Nat}(j:m=n+1){d:a0 H}(h:∃cs,bc prog W ad (bO prog (m+1) 140 d) cs)(o:Rows.uptoBulk d<=1048576):∃p:fh,bO prog (m+1) 140 d=dc p/\True/\2<=Rows.uptoBulk d:=by
 obtain⟨cs,h⟩:=h;obtain⟨f0,f1,f,t0,t1⟩:=aQX;cases d with
 |agg l=>
  simp only[bO,f,bc]at h⊢;obtain⟨q,k,e,c,_⟩:=h;rw[Wu,aQA]at e;cases e
  match l,c with
  |[],c=>simp[bA]at c
  |[x],c=>simp[bA]at c
  |x::y::r,c=>
   have:=BJ x;simp only[ck,bI,bA,cy,cd,t0,t1]at c⊢;obtain⟨c0,_,_,g1,_,c1,_,_,g2,_⟩:=c;subst j;obtain⟨a,g⟩:=BT (n:=n) x c0 g1;obtain⟨b,i⟩:=BT (n:=n) y c1 g2;refine⟨⟨a,b⟩,by rw[g,i,Wu];rfl,trivial,?_⟩;rw[Rows.uptoBulk,Rows.uptoBulkAll];omega
 |_=>simp only[bO,f,bc]at h
theorem aQV:∃a b f2 f3:a1,prog.underlying 125=some (.struct #[a,b,f2,f3])/\a.type=9/\b.type=3/\f2.type=30/\f3.type=30:=⟨_,_,_,_,underlying125,rfl,rfl,rfl,rfl⟩
theorem Ws:prog.underlyingId 125=108:=k_
theorem Xc{m n:Nat}(q:m=n+1){d:a0 H}(h:∃cs,bc prog W ad (bO prog (m+1) 125 d) cs)(o:Rows.uptoBulk d<=1048576):∃p:du,bO prog (m+1) 125 d=fV p/\vZ p/\2<=Rows.uptoBulk d:=by
 obtain⟨cs,h⟩:=h;obtain⟨f0,f1,f2,f3,g,t0,t1,t2,t3⟩:=aQV;cases d with
 |agg l=>
  have e:∀x∈l,Rows.uptoBulk x<=1048576:=fun x hx=>by
   have:=tY.yh hx;rw[Rows.uptoBulk]at o;omega
  simp only[bO,g,bc]at h⊢;obtain⟨B,A,f,c,_⟩:=h;rw[Ws,aQz]at f;cases f
  match l,c with
  |[],c=>simp[bA]at c
  |[x],c=>simp[bA]at c
  |[x,y],c=>simp[bA]at c
  |[x,y,z],c=>simp[bA]at c
  |x::y::z::w::r,c=>
   have:=BJ x;simp only[ck,bI,bA,cy,cd,t0,t1,t2,t3]at c⊢;obtain⟨c0,_,_,g0,_,c1,_,_,g1,_,c2,_,_,g2,_,c3,_,_,g3,_⟩:=c;subst q;obtain⟨a,i,k⟩:=yU (n:=n) ⟨c0,g0⟩ (e x s_);obtain⟨b,j⟩:=BT (n:=n) y c1 g1;obtain⟨u,eu,s⟩:=D9 (n:=n) ⟨c2,g2⟩ (e z s_);obtain⟨v,ev,t⟩:=D9 (n:=n) ⟨c3,g3⟩ (e w s_);refine⟨⟨a,b,u,v⟩,by rw[i,j,eu,ev,Ws];rfl,⟨k,s,t⟩,?_⟩;rw[Rows.uptoBulk,Rows.uptoBulkAll];omega
 |_=>simp only[bO,g,bc]at h
theorem aQZ:∃a b:a1,prog.underlying 135=some (.struct #[a,b])/\a.type=9/\b.type=32:=⟨_,_,underlying135,rfl,rfl⟩
theorem Ww:prog.underlyingId 135=90:=k_
theorem Xz{m n:Nat}(s:m=n+2){d:a0 H}(h:∃cs,bc prog W ad (bO prog (m+1) 135 d) cs)(o:Rows.uptoBulk d<=1048576):∃p:de,bO prog (m+1) 135 d=bP p/\qV p/\2<=Rows.uptoBulk d:=by
 obtain⟨cs,h⟩:=h;obtain⟨f0,f1,g,t0,t1⟩:=aQZ;cases d with
 |agg l=>
  have f:∀x∈l,Rows.uptoBulk x<=1048576:=fun x hx=>by
   have:=tY.yh hx;rw[Rows.uptoBulk]at o;omega
  simp only[bO,g,bc]at h⊢;obtain⟨u,t,e,c,_⟩:=h;rw[Ww,Wm]at e;cases e
  match l,c with
  |[],c=>simp[bA]at c
  |[x],c=>simp[bA]at c
  |x::y::r,c=>
   have:=BJ x;simp only[ck,bI,bA,cy,cd,t0,t1]at c⊢;obtain⟨c0,_,_,g1,_,c1,_,_,g2,_⟩:=c;subst s;obtain⟨a,i,k⟩:=yU (n:=n+1) ⟨c0,g1⟩ (f x s_);obtain⟨b,j,q⟩:=G7 (n:=n) ⟨c1,g2⟩ (f y s_);refine⟨⟨a,b⟩,by rw[i,j,Ww];rfl,⟨k,q⟩,?_⟩;rw[Rows.uptoBulk,Rows.uptoBulkAll];omega
 |_=>simp only[bO,g,bc]at h
theorem aQ0:∃a b f2 f3:a1,prog.underlying 26=some (.struct #[a,b,f2,f3])/\a.type=22/\b.type=3/\f2.type=23/\f3.type=24:=⟨_,_,_,_,underlying26,rfl,rfl,rfl,rfl⟩
theorem Wx:prog.underlyingId 26=25:=k_
theorem aQE{m n:Nat}(p:m=n+4){d:a0 H}(h:∃cs,bc prog W ad (bO prog (m+1) 26 d) cs)(e:Rows.uptoBulk d<=1048576):∃t:ah,bO prog (m+1) 26 d=cA t/\True/\fu t:=by
 obtain⟨cs,h⟩:=h;obtain⟨f0,f1,f2,f3,j,t0,t1,t2,t3⟩:=aQ0;cases d with
 |agg l=>
  have g:∀x∈l,Rows.uptoBulk x<=1048576:=fun x hx=>by
   have:=tY.yh hx;rw[Rows.uptoBulk]at e;omega
  simp only[bO,j,bc]at h⊢;obtain⟨E,D,i,c,_⟩:=h;rw[Wx,aQB]at i;cases i
  match l,c with
  |[],c=>simp[bA]at c
  |[x],c=>simp[bA]at c
  |[x,y],c=>simp[bA]at c
  |[x,y,z],c=>simp[bA]at c
  |x::y::z::w::r,c=>
   simp only[ck,bI,bA,cy,cd,t0,t1,t2,t3]at c⊢;obtain⟨c0,_,_,g0,_,c1,_,_,g1,_,c2,_,_,g2,_,c3,_,_,g3,_⟩:=c;subst p;obtain⟨a,k,_,A⟩:=BV (n:=n+3) aQQ (F:=dc) (ok:=fun _=>True) (fun d f e=>XB (n:=n+1) rfl f e) ⟨c0,g0⟩ (g x s_);obtain⟨b,o⟩:=BT (n:=n+3) y c1 g1;obtain⟨u,eu,q,B⟩:=BV (n:=n+3) aQR (F:=fV) (ok:=vZ) (fun d f e=>Xc (n:=n+1) rfl f e) ⟨c2,g2⟩ (g z s_);obtain⟨v,ev,s,C⟩:=BV (n:=n+3) aQS (F:=bP) (ok:=qV) (fun d f e=>Xz (n:=n) rfl f e) ⟨c3,g3⟩ (g w s_);exact⟨⟨a,b,u,v⟩,by rw[k,o,eu,ev,Wx];rfl,trivial,A,B,C,q,s⟩
 |_=>simp only[bO,j,bc]at h
end
def fo(p:du):PV:=.st 108 [.str p.name,.int .i64 p.cV,.str p.a,.str p.b]
def iQ(p:de):PV:=.st 90 [.str p.name,et p.pt]
def cB(t:ah):PV:=.st 42 [.seq (t.cs.map dc),.int .i64 t.aC,.seq (t.aK.map fo),.seq (t.aj.map iQ)]
@[simp] theorem aUE(p:du):aP (fo p)=.agg 108:=rfl
@[simp] theorem aS0(p:du):cz (fo p)=[.str p.name,.int .i64 p.cV,.str p.a,.str p.b]:=rfl
@[simp] theorem aUL(p:de):aP (iQ p)=.agg 90:=rfl
@[simp] theorem aS7(p:de):cz (iQ p)=[.str p.name,et p.pt]:=rfl
@[simp] theorem aUO(t:ah):aP (cB t)=.agg 42:=rfl
@[simp] theorem aS9(t:ah):cz (cB t)=[.seq (t.cs.map dc),.int .i64 t.aC,.seq (t.aK.map fo),.seq (t.aj.map iQ)]:=rfl
@[simp] theorem aSf:prog.cellsOf 42=4:=k_
theorem aK6(p:fh):al prog 148 [dc p] (.bool (ij p)):=by
 obtain⟨x,y⟩:=p;refine gA_ nf func148 mix ?_;have e1:max x y=if x<y then y else x:=by split<;>omega
 have e2:min x y=if y<x then y else x:=by split<;>omega
 rw[ij,e1,e2]
 by_cases h:(if x<y then y else x)<=10000
 ·have a:¬10000<(if x<y then y else x):=by omega
  by_cases b:(if y<x then y else x)< -10000
  ·simp[f148,aa,h,a,b]
  ·simp[f148,aa,h,a,b]
 ·have a:10000<(if x<y then y else x):=by omega
  simp[f148,aa,h,a]
def idxFrom{α:Type}(p:α->Bool):List α->Nat->Int
 |[],_=>-1
 |x::r,i=>if p x then(i:Int)else idxFrom p r (i+1)
theorem sT{α:Type}(p:α->Bool):∀(l:List α)(i:Nat),decide (0<=idxFrom p l i)=l.any p
 |[],i=>by simp[idxFrom]
 |x::r,i=>by
  by_cases h:p x
  ·simp[idxFrom,h]
  ·simp[idxFrom,h,sT p r]
theorem Xa(l:List fh)(h:l.length<=1000000):
 al prog 242 [.seq (l.map dc),.func 148 [] []] (.int .i64 (idxFrom ij l 0)):=by
 refine gA_ nf func242 mix ?_;simp[f242];refine lp (α:=Nat) (fun i=>⟨[(8,.p (.int .i64 i)),(7,.p (.int .i64 l.length)),(1,.p (.func 148 [] [])),(0,.p (.seq (l.map dc)))],[]⟩) (fun i=>i<=l.length/\idxFrom ij l 0=idxFrom ij (l.drop i) i) (fun i=>l.length-i) 0 s_ ?_;rintro i ⟨k1,k2⟩
 by_cases hi:i<l.length
 ·rw[bi hi]at k2;have b:=b8 (i:=i) o_;simp[hi];refine c1 (aK6 l[i]) ?_
  by_cases a:ij l[i]
  ·simp[idxFrom,a]at k2;simp[a,k2]
  ·simp[idxFrom,a]at k2;simp[a,b];exact rd (i+1) ⟨hi,k2⟩
 ·have:i=l.length:=by omega
  subst this;simp[idxFrom]at k2;simp[k2]
theorem WX(l:List fh)(h:l.length<=1000000):
 al prog 147 [.seq (l.map dc),.func 148 [] []] (.bool (l.any ij)):=by
 refine gA_ nf func147 mix ?_;simp[f147];refine c2 (Xa l h) ?_;simp[<-sT ij l 0]
def qh(l:List fh):List (PV×PV):=l.map (fun p=>(dc p,PV.bool true))
theorem KI{p q:fh}(h:¬p=q):¬(p.x=q.x/\p.y=q.y):=fun⟨a,b⟩=>h (by cases p;cases q;simp_all)
theorem aLS(a b c d:Int):jz prog 9 140 (.st 139 [.int .i64 a,.int .i64 b]) (.st 139 [.int .i64 c,.int .i64 d])=some ((a==c)&&((b==d)&&true)):=k_
@[simp] theorem Fj(p q:fh):jz prog 9 140 (dc p) (dc q)=some (decide (p=q)):=by
 rw[dc,dc,aLS]
 by_cases h:p=q
 ·subst h;simp
 ·rw[decide_eq_false h];have:=KI h
  by_cases a:p.x=q.x
  ·have b:¬p.y=q.y:=fun b=>this ⟨a,b⟩;simp[a,b]
  ·simp[a]
theorem KH(p q:fh):ln (dc p) (dc q)=some (decide (p=q)):=by
 by_cases h:p=q
 ·subst h;simp[dc,ln,Bo]
 ·rw[decide_eq_false h];have:=KI h
  by_cases a:p.x=q.x
  ·have b:¬p.y=q.y:=fun b=>this ⟨a,b⟩;simp[dc,ln,Bo,a,beq_false_of_ne b]
  ·simp[dc,ln,Bo,beq_false_of_ne a]
theorem aLR(p q:fh):qR prog 140 (dc p) (dc q)=some (decide (p=q)):=by
 have e1:=Fj p q;have e2:=KH p q;rw[dc]at e1 e2⊢;rw[qR,e1,e2];simp
@[simp] theorem J7(q:fh):∀l:List fh,gw prog 140 (qh l) (dc q)=some (if q∈l then some (.bool true)else none)
 |[]=>rfl
 |p::r=>by
  rw[qh,bI,gw,aLR]
  by_cases h:q=p
  ·simp[h]
  ·have:=J7 q r;rw[qh]at this;simp[h,this]
theorem W7{q:fh}{l:List fh}(h:¬q∈l):pB prog 140 (qh l) (dc q)=some none:=by
 have:=J7 q l;rw[if_neg h]at this;rw[dc]at this⊢;rw[pB,this]
theorem J8{q:fh}:∀{l:List fh},¬q∈l->gR (qh l) (dc q) (.bool true)=qh (l++[q])
 |[],_=>rfl
 |p::r,h=>by
  have a:¬q=p:=fun e=>h (e▸dl);have b:¬q∈r:=fun e=>h (dd _ e);have:=J8 b;rw[qh]at this⊢;rw[bI,gR,KH,this];simp[a,qh]
theorem aOL:vR prog 140=true:=k_
@[simp high] theorem aRX(c:Bool)(H:ak)(p q:fh):kg prog .neq 140 c H (.p (dc p)) (.p (dc q))=some (True,{v:=.p (.bool !(decide (p=q)))}):=by
 have e:=Fj p q;rw[dc,dc]at*;simp[kg,e,aOL]
@[simp high] theorem aSN(q:fh):iw prog 140 (dc q)=true:=by
 have e1:=Fj q q;rw[dc]at e1⊢;rw[iw];simp[e1]
theorem Xs(a c:fh):mR a a c=0:=by simp[mR]
theorem W8(a b:fh):mR a b a=0:=by simp[mR]
theorem Kj{t:ah}(e:3<=t.cs.length){j k:Nat}(c:j<t.cs.length)(hk:k<t.cs.length)(d:j≠k)(b:t.at j=t.at k):t.ga=false:=by
 rw[ah.ga,decide_eq_false_iff_not];intro h
 by_cases hx:k=t.nx j
 ·obtain⟨m,m1,m2,m3⟩:∃m,m<t.cs.length/\m≠j/\m≠k:=by
   rcases e7 j k with a|a|a
   ·by_cases e0:j=0
    ·by_cases e1:k=1
     ·exact⟨2,o_,o_,o_⟩
     ·exact⟨1,o_,o_,o_⟩
    ·exact⟨0,o_,o_,o_⟩
   ·exact(d a).elim
   ·by_cases e0:k=0
    ·by_cases e1:j=1
     ·exact⟨2,o_,o_,o_⟩
     ·exact⟨1,o_,o_,o_⟩
    ·exact⟨0,o_,o_,o_⟩
  have:=h j c m m1 m2 (hx▸m3);rw[<-hx,<-b,Xs]at this;omega
 ·have:=h j c k hk (Ne.symm d) hx;rw[<-b,W8]at this;omega
theorem Xv(t:ah)(ai:3<=t.cs.length)(aj:t.cs.length<=1000000)(hn:∀p∈t.cs,eH p):al prog 149 [cB t] (.bool t.ga):=by
 refine gA_ nf func149 mix ?_;generalize q:t.cs.length=n at*;simp[f149,aa,q];refine lp (α:=Nat) (fun i=>⟨[(16,.p (.int .i64 i)),(15,.p (.int .i64 n)),(14,.p (.seq (t.cs.map dc))),(3,.map 1),(1,.ptr 0 [])],[.box false (.p (cB t)),.map false (qh (t.cs.take i))]⟩) (fun i=>i<=n/\∀j k,j<k->k<i->t.at j≠t.at k) (fun i=>n-i) 0 s_ ?_ (hh:=by simp[qh]);rintro i ⟨ag,E⟩
 by_cases hi:i<n
 ·have G:=ah.get (t:=t) (i:=i) o_;have z:=b8 (i:=i) o_;have V:t.cs.take (i+1)=t.cs.take i++[t.at i]:=by rw[b1,G];rfl
  simp[-iw,hi,q,G,aa]
  by_cases f:t.at i∈t.cs.take i
  ·obtain⟨j,s,r⟩:=bo.1 f;rw[b2]at s;rw[c9,ah.aV o_]at r;have P:=Kj o_ (j:=j) (k:=i) o_ o_ o_ r;simp[f,P]
  ·have hI:=W7 f;have H:=J8 f;rw[<-V]at H;simp[-iw,-pB,f,hI,H,z];exact rd (i+1) ⟨hi,fun j k w hk=>by
    by_cases S:k=i
    ·subst S;intro r;exact f (r▸bf (i:=j) (by rw[cc,if_pos w];exact ah.get o_))
    ·exact E j k w o_⟩
 have Q:i=n:=o_
 subst Q;have inj:∀j k,j<i->k<i->t.at j=t.at k->j=k:=fun j k s hk r=>by
  rcases e7 j k with h|h|h
  ·exact(E j k h hk r).elim
  ·exact h
  ·exact(E k j h s r.symm).elim
 simp[q,aa];refine lp (α:=Nat) (fun m=>⟨[(32,.p (.int .i64 m)),(31,.p (.int .i64 i)),(30,.p (.seq (t.cs.map dc))),(6,.p (.int .i64 i)),(1,.ptr 0 [])],[.box false (.p (cB t))]⟩) (fun m=>m<=i/\∀j,j<m->t.rj j i) (fun m=>i-m) 0 s_ ?_;rintro m ⟨g1,g2⟩;have T:¬i=0:=o_
 by_cases f:m<i
 ·have L:=ah.get (t:=t) (i:=m) o_;have z:=b8 (i:=m) o_;have U:t.nx m<i:=by rw[<-q];exact t.kM o_ m
  have M:=ah.get (t:=t) (i:=t.nx m) o_;have e1:((m:Int)+1).tmod (i:Int)=((t.nx m:Nat):Int):=by
   rw[ah.nx,q,a7,a6 o_];rfl
  simp[f,q,L,M,z,e1,T,aa];refine⟨r_,?_⟩;refine lp (α:=Nat) (fun k=>⟨[(48,.p (.int .i64 k)),(47,.p (.int .i64 i)),(46,.p (.seq (t.cs.map dc))),(9,.ptr 2 []),(8,.ptr 1 []),(32,.p (.int .i64 m)),(31,.p (.int .i64 i)),(30,.p (.seq (t.cs.map dc))),(6,.p (.int .i64 i)),(1,.ptr 0 [])],[.box false (.p (cB t)),.box false (.p (dc (t.at m))),.box false (.p (dc (t.at (t.nx m))))]⟩) (fun k=>k<=i/\t.rj m k) (fun k=>i-k) 0 (by simp[ah.rj]) ?_;rintro k ⟨q1,D⟩
  by_cases hk:k<i
  ·have gk:=ah.get (t:=t) (i:=k) o_;have F:=b8 (i:=k) o_
   by_cases c1:t.at k=t.at m
   ·have:=inj _ _ hk f c1;subst this;simp[-kg,kg.eq_1,hk,gk,F,aa];exact rd (k+1) ⟨hk,fun j s=>by
     by_cases w:j=k
     ·intro h;exact(h w).elim
     ·exact D j o_⟩
   ·by_cases c2:t.at k=t.at (t.nx m)
    ·have:=inj _ _ hk U c2;have c3:¬t.at (t.nx m)=t.at m:=by rw[<-c2];exact c1
     simp[-kg,kg.eq_1,hk,gk,F,c2,c3,aa];exact rd (k+1) ⟨hk,fun j s=>by
      by_cases w:j=k
      ·intro _ h;exact(h o_).elim
      ·exact D j o_⟩
    ·have K:k≠m:=fun e=>c1 (by rw[e]);have nx:k≠t.nx m:=fun e=>c2 (by rw[e]);have O:mR (t.at m) (t.at (t.nx m)) (t.at k)=((t.at (t.nx m)).x-(t.at m).x)*((t.at k).y-(t.at m).y)-((t.at (t.nx m)).y-(t.at m).y)*((t.at k).x-(t.at m).x):=rfl;have W:=ah.eg hn (i:=m) o_;have X:=ah.eg hn (i:=t.nx m) o_;have Y:=ah.eg hn (i:=k) o_;have J:t.rj m (k+1)↔0<mR (t.at m) (t.at (t.nx m)) (t.at k):=⟨fun h=>h k o_ K nx,fun h j s u v=>by
      by_cases w:j=k
      ·subst w;exact h
      ·exact D j o_ u v⟩
     have I:¬0<mR (t.at m) (t.at (t.nx m)) (t.at k)->t.ga=false:=fun h=>by
      rw[ah.ga,decide_eq_false_iff_not];intro N;exact h (N m o_ k o_ K nx)
     rw[O]at J I;simp[-kg,kg.eq_1,hk,gk,F,c1,c2,aa];simp only[eH]at W X Y;generalize t.at m=A,t.at (t.nx m)=B,t.at k=C at*;obtain⟨c,d⟩:=A;obtain⟨bx,g⟩:=B;obtain⟨l,o⟩:=C;dsimp only at*;have w1:a4.wrap (bx-c)=bx-c:=aU _ o_ o_;have Z:a4.wrap (o-d)=o-d:=aU _ o_ o_;have ab:a4.wrap (g-d)=g-d:=aU _ o_ o_
     have ac:a4.wrap (l-c)=l-c:=aU _ o_ o_;have ak:=BL (a:=bx-c) (b:=o-d) (A:=20000) (B:=20000) o_ o_ o_ o_;have am:=BL (a:=g-d) (b:=l-c) (A:=20000) (B:=20000) o_ o_ o_ o_;have ad:a4.wrap ((bx-c)*(o-d))=(bx-c)*(o-d):=aU _ o_ o_;have ae:a4.wrap ((g-d)*(l-c))=(g-d)*(l-c):=aU _ o_ o_;have af:a4.wrap ((bx-c)*(o-d)-(g-d)*(l-c))=(bx-c)*(o-d)-(g-d)*(l-c):=aU _ o_ o_;simp[w1,Z,ab,ac,ad,ae,af]
     by_cases hc:(bx-c)*(o-d)-(g-d)*(l-c)<=0
     ·have:=I o_;simp[hc,this]
     ·simp[hc];exact rd (k+1) ⟨hk,J.2 o_⟩
  ·have:k=i:=by omega
   subst this;simp[z];exact rd (m+1) ⟨f,fun j s=>by
    by_cases R:j=m
    ·subst R;exact D
    ·exact g2 j o_⟩
 ·have:m=i:=by omega
  subst this;have:t.ga=true:=by
   rw[ah.ga,decide_eq_true_eq,q];exact g2
  simp[this]
noncomputable def gK(v:NV):PV:=.st 248 [eF v.x,eF v.y]
@[simp] theorem aUN(v:NV):aP (gK v)=.agg 248:=rfl
@[simp] theorem aS8(v:NV):cz (gK v)=[eF v.x,eF v.y]:=rfl
@[simp] theorem aSe:prog.cellsOf 248=8:=k_
theorem Fk(x y:NF):gK ⟨x,y⟩=.st 248 [eF x,eF y]:=rfl
noncomputable def yp(a b:NV):PV:=.st 316 [gK a,gK b]
@[simp] theorem aUu(a b:NV):aP (yp a b)=.agg 316:=rfl
@[simp] theorem aSQ(a b:NV):cz (yp a b)=[gK a,gK b]:=rfl
theorem IE(p:bS)(d:cm p.x=0)(e:cm p.y=0)(a:ku p):al prog 177 [et p] (gK (.from p)):=by
 have b:=mE p.x d a.1.1;have c:=mE p.y e a.2.1;refine gA_ nf func177 mix ?_;rw[NV.from,Fk];simp(maxDischargeDepth:=99) [f177,aa,e1 b,e1 c]
def di(p:fh):NV:=⟨.int p.x,.int p.y⟩
theorem JU(p:fh)(h:eH p):al prog 335 [dc p] (gK (di p)):=by
 simp only[eH]at h;have a:=jx p.x o_ o_;have b:=jx p.y o_ o_;refine gA_ nf func335 mix ?_;rw[di,Fk];simp(maxDischargeDepth:=99) [f335,aa,e1 a,e1 b]
theorem Fm(v w:NV)(a:aS kQ v.q)(b:aS kQ w.q):al prog 257 [gK v,gK w] (gK (v.sub w)):=by
 have c:=nW v.x w.x (dF a.1) (dF b.1);have d:=nW v.y w.y (dF a.2) (dF b.2);refine gA_ nf func257 mix ?_;rw[NV.sub,Fk];simp(maxDischargeDepth:=99) [f257,aa,e2 c,e2 d]
theorem Xn(v w:NV)(a:aS kQ v.q)(b:aS kQ w.q):al prog 258 [gK v,gK w] (eF (v.aX w)):=by
 have c:=fF v.x w.y (dF a.1) (dF b.2);have d:=fF v.y w.x (dF a.2) (dF b.1);have e:=nW (v.x.mul w.y) (v.y.mul w.x) ((bh a.1 b.2).mono d_) ((bh a.2 b.1).mono d_);refine gA_ nf func258 mix ?_;rw[NV.aX];simp(maxDischargeDepth:=99) [f258,aa,e2 c,e2 d,e2 e]
theorem aK5(t:ah)(i:Nat)(hi:i<t.cs.length)(j:t.cs.length<=1000000)(hn:∀p∈t.cs,eH p):al prog 301 [cB t,.int .i64 i] (yp (di (t.at i)) (di (t.at (t.nx i)))):=by
 have a:=t.kM o_ i;have b:=JU (t.at i) (ah.eg hn hi);have c:=JU (t.at (t.nx i)) (ah.eg hn a);have w1:=b8 (i:=i) o_;have e1:((i:Int)+1).tmod (t.cs.length:Int)=((t.nx i:Nat):Int):=by
  rw[ah.nx,a7,a6 o_];rfl
 have h:¬t.cs.length=0:=o_
 have g:¬t.cs=[]:=by intro e;rw[e]at hi;simp at hi
 have d:=ah.get hi;have f:=ah.get a;refine gA_ nf func301 mix ?_;rw[yp];simp(maxDischargeDepth:=99) [f301,aa,w1,e1,h,g,d,f,hi,a,e1_ b,e1_ c]
theorem aK8(t:ah):al prog 256 [cB t] (.func 300 [] [.cW (cB t)]):=by
 refine gA_ nf func256 mix ?_;simp[f256];show iz [.box false (.p (cB t))] 7 (.p (cB t)) (cB t);rw[BZ];exact Wk.refl _
noncomputable def BW(t:ah)(i:Nat):List PV:=[.int .i64 i,yp (di (t.at i)) (di (t.at (t.nx i)))]
theorem E9{t:ah}{i:Nat}(h:i<t.cs.length):((b3 t.cs.length).map (BW t))[i]?=some (BW t i):=by
 rw[dq,ee h];rfl
theorem aP1(t:ah)(g:t.cs.length<=1000000)(hn:∀p∈t.cs,eH p):Stream prog 300 [] [.cW (cB t)] ((b3 t.cs.length).map (BW t)):=by
 intro b k e H' hk a j d;rw[db,c6]at hk d;refine gz nf (i_ func300) mix (by simp[f300]) ?_;simp[f300,aa];refine lp (α:=Nat) (fun i=>⟨[(7,.p (.int .i64 i)),(6,.p (.int .i64 t.cs.length)),(1,.p (.cW (cB t))),(0,.map b)],e i⟩) (fun i=>i<=k) (fun i=>k-i) 0 s_ ?_ (hr:=by simp;exact(a 0 o_).2) (hr2:=(a 0 o_).1);rintro i l
 by_cases hi:i<t.cs.length
 ·have f:=aK5 t i hi g hn;have h:=b8 (i:=i) o_;simp[hi];refine c2 f ?_;simp
  by_cases c:i<k
  ·refine⟨e (i+1),_,j i _ c (E9 hi),?_⟩;simp[h];exact rd (i+1) c (hr:=by simp;exact(a (i+1) c).2) (hr2:=(a (i+1) c).1)
  ·have:i=k:=by omega
   subst this;rcases d with⟨e1,_⟩|⟨y,e1,e2⟩
   ·omega
   ·rw[E9 hi]at e1;injection e1 with e1
    subst e1;refine⟨H',_,e2,?_⟩;simp
 ·have:i=t.cs.length:=by omega
  subst this;rcases d with⟨e1,e2⟩|⟨y,e1,e2⟩
  ·have:t.cs.length=k:=by omega
   subst this;simp[e2]
  ·rw[ed (by simp;omega)]at e1;cases e1
noncomputable def Bt(t:ah)(v:NV)(L:eK)(i:Nat):ak:=[.box false (.p (cB t)),.box false (.p (gK v)),.box false (.p (.int .i64 (t.pY v.q i))),.loop L]
theorem Ui(t:ah)(v:NV)(l:t.cs.length<=1000000)(hn:∀p∈t.cs,eH p)(f:aS 3000 v.q):al prog 178 [cB t,gK v] (.int .i64 (t.on v.q)):=by
 refine gA_ nf func178 mix ?_;simp[f178,aa];refine c1 (aK8 t) ?_;simp;refine rf (aP1 t l hn) rfl s_ (Bt t v) t.cs.length s_ (fun L=>rfl) ?_ ?_ ?_
 ·intro L a i hi;refine⟨rfl,by simp[Bt],fun _ hx=>?_⟩;simp[Bt]at hx⊢;exact hx
 ·intro L a i x hi hx;rw[E9 hi]at hx;injection hx with hx
  subst hx;have b:=gE (ah.eg hn hi);have g:=gE (ah.eg hn (t.kM o_ i));have q1:aS 29 ((di (t.at (t.nx i))).sub (di (t.at i))).q:=by rw[NV.dJ];exact eB g b
  have m:aS 3015 (v.sub (di (t.at i))).q:=by rw[NV.dJ];exact eB f b
  have h:=Fm (di (t.at (t.nx i))) (di (t.at i)) (g.mono d_) (b.mono d_);have j:=Fm v (di (t.at i)) (f.mono d_) (b.mono d_);have k:=Xn ((di (t.at (t.nx i))).sub (di (t.at i))) (v.sub (di (t.at i))) (q1.mono d_) (m.mono d_);have d:=mC (((di (t.at (t.nx i))).sub (di (t.at i))).aX (v.sub (di (t.at i))));have c:bE (((di (t.at (t.nx i))).sub (di (t.at i))).aX (v.sub (di (t.at i)))).q=t.side i v.q:=by
   rw[NV.kK,NV.dJ,NV.dJ];rfl
  rw[bE]at c;rw[c]at d;have hs:=ah.E6 t v.q i;rw[Kn]at hs;refine sU nf mix a rfl rfl k_ ?_;have e:=congrArg eK.env a;dsimp only at e;clear a c;generalize (di (t.at (t.nx i))).sub (di (t.at i))=W,v.sub (di (t.at i))=U at*;generalize W.aX U=C at*;simp[Bt,BW,yp,aa];refine e2 h ?_;simp[aa];refine e2 j ?_;simp[aa];refine e2 k ?_;simp[aa];refine e1 d ?_;simp[aa];refine⟨r_,?_⟩;rw[<-hs];refine dh.og s_ s_ s_ s_ ?_;simp;exact uz e s_
 ·intro L a;refine .inl ⟨s_,?_⟩;simp[Bt,ah.on]
theorem JW(s:List Nat)(hs:ky s)(h:cm s=0):al prog 247 [.str s] (.int .i64 (fO (aO s))):=by
 have o:=gN h;have d:=mE s h hs.1;have c:=mC ⟨aO s,false⟩;have g:=jx 1 d_ d_;have e:=nX ⟨aO s,false⟩ (.int 1) (o.mono d_) ((show aL 1 (NF.int 1).q from⟨d_,d_⟩).mono d_);have e2:(if(⟨aO s,false⟩:NF).q<0 then(-1:Int)else if(⟨aO s,false⟩:NF).q=0 then 0 else 1)=bE (aO s):=rfl;have e4:cr (⟨aO s,false⟩:NF).q (NF.int 1).q=cr (aO s) 1:=rfl;rw[e2]at c;rw[e4]at e;have f:=fun b=>jT b 3;refine gA_ nf func247 mix ?_;rw[fO];clear e2 e4 o;generalize bE (aO s)=x,cr (aO s) 1=y,(⟨aO s,false⟩:NF)=v at*
 by_cases a:x<0
 ·simp[f247,aa];refine c1 d ?_;simp[aa];refine e1_ c ?_;simp[a,aa];refine e2_ (f true) ?_;simp[aZ];omega
 ·by_cases b:0<y
  ·simp[f247,aa];refine c1 d ?_;simp[aa];refine e1_ c ?_;simp[a,aa];refine e1_ g ?_;simp[a,aa];refine e2_ e ?_;simp[a,b,aa];refine e2_ (f true) ?_;simp[aZ];omega
  ·simp[f247,aa];refine c1 d ?_;simp[aa];refine e1_ c ?_;simp[a,aa];refine e1_ g ?_;simp[a,aa];refine e2_ e ?_;simp[a,b,aa];refine e2_ (f false) ?_;simp[aZ];omega
def rq(p:du):Prop:=vZ p/\cm p.a=0/\cm p.b=0
theorem aK7(p o:du)(r:rq p)(q:rq o):al prog 246 [fo p,fo o] (.bool (iY o p)):=by
 obtain⟨⟨_,u,v⟩,l,m⟩:=r;obtain⟨⟨_,s,t⟩,j,k⟩:=q;have d:=mE p.a l u.1;have e:=mE o.b k t.1;have c:=nX ⟨aO p.a,false⟩ ⟨aO o.b,false⟩ ((gN l).mono d_) ((gN k).mono d_);have g:=mE o.a j s.1;have i:=mE p.b m v.1;have f:=nX ⟨aO o.a,false⟩ ⟨aO p.b,false⟩ ((gN j).mono d_) ((gN m).mono d_);dsimp only at c f;refine gA_ nf func246 mix ?_;rw[iY];generalize cr (aO p.a) (aO o.b)=x,cr (aO o.a) (aO p.b)=y,(⟨aO p.a,false⟩:NF)=v1,(⟨aO p.b,false⟩:NF)=v2,(⟨aO o.a,false⟩:NF)=v3,(⟨aO o.b,false⟩:NF)=v4 at*
 by_cases c1:o.cV=p.cV
 case neg=>
  have n:¬p.cV=o.cV:=fun h=>c1 h.symm;simp[f246,aa,c1,n]
 by_cases c2:x<=0
 ·by_cases c3:y<=0
  ·simp(maxDischargeDepth:=99) [f246,aa,c1,c2,c3,e1_ d,e1_ e,e2_ c,e1_ g,e1_ i,e2_ f]
  ·simp(maxDischargeDepth:=99) [f246,aa,c1,c2,c3,e1_ d,e1_ e,e2_ c,e1_ g,e1_ i,e2_ f]
 ·simp(maxDischargeDepth:=99) [f246,aa,c1,c2,e1_ d,e1_ e,e2_ c]
theorem Xl(p o:du):c8 prog 244 [.box false (.p (fo p))] [.p (fo o),.ptr 0 []] [.box false (.p (fo p))] (.p (.bool (decide (o.name=p.name)))):=by
 refine gz nf (i_ func244) mix (by simp[f244]) ?_
 by_cases h:o.name=p.name
 ·simp[f244,aa,h];exact dh.og s_ s_ s_ s_ s_
 ·simp[f244,aa,h];exact dh.og s_ s_ s_ s_ s_
theorem Xr(p:du)(l:List du)(h:l.length<=1000000):
 c8 prog 98 [.box false (.p (fo p))] [.p (.seq (l.map fo)),.func 244 [] [.ptr 0 []]] [.box false (.p (fo p))] (.p (.int .i64 (idxFrom (fun o=>decide (o.name=p.name)) l 0))):=by
 refine gz nf (i_ func98) mix (by simp[f98]) ?_;simp[f98];refine lp (α:=Nat) (fun i=>⟨[(8,.p (.int .i64 i)),(7,.p (.int .i64 l.length)),(1,.func 244 [] [.ptr 0 []]),(0,.p (.seq (l.map fo)))],[.box false (.p (fo p))]⟩) (fun i=>i<=l.length/\idxFrom (fun o=>decide (o.name=p.name)) l 0=idxFrom (fun o=>decide (o.name=p.name)) (l.drop i) i) (fun i=>l.length-i) 0 s_ ?_;rintro i ⟨k1,k2⟩;have a:=b8 (i:=i) o_
 by_cases hi:i<l.length
 ·rw[bi hi,idxFrom]at k2;simp[hi];refine cf (Xl p l[i]) [0] ?_
  by_cases hk:l[i].name=p.name
  ·simp[hk]at k2;simp[hk,k2,bu]
  ·simp[hk]at k2;simp[hk,a,bu];exact rd (i+1) ⟨hi,k2⟩
 ·have:i=l.length:=by omega
  subst this;simp[idxFrom]at k2;simp[k2]
theorem Xg(p:du)(l:List du)(h:l.length<=1000000):
 c8 prog 243 [.box false (.p (fo p))] [.p (.seq (l.map fo)),.func 244 [] [.ptr 0 []]] [.box false (.p (fo p))] (.p (.bool (l.any (fun o=>decide (o.name=p.name))))):=by
 refine gz nf (i_ func243) mix (by simp[f243]) ?_;simp[f243];refine cf (Xr p l h) [0] ?_;have:=sT (fun o=>decide (o.name=p.name)) l 0;simp[bu,<-this]
theorem Xk(p o:de):c8 prog 249 [.box false (.p (iQ p))] [.p (iQ o),.ptr 0 []] [.box false (.p (iQ p))] (.p (.bool (decide (o.name=p.name)))):=by
 refine gz nf (i_ func249) mix (by simp[f249]) ?_
 by_cases h:o.name=p.name
 ·simp[f249,aa,h];exact dh.og s_ s_ s_ s_ s_
 ·simp[f249,aa,h];exact dh.og s_ s_ s_ s_ s_
theorem W4(p:de)(l:List de)(h:l.length<=1000000):
 c8 prog 294 [.box false (.p (iQ p))] [.p (.seq (l.map iQ)),.func 249 [] [.ptr 0 []]] [.box false (.p (iQ p))] (.p (.int .i64 (idxFrom (fun o=>decide (o.name=p.name)) l 0))):=by
 refine gz nf (i_ func294) mix (by simp[f294]) ?_;simp[f294];refine lp (α:=Nat) (fun i=>⟨[(8,.p (.int .i64 i)),(7,.p (.int .i64 l.length)),(1,.func 249 [] [.ptr 0 []]),(0,.p (.seq (l.map iQ)))],[.box false (.p (iQ p))]⟩) (fun i=>i<=l.length/\idxFrom (fun o=>decide (o.name=p.name)) l 0=idxFrom (fun o=>decide (o.name=p.name)) (l.drop i) i) (fun i=>l.length-i) 0 s_ ?_;rintro i ⟨k1,k2⟩;have a:=b8 (i:=i) o_
 by_cases hi:i<l.length
 ·rw[bi hi,idxFrom]at k2;simp[hi];refine cf (Xk p l[i]) [0] ?_
  by_cases hk:l[i].name=p.name
  ·simp[hk]at k2;simp[hk,k2,bu]
  ·simp[hk]at k2;simp[hk,a,bu];exact rd (i+1) ⟨hi,k2⟩
 ·have:i=l.length:=by omega
  subst this;simp[idxFrom]at k2;simp[k2]
theorem Xf(p:de)(l:List de)(h:l.length<=1000000):
 c8 prog 248 [.box false (.p (iQ p))] [.p (.seq (l.map iQ)),.func 249 [] [.ptr 0 []]] [.box false (.p (iQ p))] (.p (.bool (l.any (fun o=>decide (o.name=p.name))))):=by
 refine gz nf (i_ func248) mix (by simp[f248]) ?_;simp[f248];refine cf (W4 p l h) [0] ?_;have:=sT (fun o=>decide (o.name=p.name)) l 0;simp[bu,<-this]
theorem Xi(p:du)(c:rq p)(l:List du)(h:l.length<=1000000)(b:∀o∈l,rq o):
 al prog 98 [.seq (l.map fo),.func 246 [fo p] []] (.int .i64 (idxFrom (fun o=>iY o p) l 0)):=by
 refine gA_ nf func98 mix ?_;simp[f98];refine lp (α:=Nat) (fun i=>⟨[(8,.p (.int .i64 i)),(7,.p (.int .i64 l.length)),(1,.p (.func 246 [fo p] [])),(0,.p (.seq (l.map fo)))],[]⟩) (fun i=>i<=l.length/\idxFrom (fun o=>iY o p) l 0=idxFrom (fun o=>iY o p) (l.drop i) i) (fun i=>l.length-i) 0 s_ ?_;rintro i ⟨k1,k2⟩;have d:=b8 (i:=i) o_
 by_cases hi:i<l.length
 ·rw[bi hi,idxFrom]at k2;have a:=aK7 p l[i] c (b _ (ca hi));simp[hi];refine c2 a ?_;cases hk:iY l[i] p
  ·simp[hk]at k2;simp[d];exact rd (i+1) ⟨hi,k2⟩
  ·simp[hk]at k2;simp[k2]
 ·have:i=l.length:=by omega
  subst this;simp[idxFrom]at k2;simp[k2]
theorem W0(p:du)(b:rq p)(l:List du)(h:l.length<=1000000)(a:∀o∈l,rq o):
 al prog 243 [.seq (l.map fo),.func 246 [fo p] []] (.bool (l.any (fun o=>iY o p))):=by
 refine gA_ nf func243 mix ?_;simp[f243];refine c2 (Xi p b l h a) ?_;have:=sT (fun o=>iY o p) l 0;simp[<-this]
def nA(n:Nat)(c:List du)(p:du):Int:=bN [aZ (!isName p.name) 8,aZ (c.any fun o=>decide (o.name=p.name)) 9,aZ (decide (p.cV<0\/(n:Int)<=p.cV)) 10,cm p.a,cm p.b]
def EM(c:List du)(p:du):Int:=bN [fO (aO p.a),fO (aO p.b),aZ (decide (0<cr (aO p.a) (aO p.b))) 11,aZ (c.any fun o=>iY o p) 17]
theorem BK(q:Rat):fO q=0\/fO q=3:=by
 rw[fO];split
 ·exact .inr rfl
 ·exact .inl rfl
theorem Xd(n:Nat)(e:List du)(p:du):gY n e p=if nA n e p=0 then EM e p else nA n e p:=by
 rw[gY,nA,EM];generalize cm p.a=i;generalize cm p.b=j;have k:=BK (aO p.a);have h:=BK (aO p.b);generalize fO (aO p.a)=s,fO (aO p.b)=t at*;generalize cr (aO p.a) (aO p.b)=y;generalize (e.any fun o=>iY o p)=m;generalize (e.any fun o=>decide (o.name=p.name))=a;have l:max (0:Int) 3=3:=rfl;have q:max (3:Int) 0=3:=rfl;cases r:isName p.name
 ·simp[bN,aZ]
 cases a
 case true=>simp[bN,aZ]
 by_cases c:p.cV<0\/(n:Int)<=p.cV
 ·simp[bN,aZ,c]
 by_cases d:i=0
 case neg=>simp[bN,aZ,c,d]
 by_cases f:j=0
 case neg=>simp[bN,aZ,c,d,f]
 rcases k with rfl|rfl
 ·rcases h with rfl|rfl
  ·by_cases g:0<y
   ·simp[bN,aZ,c,d,f,g]
   ·cases m<;>simp[bN,aZ,c,d,f,g]
  ·simp[bN,aZ,c,d,f,l]
 ·rcases h with rfl|rfl
  ·simp[bN,aZ,c,d,f,q]
  ·simp[bN,aZ,c,d,f]
theorem W6{n:Nat}{bef:List du}{p:du}(h:nA n bef p=0):cm p.a=0/\cm p.b=0:=by
 rw[nA,rY]at h;exact⟨h _ s_,h _ s_⟩
theorem WZ(t:ah)(p:du)(d:List du)(N:t.cs.length<=1000000)(I:vZ p)(m:d.length<=1000000)(H:∀o∈d,rq o):
 al prog 151 [cB t,fo p,.seq (d.map fo)] (.int .i64 (gY t.cs.length d p)):=by
 obtain⟨E,j,k⟩:=I;have k1:=Xg p d m;have k2:=Fe p.name E.1;have k3:=jT (!isName p.name) 8;have k4:=jT (d.any fun o=>decide (o.name=p.name)) 9;have k5:=fun b=>jT b 10;have k6:=D1 p.a j.1 j.2;have k7:=D1 p.b k.1 k.2;have k8:=uv [aZ (!isName p.name) 8,aZ (d.any fun o=>decide (o.name=p.name)) 9,aZ (decide (p.cV<0\/(t.cs.length:Int)<=p.cV)) 10,cm p.a,cm p.b] s_;have g:=W6 (n:=t.cs.length) (bef:=d) (p:=p);rw[Xd];have s:=fun h:nA t.cs.length d p=0=>W0 p ⟨⟨E,j,k⟩,(g h).1,(g h).2⟩ d m H;have u:=fun h:nA t.cs.length d p=0=>JW p.a j (g h).1;have v:=fun h:nA t.cs.length d p=0=>JW p.b k (g h).2;have w:=fun h:nA t.cs.length d p=0=>mE p.a (g h).1 j.1;have x:=fun h:nA t.cs.length d p=0=>mE p.b (g h).2 k.1;have q:=fun h:nA t.cs.length d p=0=>nX ⟨aO p.a,false⟩ ⟨aO p.b,false⟩ ((gN (g h).1).mono d_) ((gN (g h).2).mono d_);dsimp only at q;have D:=jT (decide (0<cr (aO p.a) (aO p.b))) 11;have z:=jT (d.any fun o=>iY o p) 17;have i:=uv [fO (aO p.a),fO (aO p.b),aZ (decide (0<cr (aO p.a) (aO p.b))) 11,aZ (d.any fun o=>iY o p) 17] s_;have B:nA t.cs.length d p=bN [aZ (!isName p.name) 8,aZ (d.any fun o=>decide (o.name=p.name)) 9,aZ (decide (p.cV<0\/(t.cs.length:Int)<=p.cV)) 10,cm p.a,cm p.b]:=rfl;have C:EM d p=bN [fO (aO p.a),fO (aO p.b),aZ (decide (0<cr (aO p.a) (aO p.b))) 11,aZ (d.any fun o=>iY o p) 17]:=rfl;rw[<-B]at k8;rw[<-C]at i;clear B C g;generalize nA t.cs.length d p=l,EM d p=M,cm p.a=J,cm p.b=K,fO (aO p.a)=V,fO (aO p.b)=W,cr (aO p.a) (aO p.b)=A,(d.any fun o=>decide (o.name=p.name))=F,(d.any fun o=>iY o p)=L,isName p.name=G,(⟨aO p.a,false⟩:NF)=v1,(⟨aO p.b,false⟩:NF)=v2 at*;refine gA_ nf func151 mix ?_;have r:∀b:Bool,decide (p.cV<0\/(t.cs.length:Int)<=p.cV)=b->al prog 146 [.bool b,.int .i64 10] (.int .i64 (aZ b 10))/\al prog 145 [.seq [.int .i64 (aZ (!G) 8),.int .i64 (aZ F 9),.int .i64 (aZ b 10),.int .i64 J,.int .i64 K]] (.int .i64 l):=fun b m=>by
  rw[m]at k8;exact⟨k5 b,by simpa using k8⟩
 simp at i;have y:al prog 146 [.bool (decide (0<A)),.int .i64 11] (.int .i64 (aZ (decide (0<A)) 11)):=D;clear k5 k8 D;generalize O:aZ (!G) 8=w1,P:aZ F 9=S,Q:aZ (decide (0<A)) 11=T,R:aZ L 17=U at*;simp[f151,-ba,aa];rw[ba];simp[-ba,aa];rw[ba];simp[-ba,aa];refine cf k1 [1] ?_;simp[-ba,aa,bu,sig]
 by_cases e:p.cV<0
 ·obtain⟨f1,f2⟩:=r true (by simp[e]);rw[ba,ba];simp[-ba,aa];refine e1_ k2 ?_;simp[-ba,aa];refine e2_ k3 ?_;simp[-ba,aa];refine e2_ k4 ?_;simp[-ba,aa,e];refine e2_ f1 ?_;simp[-ba,aa,e];refine e1_ k6 ?_;simp[-ba,aa,e];refine e1_ k7 ?_;simp[-ba,aa,e];refine ep f2 t_ t_ ?_;simp[-ba,aa,e];refine⟨r_,?_⟩
  by_cases c:l=0
  case neg=>simp[c,aa]
  simp[c,aa];refine c2_ (s c) ?_;simp[aa];refine e1_ (u c) ?_;simp[aa];refine e1_ (v c) ?_;simp[aa];refine e1_ (w c) ?_;simp[aa];refine e1_ (x c) ?_;simp[aa];refine e2_ (q c) ?_;simp[aa];refine e2_ y ?_;simp[aa];refine e2_ z ?_;simp[aa];refine ep i t_ t_ ?_;simp[aa];exact⟨by repeat' first|rfl|apply ao,fun h=>(h c).elim⟩
 by_cases f:(t.cs.length:Int)<=p.cV
 ·obtain⟨f1,f2⟩:=r true (by simp[e,f]);rw[ba,ba];simp[-ba,aa];refine e1_ k2 ?_;simp[-ba,aa];refine e2_ k3 ?_;simp[-ba,aa];refine e2_ k4 ?_;simp[-ba,aa,e,f];refine e2_ f1 ?_;simp[-ba,aa,e,f];refine e1_ k6 ?_;simp[-ba,aa,e,f];refine e1_ k7 ?_;simp[-ba,aa,e,f];refine ep f2 t_ t_ ?_;simp[-ba,aa,e,f];refine⟨r_,?_⟩
  by_cases c:l=0
  case neg=>simp[c,aa]
  simp[c,aa];refine c2_ (s c) ?_;simp[aa];refine e1_ (u c) ?_;simp[aa];refine e1_ (v c) ?_;simp[aa];refine e1_ (w c) ?_;simp[aa];refine e1_ (x c) ?_;simp[aa];refine e2_ (q c) ?_;simp[aa];refine e2_ y ?_;simp[aa];refine e2_ z ?_;simp[aa];refine ep i t_ t_ ?_;simp[aa];exact⟨by repeat' first|rfl|apply ao,fun h=>(h c).elim⟩
 ·obtain⟨f1,f2⟩:=r false (by simp[e,f]);rw[ba,ba];simp[-ba,aa];refine e1_ k2 ?_;simp[-ba,aa];refine e2_ k3 ?_;simp[-ba,aa];refine e2_ k4 ?_;simp[-ba,aa,e,f];refine e2_ f1 ?_;simp[-ba,aa,e,f];refine e1_ k6 ?_;simp[-ba,aa,e,f];refine e1_ k7 ?_;simp[-ba,aa,e,f];refine ep f2 t_ t_ ?_;simp[-ba,aa,e,f];refine⟨r_,?_⟩
  by_cases c:l=0
  case neg=>simp[c,aa]
  simp[c,aa];refine c2_ (s c) ?_;simp[aa];refine e1_ (u c) ?_;simp[aa];refine e1_ (v c) ?_;simp[aa];refine e1_ (w c) ?_;simp[aa];refine e1_ (x c) ?_;simp[aa];refine e2_ (q c) ?_;simp[aa];refine e2_ y ?_;simp[aa];refine e2_ z ?_;simp[aa];refine ep i t_ t_ ?_;simp[aa];exact⟨by repeat' first|rfl|apply ao,fun h=>(h c).elim⟩
def ly(a:List de)(s:de):Int:=bN [aZ (!isName s.name) 8,aZ (a.any fun o=>decide (o.name=s.name)) 9,dZ s.pt]
theorem Xb(t:ah)(b:List de)(s:de):lD t b s=if ly b s=0 then aZ (decide (t.on (vP s.pt)<0)) 16 else ly b s:=by
 rw[lD,ly];generalize dZ s.pt=c;generalize (b.any fun o=>decide (o.name=s.name))=a;cases e:isName s.name
 ·simp[bN,aZ]
 cases a
 case true=>simp[bN,aZ]
 by_cases d:c=0
 case neg=>simp[bN,aZ,d]
 simp[bN,aZ,d]
theorem J4{bef:List de}{s:de}(h:ly bef s=0):dZ s.pt=0:=by
 rw[ly,rY]at h;exact h _ s_
theorem Xh(t:ah)(s:de)(a:List de)(l:t.cs.length<=1000000)(hn:∀p∈t.cs,eH p)(hs:qV s)(k:a.length<=1000000):
 al prog 153 [cB t,iQ s,.seq (a.map iQ)] (.int .i64 (lD t a s)):=by
 obtain⟨r,g⟩:=hs;have k1:=Xf s a k;have k2:=Fe s.name r.1;have k3:=jT (!isName s.name) 8;have k4:=jT (a.any fun o=>decide (o.name=s.name)) 9;have k6:=Cl s.pt g;have k8:=uv [aZ (!isName s.name) 8,aZ (a.any fun o=>decide (o.name=s.name)) 9,dZ s.pt] s_;have c:=J4 (bef:=a) (s:=s);rw[Xb];have m:=fun h:ly a s=0=>IE s.pt (kY (c h)).1 (kY (c h)).2 g;have f:=fun h:ly a s=0=>Ui t (.from s.pt) l hn (FV ⟨(gN (kY (c h)).1).mono d_,(gN (kY (c h)).2).mono d_⟩);have n:=jT (decide (t.on (vP s.pt)<0)) 16;rw[fe]at f;have e:ly a s=bN [aZ (!isName s.name) 8,aZ (a.any fun o=>decide (o.name=s.name)) 9,dZ s.pt]:=rfl;rw[<-e]at k8;clear e c;generalize ly a s=d,t.on (vP s.pt)=y,dZ s.pt=u,(a.any fun o=>decide (o.name=s.name))=i,isName s.name=j,NV.from s.pt=v1 at*;refine gA_ nf func153 mix ?_;have q:al prog 145 [.seq [.int .i64 (aZ (!j) 8),.int .i64 (aZ i 9),.int .i64 u]] (.int .i64 d):=by simpa using k8
 clear k8;generalize v:aZ (!j) 8=w1,w:aZ i 9=z,x:aZ (decide (y<0)) 16=A at*;simp[f153,aa];refine cf k1 [1] ?_;simp[aa,bu,sig];refine e1_ k2 ?_;simp[aa];refine e2_ k3 ?_;simp[aa];refine e2_ k4 ?_;simp[aa];refine e1_ k6 ?_;simp[aa];refine ep q t_ t_ ?_;simp[aa];refine⟨r_,?_⟩
 by_cases b:d=0
 case neg=>simp[b,aa]
 simp[b,aa];refine e1_ (m b) ?_;simp[aa];refine e2_ (f b) ?_;simp[aa];refine e2_ n ?_;simp[aa];exact fun h=>(h b).elim
def mq{α:Type}(b:Nat)(a:List α->α->Int)(l:List α):Int:=if b<l.length then 5 else mQ a l
theorem DA{α:Type}{n:Nat}{f:α->PV}(h:∀a,aa (.p (f a))≠.bad/\bZ prog (aa (.p (f a)))=n)(l:List α):gP prog n (l.map (AV.p∘f)):=zQ.2 fun v b=>by
 obtain⟨a,_,rfl⟩:=b5.1 b;exact h a
theorem PK(l:List du):gP prog 4 (l.map (AV.p∘fo)):=DA (fun r=>⟨by simp[aa],by simp[aa]⟩) l
theorem PL(l:List de):gP prog 3 (l.map (AV.p∘iQ)):=DA (fun r=>⟨by simp[aa],by simp[aa]⟩) l
theorem Xu(t:ah)(a:Nat)(h:t.cs.length<=1000000)(m:t.aK.length<=1000000)(c:∀p∈t.aK,vZ p):
 al prog 150 [.seq (t.aK.map fo),.int .i64 a,.func 151 [cB t] []] (.int .i64 (mq a (gY t.cs.length) t.aK)):=by
 refine gA_ nf func150 mix ?_;rw[mq]
 by_cases c1:a<t.aK.length
 ·have cI:(a:Int)<t.aK.length:=by omega
  rw[if_pos c1];simp[f150,cI]
 have d:¬(a:Int)<t.aK.length:=o_
 rw[if_neg c1];simp[f150,d];refine lp (α:=Nat) (fun i=>⟨[(16,.p (.int .i64 i)),(15,.p (.int .i64 t.aK.length)),(14,.p (.seq (t.aK.map fo))),(0,.p (.seq (t.aK.map fo))),(2,.p (.func 151 [cB t] []))],[]⟩) (fun i=>i<=t.aK.length/\∀j,j<i->iC (gY t.cs.length) t.aK j=0) (fun i=>t.aK.length-i) 0 s_ ?_;rintro i ⟨k1,k2⟩
 by_cases hk:i<t.aK.length
 ·have gk:=ah.jo hk;have l:=b8 (i:=i) o_;have b:=WZ t (t.pk i) (t.aK.take i) h (c _ (bf gk)) (by rw[b2];omega) (fun o k=>by
   obtain⟨j,f,rfl⟩:=bo.1 k;rw[b2]at f;rw[c9];have:=k2 j o_;have g:=ah.jo (t:=t) (i:=j) o_;rw[iC,g]at this;rw[ah.EL o_];exact⟨c _ (bf g),BR this⟩)
  rw[dg]at b
  by_cases he:gY t.cs.length (t.aK.take i) (t.pk i)=0
  ·rw[he]at b;have:=wA k2 gk he;simp[hk,gk,aa];refine⟨⟨k1,PK _⟩,?_⟩;refine e3_ b ?_;simp[l,aa];exact rd (i+1) ⟨hk,this⟩
  ·have e:=wC k2 gk he;rw[e];simp[hk,gk,aa];refine⟨⟨k1,PK _⟩,?_⟩;simp[he,aa,e3_ b]
 ·have:i=t.aK.length:=by omega
  subst this;rw[rk.2 k2];simp
theorem Xt(t:ah)(a:Nat)(e:t.cs.length<=1000000)(hn:∀p∈t.cs,eH p)(h:t.aj.length<=1000000)(f:∀p∈t.aj,qV p):
 al prog 152 [.seq (t.aj.map iQ),.int .i64 a,.func 153 [cB t] []] (.int .i64 (mq a (lD t) t.aj)):=by
 refine gA_ nf func152 mix ?_;rw[mq]
 by_cases c1:a<t.aj.length
 ·have cI:(a:Int)<t.aj.length:=by omega
  rw[if_pos c1];simp[f152,cI]
 have c:¬(a:Int)<t.aj.length:=o_
 rw[if_neg c1];simp[f152,c];refine lp (α:=Nat) (fun i=>⟨[(16,.p (.int .i64 i)),(15,.p (.int .i64 t.aj.length)),(14,.p (.seq (t.aj.map iQ))),(0,.p (.seq (t.aj.map iQ))),(2,.p (.func 153 [cB t] []))],[]⟩) (fun i=>i<=t.aj.length/\∀j,j<i->iC (lD t) t.aj j=0) (fun i=>t.aj.length-i) 0 s_ ?_;rintro i ⟨k1,k2⟩
 by_cases hk:i<t.aj.length
 ·have gk:=ah.dY hk;have g:=b8 (i:=i) o_;have b:=Xh t (t.sp i) (t.aj.take i) e hn (f _ (bf gk)) (by rw[b2];omega);rw[dg]at b
  by_cases he:lD t (t.aj.take i) (t.sp i)=0
  ·rw[he]at b;have:=wA k2 gk he;simp[hk,gk,aa];refine⟨⟨k1,PL _⟩,?_⟩;refine e3_ b ?_;simp[g,aa];exact rd (i+1) ⟨hk,this⟩
  ·have d:=wC k2 gk he;rw[d];simp[hk,gk,aa];refine⟨⟨k1,PL _⟩,?_⟩;simp[he,aa,e3_ b]
 ·have:i=t.aj.length:=by omega
  subst this;rw[rk.2 k2];simp
def qg(t:ah):Int:=bN [aZ (decide ((t.cs.length:Int)<3)) 2,aZ (decide (12<(t.cs.length:Int))) 5,aZ (t.cs.any ij) 3]
def sY(t:ah):Int:=bN [aZ (!t.ga) 15,aZ (decide (t.aC<1\/1000<t.aC)) 3,mq 12 (gY t.cs.length) t.aK]
theorem JS{t:ah}(h:qg t=0):3<=t.cs.length/\t.cs.length<=12/\∀p∈t.cs,eH p:=by
 rw[qg,rY]at h;have b:=h (aZ (decide ((t.cs.length:Int)<3)) 2) s_;have d:=h (aZ (decide (12<(t.cs.length:Int))) 5) s_;have a:=h (aZ (t.cs.any ij) 3) s_;refine⟨?_,?_,fun p e=>JZ ?_⟩
 ·by_cases c:(t.cs.length:Int)<3
  ·simp[aZ,c]at b
  ·omega
 ·by_cases c:12<(t.cs.length:Int)
  ·simp[aZ,c]at d
  ·omega
 ·cases hf:ij p
  ·rfl
  ·have:t.cs.any ij=true:=bV.2 ⟨p,e,hf⟩;rw[this]at a;simp[aZ]at a
theorem Fa(t:ah):gd t=if qg t=0 then(if sY t=0 then mq 256 (lD t) t.aj else sY t)else qg t:=by
 rw[gd,qg,sY,mq,mq]
 by_cases c1:t.cs.length<3
 ·have:(t.cs.length:Int)<3:=by omega
  simp[bN,aZ,c1,this]
 have b:¬(t.cs.length:Int)<3:=o_
 by_cases c2:12<t.cs.length
 ·have:(12:Int)<t.cs.length:=by omega
  simp[bN,aZ,c1,c2,b,this]
 have c:¬(12:Int)<t.cs.length:=o_
 generalize t.cs.any ij=a;cases a
 case true=>simp[bN,aZ,c1,c2,b,c]
 cases t.ga
 ·simp[bN,aZ,c1,c2,b,c]
 by_cases c3:t.aC<1\/1000<t.aC
 ·simp[bN,aZ,c1,c2,b,c,c3]
 by_cases c4:12<t.aK.length
 ·simp[bN,aZ,c1,c2,b,c,c3,c4]
 generalize mQ (gY t.cs.length) t.aK=e
 by_cases c5:e=0
 ·simp[bN,aZ,c1,c2,b,c,c3,c4,c5]
 ·simp[bN,aZ,c1,c2,b,c,c3,c4,c5]
theorem W2(t:ah)(v:fu t):al prog 75 [cB t] (.int .i64 (gd t)):=by
 obtain⟨j,z,A,s,u⟩:=v;have k1:=jT (decide ((t.cs.length:Int)<3)) 2;have k2:=jT (decide (12<(t.cs.length:Int))) 5;have k3:=WX t.cs j;have k4:=jT (t.cs.any ij) 3;have k5:=uv [aZ (decide ((t.cs.length:Int)<3)) 2,aZ (decide (12<(t.cs.length:Int))) 5,aZ (t.cs.any ij) 3] s_;have z1:=JS (t:=t);rw[Fa];have w:=fun h:qg t=0=>Xv t (z1 h).1 j (z1 h).2.2;have x:=jT (!t.ga) 15;have q:=fun b=>jT b 3;have l:=Xu t 12 j z s;have i:=uv [aZ (!t.ga) 15,aZ (decide (t.aC<1\/1000<t.aC)) 3,mq 12 (gY t.cs.length) t.aK] s_;have m:=fun h:qg t=0=>Xt t 256 j (z1 h).2.2 A u;have o:qg t=bN [aZ (decide ((t.cs.length:Int)<3)) 2,aZ (decide (12<(t.cs.length:Int))) 5,aZ (t.cs.any ij) 3]:=rfl;have p:sY t=bN [aZ (!t.ga) 15,aZ (decide (t.aC<1\/1000<t.aC)) 3,mq 12 (gY t.cs.length) t.aK]:=rfl;rw[<-o]at k5;rw[<-p]at i;clear o p z1;generalize qg t=n,sY t=g,mq 12 (gY t.cs.length) t.aK=E,mq 256 (lD t) t.aj=L,t.cs.any ij=F,t.ga=G,H:aZ (decide ((t.cs.length:Int)<3)) 2=w1,I:aZ (decide (12<(t.cs.length:Int))) 5=B at*;generalize J:aZ F 3=C,K:aZ (!G) 15=D at*;have k:∀b:Bool,decide (t.aC<1\/1000<t.aC)=b->al prog 146 [.bool b,.int .i64 3] (.int .i64 (aZ b 3))/\al prog 145 [.seq [.int .i64 D,.int .i64 (aZ b 3),.int .i64 E]] (.int .i64 g):=fun b r=>by
  rw[r]at i;exact⟨q b,by simpa using i⟩
 have y:al prog 145 [.seq [.int .i64 w1,.int .i64 B,.int .i64 C]] (.int .i64 n):=by simpa using k5
 clear i q k5;refine gA_ nf func75 mix ?_;simp[f75,aa];refine e2_ k1 ?_;simp[aa];refine e2_ k2 ?_;simp[aa];refine e2_ k3 ?_;simp[aa];refine e2_ k4 ?_;simp[aa];refine ep y t_ t_ ?_;simp[aa];refine⟨r_,?_⟩
 by_cases a:n=0
 case neg=>simp[a,aa]
 simp[a,aa];refine e1_ (w a) ?_;simp[aa];refine e2_ x ?_;simp[aa]
 by_cases r1:t.aC<1
 ·have c:¬1<=t.aC:=by omega
  obtain⟨f1,f2⟩:=k true (by simp[r1]);simp[r1,c,aa];refine e2_ f1 ?_;simp[r1,c,aa];refine e3_ l ?_;simp[r1,c,aa];refine ep f2 t_ t_ ?_;simp[r1,c,aa];refine⟨r_,?_⟩
  by_cases d:g=0
  case neg=>simp[a,d,aa]
  simp[a,d,aa];refine c3_ (m a) ?_;simp[a,d,aa]
 have c:1<=t.aC:=o_
 by_cases e:1000<t.aC
 ·have f:¬t.aC<=1000:=by omega
  obtain⟨f1,f2⟩:=k true (by simp[r1,e]);simp[r1,c,e,f,aa];refine e2_ f1 ?_;simp[r1,c,e,f,aa];refine e3_ l ?_;simp[r1,c,e,f,aa];refine ep f2 t_ t_ ?_;simp[r1,c,e,f,aa];refine⟨r_,?_⟩
  by_cases d:g=0
  case neg=>simp[a,d,aa]
  simp[a,d,aa];refine c3_ (m a) ?_;simp[a,d,aa]
 ·have f:t.aC<=1000:=by omega
  obtain⟨f1,f2⟩:=k false (by simp[r1,e]);simp[r1,c,e,f,aa];refine e2_ f1 ?_;simp[r1,c,e,f,aa];refine e3_ l ?_;simp[r1,c,e,f,aa];refine ep f2 t_ t_ ?_;simp[r1,c,e,f,aa];refine⟨r_,?_⟩
  by_cases d:g=0
  case neg=>simp[a,d,aa]
  simp[a,d,aa];refine c3_ (m a) ?_;simp[a,d,aa]
noncomputable def vQ(i:Nat)(a w:NV):PV:=.st 157 [.int .i64 i,bQ a,bQ w]
@[simp] theorem aUt(i:Nat)(a w:NV):aP (vQ i a w)=.agg 157:=rfl
@[simp] theorem aSP(i:Nat)(a w:NV):cz (vQ i a w)=[.int .i64 i,bQ a,bQ w]:=rfl
@[simp] theorem aR5:prog.cellsOf 157=17:=k_
def ah.cJ(t:ah)(i:Nat):NV:=(di (t.at (t.nx i))).sub (di (t.at i))
theorem ah.rl(t:ah)(i:Nat):(t.cJ i).q=t.bC i:=by rw[ah.cJ,NV.dJ];rfl
theorem J3(p:fh)(h:eH p):al prog 165 [dc p] (bQ (di p)):=by
 simp only[eH]at h;have a:=jx p.x o_ o_;have b:=jx p.y o_ o_;refine gA_ nf func165 mix ?_;rw[di,qL];simp(maxDischargeDepth:=99) [f165,aa,e1 a,e1 b]
theorem Ky(t:ah):al prog 154 [cB t] (.func 250 [] [.cW (cB t)]):=by
 refine gA_ nf func154 mix ?_;simp[f154];show iz [.box false (.p (cB t))] 7 (.p (cB t)) (cB t);rw[BZ];exact Wk.refl _
noncomputable def qj(t:ah)(i:Nat):List PV:=[vQ i (di (t.at i)) (t.cJ i)]
def gD(t:ah)(i:Nat):ak:=[.box false (.p (dc (t.at i))),.box false (.p (dc (t.at (t.nx i))))]
theorem yS{t:ah}{i:Nat}(h:i<t.cs.length):((b3 t.cs.length).map (qj t))[i]?=some (qj t i):=by
 rw[dq,ee h];rfl
theorem J6(t:ah)(F:t.cs.length<=1000000)(hn:∀p∈t.cs,eH p):Kz prog 250 [] [.cW (cB t)] ((b3 t.cs.length).map (qj t)) (gD t):=by
 intro b k d E H' hk a B g;rw[db,c6]at hk g;refine gz nf (i_ func250) mix (by simp[f250]) ?_;simp[f250,aa];refine lp (α:=Nat) (fun i=>⟨[(9,.p (.int .i64 i)),(8,.p (.int .i64 t.cs.length)),(7,.p (.seq (t.cs.map dc))),(1,.p (.cW (cB t))),(0,.map b)],d i⟩) (fun i=>i<=k) (fun i=>k-i) 0 s_ ?_ (hr:=by simp;exact(a 0 o_).2) (hr2:=(a 0 o_).1);rintro i x
 by_cases hi:i<t.cs.length
 ·have n:=b8 (i:=i) o_;have h:=t.kM o_ i;have v:=ah.get hi;have w:=ah.get h;have e1:((i:Int)+1).tmod (t.cs.length:Int)=((t.nx i:Nat):Int):=by
   rw[ah.nx,a7,a6 o_];rfl
  have A:¬t.cs.length=0:=o_
  have z:¬t.cs=[]:=by intro e;rw[e]at hi;simp at hi
  have C:=gE (ah.eg hn hi);have D:=gE (ah.eg hn h);have j:=J3 (t.at i) (ah.eg hn hi);have q:=J3 (t.at (t.nx i)) (ah.eg hn h);have l:=pQ (di (t.at (t.nx i))) (di (t.at i)) (D.mono d_) (C.mono d_);have r:(di (t.at (t.nx i))).sub (di (t.at i))=t.cJ i:=rfl;rw[r]at l;simp[hi,n,e1,A,z,v,w,aa];refine⟨r_,?_⟩;refine e1_ j ?_;simp[aa];refine e1_ q ?_;simp[aa];refine e1_ j ?_;simp[aa];refine e2_ l ?_;simp[aa];have m:ek (d i++gD t i) (d i++gD t i):=ek.app (a i x).1 (by simp[gD])
  by_cases c:i<k
  ·obtain⟨g1,g2,g3,g4,g5⟩:=B i _ c (yS hi);refine yk g1 rfl g2 m g3 (by rfl) (by rfl) fun s f=>?_;simp[f,n];exact rd (i+1) c (hn:=g4) (hh:=g5) (hr:=by simp;exact(a (i+1) c).2) (hr2:=(a (i+1) c).1)
  ·have:i=k:=by omega
   subst this;rcases g with⟨e1,_⟩|⟨y,o,e1,e2,e3,e4,e5,e6,u⟩
   ·omega
   ·rw[yS hi]at e1;injection e1 with e1
    subst e1;refine yk e2 rfl e3 m e4 (by rfl) (by rfl) fun s f=>?_;simp[f];exact .inr (dh.og e5 trivial e6 trivial u)
 ·have:i=t.cs.length:=by omega
  subst this;rcases g with⟨e1,e2⟩|⟨y,o,e1,e2⟩
  ·have:t.cs.length=k:=by omega
   subst this;simp[e2]
  ·rw[ed (by simp;omega)]at e1;cases e1
theorem Fb{t:ah}{v:NV}{i:Nat}(hn:∀p∈t.cs,eH p)(d:aS 3000 v.q)(hi:i<t.cs.length):
 al prog 67 [bQ v,bQ (di (t.at i))] (bQ (v.sub (di (t.at i))))/\al prog 155 [bQ (t.cJ i),bQ (v.sub (di (t.at i)))] (eF ((t.cJ i).aX (v.sub (di (t.at i)))))/\
 al prog 144 [eF ((t.cJ i).aX (v.sub (di (t.at i))))] (.int .i64 (t.side i v.q)):=by
 have a:=gE (ah.eg hn hi);have e:=gE (ah.eg hn (t.kM o_ i));have q1:aS 29 (t.cJ i).q:=by rw[ah.cJ,NV.dJ];exact eB e a
 have f:aS 3015 (v.sub (di (t.at i))).q:=by rw[NV.dJ];exact eB d a
 refine⟨pQ v (di (t.at i)) (d.mono d_) (a.mono d_),BN (t.cJ i) (v.sub (di (t.at i))) (q1.mono d_) (f.mono d_),?_⟩;have b:=mC ((t.cJ i).aX (v.sub (di (t.at i))));have c:bE ((t.cJ i).aX (v.sub (di (t.at i)))).q=t.side i v.q:=by rw[NV.kK,NV.dJ,ah.rl];rfl
 rw[bE]at c;rw[c]at b;exact b
noncomputable def mg(t:ah)(v:NV)(b:Bool)(L:eK):ak:=[.box false (.p (cB t)),.box false (.p (bQ v)),.box false (.p (.bool b)),.loop L]
def NS.add(s t:NS):NS:=⟨s.a.add t.a,s.b.add t.b,s.d⟩
def NS.neg(s:NS):NS:=⟨s.a.neg,s.b.neg,s.d⟩
def NS.times(s:NS)(k:NF):NS:=⟨s.a.mul k,s.b.mul k,s.d⟩
def NB.aX(n:NB)(e:NV):NS:=⟨e.aX n.a,e.aX n.b,n.d⟩
theorem s9(s t:NS)(hs:dK 30000 s)(c:dK 30000 t):al prog 182 [ct s,ct t] (ct (s.add t)):=by
 have d:=pP s.a t.a (hs.1.mono d_) (c.1.mono d_);have e:=pP s.b t.b (hs.2.1.mono d_) (c.2.1.mono d_);refine gA_ nf func182 mix ?_;rw[NS.add,tW];simp(maxDischargeDepth:=99) [f182,aa,e2 d,e2 e]
theorem Fp(s:NS)(hs:dK 30000 s):al prog 157 [ct s] (ct s.neg):=by
 have c:=pN s.a (hs.1.mono d_);have d:=pN s.b (hs.2.1.mono d_);refine gA_ nf func157 mix ?_;rw[NS.neg,tW];simp(maxDischargeDepth:=99) [f157,aa,e1 c,e1 d]
theorem BU(s:NS)(k:NF)(hs:dK 30000 s)(hk:aL 30000 k.q):al prog 186 [ct s,eF k] (ct (s.times k)):=by
 have c:=fF s.a k (hs.1.mono d_) (hk.mono d_);have d:=fF s.b k (hs.2.1.mono d_) (hk.mono d_);refine gA_ nf func186 mix ?_;rw[NS.times,tW];simp(maxDischargeDepth:=99) [f186,aa,e2 c,e2 d]
theorem Xp(n:NB)(e:NV)(hn:okB 8000 n)(c:aS 8000 e.q):al prog 156 [kj n,bQ e] (ct (n.aX e)):=by
 have d:=BN e n.a (c.mono d_) (hn.1.mono d_);have f:=BN e n.b (c.mono d_) (hn.2.1.mono d_);refine gA_ nf func156 mix ?_;rw[NB.aX,tW];simp(maxDischargeDepth:=99) [f156,aa,e2 d,e2 f]
theorem J5(v:NV):al prog 78 [bQ v] (kj ⟨v,⟨.int 0,.int 0⟩,.int 0⟩):=by
 have a:=jx 0 d_ d_;have b:=jx 0 d_ d_;have c:=jx 0 d_ d_;refine gA_ nf func78 mix ?_;rw[TW,qL (.int 0) (.int 0)];simp(maxDischargeDepth:=99) [f78,aa,e1 a,e1 b,e1 c]
def NS.plain(a d:NF):NS:=⟨a,.int 0,d⟩
def NS.norm(s:NS):NF:=(s.a.mul s.a).sub ((s.b.mul s.b).mul s.d)
open Classical in
noncomputable def NS.under(s:NS)(k:NF):NS:=if s.norm.q=0 then .plain (k.div (s.a.add s.a)) s.d else⟨(k.mul s.a).div s.norm,(k.mul s.b).neg.div s.norm,s.d⟩
theorem s8(a d:NF):al prog 183 [eF a,eF d] (ct (.plain a d)):=by
 have b:=jx 0 d_ d_;refine gA_ nf func183 mix ?_;rw[NS.plain,tW];simp[f183,aa,e1 b]
theorem aQJ{x:NF}(h:x.q≠0):(x.add x).q≠0:=by
 show x.q+x.q≠0;intro e;apply h
 grind
theorem aK9(s:NS)(k:NF)(hs:dK 3000 s)(hk:aL 3000 k.q)(e:s.norm.q=0->s.a.q≠0):al prog 161 [ct s,eF k] (ct (s.under k)):=by
 have k1:=fF s.a s.a (hs.1.mono d_) (hs.1.mono d_);have k2:=fF s.b s.b (hs.2.1.mono d_) (hs.2.1.mono d_);have k3:=fF (s.b.mul s.b) s.d ((eL hs.2.1 hs.2.1).mono d_) (hs.2.2.mono d_);have k4:=nW (s.a.mul s.a) ((s.b.mul s.b).mul s.d) ((eL hs.1 hs.1).mono d_) ((eL (eL hs.2.1 hs.2.1) hs.2.2).mono d_);have k5:=mC s.norm;have k6:=pP s.a s.a (hs.1.mono d_) (hs.1.mono d_);have k7:=fun h:s.norm.q=0=>yl k (s.a.add s.a) (hk.mono d_) ((ru hs.1 hs.1).mono d_) (aQJ (e h));have k8:=s8 (k.div (s.a.add s.a)) s.d;have i:=fF k s.a (hk.mono d_) (hs.1.mono d_);have f:=fun h:¬s.norm.q=0=>yl (k.mul s.a) s.norm ((eL hk hs.1).mono d_) ((show aL 15001 s.norm.q from(BQ (eL hs.1 hs.1) (eL (eL hs.2.1 hs.2.1) hs.2.2))).mono d_) h;have l:=fF k s.b (hk.mono d_) (hs.2.1.mono d_);have m:=pN (k.mul s.b) ((eL hk hs.2.1).mono d_);have g:=fun h:¬s.norm.q=0=>yl ((k.mul s.b).neg) s.norm ((sZ (eL hk hs.2.1)).mono d_) ((show aL 15001 s.norm.q from(BQ (eL hs.1 hs.1) (eL (eL hs.2.1 hs.2.1) hs.2.2))).mono d_) h;rw[show(s.a.mul s.a).sub ((s.b.mul s.b).mul s.d)=s.norm from rfl]at k4;refine gA_ nf func161 mix ?_;rw[NS.under]
 by_cases hz:s.norm.q=0
 ·have c:(if s.norm.q<0 then(-1:Int)else if s.norm.q=0 then 0 else 1)=0:=by rw[hz];rfl
  rw[c]at k5;have p:=k7 hz;rw[if_pos hz];clear k7 f g e hz c;generalize k.div (s.a.add s.a)=r,s.a.add s.a=t,s.norm=n at*;simp+decide (maxDischargeDepth:=99) [f161,aa,e2 k1,e2 k2,e2 k3,e2 k4,c1 k5,e2 k6,e2 p,e2 k8]
 ·have c:¬(if s.norm.q<0 then(-1:Int)else if s.norm.q=0 then 0 else 1)=0:=by
   split<;>decide
  have j:=f hz;have o:=g hz;rw[if_neg hz,tW];clear k7 f g e;generalize (if s.norm.q<0 then(-1:Int)else if s.norm.q=0 then 0 else 1)=u at*;clear hz;generalize (k.mul s.a).div s.norm=r1,(k.mul s.b).neg.div s.norm=t,s.norm=n at*;simp+decide (maxDischargeDepth:=99) [f161,aa,c,e2 k1,e2 k2,e2 k3,e2 k4,c1 k5,e2 i,e2 j,e2 l,e1 m,e2 o]
structure XD where
 i:Nat
 a:NV
 w:NV
 g:NF
 s:NS
noncomputable def ig(x:XD):PV:=.st 159 [vQ x.i x.a x.w,eF x.g,ct x.s]
@[simp] theorem aUv(x:XD):aP (ig x)=.agg 159:=rfl
@[simp] theorem aSR(x:XD):cz (ig x)=[vQ x.i x.a x.w,eF x.g,ct x.s]:=rfl
@[simp] theorem aR6:prog.cellsOf 159=33:=k_
def me(x:XD):Prop:=x.i<=1000000/\aL 1900 x.g.q/\dK 1900 x.s
def uc(x y:XD):Int:=if bW ((y.s.times x.g).add ((x.s.times y.g).neg)).q=0 then(x.i:Int)-y.i else bW ((y.s.times x.g).add ((x.s.times y.g).neg)).q
theorem wz{a b:Nat}{s:NS}{k:NF}(hs:dK a s)(hk:aL b k.q):dK (a+b) (s.times k):=⟨eL hs.1 hk,eL hs.2.1 hk,hs.2.2.mono o_⟩
theorem BP{a:Nat}{s:NS}(hs:dK a s):dK a s.neg:=⟨sZ hs.1,sZ hs.2.1,hs.2.2⟩
theorem yY{a b:Nat}{s t:NS}(hs:dK a s)(c:dK b t):dK (a+b+1) (s.add t):=⟨ru hs.1 c.1,ru hs.2.1 c.2.1,hs.2.2.mono o_⟩
theorem dK.mono{k l:Nat}{s:NS}(h:dK k s)(a:k<=l):dK l s:=⟨h.1.mono a,h.2.1.mono a,h.2.2.mono a⟩
theorem W9(x y:XD)(hx:me x)(d:me y):al prog 159 [ig x,ig y] (.int .i64 (uc x y)):=by
 obtain⟨e,b,a⟩:=hx;obtain⟨y1,y2,y3⟩:=d;have k1:=BU y.s x.g (y3.mono d_) (b.mono d_);have k2:=BU x.s y.g (a.mono d_) (y2.mono d_);have k3:=Fp (x.s.times y.g) ((wz a y2).mono d_);have k4:=s9 (y.s.times x.g) (x.s.times y.g).neg ((wz y3 b).mono d_) ((BP (wz a y2)).mono d_);have k5:=oO ((y.s.times x.g).add (x.s.times y.g).neg) ((yY (wz y3 b) (BP (wz a y2))).mono d_);have w1:a4.wrap ((x.i:Int)-y.i)=(x.i:Int)-y.i:=aU _ o_ o_;refine gA_ nf func159 mix ?_;rw[uc];generalize bW ((y.s.times x.g).add (x.s.times y.g).neg).q=r at*;generalize (y.s.times x.g).add (x.s.times y.g).neg=v1 at*;generalize (x.s.times y.g).neg=v2 at*;generalize x.s.times y.g=v3,y.s.times x.g=v4 at*
 by_cases c:r=0
 ·simp(maxDischargeDepth:=99) [f159,aa,c,w1,e2 k1,e2 k2,e1 k3,e2 k4,e1 k5]
 ·simp(maxDischargeDepth:=99) [f159,aa,c,e2 k1,e2 k2,e1 k3,e2 k4,e1 k5]
theorem Cb(x:XD)(hx:me x)(b:x.s.norm.q=0->x.s.a.q≠0):al prog 81 [ig x] (ct (x.s.under x.g)):=by
 obtain⟨e,c,d⟩:=hx;have k1:=aK9 x.s x.g (d.mono d_) (c.mono d_) b;refine gA_ nf func81 mix ?_;generalize x.s.under x.g=r at*;simp[f81,aa,c2 k1]
def vV(m x:XD):XD:=if uc x m<0 then x else m
def iT(m:XD)(l:List XD):XD:=l.foldl vV m
theorem E7(m:XD):iT m []=m:=List.foldl_nil
theorem Xe(m x:XD)(r:List XD):iT m (x::r)=iT (vV m x) r:=List.foldl_cons ..
def zF:PV:=.st 100 [.st 98 [.int .i64 0,.aM],.st 98 [.int .i64 0,.aM]]
def zV:PV:=.st 121 [zF,zF]
def BD:PV:=.st 159 [.st 157 [.int .i64 0,zV,zV],zF,.st 151 [zF,zF,zF]]
@[simp] theorem aWq:cO prog 160=some BD:=k_
@[simp] theorem aU5:aP BD=.agg 159:=rfl
theorem Xx(a:XD)(l:List XD)(g:l.length<=1000000)(d:me a)(hx:∀x∈l,me x):
 al prog 158 [.seq ((a::l).map ig),.func 159 [] []] (ig (iT a l)):=by
 refine gA_ nf func158 mix ?_;have e:¬((l.length:Int)+1<1):=o_
 simp[f158,e];refine lp (α:=Nat×XD) (fun(i,m)=>⟨[(6,.p (.int .i64 ((i+1:Nat):Int))),(5,.ptr 1 []),(4,.ptr 0 []),(0,.p (.seq (ig a::l.map ig))),(1,.p (.func 159 [] []))],[.box false (.p BD),.box false (.p (ig m))]⟩) (fun(i,m)=>i<=l.length/\me m/\iT m (l.drop i)=iT a l) (fun(i,_)=>l.length-i) (0,a) (by simp;exact d) ?_ (he:=s_);rintro⟨i,m⟩ ⟨g1,g2,g3⟩;dsimp only at g1 g2 g3⊢
 by_cases hi:i<l.length
 ·have b:a4.wrap ((i:Int)+1+1)=(i:Int)+1+1:=aU _ o_ o_;have f:=W9 l[i] m (hx _ (ca hi)) g2;rw[bi hi,Xe]at g3;simp[hi];refine⟨o_,?_⟩;refine e2 f ?_;rw[vV]at g3
  by_cases c:uc l[i] m<0
  ·rw[if_pos c]at g3;simp[c,hi,b];exact⟨o_,rd (i+1,l[i]) ⟨hi,hx _ (ca hi),g3⟩⟩
  ·rw[if_neg c]at g3;simp[c,b];exact rd (i+1,m) ⟨hi,g2,g3⟩
 ·have:i=l.length:=by omega
  subst this;rw[List.drop_length,E7]at g3;subst g3;simp
@[simp] theorem aTf:cz BD=[.st 157 [.int .i64 0,zV,zV],zF,.st 151 [zF,zF,zF]]:=rfl
def ah.bD(t:ah)(p:NV)(n:NB)(i:Nat):XD:=⟨i,di (t.at i),t.cJ i,(t.cJ i).aX (p.sub (di (t.at i))),(n.aX (t.cJ i)).neg⟩
def ah.pos(t:ah)(n:NB)(i:Nat):Bool:=decide (0<bW ((n.aX (t.cJ i)).neg).q)
def ah.fK(t:ah)(p:NV)(n:NB)(m:Nat):List XD:=((b3 m).filter (t.pos n)).map (t.bD p n)
theorem ah.Fc(t:ah)(p:NV)(n:NB)(m:Nat):t.fK p n (m+1)=if t.pos n m=true then t.fK p n m++[t.bD p n m]else t.fK p n m:=by
 rw[ah.fK,da,ei,eb]
 by_cases h:t.pos n m=true
 ·rw[if_pos h,List.filter_cons_of_pos h];rfl
 ·rw[if_neg h,List.filter_cons_of_neg h,List.filter_nil,cd,ew];rfl
theorem ah.Kx(t:ah)(p:NV)(n:NB)(m:Nat):(t.fK p n m).length<=m:=by
 rw[ah.fK,db];have:=ec (t.pos n) (b3 m)
 rwa [c6]at this
theorem yT{t:ah}{p:NV}{n:NB}{i:Nat}(j:t.cs.length<=1000000)(hn:∀c∈t.cs,eH c)(f:aS 800 p.q)(d:okB 900 n)(hi:i<t.cs.length):me (t.bD p n i):=by
 have e:=gE (ah.eg hn hi);have g:=gE (ah.eg hn (t.kM o_ i));have q1:aS 29 (t.cJ i).q:=by rw[ah.cJ,NV.dJ];exact eB g e
 have h:aS 815 (p.sub (di (t.at i))).q:=by rw[NV.dJ];exact eB f e
 refine⟨?_,?_,j0 ?_,j0 ?_,d.2.2.mono d_⟩
 ·show i<=1000000;omega
 ·show aL 1900 ((t.cJ i).aX (p.sub (di (t.at i)))).q;rw[NV.kK];exact(lB q1 h).mono d_
 ·show aL 1900 ((t.cJ i).aX n.a).q;rw[NV.kK];exact(lB q1 d.1).mono d_
 ·show aL 1900 ((t.cJ i).aX n.b).q;rw[NV.kK];exact(lB q1 d.2.1).mono d_
noncomputable def ir(t:ah)(p:NV)(n:NB)(s:AV)(L:eK):ak:=[.box false (.p (cB t)),.box false (.p (bQ p)),.box false (.p (kj n)),.box false (.p BD),.box false s,.loop L]
noncomputable def jj(t:ah)(p:NV)(n:NB)(L:eK):List XD->ak
 |[]=>ir t p n (.p .aM) L
 |x::r=>ir t p n (.sl 11 r.length 33 0 (r.length+1)) L++[.hole,.hole,.hole,.hole,.hole,.arr .grow r.length 33 ((x::r).map fun x=>.p (ig x))]
noncomputable def Uq(t:ah)(p:NV)(n:NB)(L:eK)(i:Nat):ak:=
 if t.pos n i=true then
  match t.fK p n i with
  |[]=>ir t p n (.sl 11 0 33 0 1) L++gD t i++[.hole,.hole,.hole,.arr .grow 0 33 [.p (ig (t.bD p n i))]]
  |x::r=>ir t p n (.sl 11 (r.length+1) 33 0 (r.length+2)) L++[.hole,.hole,.hole,.hole,.hole,.arr .grow (r.length+1) 33 ((x::r++[t.bD p n i]).map fun x=>.p (ig x))]++gD t i
 else jj t p n L (t.fK p n i)++gD t i
theorem ID(t:ah)(p:NV)(n:NB)(u:t.cs.length<=1000000)(hn:∀c∈t.cs,eH c)(y:aS 800 p.q)(d:okB 900 n)(o:XD)(l:List XD)(w:t.fK p n t.cs.length=o::l):al prog 77 [cB t,bQ p,kj n] (ig (iT o l)):=by
 refine gA_ nf func77 mix ?_;simp[f77,aa];refine c1 (Ky t) ?_;simp;refine V7 (J6 t u hn) rfl s_ (fun L i=>jj t p n L (t.fK p n i)) (fun L i=>Uq t p n L i) t.cs.length s_ (fun L=>rfl) ?_ ?_ ?_
 ·intro L a i hi;generalize t.fK p n i=z;cases z with
  |nil=>
   refine⟨rfl,by simp[jj,ir],fun _ hx=>?_⟩;simp[jj,ir]at hx⊢;exact hx
  |cons x r=>
   refine⟨rfl,by simp[jj,ir],fun _ hx=>?_⟩;simp[jj,ir]at hx⊢;exact hx
 ·intro L a i x hi hx;rw[yS o_]at hx;injection hx with hx
  subst hx;have C:=yT u hn y d hi;obtain⟨B,a2,a3⟩:=Fb hn (y.mono d_) hi;have hs:=ah.Fc t p n i;have v:=ah.Kx t p n i;have G:=gE (ah.eg hn hi);have H:=gE (ah.eg hn (t.kM o_ i));have q1:aS 29 (t.cJ i).q:=by rw[ah.cJ,NV.dJ];exact eB H G
  have I:dK 1900 (n.aX (t.cJ i)).neg:=C.2.2;have J:dK 1900 (n.aX (t.cJ i)):=⟨by rw[NB.aX,NV.kK];exact(lB q1 d.1).mono d_,by rw[NB.aX,NV.kK];exact(lB q1 d.2.1).mono d_,d.2.2.mono d_⟩
  have g:=Xp n (t.cJ i) (d.mono d_) (q1.mono d_);have k:=Fp (n.aX (t.cJ i)) (J.mono d_);have m:=oO (n.aX (t.cJ i)).neg (I.mono d_);have E:t.pos n i=decide (0<bW ((n.aX (t.cJ i)).neg).q):=rfl;have K:t.bD p n i=⟨i,di (t.at i),t.cJ i,(t.cJ i).aX (p.sub (di (t.at i))),(n.aX (t.cJ i)).neg⟩:=rfl;rw[Uq];have e:=congrArg eK.env a;dsimp only at e;clear C I J q1 G H a3;generalize t.fK p n (i+1)=A,t.fK p n i=z at*
  by_cases b:t.pos n i=true
  case neg=>
   rw[if_neg b]at hs⊢;subst hs;have f:¬0<bW ((n.aX (t.cJ i)).neg).q:=by rw[E]at b;simpa using b
   have F:bW ((n.aX (t.cJ i)).neg).q<=0:=o_
   generalize bW ((n.aX (t.cJ i)).neg).q=M,(n.aX (t.cJ i)).neg=v2,n.aX (t.cJ i)=v1 at*;refine⟨?_,s_,fun j _ h=>h,by cases A<;>rfl,?_⟩
   ·cases A with
    |nil=>
     refine sU nf mix a rfl rfl k_ ?_;clear a;simp[jj,ir,qj,gD,aa];refine c2 g ?_;simp[aa];refine c1 k ?_;simp[aa];refine c1 m ?_;simp[aa,f,F];refine dh.og s_ s_ s_ s_ ?_;simp;exact uz e s_
    |cons x r=>
     refine sU nf mix a rfl rfl k_ ?_;clear a;simp[jj,ir,qj,gD,aa];refine c2 g ?_;simp[aa];refine c1 k ?_;simp[aa];refine c1 m ?_;simp[aa,f,F];refine dh.og s_ s_ s_ s_ ?_;simp;exact uz e s_
   ·cases A with
    |nil=>simp[jj,ir,gD]
    |cons x r=>simp[jj,ir,gD]
  rw[if_pos b]at hs⊢;have f:0<bW ((n.aX (t.cJ i)).neg).q:=by rw[E]at b;simpa using b
  rw[b,K]at*;generalize bW ((n.aX (t.cJ i)).neg).q=M,(n.aX (t.cJ i)).neg=v2,n.aX (t.cJ i)=v1,(t.cJ i).aX (p.sub (di (t.at i)))=v3,p.sub (di (t.at i))=v4 at*;cases z with
  |nil=>
   rw[List.nil_append]at hs;subst hs;refine⟨?_,by simp[jj,ir,gD],fun j s h=>?_,rfl,?_⟩
   ·refine sU nf mix a rfl rfl k_ ?_;clear a;simp[jj,ir,qj,gD,aa];refine c2 g ?_;simp[aa];refine c1 k ?_;simp[aa];refine c1 m ?_;simp[aa,f];refine e2_ B ?_;simp[aa];refine e2_ a2 ?_;simp[aa];refine⟨d_,⟨by repeat' first|rfl|apply ao,by repeat' first|rfl|apply ao⟩,?_⟩;refine dh.og s_ s_ (by simp[ig]) s_ ?_;simp;exact uz e s_
   ·rcases j with _|_|_|_|_|_|_|_|j
    all_goals first|(simp[ir,gD]at h;done)|(simp[jj,ir,gD]at s;omega)
   ·simp[jj,ir,gD]
  |cons x r=>
   have N:r.length+2<=dA:=by
    have:i<=1000000:=o_
    rw[dz]at v;simp only[dA];omega
   rw[ea]at hs;subst hs;refine⟨?_,by simp[jj,ir,gD],fun j s h=>?_,by simp[jj,ir],?_⟩
   ·refine sU nf mix a rfl rfl k_ ?_;clear a;simp[jj,ir,qj,gD,aa];refine c2 g ?_;simp[aa];refine c1 k ?_;simp[aa];refine c1 m ?_;simp[aa,f];refine e2_ B ?_;simp[aa];refine e2_ a2 ?_;simp[aa];refine⟨o_,⟨by repeat' first|rfl|apply ao,by repeat' first|rfl|apply ao⟩,?_⟩;refine dh.og (by simp[ig]) s_ (by simp[ig]) s_ ?_;simp;exact uz e s_
   ·rcases j with _|_|_|_|_|_|_|_|_|_|_|_|_|_|j
    all_goals first|(simp[ir,gD]at h;done)|(simp[jj,ir,gD];done)|(simp[jj,ir,gD]at s;omega)
   ·simp[jj,ir,gD]
 ·intro L a;refine .inl ⟨s_,?_⟩;rw[w];simp[jj,ir];have D:∀x∈o::l,me x:=fun x hx=>by
   rw[<-w,ah.fK]at hx;obtain⟨i,hi,rfl⟩:=b5.1 hx;exact yT u hn y d (cx.1 (eq.1 hi).1)
  have v:=ah.Kx t p n t.cs.length;rw[w,dz]at v;refine cp (Xx o l o_ (D _ dl) (fun x hx=>D x (dd _ hx))) (by simp[p0,mN,Xj (vs:=l.map ig) (l:=l.map fun x=>AV.p (ig x)) s_];exact⟨rfl,rfl⟩) ?_;simp
theorem FC(t:ah)(i:Nat)(hi:i<t.cs.length)(c:t.cs.length<=1000000)(hn:∀p∈t.cs,eH p):al prog 190 [cA t,.int .i64 i] (.aE [eV (c7 (t.at i)),eV (t.bC i)]):=by
 have b:=ah.get hi;have g:=gE (ah.eg hn hi);have h:=gE (ah.eg hn (t.kM o_ i));have d:=wy (t.at i) (ah.eg hn hi);have e:=BX t i hi c;have f:=wy (t.at (t.nx i)) (ah.eg hn (t.kM o_ i));have a:=lj (c7 (t.at (t.nx i))) (c7 (t.at i)) (h.mono d_) (g.mono d_);rw[show(c7 (t.at (t.nx i))).sub (c7 (t.at i))=t.bC i from rfl]at a;refine gA_ nf func190 mix ?_;generalize t.bC i=w at*;simp+decide (maxDischargeDepth:=99) [f190,aa,b,hi,e1 d,e2 e,e1 f,e2 a]
def ah.dT(t:ah)(d:V2)(i:Nat):Rat:=d.aX (t.bC i)
def ah.fL(t:ah)(p d:V2)(i:Nat):Rat:=(t.bC i).aX (p.sub (c7 (t.at i)))/t.dT d i
def ah.fW(t:ah)(p d:V2):Nat->Int×Rat
 |0=>(-1,0)
 |m+1=>if bE (t.dT d m)<=0 then t.fW p d m else if(t.fW p d m).1<0\/cr (t.fL p d m) (t.fW p d m).2<0 then((m:Int),t.fL p d m)else t.fW p d m
theorem Fg{t:ah}{p d:V2}{i:Nat}(hn:∀c∈t.cs,eH c)(f:aS 90 p)(e:aS 90 d)(hi:i<t.cs.length):aL 239 (t.dT d i)/\aL 269 ((t.bC i).aX (p.sub (c7 (t.at i))))/\aL 508 (t.fL p d i):=by
 have w:=ah.okW hn hi;have g:=gE (ah.eg hn hi);have a:=lB e w;have b:=lB w (eB f g);exact⟨a.mono d_,b.mono d_,(iq b a).mono d_⟩
theorem JY{t:ah}{p d:V2}(hn:∀c∈t.cs,eH c)(b:aS 90 p)(a:aS 90 d):∀m,m<=t.cs.length->aL 508 (t.fW p d m).2
 |0,_=>(show aL 1 (0:Rat)from⟨d_,d_⟩).mono d_
 |m+1,h=>by
  have e:=JY hn b a m o_;rw[ah.fW]
  split
  ·exact e
  ·split
   ·exact(Fg hn b a o_).2.2
   ·exact e
theorem Mi(t:ah)(p d:V2)(n:t.cs.length<=1000000)(hn:∀c∈t.cs,eH c)(a:aS 90 p)(g:aS 90 d):al prog 105 [cA t,eV p,eV d] (.aE [.int .i64 (t.fW p d t.cs.length).1,.str (aN (t.fW p d t.cs.length).2)]):=by
 refine gA_ nf func105 mix ?_;have k:aN 0=[48]:=pI;simp[f105,aa];refine lp (α:=Nat) (fun i=>⟨[(10,.p (.int .i64 i)),(9,.p (.str (aN (t.fW p d i).2))),(8,.p (.int .i64 (t.fW p d i).1)),(5,.ptr 2 []),(4,.ptr 1 []),(3,.ptr 0 [])],[.box false (.p (cA t)),.box false (.p (eV p)),.box false (.p (eV d))]⟩) (fun i=>i<=t.cs.length) (fun i=>t.cs.length-i) 0 s_ ?_ (he:=by simp[ah.fW,k]);rintro i m
 by_cases hi:i<t.cs.length
 ·have f:=b8 (i:=i) o_;obtain⟨h,r,s⟩:=Fg hn a g hi;have u:=JY hn a g i m;have w:=ah.okW hn hi;have j:=gE (ah.eg hn hi);have k1:=FC t i hi n hn;have k2:=yQ d (t.bC i) (g.mono d_) (w.mono d_);have k3:=mA (t.dT d i) (h.mono d_);have k4:=lj p (c7 (t.at i)) (a.mono d_) (j.mono d_);have k5:=yQ (t.bC i) (p.sub (c7 (t.at i))) (w.mono d_) ((eB a j).mono d_);rw[show d.aX (t.bC i)=t.dT d i from rfl]at k2;have hs:t.fW p d (i+1)=if bE (t.dT d i)<=0 then t.fW p d i else if(t.fW p d i).1<0\/cr (t.fL p d i) (t.fW p d i).2<0 then((i:Int),t.fL p d i)else t.fW p d i:=rfl
  by_cases c1:bE (t.dT d i)<=0
  ·rw[if_pos c1]at hs;simp[hi,aa];refine c2 k1 ?_;simp[aa];refine c2 k2 ?_;simp[aa];refine c1_ k3 ?_;simp[aa,c1,f];exact rd (i+1) hi (he:=by rw[hs];simp)
  ·rw[if_neg c1]at hs;have q:t.dT d i≠0:=fun e=>c1 (by rw[e];decide);have k6:=nH ((t.bC i).aX (p.sub (c7 (t.at i)))) (t.dT d i) (r.mono d_) (h.mono d_) q;rw[show(t.bC i).aX (p.sub (c7 (t.at i)))/t.dT d i=t.fL p d i from rfl]at k6;have k7:=oL (t.fL p d i) (t.fW p d i).2 (s.mono d_) (u.mono d_);generalize v:t.fW p d i=F at*;obtain⟨b,l⟩:=F;dsimp only at*;generalize cr (t.fL p d i) l=o at*
   by_cases c2:b<0
   ·rw[if_pos (.inl c2)]at hs;simp[hi,aa];refine c2_ k1 ?_;simp[aa];refine c2_ k2 ?_;simp[aa];refine c1_ k3 ?_;simp[aa,c1];refine e2_ k4 ?_;simp[aa];refine e2_ k5 ?_;simp[aa];refine e2_ k6 ?_;simp[aa,c2,f];exact rd (i+1) hi (he:=by rw[hs];simp)
   ·by_cases c3:o<0
    ·rw[if_pos (.inr c3)]at hs;simp[hi,aa];refine c2_ k1 ?_;simp[aa];refine c2_ k2 ?_;simp[aa];refine c1_ k3 ?_;simp[aa,c1];refine e2_ k4 ?_;simp[aa];refine e2_ k5 ?_;simp[aa];refine e2_ k6 ?_;simp[aa,c2];refine c2_ k7 ?_;simp[aa,c2,c3,f];exact rd (i+1) hi (he:=by rw[hs];simp)
    ·rw[if_neg o_]at hs;simp[hi,aa];refine c2_ k1 ?_;simp[aa];refine c2_ k2 ?_;simp[aa];refine c1_ k3 ?_;simp[aa,c1];refine e2_ k4 ?_;simp[aa];refine e2_ k5 ?_;simp[aa];refine e2_ k6 ?_;simp[aa,c2];refine c2_ k7 ?_;simp[aa,c2,c3,f];exact rd (i+1) hi (he:=by rw[hs];simp)
 ·have:i=t.cs.length:=by omega
  subst this;simp
theorem Kl(p d:V2)(s:Rat)(c:aS 90 p)(a:aS 90 d)(hs:aL 508 s):al prog 120 [eV p,eV d,.str (aN s)] (eV (p.add (d.mul s))):=by
 have k1:=JM d s (a.mono d_) (hs.mono d_);have b:aS 598 (d.mul s):=⟨bh a.1 hs,bh a.2 hs⟩
 have k2:=aBP p (d.mul s) (c.mono d_) (b.mono d_);refine gA_ nf func120 mix ?_;generalize p.add (d.mul s)=r,d.mul s=q at*;simp(maxDischargeDepth:=99) [f120,aa,e2 k1,e2 k2]
theorem mn{t:ah}(h:gd t=0):3<=t.cs.length/\t.cs.length<=12/\(∀p∈t.cs,eH p)/\t.ga=true:=by
 rw[Fa]at h
 by_cases d:qg t=0
 ·rw[if_pos d]at h
  by_cases e:sY t=0
  ·obtain⟨a,b,c⟩:=JS d;refine⟨a,b,c,?_⟩;rw[sY,rY]at e;have f:=e (aZ (!t.ga) 15) s_;cases hc:t.ga
   ·rw[hc]at f;simp[aZ]at f
   ·rfl
  ·rw[if_neg e]at h;exact(e h).elim
 ·rw[if_neg d]at h;exact(d h).elim
theorem aL1:It prog 152 0=some (151,.agg 100):=k_
@[simp] theorem aSM(u:NS):AZ prog 152 0 (.p (ct u))=some (True,{v:=.p (eF u.a)}):=by
 simp[AZ,aL1]
def bK(v:NV):NB:=⟨v,⟨.int 0,.int 0⟩,.int 0⟩
def rh(d:bS):NB:=⟨.from d,⟨.int 0,.int 0⟩,.int 0⟩
theorem XA(x o:Int):jB x 0 o=x:=by
 rw[jB]
 by_cases h:x=0
 ·simp[h]
 ·simp;omega
theorem JO{s:S3}(c:s.b=0):bW s=bE s.a:=by
 rw[bW,c,show bE (0:Rat)=0 from rfl,Int.zero_mul,XA]
theorem BS{a b:Rat}:cr a b<0↔a<b:=by
 rw[cr];constructor
 ·intro h
  split at h
  ·assumption
  ·split at h<;>omega
 ·intro h;rw[if_pos h];decide
theorem Ff{a:Rat}:bE a<=0↔a<=0:=by
 rw[bE]
 split
 ·grind
 ·split<;>grind
theorem wL(t:ah)(d:NV)(i:Nat):((bK d).aX (t.cJ i)).neg.q=⟨t.dT (d.q) i,0,0⟩:=by
 have c:((bK d).aX (t.cJ i)).neg.a.q=t.dT (d.q) i:=by
  show -((t.cJ i).aX (d)).q=_;rw[NV.kK,ah.rl,ah.dT,V2.aX,V2.aX]
  grind
 have e:((bK d).aX (t.cJ i)).neg.b.q=0:=by
  show -((t.cJ i).aX ⟨.int 0,.int 0⟩).q=0;rw[NV.kK];show -((t.cJ i).q.x*0-(t.cJ i).q.y*0)=0
  grind
 rw[NS.q,c,e];rfl
theorem Lu(t:ah)(d:NV)(i:Nat):t.pos (bK d) i=decide (0<t.dT (d.q) i):=by
 rw[ah.pos,wL,JO rfl];dsimp only;have:=Ff (a:=t.dT (d.q) i)
 by_cases h:0<t.dT (d.q) i
 ·have b:¬bE (t.dT (d.q) i)<=0:=fun e=>by have:=this.1 e;grind
  rw[decide_eq_true h,decide_eq_true o_]
 ·have b:bE (t.dT (d.q) i)<=0:=this.2 (by grind);rw[decide_eq_false h,decide_eq_false o_]
theorem Uu(t:ah)(p:bS)(n:NB)(i:Nat):(t.bD (.from p) n i).g.q=(t.bC i).aX ((vP p).sub (c7 (t.at i))):=by
 show((t.cJ i).aX ((NV.from p).sub (di (t.at i)))).q=_;rw[NV.kK,NV.dJ,ah.rl];rfl
theorem B0(t:ah)(p:bS)(d:NV)(i:Nat):(t.bD (.from p) (bK d) i).s.norm.q=t.dT (d.q) i*t.dT (d.q) i:=by
 have h:=wL t d i;show(((((bK d).aX (t.cJ i)).neg.a).mul (((bK d).aX (t.cJ i)).neg.a)).sub (((((bK d).aX (t.cJ i)).neg.b).mul (((bK d).aX (t.cJ i)).neg.b)).mul (((bK d).aX (t.cJ i)).neg.d))).q=_;rw[NF.dJ];show(((bK d).aX (t.cJ i)).neg.q.a)*(((bK d).aX (t.cJ i)).neg.q.a)-(((bK d).aX (t.cJ i)).neg.q.b)*(((bK d).aX (t.cJ i)).neg.q.b)*(((bK d).aX (t.cJ i)).neg.q.d)=_;rw[h]
 grind
theorem aLW(t:ah)(p:bS)(d:NV)(i:Nat)(h:t.dT (d.q) i≠0):((t.bD (.from p) (bK d) i).s.under (t.bD (.from p) (bK d) i).g).a.q=t.fL (vP p) (d.q) i:=by
 have hn:=B0 t p d i;have f:=Uu t p (bK d) i;have hs:(t.bD (.from p) (bK d) i).s.a.q=t.dT (d.q) i:=congrArg S3.a (wL t d i);have c:¬(t.bD (.from p) (bK d) i).s.norm.q=0:=by
  rw[hn];intro e;rcases fb.1 e with e|e<;>exact h e
 generalize t.bD (.from p) (bK d) i=x at*;rw[NS.under,if_neg c];show x.g.q*x.s.a.q/x.s.norm.q=_;rw[hn,f,hs,ah.fL];generalize t.dT (d.q) i=a,(t.bC i).aX ((vP p).sub (c7 (t.at i)))=b at*
 grind
theorem aLk(t:ah)(p:bS)(d:NV){i j:Nat}(w:j<i)(hi:0<t.dT (d.q) i)(u:0<t.dT (d.q) j):uc (t.bD (.from p) (bK d) i) (t.bD (.from p) (bK d) j)<0↔t.fL (vP p) (d.q) i<t.fL (vP p) (d.q) j:=by
 have e:∀a b:Nat,((t.bD (.from p) (bK d) b).s.times (t.bD (.from p) (bK d) a).g).q=⟨t.dT (d.q) b*(t.bC a).aX ((vP p).sub (c7 (t.at a))),0,0⟩:=by
  intro a b;have r:=Uu t p (bK d) a;have hs:(t.bD (.from p) (bK d) b).s.q=⟨t.dT (d.q) b,0,0⟩:=wL t d b;generalize t.bD (.from p) (bK d) a=x,t.bD (.from p) (bK d) b=y at*;rw[NS.q]at hs⊢;injection hs with c f o
  show(⟨y.s.a.q*x.g.q,y.s.b.q*x.g.q,y.s.d.q⟩:S3)=_;rw[c,f,o,r,Rat.zero_mul]
 have hc:(((t.bD (.from p) (bK d) j).s.times (t.bD (.from p) (bK d) i).g).add ((t.bD (.from p) (bK d) i).s.times (t.bD (.from p) (bK d) j).g).neg).q=⟨t.dT (d.q) j*(t.bC i).aX ((vP p).sub (c7 (t.at i)))+-(t.dT (d.q) i*(t.bC j).aX ((vP p).sub (c7 (t.at j)))),0,0⟩:=by
  have c:=e i j;have f:=e j i;generalize (t.bD (.from p) (bK d) j).s.times (t.bD (.from p) (bK d) i).g=x,(t.bD (.from p) (bK d) i).s.times (t.bD (.from p) (bK d) j).g=y at*;rw[NS.q]at c f⊢;injection c with l a2 a3
  injection f with m n v
  show(⟨x.a.q+-y.a.q,x.b.q+-y.b.q,x.d.q⟩:S3)=_;rw[l,a2,a3,m,n,show(0:Rat)+-0=0 by grind]
 rw[uc,hc,JO rfl];dsimp only;rw[ah.fL,ah.fL];show(if bE _=0 then(i:Int)-(j:Int)else bE _)<0↔_;generalize t.dT (d.q) i=a,t.dT (d.q) j=b,(t.bC i).aX ((vP p).sub (c7 (t.at i)))=g,(t.bC j).aX ((vP p).sub (c7 (t.at j)))=k at*;have key:b*g+-(a*k)<0↔g/a<k/b:=by
  rw[fv hi,fl,fw,Rat.mul_comm b⁻¹ a,<-fw,<-fl,Rat.lt_div_iff u];constructor<;>intro h<;>grind
 rw[bE]
 by_cases c1:b*g+-(a*k)<0
 ·rw[if_pos c1];exact⟨fun _=>key.1 c1,fun _=>by rw[if_neg d_];decide⟩
 ·rw[if_neg c1];have:¬g/a<k/b:=fun h=>c1 (key.2 h)
  by_cases c2:b*g+-(a*k)=0
  ·rw[if_pos c2,if_pos rfl];exact⟨fun h=>by omega,fun h=>(this h).elim⟩
  ·rw[if_neg c2,if_neg d_];exact⟨fun h=>by omega,fun h=>(this h).elim⟩
theorem LB(t:ah)(p:bS)(d:NV):∀m:Nat,match t.fK (.from p) (bK d) m with
  |[]=>t.fW (vP p) (d.q) m=(-1,0)
  |m0::l=>∃j,j<m/\0<t.dT (d.q) j/\iT m0 l=t.bD (.from p) (bK d) j/\t.fW (vP p) (d.q) m=((j:Int),t.fL (vP p) (d.q) j)
 |0=>rfl
 |m+1=>by
  have b:=LB t p d m;have hs:t.fW (vP p) (d.q) (m+1)=if bE (t.dT (d.q) m)<=0 then t.fW (vP p) (d.q) m else if(t.fW (vP p) (d.q) m).1<0\/cr (t.fL (vP p) (d.q) m) (t.fW (vP p) (d.q) m).2<0 then((m:Int),t.fL (vP p) (d.q) m)else t.fW (vP p) (d.q) m:=rfl
  rw[ah.Fc,Lu,hs]
  by_cases a:0<t.dT (d.q) m
  ·rw[decide_eq_true a,if_pos rfl,if_neg (fun h=>by have:=Ff.1 h;grind)];generalize n:t.fK (.from p) (bK d) m=L at*;cases L with
   |nil=>
    dsimp only at b;rw[b,if_pos (.inl d_)];exact⟨m,o_,a,E7 _,rfl⟩
   |cons m0 l=>
    obtain⟨j,i,e,f,g⟩:=b;rw[ea];dsimp only;have k:iT m0 (l++[t.bD (.from p) (bK d) m])=vV (iT m0 l) (t.bD (.from p) (bK d) m):=by
     rw[iT,ej];rfl
    have hc:=aLk t p d i a e;rw[k,f,g,vV];dsimp only
    by_cases c:t.fL (vP p) (d.q) m<t.fL (vP p) (d.q) j
    ·rw[if_pos (hc.2 c),if_pos (.inr (BS.2 c))];exact⟨m,o_,a,rfl,rfl⟩
    ·rw[if_neg (fun h=>c (hc.1 h)),if_neg (fun h=>by
      rcases h with h|h
      ·omega
      ·exact c (BS.1 h))]
     exact⟨j,o_,e,rfl,rfl⟩
  ·rw[decide_eq_false a,if_neg d_,if_pos (Ff.2 (by grind))];generalize t.fK (.from p) (bK d) m=L at*;cases L with
   |nil=>exact b
   |cons m0 l=>
    obtain⟨j,i,e,f,g⟩:=b;exact⟨j,o_,e,f,g⟩
theorem aOK(t:ah)(p d:bS)(i:Nat):(t.bD (.from p) (rh d) i).s.norm.q=t.dT (vP d) i*t.dT (vP d) i:=B0 t p (.from d) i
theorem Xm{dx dy a b c d:Rat}(f:dx*b-dy*a=0)(g:dx*d-dy*c=0)(h:¬a*d-b*c=0):dx=0/\dy=0:=by
 have e1:dx*(a*d-b*c)=0:=by grind
 have e2:dy*(a*d-b*c)=0:=by grind
 constructor
 ·rcases fb.1 e1 with e|e
  ·exact e
  ·exact(h e).elim
 ·rcases fb.1 e2 with e|e
  ·exact e
  ·exact(h e).elim
theorem aLU(t:ah)(d:V2)(v:3<=t.cs.length)(hc:t.ga=true)(q:¬(d.x=0/\d.y=0)):∃i,i<t.cs.length/\0<t.dT d i:=by
 refine aT fun r=>?_;have p:∀i,i<t.cs.length->t.dT d i<=0:=fun i hi=>by
  by_cases h:0<t.dT d i
  ·exact(r ⟨i,hi,h⟩).elim
  ·grind
 obtain⟨f,hf⟩:∃f:Nat->Rat,f=fun i=>d.aX (c7 (t.at i)):=⟨_,rfl⟩
 have step:∀i,i<t.cs.length->f (t.nx i)<=f i:=fun i hi=>by
  have:=p i hi;rw[ah.dT,ah.bC,V2.aX,V2.sub]at this;rw[hf];dsimp only at this⊢;rw[V2.aX,V2.aX]
  grind
 have a:∀i,i+1<t.cs.length->t.nx i=i+1:=fun i hi=>Nat.mod_eq_of_lt hi;have u:t.nx (t.cs.length-1)=0:=by
  rw[ah.nx,Nat.sub_add_cancel o_];exact Nat.mod_self _
 have o:∀k,2+k<t.cs.length->f (2+k)<=f 2:=fun k=>by
  induction k with
  |zero=>intro _;exact Rat.le_refl
  |succ k s=>
   intro h;have g:=step (2+k) o_;rw[a _ o_]at g;exact Rat.le_trans g (s o_)
 have j:=step 0 o_;have l:=step 1 o_;have m:=o (t.cs.length-3) o_;have n:=step (t.cs.length-1) o_;rw[a 0 o_]at j;rw[a 1 o_]at l;rw[u]at n;rw[show 2+(t.cs.length-3)=t.cs.length-1 by omega]at m;have b:f 1=f 0:=by grind
 have c:f 2=f 0:=by grind
 rw[ah.ga,decide_eq_true_eq]at hc;have hx:=hc 0 o_ 2 o_ d_ (by rw[a 0 o_];decide);rw[a 0 o_,mR]at hx;rw[hf]at b c;dsimp only at b c;rw[V2.aX,V2.aX,c7,c7]at b c;dsimp only at b c;generalize t.at 0=A,t.at (0+1)=B,t.at 2=C at*;have hq:¬(((B.x:Rat)-A.x)*((C.y:Rat)-A.y)-((B.y:Rat)-A.y)*((C.x:Rat)-A.x))=0:=by
  intro e;have e2:(((B.x-A.x)*(C.y-A.y)-(B.y-A.y)*(C.x-A.x):Int):Rat)=((0:Int):Rat):=by
   rw[fd,fm,fm,fd,fd,fd,fd];exact e
  have:=Rat.intCast_inj.1 e2;omega
 exact q (Xm (dx:=d.x) (dy:=d.y) (by grind) (by grind) hq)
theorem qf(s:List Nat)(n:Int):al prog 58 [.str s,.int .i64 n] (.bool (decide ((s.length:Int)<=n))):=by
 refine gA_ nf func58 mix ?_;simp[f58]
def mh(p:du):Bool:=decide (p.name.length<=40)&&(decide (p.a.length<=40)&&decide (p.b.length<=40))
def jq(s:de):Bool:=decide (s.name.length<=40)&&(decide (s.pt.x.length<=40)&&decide (s.pt.y.length<=40))
def oK(t:ah):Bool:=!(decide (14<t.cs.length)||(decide (14<t.aK.length)||((decide (8<t.aj.length)&&decide (t.aj.length<=256))||decide (258<t.aj.length))))&&(t.aK.all mh&&t.aj.all jq)
theorem sV{α:Type}{f:α->Bool}{l:List α}{i:Nat}{x:α}(h:l[i]?=some x):(l.take (i+1)).all f=((l.take i).all f&&f x):=by
 rw[b1,h];simp
theorem lC{α:Type}{f:α->Bool}{l:List α}{i:Nat}{x:α}(h:l[i]?=some x)(hf:f x=false):l.all f=false:=by
 cases a:l.all f
 ·rfl
 ·rw[eo]at a;rw[a x (bf h)]at hf;cases hf
theorem Kk(t:ah)(B:t.cs.length<=1000000)(C:t.aK.length<=1000000)(D:t.aj.length<=1000000):al prog 16 [cA t] (.bool (oK t)):=by
 refine gA_ nf func16 mix ?_;have s:oK t=(!(decide (14<t.cs.length)||(decide (14<t.aK.length)||((decide (8<t.aj.length)&&decide (t.aj.length<=256))||decide (258<t.aj.length))))&&(t.aK.all mh&&t.aj.all jq)):=rfl
 by_cases c1:14<t.cs.length
 ·have q:(14:Int)<t.cs.length:=by omega
  have o:oK t=false:=by rw[s];simp[c1]
  simp[f16,aa,q,o]
 have q:¬(14:Int)<t.cs.length:=o_
 by_cases c2:14<t.aK.length
 ·have r:(14:Int)<t.aK.length:=by omega
  have o:oK t=false:=by rw[s];simp[c2]
  simp[f16,aa,q,r,o]
 have r:¬(14:Int)<t.aK.length:=o_
 have tail:(8<t.aj.length->¬t.aj.length<=256)->¬258<t.aj.length->oK t=(t.aK.all mh&&t.aj.all jq):=fun A z=>by
  rw[s]
  by_cases h:8<t.aj.length
  ·have:=A h;simp[c1,c2,h,this,z]
  ·simp[c1,c2,h,z]
 by_cases c3:8<t.aj.length
 ·have u:(8:Int)<t.aj.length:=by omega
  by_cases c4:t.aj.length<=256
  ·have w:(t.aj.length:Int)<=256:=by omega
   have o:oK t=false:=by rw[s];simp[c3,c4]
   simp[f16,aa,q,r,u,w,o]
  ·have w:¬(t.aj.length:Int)<=256:=by omega
   by_cases c5:258<t.aj.length
   ·have v:(258:Int)<t.aj.length:=by omega
    have o:oK t=false:=by rw[s];simp[c5]
    simp[f16,aa,q,r,u,w,v,o]
   ·have v:¬(258:Int)<t.aj.length:=by omega
    rw[tail (fun _=>c4) c5];simp[f16,aa,q,r,u,w,v];refine lp (α:=Nat) (fun i=>⟨[(3,.p (.int .i64 i)),(1,.ptr 0 [])],[.box false (.p (cA t))]⟩) (fun i=>i<=t.aK.length/\(t.aK.take i).all mh=true) (fun i=>t.aK.length-i) 0 s_ ?_;rintro i ⟨k1,k2⟩
    by_cases hi:i<t.aK.length
    ·have c:=ah.jo hi;have n:=b8 (i:=i) o_;have f:=qf (t.pk i).a 40;have j:=qf (t.pk i).b 40;have g:mh (t.pk i)=(decide ((t.pk i).name.length<=40)&&(decide ((t.pk i).a.length<=40)&&decide ((t.pk i).b.length<=40))):=rfl
     by_cases m:(t.pk i).name.length<=40
     ·have d:¬(40:Int)<(t.pk i).name.length:=by omega
      by_cases a2:(t.pk i).a.length<=40
      ·have k:((t.pk i).a.length:Int)<=40:=by omega
       rw[decide_eq_true k]at f
       by_cases a3:(t.pk i).b.length<=40
       ·have l:((t.pk i).b.length:Int)<=40:=by omega
        rw[decide_eq_true l]at j;have e:mh (t.pk i)=true:=by rw[g];simp[m,a2,a3]
        simp[hi,c,d,aa];refine c2_ f ?_;simp[hi,c,d,aa];refine c2_ j ?_;simp[hi,c,d,n,aa];exact rd (i+1) ⟨hi,by rw[sV c,k2,e];rfl⟩
       ·have l:¬((t.pk i).b.length:Int)<=40:=by omega
        rw[decide_eq_false l]at j;have e:mh (t.pk i)=false:=by rw[g];simp[a3]
        rw[lC c e];simp[hi,c,d,aa,n,c2_ f,c2_ j]
      ·have k:¬((t.pk i).a.length:Int)<=40:=by omega
       rw[decide_eq_false k]at f;have e:mh (t.pk i)=false:=by rw[g];simp[a2]
       rw[lC c e];simp[hi,c,d,aa,c2_ f]
     ·have d:(40:Int)<(t.pk i).name.length:=by omega
      have e:mh (t.pk i)=false:=by rw[g];simp[m]
      rw[lC c e];simp[hi,c,d,aa]
    have:i=t.aK.length:=o_
    subst this;rw[bl]at k2;rw[k2,ax];simp[aa];refine lp (α:=Nat) (fun i=>⟨[(4,.p (.int .i64 i)),(1,.ptr 0 [])],[.box false (.p (cA t))]⟩) (fun i=>i<=t.aj.length/\(t.aj.take i).all jq=true) (fun i=>t.aj.length-i) 0 s_ ?_;rintro i ⟨k1,k2⟩
    by_cases hi:i<t.aj.length
    ·have c:=ah.dY hi;have n:=b8 (i:=i) o_;have f:=qf (t.sp i).pt.x 40;have j:=qf (t.sp i).pt.y 40;have g:jq (t.sp i)=(decide ((t.sp i).name.length<=40)&&(decide ((t.sp i).pt.x.length<=40)&&decide ((t.sp i).pt.y.length<=40))):=rfl
     by_cases m:(t.sp i).name.length<=40
     ·have d:¬(40:Int)<(t.sp i).name.length:=by omega
      by_cases a2:(t.sp i).pt.x.length<=40
      ·have k:((t.sp i).pt.x.length:Int)<=40:=by omega
       rw[decide_eq_true k]at f
       by_cases a3:(t.sp i).pt.y.length<=40
       ·have l:((t.sp i).pt.y.length:Int)<=40:=by omega
        rw[decide_eq_true l]at j;have e:jq (t.sp i)=true:=by rw[g];simp[m,a2,a3]
        simp[hi,c,d,aa];refine c2_ f ?_;simp[hi,c,d,aa];refine c2_ j ?_;simp[hi,c,d,n,aa];exact rd (i+1) ⟨hi,by rw[sV c,k2,e];rfl⟩
       ·have l:¬((t.sp i).pt.y.length:Int)<=40:=by omega
        rw[decide_eq_false l]at j;have e:jq (t.sp i)=false:=by rw[g];simp[a3]
        rw[lC c e];simp[hi,c,d,aa,n,c2_ f,c2_ j]
      ·have k:¬((t.sp i).pt.x.length:Int)<=40:=by omega
       rw[decide_eq_false k]at f;have e:jq (t.sp i)=false:=by rw[g];simp[a2]
       rw[lC c e];simp[hi,c,d,aa,c2_ f]
     ·have d:(40:Int)<(t.sp i).name.length:=by omega
      have e:jq (t.sp i)=false:=by rw[g];simp[m]
      rw[lC c e];simp[hi,c,d,aa]
    have:i=t.aj.length:=o_
    subst this;rw[bl]at k2;rw[k2];simp[aa]
 ·have u:¬(8:Int)<t.aj.length:=by omega
  have v:¬(258:Int)<t.aj.length:=o_
  rw[tail (fun h=>absurd h c3) o_];simp[f16,aa,q,r,u,v];refine lp (α:=Nat) (fun i=>⟨[(3,.p (.int .i64 i)),(1,.ptr 0 [])],[.box false (.p (cA t))]⟩) (fun i=>i<=t.aK.length/\(t.aK.take i).all mh=true) (fun i=>t.aK.length-i) 0 s_ ?_;rintro i ⟨k1,k2⟩
  by_cases hi:i<t.aK.length
  ·have c:=ah.jo hi;have n:=b8 (i:=i) o_;have f:=qf (t.pk i).a 40;have j:=qf (t.pk i).b 40;have g:mh (t.pk i)=(decide ((t.pk i).name.length<=40)&&(decide ((t.pk i).a.length<=40)&&decide ((t.pk i).b.length<=40))):=rfl
   by_cases m:(t.pk i).name.length<=40
   ·have d:¬(40:Int)<(t.pk i).name.length:=by omega
    by_cases a2:(t.pk i).a.length<=40
    ·have k:((t.pk i).a.length:Int)<=40:=by omega
     rw[decide_eq_true k]at f
     by_cases a3:(t.pk i).b.length<=40
     ·have l:((t.pk i).b.length:Int)<=40:=by omega
      rw[decide_eq_true l]at j;have e:mh (t.pk i)=true:=by rw[g];simp[m,a2,a3]
      simp[hi,c,d,aa];refine c2_ f ?_;simp[hi,c,d,aa];refine c2_ j ?_;simp[hi,c,d,n,aa];exact rd (i+1) ⟨hi,by rw[sV c,k2,e];rfl⟩
     ·have l:¬((t.pk i).b.length:Int)<=40:=by omega
      rw[decide_eq_false l]at j;have e:mh (t.pk i)=false:=by rw[g];simp[a3]
      rw[lC c e];simp[hi,c,d,aa,n,c2_ f,c2_ j]
    ·have k:¬((t.pk i).a.length:Int)<=40:=by omega
     rw[decide_eq_false k]at f;have e:mh (t.pk i)=false:=by rw[g];simp[a2]
     rw[lC c e];simp[hi,c,d,aa,c2_ f]
   ·have d:(40:Int)<(t.pk i).name.length:=by omega
    have e:mh (t.pk i)=false:=by rw[g];simp[m]
    rw[lC c e];simp[hi,c,d,aa]
  have:i=t.aK.length:=o_
  subst this;rw[bl]at k2;rw[k2,ax];simp[aa];refine lp (α:=Nat) (fun i=>⟨[(4,.p (.int .i64 i)),(1,.ptr 0 [])],[.box false (.p (cA t))]⟩) (fun i=>i<=t.aj.length/\(t.aj.take i).all jq=true) (fun i=>t.aj.length-i) 0 s_ ?_;rintro i ⟨k1,k2⟩
  by_cases hi:i<t.aj.length
  ·have c:=ah.dY hi;have n:=b8 (i:=i) o_;have f:=qf (t.sp i).pt.x 40;have j:=qf (t.sp i).pt.y 40;have g:jq (t.sp i)=(decide ((t.sp i).name.length<=40)&&(decide ((t.sp i).pt.x.length<=40)&&decide ((t.sp i).pt.y.length<=40))):=rfl
   by_cases m:(t.sp i).name.length<=40
   ·have d:¬(40:Int)<(t.sp i).name.length:=by omega
    by_cases a2:(t.sp i).pt.x.length<=40
    ·have k:((t.sp i).pt.x.length:Int)<=40:=by omega
     rw[decide_eq_true k]at f
     by_cases a3:(t.sp i).pt.y.length<=40
     ·have l:((t.sp i).pt.y.length:Int)<=40:=by omega
      rw[decide_eq_true l]at j;have e:jq (t.sp i)=true:=by rw[g];simp[m,a2,a3]
      simp[hi,c,d,aa];refine c2_ f ?_;simp[hi,c,d,aa];refine c2_ j ?_;simp[hi,c,d,n,aa];exact rd (i+1) ⟨hi,by rw[sV c,k2,e];rfl⟩
     ·have l:¬((t.sp i).pt.y.length:Int)<=40:=by omega
      rw[decide_eq_false l]at j;have e:jq (t.sp i)=false:=by rw[g];simp[a3]
      rw[lC c e];simp[hi,c,d,aa,n,c2_ f,c2_ j]
    ·have k:¬((t.sp i).pt.x.length:Int)<=40:=by omega
     rw[decide_eq_false k]at f;have e:jq (t.sp i)=false:=by rw[g];simp[a2]
     rw[lC c e];simp[hi,c,d,aa,c2_ f]
   ·have d:(40:Int)<(t.sp i).name.length:=by omega
    have e:jq (t.sp i)=false:=by rw[g];simp[m]
    rw[lC c e];simp[hi,c,d,aa]
  have:i=t.aj.length:=o_
  subst this;rw[bl]at k2;rw[k2];simp[aa]
theorem ZU(l:List fh):gP prog 2 (l.map (AV.p∘dc)):=DA (fun r=>⟨by simp[aa],by simp[aa]⟩) l
theorem wD{α:Type}{f:α->AV}{l:List α}{j:Nat}{x:α}(h:l[j+1]?=some x):(l.take (j+1+1)).map f=(l.map f).take (j+1)++[f x]:=by
 rw[b1 (i:=j+1),h,eb,dg];rfl
theorem mS{N:Nat×Nat->Prop}{α:Type}{f:α->PV}{k:Nat}{l:List α}:bk N ((l.map (AV.p∘f)).take k)=True:=by
 rw[eQ,eq_iff_iff,iff_true];intro x hx;obtain⟨a,_,rfl⟩:=b5.1 (List.mem_of_mem_take hx);trivial
theorem sX:fo=fV:=rfl
theorem sW:iQ=bP:=rfl
theorem wE{α:Type}{l:List α}{x:α}(h:l[0]?=some x):l.take 1=[x]:=by
 rw[b1 (i:=0),h];rfl
theorem Xw(t:ah)(s:t.cs.length<=1000000)(u:t.aK.length<=1000000)(v:t.aj.length<=1000000):al prog 45 [cA t] (cB t):=by
 have r:(1000000:Nat)<dA:=d_
 have w1:a4.wrap 1=1:=d_
 refine gA_ nf func45 mix ?_;simp[f45,aa];refine⟨⟨ZU _,o_⟩,?_⟩
 by_cases hc:t.cs=[]
 ·simp[hc];refine⟨⟨by repeat' first|rfl|apply ao,by repeat' first|rfl|apply ao⟩,?_⟩;refine lp (α:=Nat) (fun i=>match i with
    |0=>⟨[(18,.p (.int .i64 0)),(17,.p (.int .i64 t.aK.length)),(16,.p (.seq (t.aK.map fV))),(3,.ptr 3 []),(2,.ptr 1 []),(1,.ptr 0 [])],[.box false (.p (cA t)),.box false (.p (.st 42 [.aM,.int .i64 0,.aM,.aM])),.arr .exact 0 2 [],.box false (.st 42 [.sl 2 0 2 0 0,.p (.int .i64 t.aC),.p .aM,.p .aM])]⟩
    |m+1=>⟨[(18,.p (.int .i64 ((m+1:Nat):Int))),(17,.p (.int .i64 t.aK.length)),(16,.p (.seq (t.aK.map fV))),(3,.ptr 3 []),(2,.ptr 1 []),(1,.ptr 0 [])],[.box false (.p (cA t)),.box false (.p (.st 42 [.aM,.int .i64 0,.aM,.aM])),.arr .exact 0 2 [],.box false (.st 42 [.sl 2 0 2 0 0,.p (.int .i64 t.aC),.sl 6 m 4 0 (m+1),.p .aM]),.hole,.hole,.arr .grow m 4 ((t.aK.take (m+1)).map (AV.p∘fV))]⟩) (fun i=>i<=t.aK.length) (fun i=>t.aK.length-i) 0 s_ ?_
  rintro i o
  by_cases hi:i<t.aK.length
  ·have a:=ah.jo hi;rcases i with _|j
   ·have b:=wE a;simp[hi,a,w1,aa];exact⟨o_,rd 1 hi (hh:=by simp[b]) (hr2:=by simp[mS])⟩
   ·have h:a4.wrap ((j:Int)+1+1)=(j:Int)+1+1:=aU _ o_ o_;have hI:(j:Int)+1<t.aK.length:=by omega
    have b:=wD (f:=AV.p∘fV) a;simp[hi,hI,a,h,aa];exact⟨o_,⟨o_,o_⟩,rd (j+2) hi (hh:=by simp at b;simp[b]) (hr2:=by simp[mS])⟩
  have q:i=t.aK.length:=o_
  rcases i with _|j
  ·have n:t.aK=[]:=bw.1 q.symm;simp[n,aa];refine lp (α:=Nat) (fun i=>match i with
     |0=>⟨[(32,.p (.int .i64 0)),(31,.p (.int .i64 t.aj.length)),(30,.p (.seq (t.aj.map bP))),(3,.ptr 3 []),(2,.ptr 1 []),(1,.ptr 0 [])],[.box false (.p (cA t)),.box false (.p (.st 42 [.aM,.int .i64 0,.aM,.aM])),.arr .exact 0 2 [],.box false (.st 42 [.sl 2 0 2 0 0,.p (.int .i64 t.aC),.p .aM,.p .aM])]⟩
     |m+1=>⟨[(32,.p (.int .i64 ((m+1:Nat):Int))),(31,.p (.int .i64 t.aj.length)),(30,.p (.seq (t.aj.map bP))),(3,.ptr 3 []),(2,.ptr 1 []),(1,.ptr 0 [])],[.box false (.p (cA t)),.box false (.p (.st 42 [.aM,.int .i64 0,.aM,.aM])),.arr .exact 0 2 [],.box false (.st 42 [.sl 2 0 2 0 0,.p (.int .i64 t.aC),.p .aM,.sl 6 m 3 0 (m+1)]),.hole,.hole,.arr .grow m 3 ((t.aj.take (m+1)).map (AV.p∘bP))]⟩) (fun i=>i<=t.aj.length) (fun i=>t.aj.length-i) 0 s_ ?_
   rintro i o
   by_cases hi:i<t.aj.length
   ·have a:=ah.dY hi;rcases i with _|j
    ·have b:=wE a;simp[hi,a,w1,aa];exact⟨o_,rd 1 hi (hh:=by simp[b]) (hr2:=by simp[mS])⟩
    ·have h:a4.wrap ((j:Int)+1+1)=(j:Int)+1+1:=aU _ o_ o_;have hI:(j:Int)+1<t.aj.length:=by omega
     have b:=wD (f:=AV.p∘bP) a;simp[hi,hI,a,h,aa];exact⟨o_,⟨o_,o_⟩,rd (j+2) hi (hh:=by simp at b;simp[b]) (hr2:=by simp[mS])⟩
   have d:i=t.aj.length:=o_
   rcases i with _|c
   ·have e:t.aj=[]:=bw.1 d.symm;simp[e,aa];simp[cB,hc,n,e,sX,sW]
   ·have hI:¬((c:Int)+1<t.aj.length):=by omega
    have g:t.aj.take (c+1)=t.aj:=by rw[d,bl]
    simp[hI,g,aa];have l:(t.aj.map (AV.p∘bP)).take (c+1)=t.aj.map (AV.p∘bP):=bp (by simp;omega);simp[cB,hc,n,l,sX,sW];omega
  ·have hI:¬((j:Int)+1<t.aK.length):=by omega
   have g:t.aK.take (j+1)=t.aK:=by rw[q,bl]
   simp[hI,g,aa];refine lp (α:=Nat) (fun i=>match i with
    |0=>⟨[(32,.p (.int .i64 0)),(31,.p (.int .i64 t.aj.length)),(30,.p (.seq (t.aj.map bP))),(3,.ptr 3 []),(2,.ptr 1 []),(1,.ptr 0 [])],[.box false (.p (cA t)),.box false (.p (.st 42 [.aM,.int .i64 0,.aM,.aM])),.arr .exact 0 2 [],.box false (.st 42 [.sl 2 0 2 0 0,.p (.int .i64 t.aC),.sl 6 j 4 0 (j+1),.p .aM]),.hole,.hole,.arr .grow j 4 (t.aK.map (AV.p∘fV))]⟩
    |m+1=>⟨[(32,.p (.int .i64 ((m+1:Nat):Int))),(31,.p (.int .i64 t.aj.length)),(30,.p (.seq (t.aj.map bP))),(3,.ptr 3 []),(2,.ptr 1 []),(1,.ptr 0 [])],[.box false (.p (cA t)),.box false (.p (.st 42 [.aM,.int .i64 0,.aM,.aM])),.arr .exact 0 2 [],.box false (.st 42 [.sl 2 0 2 0 0,.p (.int .i64 t.aC),.sl 6 j 4 0 (j+1),.sl 9 m 3 0 (m+1)]),.hole,.hole,.arr .grow j 4 (t.aK.map (AV.p∘fV)),.hole,.hole,.arr .grow m 3 ((t.aj.take (m+1)).map (AV.p∘bP))]⟩) (fun i=>i<=t.aj.length) (fun i=>t.aj.length-i) 0 s_ ?_
   rintro i o
   by_cases hi:i<t.aj.length
   ·have a:=ah.dY hi;rcases i with _|j
    ·have b:=wE a;simp[hi,a,w1,aa];exact⟨o_,rd 1 hi (hh:=by simp[b]) (hr2:=by simp[mS])⟩
    ·have h:a4.wrap ((j:Int)+1+1)=(j:Int)+1+1:=aU _ o_ o_;have hI:(j:Int)+1<t.aj.length:=by omega
     have b:=wD (f:=AV.p∘bP) a;simp[hi,hI,a,h,aa];exact⟨o_,⟨o_,o_⟩,rd (j+2) hi (hh:=by simp at b;simp[b]) (hr2:=by simp[mS])⟩
   have d:i=t.aj.length:=o_
   rcases i with _|c
   ·have e:t.aj=[]:=bw.1 d.symm;simp[e,aa];have k:(t.aK.map (AV.p∘fV)).take (j+1)=t.aK.map (AV.p∘fV):=bp (by simp;omega);simp[cB,hc,k,e,sX,sW];omega
   ·have hI:¬((c:Int)+1<t.aj.length):=by omega
    have g:t.aj.take (c+1)=t.aj:=by rw[d,bl]
    simp[hI,g,aa];have k:(t.aK.map (AV.p∘fV)).take (j+1)=t.aK.map (AV.p∘fV):=bp (by simp;omega);have l:(t.aj.map (AV.p∘bP)).take (c+1)=t.aj.map (AV.p∘bP):=bp (by simp;omega);simp[cB,hc,k,l,sX,sW];omega
 ·simp[hc];refine⟨⟨by repeat' first|rfl|apply ao,by repeat' first|rfl|apply ao⟩,?_⟩;refine lp (α:=Nat) (fun i=>match i with
    |0=>⟨[(18,.p (.int .i64 0)),(17,.p (.int .i64 t.aK.length)),(16,.p (.seq (t.aK.map fV))),(3,.ptr 4 []),(2,.ptr 1 []),(1,.ptr 0 [])],[.box false (.p (cA t)),.box false (.p (.st 42 [.aM,.int .i64 0,.aM,.aM])),.arr .exact 0 2 [],.arr .grow 0 2 (t.cs.map (AV.p∘dc)),.box false (.st 42 [.sl 3 0 2 0 t.cs.length,.p (.int .i64 t.aC),.p .aM,.p .aM])]⟩
    |m+1=>⟨[(18,.p (.int .i64 ((m+1:Nat):Int))),(17,.p (.int .i64 t.aK.length)),(16,.p (.seq (t.aK.map fV))),(3,.ptr 4 []),(2,.ptr 1 []),(1,.ptr 0 [])],[.box false (.p (cA t)),.box false (.p (.st 42 [.aM,.int .i64 0,.aM,.aM])),.arr .exact 0 2 [],.arr .grow 0 2 (t.cs.map (AV.p∘dc)),.box false (.st 42 [.sl 3 0 2 0 t.cs.length,.p (.int .i64 t.aC),.sl 7 m 4 0 (m+1),.p .aM]),.hole,.hole,.arr .grow m 4 ((t.aK.take (m+1)).map (AV.p∘fV))]⟩) (fun i=>i<=t.aK.length) (fun i=>t.aK.length-i) 0 s_ ?_
  rintro i o
  by_cases hi:i<t.aK.length
  ·have a:=ah.jo hi;rcases i with _|j
   ·have b:=wE a;simp[hi,a,w1,aa];exact⟨o_,rd 1 hi (hh:=by simp[b]) (hr2:=by simp[mS])⟩
   ·have h:a4.wrap ((j:Int)+1+1)=(j:Int)+1+1:=aU _ o_ o_;have hI:(j:Int)+1<t.aK.length:=by omega
    have b:=wD (f:=AV.p∘fV) a;simp[hi,hI,a,h,aa];exact⟨o_,⟨o_,o_⟩,rd (j+2) hi (hh:=by simp at b;simp[b]) (hr2:=by simp[mS])⟩
  have q:i=t.aK.length:=o_
  rcases i with _|j
  ·have n:t.aK=[]:=bw.1 q.symm;simp[n,aa];refine lp (α:=Nat) (fun i=>match i with
     |0=>⟨[(32,.p (.int .i64 0)),(31,.p (.int .i64 t.aj.length)),(30,.p (.seq (t.aj.map bP))),(3,.ptr 4 []),(2,.ptr 1 []),(1,.ptr 0 [])],[.box false (.p (cA t)),.box false (.p (.st 42 [.aM,.int .i64 0,.aM,.aM])),.arr .exact 0 2 [],.arr .grow 0 2 (t.cs.map (AV.p∘dc)),.box false (.st 42 [.sl 3 0 2 0 t.cs.length,.p (.int .i64 t.aC),.p .aM,.p .aM])]⟩
     |m+1=>⟨[(32,.p (.int .i64 ((m+1:Nat):Int))),(31,.p (.int .i64 t.aj.length)),(30,.p (.seq (t.aj.map bP))),(3,.ptr 4 []),(2,.ptr 1 []),(1,.ptr 0 [])],[.box false (.p (cA t)),.box false (.p (.st 42 [.aM,.int .i64 0,.aM,.aM])),.arr .exact 0 2 [],.arr .grow 0 2 (t.cs.map (AV.p∘dc)),.box false (.st 42 [.sl 3 0 2 0 t.cs.length,.p (.int .i64 t.aC),.p .aM,.sl 7 m 3 0 (m+1)]),.hole,.hole,.arr .grow m 3 ((t.aj.take (m+1)).map (AV.p∘bP))]⟩) (fun i=>i<=t.aj.length) (fun i=>t.aj.length-i) 0 s_ ?_
   rintro i o
   by_cases hi:i<t.aj.length
   ·have a:=ah.dY hi;rcases i with _|j
    ·have b:=wE a;simp[hi,a,w1,aa];exact⟨o_,rd 1 hi (hh:=by simp[b]) (hr2:=by simp[mS])⟩
    ·have h:a4.wrap ((j:Int)+1+1)=(j:Int)+1+1:=aU _ o_ o_;have hI:(j:Int)+1<t.aj.length:=by omega
     have b:=wD (f:=AV.p∘bP) a;simp[hi,hI,a,h,aa];exact⟨o_,⟨o_,o_⟩,rd (j+2) hi (hh:=by simp at b;simp[b]) (hr2:=by simp[mS])⟩
   have d:i=t.aj.length:=o_
   rcases i with _|c
   ·have e:t.aj=[]:=bw.1 d.symm;simp[e,aa];simp[cB,hc,n,e,sX,sW]
   ·have hI:¬((c:Int)+1<t.aj.length):=by omega
    have g:t.aj.take (c+1)=t.aj:=by rw[d,bl]
    simp[hI,g,aa];have l:(t.aj.map (AV.p∘bP)).take (c+1)=t.aj.map (AV.p∘bP):=bp (by simp;omega);simp[cB,hc,n,l,sX,sW];omega
  ·have hI:¬((j:Int)+1<t.aK.length):=by omega
   have g:t.aK.take (j+1)=t.aK:=by rw[q,bl]
   simp[hI,g,aa];refine lp (α:=Nat) (fun i=>match i with
    |0=>⟨[(32,.p (.int .i64 0)),(31,.p (.int .i64 t.aj.length)),(30,.p (.seq (t.aj.map bP))),(3,.ptr 4 []),(2,.ptr 1 []),(1,.ptr 0 [])],[.box false (.p (cA t)),.box false (.p (.st 42 [.aM,.int .i64 0,.aM,.aM])),.arr .exact 0 2 [],.arr .grow 0 2 (t.cs.map (AV.p∘dc)),.box false (.st 42 [.sl 3 0 2 0 t.cs.length,.p (.int .i64 t.aC),.sl 7 j 4 0 (j+1),.p .aM]),.hole,.hole,.arr .grow j 4 (t.aK.map (AV.p∘fV))]⟩
    |m+1=>⟨[(32,.p (.int .i64 ((m+1:Nat):Int))),(31,.p (.int .i64 t.aj.length)),(30,.p (.seq (t.aj.map bP))),(3,.ptr 4 []),(2,.ptr 1 []),(1,.ptr 0 [])],[.box false (.p (cA t)),.box false (.p (.st 42 [.aM,.int .i64 0,.aM,.aM])),.arr .exact 0 2 [],.arr .grow 0 2 (t.cs.map (AV.p∘dc)),.box false (.st 42 [.sl 3 0 2 0 t.cs.length,.p (.int .i64 t.aC),.sl 7 j 4 0 (j+1),.sl 10 m 3 0 (m+1)]),.hole,.hole,.arr .grow j 4 (t.aK.map (AV.p∘fV)),.hole,.hole,.arr .grow m 3 ((t.aj.take (m+1)).map (AV.p∘bP))]⟩) (fun i=>i<=t.aj.length) (fun i=>t.aj.length-i) 0 s_ ?_
   rintro i o
   by_cases hi:i<t.aj.length
   ·have a:=ah.dY hi;rcases i with _|j
    ·have b:=wE a;simp[hi,a,w1,aa];exact⟨o_,rd 1 hi (hh:=by simp[b]) (hr2:=by simp[mS])⟩
    ·have h:a4.wrap ((j:Int)+1+1)=(j:Int)+1+1:=aU _ o_ o_;have hI:(j:Int)+1<t.aj.length:=by omega
     have b:=wD (f:=AV.p∘bP) a;simp[hi,hI,a,h,aa];exact⟨o_,⟨o_,o_⟩,rd (j+2) hi (hh:=by simp at b;simp[b]) (hr2:=by simp[mS])⟩
   have d:i=t.aj.length:=o_
   rcases i with _|c
   ·have e:t.aj=[]:=bw.1 d.symm;simp[e,aa];have k:(t.aK.map (AV.p∘fV)).take (j+1)=t.aK.map (AV.p∘fV):=bp (by simp;omega);simp[cB,hc,k,e,sX,sW];omega
   ·have hI:¬((c:Int)+1<t.aj.length):=by omega
    have g:t.aj.take (c+1)=t.aj:=by rw[d,bl]
    simp[hI,g,aa];have k:(t.aK.map (AV.p∘fV)).take (j+1)=t.aK.map (AV.p∘fV):=bp (by simp;omega);have l:(t.aj.map (AV.p∘bP)).take (c+1)=t.aj.map (AV.p∘bP):=bp (by simp;omega);simp[cB,hc,k,l,sX,sW];omega
theorem LK(t:ah)(p:bS)(d:NV)(e:3<=t.cs.length)(hc:t.ga=true)(k:¬((d.q).x=0/\(d.q).y=0)):∃j,j<t.cs.length/\0<t.dT (d.q) j/\(∃a l,t.fK (.from p) (bK d) t.cs.length=a::l/\iT a l=t.bD (.from p) (bK d) j)/\t.fW (vP p) (d.q) t.cs.length=((j:Int),t.fL (vP p) (d.q) j):=by
 obtain⟨i,hi,n⟩:=aLU t (d.q) e hc k;have h:=LB t p d t.cs.length;have m:t.bD (.from p) (bK d) i∈t.fK (.from p) (bK d) t.cs.length:=by
  rw[ah.fK];exact b5.2 ⟨i,eq.2 ⟨cx.2 hi,by rw[Lu,decide_eq_true n]⟩,rfl⟩
 generalize o:t.fK (.from p) (bK d) t.cs.length=L at*;cases L with
 |nil=>cases m
 |cons a l=>
  obtain⟨j,b,c,f,g⟩:=h;exact⟨j,b,c,⟨a,l,rfl,f⟩,g⟩
theorem aLT(t:ah)(p d:bS)(b:3<=t.cs.length)(hc:t.ga=true)(c:¬((vP d).x=0/\(vP d).y=0)):∃j,j<t.cs.length/\0<t.dT (vP d) j/\(∃a l,t.fK (.from p) (rh d) t.cs.length=a::l/\iT a l=t.bD (.from p) (rh d) j)/\t.fW (vP p) (vP d) t.cs.length=((j:Int),t.fL (vP p) (vP d) j):=LK t p (.from d) b hc c
theorem V0{x:bS}(hx:dZ x=0):et x=eV (vP x):=by
 obtain⟨g1,g2⟩:=kY hx;rw[eV,vP];dsimp only;rw[(ia g1).1,(ia g2).1]
def gF(r:Int)(a b:V2):Int:=cr ((a.sub b).dot (a.sub b)) (bH r)
def iN(t:ah)(bef:List de)(s:de):Int:=
 if isName s.name=false then 8
 else if bef.any (fun o=>decide (o.name=s.name))=true then 9
 else if dZ s.pt≠0 then dZ s.pt
 else if t.on (vP s.pt)<0 then 16
 else if bef.any (fun o=>decide (gF t.aC (vP o.pt) (vP s.pt)<0))=true then 17 else 0
def uF(t b:ah):Int:=if 24<b.aj.length then 5 else mQ (iN t) b.aj
def gh(t b:ah):Int:=if gd t≠0 then gd t else uF t b
structure im(b:ah):Prop where
 sl:b.aj.length<=1000000
 sp:∀s∈b.aj,qV s
theorem lG{t:ah}(h:gd t=0):1<=t.aC/\t.aC<=1000:=by
 rw[gd]at h
 split at h
 ·omega
 split at h
 ·omega
 split at h
 ·omega
 split at h
 ·omega
 split at h
 ·omega
 omega
theorem wP{s:bS}(h:dZ s=0):eV (vP s)=et s/\aS 2000 (vP s):=by
 obtain⟨g1,g2⟩:=kY h;refine⟨?_,gN g1,gN g2⟩;rw[eV,vP];dsimp only;rw[(ia g1).1,(ia g2).1]
theorem Yn(t:ah)(a:0<=t.aC)(b:t.aC<=1000000):al prog 225 [cA t] (.str (aN (bH t.aC))):=by
 have e:=xV a b;have c:=A1 (4*t.aC*t.aC) o_ o_;have w1:a4.wrap (4*t.aC)=4*t.aC:=aU _ o_ o_;have d:a4.wrap (4*t.aC*t.aC)=4*t.aC*t.aC:=aU _ o_ o_;refine gA_ nf func225 mix ?_;rw[bH];simp[f225,aa,w1,d,c1 c]
theorem Yr(t:ah)(a b:V2)(d:0<=t.aC)(e:t.aC<=1000000)(f:aS 2000 a)(g:aS 2000 b):al prog 131 [cA t,eV a,eV b] (.int .i64 (gF t.aC a b)):=by
 have c:=eB f g;have k1:=lj a b (f.mono d_) (g.mono d_);have k2:=pC (a.sub b) (c.mono d_);have k3:=Yn t d e;have k4:=oL ((a.sub b).dot (a.sub b)) (bH t.aC) ((cR c c).mono d_) ((my d e).mono d_);refine gA_ nf func131 mix ?_;rw[gF];simp(maxDischargeDepth:=99) [f131,aa,e2 k1,e1 k2,e1 k3,e2 k4]
theorem Lf{α:Type}{f:α->Bool}{l:List α}{i j:Nat}{x:α}(h:l[j]?=some x)(a:j<i)(hf:f x=true):(l.take i).any f=true:=by
 rw[bV];exact⟨x,bf (i:=j) (by rw[cc,if_pos a];exact h),hf⟩
theorem FE{t:ah}{a:List de}{s:de}(h:iN t a s=0):dZ s.pt=0:=by
 rw[iN]at h
 split at h
 ·omega
 split at h
 ·omega
 split at h
 ·contradiction
 ·rename_i g;exact ay.1 g
theorem XP(t b:ah)(v:gd t=0)(z:im b)(A:t.cs.length<=1000000):al prog 60 [cA t,.seq (b.aj.map bP)] (.int .i64 (uF t b)):=by
 obtain⟨O,B⟩:=z;obtain⟨_,_,hn,_⟩:=mn v;obtain⟨r0,r1⟩:=lG v;refine gA_ nf func60 mix ?_;rw[uF]
 by_cases c4:24<b.aj.length
 ·have cI:(24:Int)<b.aj.length:=by omega
  rw[if_pos c4];simp[f60,aa,cI]
 have x:¬(24:Int)<b.aj.length:=o_
 rw[if_neg c4];simp[f60,aa,x];refine lp (α:=Nat) (fun i=>⟨[(5,.p (.int .i64 i)),(2,.ptr 0 []),(1,.p (.seq (b.aj.map bP)))],[.box false (.p (cA t))]⟩) (fun i=>i<=b.aj.length/\∀j,j<i->iC (iN t) b.aj j=0) (fun i=>b.aj.length-i) 0 s_ ?_;rintro i ⟨s1,s2⟩
 by_cases hs:i<b.aj.length
 case neg=>
  have:i=b.aj.length:=o_
  subst this;rw[rk.2 s2];simp[aa]
 have a:=ah.dY hs;have C:=b8 (i:=i) o_;obtain⟨H,I⟩:=B _ (bf a);have f:=E5 (b.sp i).name H.1;have y:=Cq (b.sp i).pt I;have d:iN t (b.aj.take i) (b.sp i)≠0->mQ (iN t) b.aj=iN t (b.aj.take i) (b.sp i):=wC s2 a;have G:iN t (b.aj.take i) (b.sp i)=0->∀j,j<i+1->iC (iN t) b.aj j=0:=wA s2 a;have L:∀j,j<i->dZ (b.sp j).pt=0:=fun j c=>by
  have:=s2 j c;rw[iC,ah.dY o_]at this;exact FE this
 have ev:iN t (b.aj.take i) (b.sp i)=if isName (b.sp i).name=false then 8 else if(b.aj.take i).any (fun o=>decide (o.name=(b.sp i).name))=true then 9 else if dZ (b.sp i).pt≠0 then dZ (b.sp i).pt else if t.on (vP (b.sp i).pt)<0 then 16 else if(b.aj.take i).any (fun o=>decide (gF t.aC (vP o.pt) (vP (b.sp i).pt)<0))=true then 17 else 0:=rfl
 clear s2;generalize iN t (b.aj.take i) (b.sp i)=E,mQ (iN t) b.aj=M at*;cases l:isName (b.sp i).name
 ·rw[l]at f;rw[l,if_pos rfl]at ev;rw[d (by rw[ev];decide),ev];simp[hs,a,aa,c1_ f]
 rw[l]at f;rw[l,if_neg d_]at ev;simp[hs,a,aa];refine c1_ f ?_;simp[aa];refine lp (α:=Nat) (fun k=>⟨[(6,.p (.int .i64 k)),(5,.p (.int .i64 i)),(2,.ptr 0 []),(1,.p (.seq (b.aj.map bP)))],[.box false (.p (cA t))]⟩) (fun k=>k<=i/\(b.aj.take k).any (fun o=>decide (o.name=(b.sp i).name))=false) (fun k=>i-k) 0 s_ ?_;rintro k ⟨k1,k2⟩
 by_cases hk:k<i
 ·have r:k<b.aj.length:=by omega
  have gk:=ah.dY r;have F:=b8 (i:=k) o_
  by_cases h:(b.sp k).name=(b.sp i).name
  ·rw[if_pos (Lf gk hk (by simp[h]))]at ev;rw[d (by rw[ev];decide),ev];simp[hs,hk,r,gk,a,h,aa]
  ·simp[hs,hk,r,gk,a,h,F,aa];exact rd (k+1) ⟨hk,by rw[yR gk,k2];simp[h]⟩
 have:k=i:=o_
 subst this;rw[k2,if_neg d_]at ev;clear k1 k2 hk;have s:¬k<k:=o_
 simp[s,hs,a,aa];refine c1_ y ?_
 by_cases pe:dZ (b.sp k).pt=0
 case neg=>
  rw[if_pos pe]at ev;rw[d (by rw[ev];exact pe),ev];simp[pe,aa]
 rw[if_neg (by simp[pe])]at ev;obtain⟨pl,ok⟩:=wP pe;have u:=IB t (vP (b.sp k).pt) A hn (ok.mono d_);rw[pl]at u;simp[pe,hs,a,aa];refine e2_ u ?_
 by_cases m:t.on (vP (b.sp k).pt)<0
 ·rw[if_pos m]at ev;rw[d (by rw[ev];decide),ev];simp[m,aa]
 rw[if_neg m]at ev;simp[m,aa];refine lp (α:=Nat) (fun j=>⟨[(8,.p (.int .i64 j)),(5,.p (.int .i64 k)),(2,.ptr 0 []),(1,.p (.seq (b.aj.map bP)))],[.box false (.p (cA t))]⟩) (fun j=>j<=k/\(b.aj.take j).any (fun o=>decide (gF t.aC (vP o.pt) (vP (b.sp k).pt)<0))=false) (fun j=>k-j) 0 s_ ?_;rintro j ⟨N,w⟩
 by_cases c:j<k
 ·have q:j<b.aj.length:=by omega
  have e:=ah.dY q;have D:=b8 (i:=j) o_;obtain⟨K,J⟩:=wP (L j c);have n:=Yr t (vP (b.sp j).pt) (vP (b.sp k).pt) o_ o_ J ok;rw[pl,K]at n
  by_cases g:gF t.aC (vP (b.sp j).pt) (vP (b.sp k).pt)<0
  ·rw[if_pos (Lf e c (by simp[g]))]at ev;rw[d (by rw[ev];decide),ev];simp[hs,c,q,e,a,aa,g,e3_ n]
  ·simp[hs,c,q,e,a,aa];refine e3_ n ?_;simp[g,D,aa];exact rd (j+1) ⟨c,by rw[yR e,w];simp[g]⟩
 have:j=k:=o_
 subst this;rw[w,if_neg d_]at ev;simp[s,C,aa];exact rd (j+1) ⟨hs,G ev⟩
theorem Fo(t b:ah)(a:fu t)(c:im b):al prog 18 [cA t,.seq (b.aj.map bP)] (.int .i64 (gh t b)):=by
 have k1:=WY t a;refine gA_ nf func18 mix ?_;rw[gh]
 by_cases h:gd t=0
 ·rw[if_neg (by simp[h])];have k2:=XP t b h c a.cl;rw[h]at k1;simp[f18,aa,c1_ k1,c2_ k2]
 ·rw[if_pos h];generalize gd t=e at*;simp[f18,aa,h,c1_ k1]
theorem aK4(v w:NV)(a:aS kQ v.q)(b:aS kQ w.q):al prog 302 [gK v,gK w] (eF (v.dot w)):=by
 have c:=fF v.x w.x (dF a.1) (dF b.1);have d:=fF v.y w.y (dF a.2) (dF b.2);have e:=pP (v.x.mul w.x) (v.y.mul w.y) ((bh a.1 b.1).mono d_) ((bh a.2 b.2).mono d_);refine gA_ nf func302 mix ?_;rw[NV.dot];simp(maxDischargeDepth:=99) [f302,aa,e2 c,e2 d,e2 e]
theorem YK(t:ah)(a:0<=t.aC)(b:t.aC<=1000000):al prog 303 [cB t] (eF (.width t.aC)):=by
 have e:=xV a b;have c:=jx (4*t.aC*t.aC) o_ o_;have w1:a4.wrap (4*t.aC)=4*t.aC:=aU _ o_ o_;have d:a4.wrap (4*t.aC*t.aC)=4*t.aC*t.aC:=aU _ o_ o_;refine gA_ nf func303 mix ?_;rw[NF.width];simp[f303,aa,w1,d,c1 c]
theorem MV(a b:V2):(b.sub a).dot (b.sub a)=(a.sub b).dot (a.sub b):=by
 simp only[V2.sub,V2.dot]
 grind
theorem YM(t:ah)(a b:NV)(d:0<=t.aC)(e:t.aC<=1000000)(f:aS 2000 a.q)(g:aS 2000 b.q):al prog 260 [cB t,gK a,gK b] (.int .i64 (gF t.aC a.q b.q)):=by
 have c:=eB g f;rw[<-NV.dJ]at c;have k1:=Fm b a (g.mono d_) (f.mono d_);have k2:=aK4 (b.sub a) (b.sub a) (c.mono d_) (c.mono d_);have k3:=YK t d e;have k4:=nX ((b.sub a).dot (b.sub a)) (.width t.aC) (by rw[NV.fU];exact(cR c c).mono d_) ((my d e).mono d_);have hq:cr ((b.sub a).dot (b.sub a)).q (NF.width t.aC).q=gF t.aC a.q b.q:=by
  rw[gF,NV.fU,NV.dJ,MV];rfl
 rw[hq]at k4;refine gA_ nf func260 mix ?_;simp(maxDischargeDepth:=99) [f260,aa,c2 k1,e2 k2,e1 k3,e2 k4]
def yz(p:de):Prop:=qV p/\dZ p.pt=0
theorem aL3(t:ah)(v:NV)(o:de)(b:0<=t.aC)(c:t.aC<=1000000)(e:aS 2000 v.q)(d:yz o):
 c8 prog 259 [.box false (.p (cB t)),.box false (.p (gK v))] [.p (bP o),.ptr 0 [],.ptr 1 []] [.box false (.p (cB t)),.box false (.p (gK v))] (.p (.bool (decide (gF t.aC (vP o.pt) v.q<0)))):=by
 obtain⟨⟨h,f⟩,a⟩:=d;obtain⟨g1,g2⟩:=kY a;obtain⟨_,ok⟩:=wP a;have k1:=IE o.pt g1 g2 f;have k2:=YM t (.from o.pt) v b c (by rw[fe];exact ok) e;rw[fe]at k2;generalize gF t.aC (vP o.pt) v.q=y,NV.from o.pt=g at*;refine gz nf (i_ func259) mix (by simp[f259]) ?_;simp[f259,aa];refine e1_ k1 ?_;simp[aa];refine e3_ k2 ?_;simp[aa];exact dh.og s_ s_ s_ s_ s_
theorem X7(t:ah)(v:NV)(l:List de)(h:l.length<=1000000)(a:0<=t.aC)(b:t.aC<=1000000)(d:aS 2000 v.q)(c:∀o∈l,yz o):
 c8 prog 254 [.box false (.p (cB t)),.box false (.p (gK v))] [.p (.seq (l.map bP)),.func 259 [] [.ptr 0 [],.ptr 1 []]] [.box false (.p (cB t)),.box false (.p (gK v))] (.p (.int .i64 (idxFrom (fun o=>decide (gF t.aC (vP o.pt) v.q<0)) l 0))):=by
 refine gz nf (i_ func254) mix (by simp[f254]) ?_;simp[f254];refine lp (α:=Nat) (fun i=>⟨[(8,.p (.int .i64 i)),(7,.p (.int .i64 l.length)),(1,.func 259 [] [.ptr 0 [],.ptr 1 []]),(0,.p (.seq (l.map bP)))],[.box false (.p (cB t)),.box false (.p (gK v))]⟩) (fun i=>i<=l.length/\idxFrom (fun o=>decide (gF t.aC (vP o.pt) v.q<0)) l 0=idxFrom (fun o=>decide (gF t.aC (vP o.pt) v.q<0)) (l.drop i) i) (fun i=>l.length-i) 0 s_ ?_;rintro i ⟨k1,k2⟩;have e:=b8 (i:=i) o_
 by_cases hi:i<l.length
 ·rw[bi hi,idxFrom]at k2;simp[hi];refine cf (aL3 t v l[i] a b d (c _ (ca hi))) [0,1] ?_
  by_cases hk:gF t.aC (vP l[i].pt) v.q<0
  ·simp[hk]at k2;simp[hk,k2,bu]
  ·simp[hk]at k2;simp[hk,e,bu];exact rd (i+1) ⟨hi,k2⟩
 ·have:i=l.length:=by omega
  subst this;simp[idxFrom]at k2;simp[k2]
theorem XT(t:ah)(v:NV)(l:List de)(h:l.length<=1000000)(a:0<=t.aC)(b:t.aC<=1000000)(d:aS 2000 v.q)(c:∀o∈l,yz o):
 c8 prog 174 [.box false (.p (cB t)),.box false (.p (gK v))] [.p (.seq (l.map bP)),.func 259 [] [.ptr 0 [],.ptr 1 []]] [.box false (.p (cB t)),.box false (.p (gK v))] (.p (.bool (l.any (fun o=>decide (gF t.aC (vP o.pt) v.q<0))))):=by
 refine gz nf (i_ func174) mix (by simp[f174]) ?_;simp[f174];refine cf (X7 t v l h a b d c) [0,1] ?_;have:=sT (fun o=>decide (gF t.aC (vP o.pt) v.q<0)) l 0;simp[bu,<-this]
theorem YL(t:ah)(v:NV)(l:List de)(h:l.length<=1000000)(a:0<=t.aC)(b:t.aC<=1000000)(d:aS 2000 v.q)(c:∀o∈l,yz o):
 al prog 179 [cB t,.seq (l.map bP),gK v] (.bool (!l.any (fun o=>decide (gF t.aC (vP o.pt) v.q<0)))):=by
 have k1:=XT t v l h a b d c;generalize (l.any (fun o=>decide (gF t.aC (vP o.pt) v.q<0)))=y at*;refine gA_ nf func179 mix ?_;simp[f179,aa];refine cf k1 [0,1] ?_;simp[aa,bu]
theorem YF(p o:de):c8 prog 175 [.box false (.p (bP p))] [.p (bP o),.ptr 0 []] [.box false (.p (bP p))] (.p (.bool (decide (o.name=p.name)))):=by
 refine gz nf (i_ func175) mix (by simp[f175]) ?_
 by_cases h:o.name=p.name
 ·simp[f175,aa,h];exact dh.og s_ s_ s_ s_ s_
 ·simp[f175,aa,h];exact dh.og s_ s_ s_ s_ s_
theorem X6(p:de)(l:List de)(h:l.length<=1000000):
 c8 prog 254 [.box false (.p (bP p))] [.p (.seq (l.map bP)),.func 175 [] [.ptr 0 []]] [.box false (.p (bP p))] (.p (.int .i64 (idxFrom (fun o=>decide (o.name=p.name)) l 0))):=by
 refine gz nf (i_ func254) mix (by simp[f254]) ?_;simp[f254];refine lp (α:=Nat) (fun i=>⟨[(8,.p (.int .i64 i)),(7,.p (.int .i64 l.length)),(1,.func 175 [] [.ptr 0 []]),(0,.p (.seq (l.map bP)))],[.box false (.p (bP p))]⟩) (fun i=>i<=l.length/\idxFrom (fun o=>decide (o.name=p.name)) l 0=idxFrom (fun o=>decide (o.name=p.name)) (l.drop i) i) (fun i=>l.length-i) 0 s_ ?_;rintro i ⟨k1,k2⟩;have a:=b8 (i:=i) o_
 by_cases hi:i<l.length
 ·rw[bi hi,idxFrom]at k2;simp[hi];refine cf (YF p l[i]) [0] ?_
  by_cases hk:l[i].name=p.name
  ·simp[hk]at k2;simp[hk,k2,bu]
  ·simp[hk]at k2;simp[hk,a,bu];exact rd (i+1) ⟨hi,k2⟩
 ·have:i=l.length:=by omega
  subst this;simp[idxFrom]at k2;simp[k2]
theorem XS(p:de)(l:List de)(h:l.length<=1000000):
 c8 prog 174 [.box false (.p (bP p))] [.p (.seq (l.map bP)),.func 175 [] [.ptr 0 []]] [.box false (.p (bP p))] (.p (.bool (l.any (fun o=>decide (o.name=p.name))))):=by
 refine gz nf (i_ func174) mix (by simp[f174]) ?_;simp[f174];refine cf (X6 p l h) [0] ?_;have:=sT (fun o=>decide (o.name=p.name)) l 0;simp[bu,<-this]
def zp(r:Int)(a:List de)(v:V2):Bool:=a.any (fun o=>decide (gF r (vP o.pt) v<0))
def Eo(t:ah)(a:List de)(s:de):Int:=bN [aZ (decide (t.on (vP s.pt)<0)) 16,aZ (a.any (fun o=>decide (gF t.aC (vP o.pt) (vP s.pt)<0))) 17]
theorem YX(t:ah)(a:List de)(s:de):iN t a s=if ly a s=0 then Eo t a s else ly a s:=by
 rw[iN,ly,Eo];generalize t.on (vP s.pt)=y;generalize dZ s.pt=d;generalize (a.any fun o=>decide (o.name=s.name))=e;generalize (a.any fun o=>decide (gF t.aC (vP o.pt) (vP s.pt)<0))=f;generalize isName s.name=g;cases g
 ·simp[bN,aZ]
 cases e
 case true=>simp[bN,aZ]
 by_cases b:d=0
 case neg=>simp[bN,aZ,b]
 by_cases c:y<0
 ·simp[bN,aZ,b,c]
 cases f
 ·simp[bN,aZ,b,c]
 ·simp[bN,aZ,b,c]
theorem aL6(t:ah)(s:de)(a:List de)(x:t.cs.length<=1000000)(j:gd t=0)(hs:qV s)(i:a.length<=1000000)(w:∀o∈a,yz o):
 c8 prog 173 [.box false (.p (cB t))] [.p (bP s),.p (.seq (a.map bP)),.ptr 0 []] [.box false (.p (cB t))] (.p (.int .i64 (iN t a s))):=by
 obtain⟨_,_,hn,_⟩:=mn j;obtain⟨r0,r1⟩:=lG j;obtain⟨E,m⟩:=hs;have k1:=XS s a i;have k2:=Fe s.name E.1;have k3:=jT (!isName s.name) 8;have k4:=jT (a.any fun o=>decide (o.name=s.name)) 9;have k6:=Cl s.pt m;have k8:=uv [aZ (!isName s.name) 8,aZ (a.any fun o=>decide (o.name=s.name)) 9,dZ s.pt] s_;have b:=J4 (bef:=a) (s:=s);rw[YX];have z:=fun h:ly a s=0=>IE s.pt (kY (b h)).1 (kY (b h)).2 m;have k:=fun h:ly a s=0=>Ui t (.from s.pt) x hn (FV ⟨(gN (kY (b h)).1).mono d_,(gN (kY (b h)).2).mono d_⟩);have A:=jT (decide (t.on (vP s.pt)<0)) 16;have l:ly a s=0->al prog 179 [cB t,.seq (a.map bP),gK (.from s.pt)] (.bool (!zp t.aC a (NV.from s.pt).q)):=fun h=>YL t (.from s.pt) a i o_ o_ (FV ⟨gN (kY (b h)).1,gN (kY (b h)).2⟩) w;have B:=jT (zp t.aC a (vP s.pt)) 17;have d:=uv [aZ (decide (t.on (vP s.pt)<0)) 16,aZ (zp t.aC a (vP s.pt)) 17] s_;simp only[fe]at k l;have f:ly a s=bN [aZ (!isName s.name) 8,aZ (a.any fun o=>decide (o.name=s.name)) 9,dZ s.pt]:=rfl;have g:Eo t a s=bN [aZ (decide (t.on (vP s.pt)<0)) 16,aZ (zp t.aC a (vP s.pt)) 17]:=rfl;rw[<-f]at k8;rw[<-g]at d;clear f g b;generalize ly a s=e,Eo t a s=v,zp t.aC a (vP s.pt)=r,t.on (vP s.pt)=y,dZ s.pt=F,(a.any fun o=>decide (o.name=s.name))=n,isName s.name=u,NV.from s.pt=v1 at*;refine gz nf (i_ func173) mix (by simp[f173]) ?_;have D:al prog 145 [.seq [.int .i64 (aZ (!u) 8),.int .i64 (aZ n 9),.int .i64 F]] (.int .i64 e):=by simpa using k8
 have C:al prog 145 [.seq [.int .i64 (aZ (decide (y<0)) 16),.int .i64 (aZ r 17)]] (.int .i64 v):=by simpa using d
 clear k8 d;generalize G:aZ (!u) 8=w1,H:aZ n 9=K,I:aZ (decide (y<0)) 16=L,J:aZ r 17=M at*;simp[f173,aa];refine cf k1 [1] ?_;simp[aa,bu,sig];refine e1_ k2 ?_;simp[aa];refine e2_ k3 ?_;simp[aa];refine e2_ k4 ?_;simp[aa];refine e1_ k6 ?_;simp[aa];refine ep D t_ t_ ?_;simp[aa];refine⟨r_,?_⟩
 by_cases c:e=0
 case neg=>
  simp[c,aa];exact dh.og s_ s_ s_ s_ s_
 simp[c,aa];refine c1_ (z c) ?_;simp[aa];refine e2_ (k c) ?_;simp[aa];refine e2_ A ?_;simp[aa];refine e3_ (l c) ?_;simp[aa];refine e2_ B ?_;simp[aa];refine ep C t_ t_ ?_;simp[aa];refine⟨r_,?_⟩;exact⟨fun h=>(h c).elim,dh.og s_ s_ s_ s_ s_⟩
theorem PJ(l:List de):gP prog 3 (l.map (AV.p∘bP)):=DA (fun r=>⟨by simp[aa],by simp[aa]⟩) l
theorem aL7(t b:ah)(h:t.cs.length<=1000000)(l:gd t=0)(c:im b):
 c8 prog 172 [.box false (.p (cB t))] [.p (.seq (b.aj.map bP)),.p (.int .i64 24),.func 173 [] [.ptr 0 []]] [.box false (.p (cB t))] (.p (.int .i64 (uF t b))):=by
 obtain⟨n,d⟩:=c;refine gz nf (i_ func172) mix (by simp[f172]) ?_;rw[uF]
 by_cases c1:24<b.aj.length
 ·have cI:(24:Int)<b.aj.length:=by omega
  rw[if_pos c1];simp[f172,cI]
 have e:¬(24:Int)<b.aj.length:=o_
 rw[if_neg c1];simp[f172,e];refine lp (α:=Nat) (fun i=>⟨[(16,.p (.int .i64 i)),(15,.p (.int .i64 b.aj.length)),(14,.p (.seq (b.aj.map bP))),(2,.func 173 [] [.ptr 0 []]),(0,.p (.seq (b.aj.map bP)))],[.box false (.p (cB t))]⟩) (fun i=>i<=b.aj.length/\∀j,j<i->iC (iN t) b.aj j=0) (fun i=>b.aj.length-i) 0 s_ ?_;rintro i ⟨k1,k2⟩
 by_cases hk:i<b.aj.length
 ·have gk:=ah.dY hk;have m:=b8 (i:=i) o_;have a:=aL6 t (b.sp i) (b.aj.take i) h l (d _ (bf gk)) (by rw[b2];omega) (fun o k=>by
   obtain⟨j,f,rfl⟩:=bo.1 k;rw[b2]at f;rw[c9];have:=k2 j o_;have g:=ah.dY (t:=b) (i:=j) o_;rw[iC,g]at this;rw[ah.mi o_];exact⟨d _ (bf g),FE this⟩)
  rw[dg]at a
  by_cases he:iN t (b.aj.take i) (b.sp i)=0
  ·rw[he]at a;have:=wA k2 gk he;simp[hk,gk,aa];refine⟨⟨k1,PJ _⟩,?_⟩;refine ef a [0] ?_;simp[m,aa,bu,sig];exact rd (i+1) ⟨hk,this⟩
  ·have c:=wC k2 gk he;rw[c];simp[hk,gk,aa];refine⟨⟨k1,PJ _⟩,?_⟩;refine ef a [0] ?_;simp[he,aa,bu,sig];exact dh.og s_ s_ s_ s_ s_
 ·have:i=b.aj.length:=by omega
  subst this;rw[rk.2 k2];simp
theorem XI(t b:ah)(a:fu t)(c:im b):al prog 94 [cB t,.seq (b.aj.map bP)] (.int .i64 (gh t b)):=by
 have k1:=W2 t a;refine gA_ nf func94 mix ?_;rw[gh]
 by_cases h:gd t=0
 ·rw[if_neg (by simp[h])];have k2:=aL7 t b a.cl h c;rw[h]at k1;simp[f94,aa];refine c1_ k1 ?_;simp[aa];refine cf k2 [0] ?_;simp[aa,bu]
 ·rw[if_pos h];generalize gd t=e at*;simp[f94,aa,h,c1_ k1]
theorem ah.FH(t:ah)(v:V2):∀m,t.pY v m<=0↔∃i,i<m/\t.side i v<=0
 |0=>⟨fun h=>by have:t.pY v 0=1:=rfl;omega,fun⟨i,h,_⟩=>by omega⟩
 |m+1=>by
  rw[ah.E6];have c:=ah.FH t v m;constructor
  ·intro h;rcases Int.lt_or_le 0 (t.pY v m)with b|b
   ·exact⟨m,o_,o_⟩
   ·obtain⟨i,d,a⟩:=c.1 b;exact⟨i,o_,a⟩
  ·rintro⟨i,d,a⟩
   by_cases e:i=m
   ·subst e;omega
   ·have:=c.2 ⟨i,o_,a⟩;omega
theorem YR(t:ah)(v:NV)(o:t.cs.length<=1000000)(hn:∀p∈t.cs,eH p)(m:aS 3000 v.q):al prog 169 [cB t,bQ v] (.bool (decide (0<t.on v.q))):=by
 refine gA_ nf func169 mix ?_;obtain⟨k,hk,l,n⟩:=Dh (fun i=>decide (0<t.side i v.q)) t.cs.length;simp[f169,aa];refine c1 (Ky t) ?_;simp;refine V7 (J6 t o hn) rfl s_ (fun L i=>mg t v false L) (fun L i=>mg t v false L++gD t i) k (by simpa using hk) (fun L=>rfl) ?_ ?_ ?_
 ·intro L a i hi;refine⟨rfl,by simp[mg],fun _ hx=>?_⟩;simp[mg]at hx⊢;exact hx
 ·intro L a i x hi hx;rw[yS o_]at hx;injection hx with hx
  subst hx;refine⟨?_,s_,fun j _ h=>h,rfl,by simp[mg,gD]⟩;obtain⟨d,a2,a3⟩:=Fb hn m (show i<t.cs.length by omega);have hs:0<t.side i v.q:=by have:=l i hi;simp at this;omega
  have f:¬t.side i v.q<=0:=o_
  refine sU nf mix a rfl rfl k_ ?_;have b:=congrArg eK.env a;dsimp only at b;clear a;generalize v.sub (di (t.at i))=U at*;generalize (t.cJ i).aX U=C at*;simp[mg,qj,gD,aa];refine e2 d ?_;simp[aa];refine e2 a2 ?_;simp[aa];refine e1 a3 ?_;simp[aa,hs,f];refine dh.og s_ s_ s_ s_ ?_;simp;exact uz b s_
 ·intro L a;rcases n with c|⟨c,g⟩
  ·refine .inl ⟨by simpa using c,?_⟩;have e:0<t.on v.q:=by
    have:¬t.on v.q<=0:=by
     rw[ah.on,ah.FH];rintro⟨i,r,s⟩;have:=l i o_;simp at this;omega
    omega
   simp[mg,e]
  ·have hs:t.side k v.q<=0:=by simp at g;exact g
   have f:¬0<t.side k v.q:=o_
   have e:¬0<t.on v.q:=by
    have:t.on v.q<=0:=by
     rw[ah.on,ah.FH];exact⟨k,c,hs⟩
    omega
   obtain⟨d,a2,a3⟩:=Fb hn m c;refine .inr ⟨qj t k,.ret,mg t v false (L.dn .ret)++gD t k,mg t v false (L.dn .ret),yS c,rfl,?_,by simp[mg],fun j _ h=>?_,rfl,by simp[mg,gD],?_,?_⟩
   ·refine sU nf mix a rfl rfl k_ ?_;have b:=congrArg eK.env a;dsimp only at b;clear a;generalize v.sub (di (t.at k))=U at*;generalize (t.cJ k).aX U=C at*;simp[mg,qj,gD,aa];refine e2 d ?_;simp[aa];refine e2 a2 ?_;simp[aa];refine e1 a3 ?_;simp[aa,hs,f];refine dh.og s_ s_ s_ s_ ?_;simp;exact Km b s_
   ·have:=bf h;simp[mg,gD]at this
   ·have b:=congrArg eK.env a;dsimp only at b;simp[mg];exact Km b s_
   ·simp[mg,e,lO]
noncomputable def pO(l:List de):List (PV×PV):=l.map (fun s=>(.str s.name,bQ (.from s.pt)))
def eJ(l:List de)(n:List Nat):Option de:=l.find? (fun s=>decide (s.name=n))
theorem LM(a b:List Nat):ln (.str a) (.str b)=some (decide (b=a)):=by
 rw[ln]
 by_cases h:b=a
 ·simp[h]
 ·simp[h];exact fun e=>h e.symm
@[simp] theorem L3(T:TypeId)(q:List Nat):∀l:List de,gw prog T (pO l) (.str q)=some ((eJ l q).map (fun s=>bQ (.from s.pt)))
 |[]=>rfl
 |p::r=>by
  have:=L3 T q r;rw[pO]at this;rw[pO,bI,gw,qR,LM,eJ,er]
  ·by_cases h:p.name=q
   ·simp[h]
   ·simp[h,this,eJ]
  ·intro u fs h;cases h
theorem MT(q:de):∀{l:List de},eJ l q.name=none->gR (pO l) (.str q.name) (bQ (.from q.pt))=pO (l++[q])
 |[],_=>rfl
 |p::r,h=>by
  rw[eJ,er]at h
  by_cases e:p.name=q.name
  ·simp[e]at h
  ·simp[e]at h;have:=MT q (l:=r) (by rw[eJ,dp];simpa using h);rw[pO]at this⊢;rw[bI,gR,LM,this];simp[e,pO]
noncomputable def jV(t b:ah):PV:=.st 102 [cB t,.seq (b.aj.map bP),.fA (pO b.aj),eF (.width t.aC)]
@[simp] theorem aUs(t b:ah):aP (jV t b)=.agg 102:=rfl
@[simp] theorem aSO(t b:ah):cz (jV t b)=[cB t,.seq (b.aj.map bP),.fA (pO b.aj),eF (.width t.aC)]:=rfl
@[simp] theorem aR4:prog.cellsOf 102=10:=k_
structure vY(b:ah):Prop where
 sl:b.aj.length<=24
 sp:∀s∈b.aj,yz s
 ne:∀i,i<b.aj.length->eJ (b.aj.take i) (b.sp i).name=none
theorem Ce{t b:ah}(l:im b)(h:gh t b=0):gd t=0/\vY b/\(∀s∈b.aj,0<=t.on (vP s.pt)):=by
 rw[gh]at h
 by_cases c:gd t=0
 case neg=>rw[if_pos c]at h;exact absurd h c
 rw[if_neg (by simp[c]),uF]at h
 by_cases f:24<b.aj.length
 ·rw[if_pos f]at h;omega
 rw[if_neg f]at h;have k:=rk.1 h;have d:∀i,i<b.aj.length->iN t (b.aj.take i) (b.sp i)=0:=fun i hi=>by
  have:=k i hi
  rwa [iC,ah.dY hi]at this
 refine⟨c,⟨o_,fun s hs=>?_,fun i hi=>?_⟩,fun s hs=>?_⟩
 ·obtain⟨j,a,rfl⟩:=bo.1 hs;rw[ah.mi a];exact⟨l.sp _ (bf (ah.dY a)),FE (d j a)⟩
 ·have:=d i hi;rw[iN]at this
  split at this
  ·omega
  split at this
  ·omega
  rename_i g;rw[eJ,dp];intro x hx e;exact g (bV.2 ⟨x,hx,e⟩)
 ·obtain⟨j,a,rfl⟩:=bo.1 hs;rw[ah.mi a];have:=d j a;rw[iN]at this
  split at this
  ·omega
  split at this
  ·omega
  split at this
  ·contradiction
  split at this
  ·omega
  omega
def zh:PV:=.st 102 [.st 42 [.aM,.int .i64 0,.aM,.aM],.aM,.gB,.st 100 [.st 98 [.int .i64 0,.aM],.st 98 [.int .i64 0,.aM]]]
@[simp] theorem aU4:aP zh=.agg 102:=rfl
theorem Lq(t b:ah)(f:0<=t.aC)(g:t.aC<=1000000)(j:vY b):al prog 95 [cB t,.seq (b.aj.map bP)] (jV t b):=by
 obtain⟨q,k,e⟩:=j;have k1:=aLb t.aC f g;refine gA_ nf func95 mix ?_;rw[jV];simp[f95,aa];refine e1 k1 ?_;simp[aa];refine⟨rfl,?_⟩;refine lp (α:=Nat) (fun i=>⟨[(17,.p (.int .i64 i)),(16,.p (.int .i64 b.aj.length)),(15,.p (.seq (b.aj.map bP))),(5,.ptr 3 []),(4,.ptr 1 [])],[.box false (.p (cB t)),.box false (.p zh),.map false (pO (b.aj.take i)),.box false (.st 102 [.p (cB t),.p (.seq (b.aj.map bP)),.map 2,.p (eF (.width t.aC))])]⟩) (fun i=>i<=b.aj.length) (fun i=>b.aj.length-i) 0 s_ ?_ (hh:=by simp[zh,pO]);rintro i i1
 by_cases hi:i<b.aj.length
 ·have a:=ah.dY hi;have m:=b8 (i:=i) o_;obtain⟨⟨s,n⟩,o⟩:=k _ (bf a);obtain⟨g1,g2⟩:=kY o;have h:=Sl (b.sp i).pt g1 g2 n;have d:=MT (b.sp i) (e i hi);have l:b.aj.take (i+1)=b.aj.take i++[b.sp i]:=by rw[b1,a];rfl
  have c:=L3 9 (b.sp i).name (b.aj.take i);rw[e i hi]at c;rw[<-l]at d;generalize NV.from (b.sp i).pt=r at*;simp[hi,a,aa];refine e1 h ?_;simp[c,d,m,aa];exact rd (i+1) o_
 ·have:i=b.aj.length:=by omega
  subst this;simp[aa]
theorem YU(l:List (List Nat))(s:List Nat)(h:l.length<=1000000):al prog 220 [.seq (l.map .str),.str s] (.bool (decide (s∈l))):=by
 refine gA_ nf func220 mix ?_;simp[f220];refine lp (α:=Nat) (fun i=>⟨[(5,.p (.int .i64 i)),(1,.p (.str s)),(0,.p (.seq (l.map .str)))],[]⟩) (fun i=>i<=l.length/\∀j(h:j<l.length),j<i->¬l[j]=s) (fun i=>l.length-i) 0 s_ ?_;rintro i ⟨k1,k2⟩;have c:=b8 (i:=i) o_
 by_cases hi:i<l.length
 ·by_cases a:l[i]=s
  ·have:s∈l:=a▸ca hi;simp[hi,a,this]
  ·simp[hi,a,c];exact rd (i+1) ⟨hi,fun j b d=>by
    by_cases e:j=i
    ·subst e;exact a
    ·exact k2 j b o_⟩
 ·have hn:¬s∈l:=fun h=>by
   obtain⟨j,b,e⟩:=bo.1 h;exact k2 j b o_ e
  simp[hi,hn]
theorem YO(l:List (List Nat))(s:List Nat)(h:l.length<=1000000):al prog 261 [.seq (l.map .str),.str s] (.int .i64 (idxFrom (fun o=>decide (o=s)) l 0)):=by
 refine gA_ nf func261 mix ?_;simp[f261];refine lp (α:=Nat) (fun i=>⟨[(8,.p (.int .i64 i)),(7,.p (.int .i64 l.length)),(1,.p (.str s)),(0,.p (.seq (l.map .str)))],[]⟩) (fun i=>i<=l.length/\idxFrom (fun o=>decide (o=s)) l 0=idxFrom (fun o=>decide (o=s)) (l.drop i) i) (fun i=>l.length-i) 0 s_ ?_;rintro i ⟨k1,k2⟩;have b:=b8 (i:=i) o_
 by_cases hi:i<l.length
 ·rw[bi hi,idxFrom]at k2
  by_cases hk:l[i]=s
  ·have a:s=l[i]:=hk.symm;simp[hk]at k2;simp[hi,<-a,k2]
  ·have a:¬s=l[i]:=fun e=>hk e.symm;simp[hk]at k2;simp[hi,a,b];exact rd (i+1) ⟨hi,k2⟩
 ·have:i=l.length:=by omega
  subst this;simp[idxFrom]at k2;simp[k2]
theorem XM(l:List (List Nat))(s:List Nat)(h:l.length<=1000000):al prog 180 [.seq (l.map .str),.str s] (.bool (decide (s∈l))):=by
 have k:=YO l s h;have e:=sT (fun o=>decide (o=s)) l 0;have e2:(l.any fun o=>decide (o=s))=decide (s∈l):=by
  rw[Bool.eq_iff_iff];simp
 rw[e2]at e;refine gA_ nf func180 mix ?_;rw[<-e];generalize idxFrom (fun o=>decide (o=s)) l 0=y at*;simp[f180,c2 k]
def tX(r:Int)(a p q:V2):Bool:=
 if bE ((a.sub p).dot (q.sub p))<=0 then decide (cr ((a.sub p).dot (a.sub p)) (bH r)<0)
 else if 0<=cr ((a.sub p).dot (q.sub p)) ((q.sub p).dot (q.sub p))then decide (cr ((a.sub q).dot (a.sub q)) (bH r)<0)
 else decide (cr ((q.sub p).aX (a.sub p)*(q.sub p).aX (a.sub p)) (bH r*(q.sub p).dot (q.sub p))<0)
theorem Yk(t b:ah)(a p q:NV)(k:0<=t.aC)(l:t.aC<=1000000)(e:aS 300 a.q)(f:aS 300 p.q)(hq:aS 300 q.q):
 al prog 181 [jV t b,bQ a,bQ p,bQ q] (.bool (tX t.aC a.q p.q q.q)):=by
 have od:=eB hq f;have ow:=eB e f;have d:=eB e hq;rw[<-NV.dJ]at od ow d;have of:=my k l;have h:=cR ow od;have g:=cR od od;have i:=cR ow ow;have j:=cR d d;have c:=lB od ow;have k1:=pQ q p (hq.mono d_) (f.mono d_);have k2:=pQ a p (e.mono d_) (f.mono d_);have k3:=sK (a.sub p) (q.sub p) (ow.mono d_) (od.mono d_);have k4:=mC ((a.sub p).dot (q.sub p));have k5:=sf (a.sub p) (ow.mono d_);have k6:=nX ((a.sub p).dot (a.sub p)) (.width t.aC) (by rw[NV.fU];exact i.mono d_) (of.mono d_);have k7:=sf (q.sub p) (od.mono d_);have k8:=nX ((a.sub p).dot (q.sub p)) ((q.sub p).dot (q.sub p)) (by rw[NV.fU];exact h.mono d_) (by rw[NV.fU];exact g.mono d_);have k9:=pQ a q (e.mono d_) (hq.mono d_);have jk:=sf (a.sub q) (d.mono d_);have nw:=nX ((a.sub q).dot (a.sub q)) (.width t.aC) (by rw[NV.fU];exact j.mono d_) (of.mono d_);have nZ:=BN (q.sub p) (a.sub p) (od.mono d_) (ow.mono d_);have vT:=fF ((q.sub p).aX (a.sub p)) ((q.sub p).aX (a.sub p)) (by rw[NV.kK];exact c.mono d_) (by rw[NV.kK];exact c.mono d_);have sP:=fF (.width t.aC) ((q.sub p).dot (q.sub p)) (of.mono d_) (by rw[NV.fU];exact g.mono d_);have yy:=nX (((q.sub p).aX (a.sub p)).mul ((q.sub p).aX (a.sub p))) (NF.mul (.width t.aC) ((q.sub p).dot (q.sub p))) (by
  show aL kB (((q.sub p).aX (a.sub p)).q*((q.sub p).aX (a.sub p)).q);rw[NV.kK];exact(bh c c).mono d_) (by
  show aL kB (bH t.aC*((q.sub p).dot (q.sub p)).q);rw[NV.fU];exact(bh of g).mono d_)
 have e1:((a.sub p).dot (q.sub p)).q=(a.q.sub p.q).dot (q.q.sub p.q):=by rw[NV.fU,NV.dJ,NV.dJ]
 have e2:((a.sub p).dot (a.sub p)).q=(a.q.sub p.q).dot (a.q.sub p.q):=by rw[NV.fU,NV.dJ]
 have e3:((q.sub p).dot (q.sub p)).q=(q.q.sub p.q).dot (q.q.sub p.q):=by rw[NV.fU,NV.dJ]
 have e4:((a.sub q).dot (a.sub q)).q=(a.q.sub q.q).dot (a.q.sub q.q):=by rw[NV.fU,NV.dJ]
 have e5:(((q.sub p).aX (a.sub p)).mul ((q.sub p).aX (a.sub p))).q=(q.q.sub p.q).aX (a.q.sub p.q)*(q.q.sub p.q).aX (a.q.sub p.q):=by
  show((q.sub p).aX (a.sub p)).q*((q.sub p).aX (a.sub p)).q=_;rw[NV.kK,NV.dJ,NV.dJ]
 have e6:(NF.mul (.width t.aC) ((q.sub p).dot (q.sub p))).q=bH t.aC*(q.q.sub p.q).dot (q.q.sub p.q):=by
  show bH t.aC*((q.sub p).dot (q.sub p)).q=_;rw[e3]
 rw[e1]at k4 k8;rw[e2,yW]at k6;rw[e3]at k8;rw[e4,yW]at nw;rw[e5,e6]at yy;rw[<-bE]at k4;rw[tX];clear e1 e2 e3 e4 e5 e6 od ow d of h g i j c;generalize bE ((a.q.sub p.q).dot (q.q.sub p.q))=s1,cr ((a.q.sub p.q).dot (q.q.sub p.q)) ((q.q.sub p.q).dot (q.q.sub p.q))=s2,cr ((a.q.sub p.q).dot (a.q.sub p.q)) (bH t.aC)=w,cr ((a.q.sub q.q).dot (a.q.sub q.q)) (bH t.aC)=x,cr ((q.q.sub p.q).aX (a.q.sub p.q)*(q.q.sub p.q).aX (a.q.sub p.q)) (bH t.aC*(q.q.sub p.q).dot (q.q.sub p.q))=y,(NF.mul (.width t.aC) ((q.sub p).dot (q.sub p)))=m,((q.sub p).aX (a.sub p)).mul ((q.sub p).aX (a.sub p))=n,(q.sub p).aX (a.sub p)=o,(a.sub q).dot (a.sub q)=r,(a.sub p).dot (a.sub p)=s,(q.sub p).dot (q.sub p)=u,(a.sub p).dot (q.sub p)=v,a.sub p=v1,q.sub p=v2,a.sub q=v3 at*;refine gA_ nf func181 mix ?_;simp[f181,aa];refine e2_ k1 ?_;simp[aa];refine e2_ k2 ?_;simp[aa];refine⟨r_,?_⟩;refine c2_ k3 ?_;simp[aa];refine c1_ k4 ?_
 by_cases c1:s1<=0
 ·rw[if_pos c1];simp[c1,aa,e1_ k5,e2_ k6]
 rw[if_neg c1];simp[c1,aa];refine e1_ k7 ?_;simp[aa];refine e2_ k8 ?_
 by_cases c2:0<=s2
 ·rw[if_pos c2];simp(maxDischargeDepth:=99) [c2,aa,e2_ k9,e1_ jk,e2_ nw]
 rw[if_neg c2];simp(maxDischargeDepth:=99) [c2,aa,c2_ nZ,e2_ vT,e1_ k7,e2_ sP,e2_ yy]
@[simp high] theorem aRW(c:Bool)(H:ak)(v w:V2):kg prog .eql 32 c H (.p (eV v)) (.p (eV w))=some (True,{v:=.p (.bool (nQ (aN v.x) (aN v.y) (aN w.x) (aN w.y)))}):=by
 rw[eV,eV,et,et];simp[kg]
def yr(p q:V2):PV:=.st 95 [eV p,eV q]
@[simp] theorem aUS(p q:V2):aP (yr p q)=.agg 95:=rfl
@[simp] theorem aTd(p q:V2):cz (yr p q)=[eV p,eV q]:=rfl
def ry(a p q:V2):Rat:=
 if bE ((q.sub p).dot (a.sub p))<=0 then(a.sub p).dot (a.sub p)
 else if 0<=cr ((q.sub p).dot (a.sub p)) ((q.sub p).dot (q.sub p))then(a.sub q).dot (a.sub q)
 else(q.sub p).aX (a.sub p)*(q.sub p).aX (a.sub p)/(q.sub p).dot (q.sub p)
theorem YI(w:V2):V2.dot ⟨0,0⟩ w=0:=by simp only[V2.dot];grind
theorem aQc{q:Rat}(h:¬bE q<=0):0<q:=by
 rw[bE]at h
 split at h
 ·omega
 split at h
 ·omega
 ·grind
theorem FF{v w:V2}(h:¬bE (v.dot w)<=0):0<v.dot v:=by
 have h:=aQc h;obtain⟨x,y⟩:=v;obtain⟨a,b⟩:=w;simp only[V2.dot]at h⊢;have sq:∀z:Rat,0<=z*z:=fun z=>by
  rcases gb (a:=0) (b:=z)with g|g
  ·exact fi g g
  ·have:z*z=(-z)*(-z):=by grind
   rw[this];exact fi (by grind) (by grind)
 have c:=sq x;have d:=sq y
 by_cases hx:x=0
 ·by_cases hy:y=0
  ·subst hx hy;grind
  ·have:y*y≠0:=fun e=>by rcases fb.1 e with e|e<;>exact hy e
   grind
 ·have:x*x≠0:=fun e=>by rcases fb.1 e with e|e<;>exact hx e
  grind
theorem aBV(a p q:V2)(d:aS 300 a)(b:aS 300 p)(hq:aS 300 q):al prog 275 [yr p q,eV a] (.str (aN (ry a p q))):=by
 have od:=eB hq b;have ow:=eB d b;have i:=eB d hq;have g:=cR od ow;have f:=cR od od;have c:=lB od ow;have k1:=lj q p (hq.mono d_) (b.mono d_);have k2:=lj a p (d.mono d_) (b.mono d_);have k3:=sJ (q.sub p) (a.sub p) (od.mono d_) (ow.mono d_);have k4:=mA ((q.sub p).dot (a.sub p)) (g.mono d_);have k5:=pC (a.sub p) (ow.mono d_);have k7:=pC (q.sub p) (od.mono d_);have k8:=oL ((q.sub p).dot (a.sub p)) ((q.sub p).dot (q.sub p)) (g.mono d_) (f.mono d_);have k9:=lj a q (d.mono d_) (hq.mono d_);have jk:=pC (a.sub q) (i.mono d_);have nZ:=yQ (q.sub p) (a.sub p) (od.mono d_) (ow.mono d_);have vT:=ff ((q.sub p).aX (a.sub p)) ((q.sub p).aX (a.sub p)) (c.mono d_) (c.mono d_);have sP:=fun j=>nH ((q.sub p).aX (a.sub p)*(q.sub p).aX (a.sub p)) ((q.sub p).dot (q.sub p)) ((bh c c).mono d_) (f.mono d_) j;have hz:(q.sub p)=⟨0,0⟩->bE ((q.sub p).dot (a.sub p))<=0:=fun h=>by rw[h,YI];decide
 have k:¬bE ((q.sub p).dot (a.sub p))<=0->(q.sub p).dot (q.sub p)≠0:=fun h=>by
  have:=FF h
  grind
 rw[ry];clear od ow i g f c;generalize bE ((q.sub p).dot (a.sub p))=s1,cr ((q.sub p).dot (a.sub p)) ((q.sub p).dot (q.sub p))=s2 at*;generalize (q.sub p).dot (a.sub p)=m,(a.sub p).dot (a.sub p)=n,(a.sub q).dot (a.sub q)=o,(q.sub p).dot (q.sub p)=r,(q.sub p).aX (a.sub p)=s at*;generalize a.sub p=v1,q.sub p=v2,a.sub q=v3 at*;have l:=Mg;refine gA_ nf func275 mix ?_;simp[f275,aa];refine e2_ k1 ?_;simp[aa];refine e2_ k2 ?_;simp[aa];refine⟨r_,?_⟩;refine e0_ l ?_
 by_cases e:v2=⟨0,0⟩
 ·have:=hz e;have b:nQ (aN v2.x) (aN v2.y) (aN 0) (aN 0)=true:=by rw[e];simp[nQ]
  rw[if_pos this];simp[-kg,b,aa];simp[aa,c1_ k5]
 have b:nQ (aN v2.x) (aN v2.y) (aN 0) (aN 0)=false:=WV (t:=⟨0,0⟩) e
 by_cases c1:s1<=0
 ·rw[if_pos c1];simp[-kg,b,aa];simp(maxDischargeDepth:=99) [aa,c1,e2_ k3,e1_ k4,c1_ k5]
 rw[if_neg c1];simp[-kg,b,aa];refine e2_ k3 ?_;simp[aa];refine e1_ k4 ?_;simp[c1,aa];refine e2_ k3 ?_;simp[aa];refine e1_ k7 ?_;simp[aa];refine e2_ k8 ?_
 by_cases c2:0<=s2
 ·rw[if_pos c2];simp[c2,aa,c2_ k9,c1_ jk]
 rw[if_neg c2];simp[c2,aa];refine c2_ nZ ?_;simp[aa];refine e2_ vT ?_;simp[aa];refine e1_ k7 ?_;simp[aa];refine e2_ (sP (k c1)) ?_;simp[aa]
theorem YJ(v w:V2):v.dot w=w.dot v:=by simp only[V2.dot];grind
theorem YW(r:Int)(a p q:V2):decide (cr (ry a p q) (bH r)<0)=tX r a p q:=by
 rw[ry,tX,YJ (a.sub p) (q.sub p)]
 by_cases c1:bE ((q.sub p).dot (a.sub p))<=0
 ·rw[if_pos c1,if_pos c1]
 rw[if_neg c1,if_neg c1];have b:=FF c1
 by_cases c2:0<=cr ((q.sub p).dot (a.sub p)) ((q.sub p).dot (q.sub p))
 ·rw[if_pos c2,if_pos c2]
 rw[if_neg c2,if_neg c2,decide_eq_decide,BS,BS];exact fv b
theorem YC(a p q:V2)(b:aS 300 a)(c:aS 300 p)(hq:aS 300 q):aL 8000 (ry a p q):=by
 have od:=eB hq c;have ow:=eB b c;have e:=eB b hq;have d:=lB od ow;rw[ry]
 split
 ·exact(cR ow ow).mono d_
 split
 ·exact(cR e e).mono d_
 ·rename_i f _;have h:=FF f;exact(iq (bh d d) (cR od od)).mono d_
theorem YV(r:Int)(a p q:V2)(b:0<=r)(c:r<=1000000)(d:aS 300 a)(e:aS 300 p)(hq:aS 300 q):al prog 221 [.int .i64 r,yr p q,eV a] (.bool (tX r a p q)):=by
 have k1:=aBV a p q d e hq;have k2:=D2 r b c;have k3:=oL (ry a p q) (bH r) ((YC a p q d e hq).mono d_) ((my b c).mono d_);refine gA_ nf func221 mix ?_;rw[<-YW];generalize cr (ry a p q) (bH r)=y,ry a p q=n at*;simp(maxDischargeDepth:=99) [f221,aa,c2_ k1,c1_ k2,c2_ k3]
def ic(r:Int)(p q:V2)(ex:List (List Nat)):List de->List Nat
 |[]=>[]
 |s::l=>if !decide (s.name∈ex)&&tX r (vP s.pt) p q then s.name else ic r p q ex l
theorem wF{b:ah}(a:vY b){i:Nat}(hi:i<b.aj.length):eJ b.aj (b.sp i).name=some (b.sp i):=by
 have h:=a.ne i hi;rw[eJ]at h⊢;have e:b.aj=b.aj.take i++(b.sp i::b.aj.drop (i+1)):=by
  rw[<-ah.mi hi,<-bi hi,List.take_append_drop]
 generalize b.sp i=x at*;rw[e,List.find?_append,h];simp
theorem LJ(t b:ah)(p q:NV)(ex:List (List Nat))(h:0<=t.aC)(j:t.aC<=1000000)(f:vY b)(l:∀s∈b.aj,aS 300 (vP s.pt))(k:ex.length<=1000000)(m:aS 300 p.q)(hq:aS 300 q.q):
 al prog 96 [jV t b,bQ p,bQ q,.seq (ex.map .str)] (.str (ic t.aC p.q q.q ex b.aj)):=by
 have n:=f.sl;refine gA_ nf func96 mix ?_;simp[f96,aa];refine lp (α:=Nat) (fun i=>⟨[(14,.p (.int .i64 i)),(13,.p (.int .i64 b.aj.length)),(12,.p (.seq (b.aj.map bP))),(6,.ptr 2 []),(5,.ptr 1 []),(4,.ptr 0 []),(3,.p (.seq (ex.map .str)))],[.box false (.p (jV t b)),.box false (.p (bQ p)),.box false (.p (bQ q))]⟩) (fun i=>i<=b.aj.length/\ic t.aC p.q q.q ex b.aj=ic t.aC p.q q.q ex (b.aj.drop i)) (fun i=>b.aj.length-i) 0 s_ ?_;rintro i ⟨i1,i2⟩
 by_cases hi:i<b.aj.length
 ·have d:=ah.dY hi;have g:=b8 (i:=i) o_;rw[bi hi,ic,ah.mi hi]at i2;have c:=XM ex (b.sp i).name k;have a:=Yk t b (.from (b.sp i).pt) p q h j (by rw[fe];exact l _ (bf d)) m hq;rw[fe]at a;have e:=wF f hi;generalize ic t.aC p.q q.q ex b.aj=R at*
  by_cases hm:(b.sp i).name∈ex
  ·simp[hm]at c i2;simp[hi,d,aa];refine c2_ c ?_;simp[g,aa];exact rd (i+1) ⟨o_,i2⟩
  ·simp[hm]at c i2;cases hk:tX t.aC (vP (b.sp i).pt) p.q q.q
   ·rw[hk]at a i2;simp[hi,d,aa];refine c2_ c ?_;simp[e,aa];refine c4_ a ?_;simp[g,aa];exact rd (i+1) ⟨o_,by simpa using i2⟩
   ·rw[hk]at a i2;simp at i2;simp[hi,d,aa,e,i2,c2_ c,c4_ a]
 ·have:i=b.aj.length:=by omega
  subst this;simp[ic]at i2;simp[i2,aa]
theorem Ls(t b:ah)(p q:V2)(ex:List (List Nat))(f:0<=t.aC)(g:t.aC<=1000000)(m:b.aj.length<=1000000)(l:∀s∈b.aj,dZ s.pt=0)(j:∀s∈b.aj,aS 300 (vP s.pt))(h:ex.length<=1000000)(k:aS 300 p)(hq:aS 300 q):
 al prog 123 [cA t,.seq (b.aj.map bP),yr p q,.seq (ex.map .str)] (.str (ic t.aC p q ex b.aj)):=by
 refine gA_ nf func123 mix ?_;simp[f123,aa];refine lp (α:=Nat) (fun i=>⟨[(9,.p (.int .i64 i)),(6,.ptr 1 []),(4,.ptr 0 []),(3,.p (.seq (ex.map .str))),(1,.p (.seq (b.aj.map bP)))],[.box false (.p (cA t)),.box false (.p (yr p q))]⟩) (fun i=>i<=b.aj.length/\ic t.aC p q ex b.aj=ic t.aC p q ex (b.aj.drop i)) (fun i=>b.aj.length-i) 0 s_ ?_;rintro i ⟨i1,i2⟩
 by_cases hi:i<b.aj.length
 ·have a:=ah.dY hi;have e:=b8 (i:=i) o_;rw[bi hi,ic,ah.mi hi]at i2;have d:=YU ex (b.sp i).name h;have c:=YV t.aC (vP (b.sp i).pt) p q f g (j _ (bf a)) k hq;rw[(wP (l _ (bf a))).1]at c;generalize ic t.aC p q ex b.aj=R at*
  by_cases hm:(b.sp i).name∈ex
  ·simp[hm]at d i2;simp[hi,a,aa];refine e2_ d ?_;simp[e,aa];exact rd (i+1) ⟨o_,i2⟩
  ·simp[hm]at d i2;cases hk:tX t.aC (vP (b.sp i).pt) p q
   ·rw[hk]at c i2;simp[hi,a,aa];refine e2_ d ?_;simp[hi,a,aa];refine e3_ c ?_;simp[e,aa];exact rd (i+1) ⟨o_,by simpa using i2⟩
   ·rw[hk]at c i2;simp at i2;simp[hi,a,aa,i2,e2_ d,e3_ c]
 ·have:i=b.aj.length:=by omega
  subst this;simp[ic]at i2;simp[i2,aa]
def jt(t b:ah)(ar aB:List Nat):PV:=.st 28 [cA t,.seq (b.aj.map bP),.str ar,.str aB]
@[simp] theorem aUJ(t b:ah)(ar aB:List Nat):aP (jt t b ar aB)=.agg 28:=rfl
@[simp] theorem aS5(t b:ah)(ar aB:List Nat):cz (jt t b ar aB)=[cA t,.seq (b.aj.map bP),.str ar,.str aB]:=rfl
theorem zo(b:ah)(name:List Nat)(k:b.aj.length<=1000000):al prog 52 [.seq (b.aj.map bP),.str name] (.int .i64 (jU b name)):=by
 refine gA_ nf func52 mix ?_;simp[f52,aa];refine lp (α:=Nat) (fun i=>⟨[(5,.p (.int .i64 i)),(1,.p (.str name)),(0,.p (.seq (b.aj.map bP)))],[]⟩) (fun i=>i<=b.aj.length/\∀j,j<i->¬(b.sp j).name=name) (fun i=>b.aj.length-i) 0 s_ ?_;rintro i ⟨h,d⟩
 by_cases hi:i<b.aj.length
 ·have e:=ah.dY hi;have g:=b8 (i:=i) o_
  by_cases a:(b.sp i).name=name
  ·have:jU b name=i:=by
    have:b.aj.findIdx? (fun s=>decide (s.name=name))=some i:=by
     rw[b0];refine⟨hi,by rw[ah.mi];simp[a],fun j c=>?_⟩;rw[ah.mi];simp[d j c]
    rw[jU,this]
   simp[hi,e,a,this,aa]
  ·simp[hi,e,a,g,aa];exact rd (i+1) ⟨hi,fun j c=>by
    by_cases f:j=i
    ·subst f;exact a
    ·exact d j o_⟩
 ·have:i=b.aj.length:=by omega
  subst this;have:jU b name= -1:=by
   have:b.aj.findIdx? (fun s=>decide (s.name=name))=none:=by
    rw[cb];intro s hs;obtain⟨j,c,rfl⟩:=bo.1 hs;rw[ah.mi];simp[d j c]
   rw[jU,this]
  simp[this,aa]
def hasB(b:ah)(name:List Nat)(i:Nat):Prop:=jU b name=i/\i<b.aj.length/\eJ b.aj name=some (b.sp i)
theorem zb(b:ah)(name:List Nat):(∃i,hasB b name i)\/(jU b name= -1/\eJ b.aj name=none):=by
 cases h:b.aj.findIdx? (fun s=>decide (s.name=name))with
 |some i=>
  left;have c:=h;rw[b0]at c;obtain⟨a,d,e⟩:=c;refine⟨i,by rw[jU,h],a,?_⟩;rw[eJ,List.find?_eq_some_iff_getElem];rw[ah.mi a]at d;exact⟨d,i,a,ah.mi a,fun j f=>by have:=e j f;simpa using this⟩
 |none=>
  right;refine⟨by rw[jU,h],?_⟩;rw[cb]at h;rw[eJ,dp];intro s hs;have:=h s hs;simpa using this
def wS(r:Int)(a:V2)(n:Nat):V2:=a.add ((lP n).mul ((2*r:Int):Rat))
structure kA(t b:ah)(ar aB:List Nat)(i j:Nat):Prop where
 eZ:gd t=0
 tl:t.cs.length<=1000000
 L:vY b
 Bh:∀s∈b.aj,aS 60 (vP s.pt)
 ci:hasB b ar i
 bj:hasB b aB j
theorem kA.at{t b:ah}{ar aB:List Nat}{i j:Nat}(h:kA t b ar aB i j){k:Nat}(hk:k<b.aj.length):eV (vP (b.sp k).pt)=et (b.sp k).pt/\aS 60 (vP (b.sp k).pt):=by
 have m:=bf (ah.dY hk);exact⟨(wP (h.L.sp _ m).2).1,h.Bh _ m⟩
theorem wJ{n:Nat}:aS 8 (lP n):=CV (GB (e9 _ d_)) _
theorem Ly{r:Int}{a:V2}{n:Nat}(d:0<=r)(e:r<=1000)(b:aS 60 a):aS 90 (wS r a n):=by
 have c:aL 12 ((2*r:Int):Rat):=ke o_ d_;exact(JI b (yP wJ c)).mono d_
theorem aAQ(t b:ah)(ar aB:List Nat)(i j:Nat)(h:kA t b ar aB i j):al prog 215 [jt t b ar aB] (eV (vP (b.sp i).pt)):=by
 obtain⟨d,a,_⟩:=h.ci;have e:=h.L.sl;have k:=zo b ar o_;have c:=ah.dY a;rw[d]at k;rw[(h.at a).1];refine gA_ nf func215 mix ?_;simp[f215,aa,a,c,e2_ k]
theorem FD(t b:ah)(ar aB:List Nat)(i j:Nat)(h:kA t b ar aB i j):al prog 119 [jt t b ar aB] (eV (vP (b.sp j).pt)):=by
 obtain⟨d,a,_⟩:=h.bj;have e:=h.L.sl;have k:=zo b aB o_;have c:=ah.dY a;rw[d]at k;rw[(h.at a).1];refine gA_ nf func119 mix ?_;simp[f119,aa,a,c,e2_ k]
theorem Ns(t b:ah)(ar aB:List Nat):al prog 124 [jt t b ar aB] (.seq [.str ar,.str aB]):=by
 refine gA_ nf func124 mix ?_;simp[f124,aa]
theorem Yg(t b:ah)(ar aB:List Nat)(i j n:Nat)(h:kA t b ar aB i j)(hn:n<32):al prog 214 [jt t b ar aB,.int .i64 n] (eV (wS t.aC (vP (b.sp j).pt) n)):=by
 obtain⟨r0,r1⟩:=lG h.eZ;have k1:=FD t b ar aB i j h;have k2:=Mh n hn;have k3:=A1 (2*t.aC) o_ o_;have a:aL 12 ((2*t.aC:Int):Rat):=ke o_ d_;have k4:=Kl (vP (b.sp j).pt) (lP n) ((2*t.aC:Int):Rat) ((h.at h.bj.2.1).2.mono d_) (wJ.mono d_) (a.mono d_);have w:a4.wrap (2*t.aC)=2*t.aC:=aU _ o_ o_;rw[wS];refine gA_ nf func214 mix ?_;generalize (vP (b.sp j).pt).add ((lP n).mul ((2*t.aC:Int):Rat))=R,lP n=u,vP (b.sp j).pt=p,aN ((2*t.aC:Int):Rat)=x at*;simp(maxDischargeDepth:=99) [f214,aa,w,e1_ k1,e1_ k2,e1_ k3,e3_ k4]
def Jz(t b:ah)(ar aB:List Nat)(cp c a:V2):List Nat×Int:=
 if t.on a<=0 then([],16)
 else if bE ((a.sub cp).dot (c.sub a))<=0 then([],18)
 else if ic t.aC cp a [ar,aB] b.aj=[]then([],0)else(ic t.aC cp a [ar,aB] b.aj,30)
def jS(t b:ah)(ar aB:List Nat)(i j n:Nat):List Nat×Int:=
 Jz t b ar aB (vP (b.sp i).pt) (vP (b.sp j).pt) (wS t.aC (vP (b.sp j).pt) n)
theorem aDO(t b:ah)(ar aB:List Nat)(i j n:Nat)(h:kA t b ar aB i j)(hn:n<32):
 al prog 116 [jt t b ar aB,.int .i64 n] (.aE [.str (jS t b ar aB i j n).1,.int .i64 (jS t b ar aB i j n).2]):=by
 obtain⟨r0,r1⟩:=lG h.eZ;obtain⟨_,_,l,_⟩:=mn h.eZ;have o:=h.L.sl;have f:=(h.at h.ci.2.1).2;have e:=(h.at h.bj.2.1).2;have k1:=Yg t b ar aB i j n h hn;have k2:=aAQ t b ar aB i j h;have k3:=FD t b ar aB i j h;have k4:=Ns t b ar aB;have c:=Ly (n:=n) (r:=t.aC) o_ o_ e;rw[jS];generalize wS t.aC (vP (b.sp j).pt) n=a at*;generalize vP (b.sp j).pt=d,vP (b.sp i).pt=cp at*;have g:=eB c f;have k:=eB e c;have k5:=IB t a h.tl l (c.mono d_);have k6:=lj a cp (c.mono d_) (f.mono d_);have k7:=lj d a (e.mono d_) (c.mono d_);have k8:=sJ (a.sub cp) (d.sub a) (g.mono d_) (k.mono d_);have k9:=mA ((a.sub cp).dot (d.sub a)) ((cR g k).mono d_);have jk:=Ls t b cp a [ar,aB] o_ o_ o_ (fun s hs=>(h.L.sp s hs).2) (fun s hs=>(h.Bh s hs).mono d_) s_ (f.mono d_) (c.mono d_);have m:al prog 123 [cA t,.seq (b.aj.map bP),.st 95 [eV cp,eV a],.seq [.str ar,.str aB]] (.str (ic t.aC cp a [ar,aB] b.aj)):=jk;rw[Jz];clear jk g k c e f;generalize ic t.aC cp a [ar,aB] b.aj=R,bE ((a.sub cp).dot (d.sub a))=s1 at*;generalize (a.sub cp).dot (d.sub a)=p at*;generalize a.sub cp=v1,d.sub a=v2,t.on a=y at*;refine gA_ nf func116 mix ?_;simp[f116,aa];refine c2_ k1 ?_;simp[aa];refine c2_ k5 ?_
 by_cases c1:y<=0
 ·rw[if_pos c1];simp[c1,aa]
 rw[if_neg c1];simp[c1,aa];refine e1_ k2 ?_;simp[aa];refine e2_ k6 ?_;simp[aa];refine e1_ k3 ?_;simp[aa];refine e2_ k7 ?_;simp[aa];refine e2_ k8 ?_;simp[aa];refine e1_ k9 ?_
 by_cases c2:s1<=0
 ·rw[if_pos c2];simp[c2,aa]
 rw[if_neg c2];simp[c2,aa];refine e1_ k2 ?_;simp[aa];refine e1_ k4 ?_;simp[aa];refine e4_ m ?_
 by_cases c3:R=[]
 ·rw[if_pos c3];simp[c3,aa]
 ·rw[if_neg c3];simp[c3,aa]
def kI(t b:ah)(ar aB:List Nat)(i j m:Nat):List Nat:=(b3 m).filter (fun n=>decide ((jS t b ar aB i j n).2=0))
theorem X0(t b:ah)(ar aB:List Nat)(i j m:Nat):kI t b ar aB i j (m+1)=kI t b ar aB i j m++(if(jS t b ar aB i j m).2=0 then[m]else[]):=by
 rw[kI,da,ei,<-kI]
 by_cases h:(jS t b ar aB i j m).2=0
 ·simp[h]
 ·simp[h]
theorem Lt(t b:ah)(ar aB:List Nat)(i j m:Nat):(kI t b ar aB i j m).length<=m:=by
 have:=ec (fun n=>decide ((jS t b ar aB i j n).2=0)) (b3 m);rw[c6]at this;exact this
def jM(n:Nat):PV:=.int .i64 n
theorem aCs(t b:ah)(ar aB:List Nat)(i j:Nat)(h:kA t b ar aB i j):
 al prog 56 [jt t b ar aB] (.seq ((kI t b ar aB i j 32).map jM)):=by
 have a:=fun n hn=>aDO t b ar aB i j n h hn;refine gA_ nf func56 mix ?_;simp[f56,aa];refine lp (α:=Nat) (fun m=>⟨[(4,.p (.int .i64 m)),(3,.sl 1 (kI t b ar aB i j m).length 1 0 (kI t b ar aB i j m).length),(1,.ptr 0 [])],[.box false (.p (jt t b ar aB)),.arr .grow (kI t b ar aB i j m).length 1 ((kI t b ar aB i j m).map (AV.p∘jM))]⟩) (fun m=>m<=32) (fun m=>32-m) 0 s_ ?_ (he:=by simp[kI]) (hh:=by simp[kI]);rintro m m1
 by_cases hm:m<32
 ·have d:=b8 (i:=m) o_;have hs:=X0 t b ar aB i j m;have f:=Lt t b ar aB i j m;have g:(1000:Nat)<dA:=by decide
  have a:=a m hm;generalize (jS t b ar aB i j m).2=e,(jS t b ar aB i j m).1=k at*;have c:(m:Int)<32:=o_
  by_cases he:e=0
  ·rw[if_pos he]at hs;simp[c,aa];refine c2_ a ?_;simp[he,d,aa];exact⟨o_,rd (m+1) o_ (he:=by simp[hs]) (hh:=by simp[hs,jM])⟩
  ·rw[if_neg he,ew]at hs;simp[c,aa];refine c2_ a ?_;simp[he,d,aa];exact rd (m+1) o_ (he:=by simp[hs]) (hh:=by simp[hs])
 ·have:m=32:=by omega
  subst this;simp[aa]
def jC(t b:ah)(ar aB:List Nat):PV:=.st 45 [cB t,.seq (b.aj.map bP),.str ar,.str aB]
@[simp] theorem aUI(t b:ah)(ar aB:List Nat):aP (jC t b ar aB)=.agg 45:=rfl
@[simp] theorem aS4(t b:ah)(ar aB:List Nat):cz (jC t b ar aB)=[cB t,.seq (b.aj.map bP),.str ar,.str aB]:=rfl
@[simp] theorem aSc:prog.cellsOf 45=7:=k_
def gf(t b:ah)(ar aB:List Nat):Int:=
 if gh t b≠0 then gh t b else if eJ b.aj ar=none\/eJ b.aj aB=none then 10 else if ar=aB then 9 else 0
theorem aQf(t b:ah)(ar aB:List Nat)(h:gh t b=0):gf t b ar aB=bN [aZ (!(eJ b.aj ar).isSome||!(eJ b.aj aB).isSome) 10,aZ (ar==aB) 9]:=by
 rw[gf,if_neg (by simp[h])];cases eJ b.aj ar<;>cases eJ b.aj aB<;>by_cases e:ar=aB<;>simp[bN,aZ,e]
theorem XV(t b:ah)(ar aB:List Nat)(k:fu t)(c:im b):al prog 10 [jt t b ar aB] (.int .i64 (gf t b ar aB)):=by
 have k1:=Fo t b k c;have k2:=zo b ar c.sl;have k3:=zo b aB c.sl;have w1:a4.wrap (-1)= -1:=rfl;refine gA_ nf func10 mix ?_;rw[gf]
 by_cases h:gh t b=0
 case neg=>
  rw[if_pos h];generalize gh t b=e at*;simp[f10,aa,h,c2_ k1]
 rw[h]at k1;rw[if_neg (by simp[h])];rcases zb b ar with⟨i,i1,i2,i3⟩|⟨i1,i3⟩
 case inr=>
  rw[i1]at k2;rw[if_pos (.inl i3)];simp(maxDischargeDepth:=99) [f10,aa,c2_ k1,c2_ k2]
 have a:¬(i:Int)<0:=o_
 rw[i1]at k2;rcases zb b aB with⟨j,d,l,f⟩|⟨d,f⟩
 case inr=>
  rw[d]at k3;rw[if_pos (.inr f)];simp(maxDischargeDepth:=99) [f10,aa,a,c2_ k1,c2_ k2,c2_ k3]
 have g:¬(j:Int)<0:=o_
 rw[d]at k3;rw[if_neg (by rw[i3,f];simp)]
 by_cases e:ar=aB
 ·rw[if_pos e];simp(maxDischargeDepth:=99) [f10,aa,a,g,e,c2_ k1,c2_ k2,c2_ k3]
 ·rw[if_neg e];simp(maxDischargeDepth:=99) [f10,aa,a,g,e,c2_ k1,c2_ k2,c2_ k3]
theorem Ll(t b:ah)(ar aB:List Nat)(g:fu t)(a:im b):al prog 97 [jC t b ar aB] (.int .i64 (gf t b ar aB)):=by
 have k1:=XI t b g a
 by_cases h:gh t b=0
 case neg=>
  rw[gf,if_pos h];refine gA_ nf func97 mix ?_;generalize gh t b=e at*;simp[f97,aa,h,c2_ k1]
 obtain⟨d,f,_⟩:=Ce a h;obtain⟨r0,r1⟩:=lG d;have k2:=Lq t b o_ o_ f;have k3:=pz (!(eJ b.aj ar).isSome||!(eJ b.aj aB).isSome) 10;have k4:=pz (ar==aB) 9;have k5:=zP [aZ (!(eJ b.aj ar).isSome||!(eJ b.aj aB).isSome) 10,aZ (ar==aB) 9] s_;rw[<-aQf t b ar aB h]at k5;rw[h]at k1;have i:al prog 47 [.seq [.int .i64 (aZ (!(eJ b.aj ar).isSome||!(eJ b.aj aB).isSome) 10),.int .i64 (aZ (ar==aB) 9)]] (.int .i64 (gf t b ar aB)):=by simpa using k5
 clear k5;refine gA_ nf func97 mix ?_;generalize gf t b ar aB=E,j:aZ (ar==aB) 9=w1,k:aZ (!(eJ b.aj ar).isSome||!(eJ b.aj aB).isSome) 10=l at*;cases hc:eJ b.aj ar<;>cases c:eJ b.aj aB
 all_goals
  rw[hc,c]at k3;simp at k3;simp[f97,aa];refine c2_ k1 ?_;simp[aa];refine c2_ k2 ?_;simp[hc,c,aa];refine e2_ k3 ?_;simp[aa];refine e2_ k4 ?_;simp[aa];refine ep i t_ t_ ?_;simp[aa];rfl
noncomputable def lR(t b:ah)(ar aB:List Nat):PV:=.st 104 [jV t b,jC t b ar aB]
@[simp] theorem aUQ(t b:ah)(ar aB:List Nat):aP (lR t b ar aB)=.agg 104:=rfl
@[simp] theorem aTb(t b:ah)(ar aB:List Nat):cz (lR t b ar aB)=[jV t b,jC t b ar aB]:=rfl
def Bi(t b:ah)(j n:Nat):NV:=(NV.from (b.sp j).pt).add ((NV.fg (n/8) (ka (n% 8))).times (.int (2*t.aC)))
theorem aLw(t b:ah)(j n:Nat):(Bi t b j n).q=wS t.aC (vP (b.sp j).pt) n:=by
 rw[Bi,NV.F1,NV.uw,NV.yf,A2];rfl
theorem aKW(t b:ah)(ar aB:List Nat)(i j n:Nat)(h:kA t b ar aB i j)(hn:n<32):
 al prog 167 [lR t b ar aB,.int .i64 n] (bQ (Bi t b j n)):=by
 obtain⟨r0,r1⟩:=lG h.eZ;have e:=(h.at h.bj.2.1).2;have c:aS 8 (NV.fg (n/8) (ka (n% 8))).q:=by rw[NV.yf,A2];exact wJ
 have a:aL 12 (NF.int (2*t.aC)).q:=ke o_ d_;have k1:=N3 n hn;have k2:=jx (2*t.aC) o_ o_;have k3:=yi (NV.fg (n/8) (ka (n% 8))) (.int (2*t.aC)) (c.mono d_) (a.mono d_);have d:aS 20 ((NV.fg (n/8) (ka (n% 8))).times (.int (2*t.aC))).q:=by rw[NV.uw];exact yP c a
 have k4:=N2 (.from (b.sp j).pt) ((NV.fg (n/8) (ka (n% 8))).times (.int (2*t.aC))) (by rw[fe];exact e.mono d_) (d.mono d_);have w:a4.wrap (2*t.aC)=2*t.aC:=aU _ o_ o_;have f:=h.bj.2.2;rw[Bi];clear c a d e;generalize (NV.fg (n/8) (ka (n% 8))).times (.int (2*t.aC))=v1 at*;generalize NV.fg (n/8) (ka (n% 8))=v2,g:NV.add (NV.from (b.sp j).pt) v1=v3,NF.int (2*t.aC)=k at*;refine gA_ nf func167 mix ?_;simp(maxDischargeDepth:=99) [f167,f,aa,w,e1_ k1,e1_ k2,e2_ k3,e2_ k4]
theorem aMd(t b:ah)(ar aB:List Nat)(a:NV)(d:t.cs.length<=1000000)(hn:∀p∈t.cs,eH p)(c:aS 3000 a.q):
 c8 prog 168 [.box false (.p (lR t b ar aB)),.box false (.p (bQ a))] [.ptr 0 [],.ptr 1 []] [.box false (.p (lR t b ar aB)),.box false (.p (bQ a))] (.p (.int .i64 (aZ (!decide (0<t.on a.q)) 16))):=by
 have k1:=YR t a d hn c;have k2:=pz (!decide (0<t.on a.q)) 16;generalize decide (0<t.on a.q)=y at*;generalize hw:aZ (!y) 16=w at*;refine gz nf (i_ func168) mix (by simp[f168]) ?_;simp[f168,aa,c2_ k1,c2_ k2]
theorem aMe(a c d:NV)(b:aS 300 a.q)(hc:aS 300 c.q)(g:aS 300 d.q):
 c8 prog 170 [.box false (.p (bQ a)),.box false (.p (bQ c)),.box false (.p (bQ d))] [.ptr 0 [],.ptr 1 [],.ptr 2 []] [.box false (.p (bQ a)),.box false (.p (bQ c)),.box false (.p (bQ d))] (.p (.int .i64 (aZ (decide (bE ((a.q.sub c.q).dot (d.q.sub a.q))<=0)) 18))):=by
 have e:=eB b hc;have f:=eB g b;rw[<-NV.dJ]at e f;have k1:=pQ a c (b.mono d_) (hc.mono d_);have k2:=pQ d a (g.mono d_) (b.mono d_);have k3:=sK (a.sub c) (d.sub a) (e.mono d_) (f.mono d_);have k4:=mC ((a.sub c).dot (d.sub a));rw[NV.fU,NV.dJ,NV.dJ,<-bE]at k4;have k5:=pz (decide (bE ((a.q.sub c.q).dot (d.q.sub a.q))<=0)) 18;generalize bE ((a.q.sub c.q).dot (d.q.sub a.q))=y at*;generalize hw:aZ (decide (y<=0)) 18=w,(a.sub c).dot (d.sub a)=h at*;clear e f;generalize a.sub c=v1,d.sub a=v2 at*;refine gz nf (i_ func170) mix (by simp[f170]) ?_;simp(maxDischargeDepth:=99) [f170,aa,e2_ k1,e2_ k2,e2_ k3,e1_ k4,e2_ k5]
theorem aMf(t b:ah)(ar aB:List Nat)(a c:NV)(i j:Nat)(h:kA t b ar aB i j)(d:aS 300 a.q)(hc:aS 300 c.q):
 c8 prog 171 [.box false (.p (lR t b ar aB)),.box false (.p (bQ c)),.box false (.p (bQ a)),.box false (.p (.str []))] [.ptr 0 [],.ptr 1 [],.ptr 2 [],.ptr 3 []]
  [.box false (.p (lR t b ar aB)),.box false (.p (bQ c)),.box false (.p (bQ a)),.box false (.p (.str (ic t.aC c.q a.q [ar,aB] b.aj)))] (.p (.int .i64 (aZ (!(ic t.aC c.q a.q [ar,aB] b.aj==[])) 30))):=by
 obtain⟨r0,r1⟩:=lG h.eZ;have k1:=LJ t b c a [ar,aB] o_ o_ h.L (fun s hs=>(h.Bh s hs).mono d_) s_ hc d;have e:al prog 96 [jV t b,bQ c,bQ a,.seq [.str ar,.str aB]] (.str (ic t.aC c.q a.q [ar,aB] b.aj)):=k1;have k2:=pz (!(ic t.aC c.q a.q [ar,aB] b.aj==[])) 30;clear k1;generalize ic t.aC c.q a.q [ar,aB] b.aj=R at*;generalize hw:aZ (!(R==[])) 30=w at*;refine gz nf (i_ func171) mix (by simp[f171]) ?_;simp[f171,aa];refine cp e t_ ?_;simp[aa];refine c2_ k2 ?_;simp[aa];exact dh.og s_ s_ s_ s_ s_
def aRG:PV:=.st 42 [.aM,.int .i64 0,.aM,.aM]
def JB:PV:=.st 45 [aRG,.aM,.str [],.str []]
def BE:PV:=.st 104 [zh,JB]
@[simp] theorem aU6:aP JB=.agg 45:=rfl
@[simp] theorem aU7:aP BE=.agg 104:=rfl
@[simp] theorem aTg:cz BE=[zh,JB]:=rfl
@[simp high] theorem aWs:cO prog 105=some BE:=k_
theorem zn(t b:ah)(ar aB:List Nat)(i:fu t)(c:im b)(h:gf t b ar aB=0):al prog 40 [jC t b ar aB] (.aE [lR t b ar aB,.int .i64 0]):=by
 have k1:=Ll t b ar aB i c;have a:=h;rw[gf]at a;have g:gh t b=0:=by
  by_cases e:gh t b=0
  ·exact e
  ·rw[if_pos e]at a;exact a
 obtain⟨d,f,_⟩:=Ce c g;obtain⟨r0,r1⟩:=lG d;have k2:=Lq t b o_ o_ f;rw[h]at k1;refine gA_ nf func40 mix ?_;rw[lR];simp(maxDischargeDepth:=99) [f40,aa,c1_ k1,e2_ k2]
theorem Md(t b:ah)(ar aB:List Nat)(c:fu t)(a:im b)(h:¬gf t b ar aB=0):al prog 40 [jC t b ar aB] (.aE [BE,.int .i64 (gf t b ar aB)]):=by
 have k1:=Ll t b ar aB c a;generalize gf t b ar aB=e at*;rw[BE];refine gA_ nf func40 mix ?_;simp[f40,aa,h,c1_ k1]
theorem aLa(t b:ah)(ar aB:List Nat)(i j n:Nat)(h:kA t b ar aB i j)(hn:n<32):
 al prog 93 [lR t b ar aB,.int .i64 n] (.aE [.str (jS t b ar aB i j n).1,.int .i64 (jS t b ar aB i j n).2]):=by
 obtain⟨r0,r1⟩:=lG h.eZ;obtain⟨_,_,m,_⟩:=mn h.eZ;have f:=(h.at h.ci.2.1).2;have e:=(h.at h.bj.2.1).2;have k1:=aKW t b ar aB i j n h hn;have g:=h.ci.2.2;have l:=h.bj.2.2;have d:=Ly (n:=n) (r:=t.aC) o_ o_ e;rw[jS];rw[<-aLw]at d⊢;generalize Bi t b j n=a at*;have g1:=aMd t b ar aB a h.tl m (d.mono d_);have g2:=aMe a (.from (b.sp i).pt) (.from (b.sp j).pt) (d.mono d_) (by rw[fe];exact f.mono d_) (by rw[fe];exact e.mono d_);have g3:=aMf t b ar aB a (.from (b.sp i).pt) i j h (d.mono d_) (by rw[fe];exact f.mono d_);rw[fe,fe]at g2;rw[fe]at g3;rw[Jz];generalize ic t.aC (vP (b.sp i).pt) a.q [ar,aB] b.aj=R,bE ((a.q.sub (vP (b.sp i).pt)).dot ((vP (b.sp j).pt).sub a.q))=s1,t.on a.q=y at*;have o:a4.wrap 1=1:=rfl;have s:a4.wrap 2=2:=rfl;have u:a4.wrap 3=3:=rfl;refine gA_ nf func93 mix ?_;simp[f93,aa];refine e2_ k1 ?_;simp[g,l,aa];refine⟨r_,?_⟩;refine lp (α:=Nat) (fun k=>⟨[(37,.p (.int .i64 k)),(36,.p (.int .i64 3)),(35,.sl 5 0 1 0 3),(11,.p (.int .i64 0)),(9,.ptr 4 [])],
  [.box false (.p (lR t b ar aB)),.box false (.p (bQ a)),.box false (.p (bQ (.from (b.sp i).pt))),.box false (.p (bQ (.from (b.sp j).pt))),.box false (.p (.str [])),
   .arr .exact 0 1 [.func 168 [] [.ptr 0 [],.ptr 1 []],.func 170 [] [.ptr 1 [],.ptr 2 [],.ptr 3 []],.func 171 [] [.ptr 0 [],.ptr 2 [],.ptr 1 [],.ptr 4 []]]]⟩)
  (fun k=>k<=3/\(0<k->0<y)/\(1<k->¬s1<=0)/\(2<k->R=[])) (fun k=>3-k) 0 s_ ?_
 rintro k ⟨k0,k1,k2,k3⟩;rcases k with _|_|_|k
 ·by_cases c1:0<y
  ·have c:¬y<=0:=by omega
   simp[aZ,c1]at g1;simp;refine cf g1 [0,1] ?_;simp[bu,sig,o];exact rd 1 ⟨o_,fun _=>c1,fun h=>by omega,fun h=>by omega⟩
  ·have c:y<=0:=by omega
   simp[aZ,c1]at g1;rw[if_pos c];simp;refine cf g1 [0,1] ?_;simp[bu,sig]
 ·have c1:=k1 o_;have c:¬y<=0:=by omega
  rw[if_neg c]
  by_cases c2:s1<=0
  ·simp[aZ,c2]at g2;rw[if_pos c2];simp;refine cf g2 [1,2,3] ?_;simp[bu,sig]
  ·simp[aZ,c2]at g2;simp;refine cf g2 [1,2,3] ?_;simp[bu,sig,s];exact rd 2 ⟨o_,fun _=>c1,fun _=>c2,fun h=>by omega⟩
 ·have c1:=k1 o_;have c:¬y<=0:=by omega
  have c2:=k2 o_;rw[if_neg c,if_neg c2]
  by_cases c3:R=[]
  ·simp[aZ,c3]at g3;rw[if_pos c3];simp;refine cf g3 [0,2,1,4] ?_;simp[bu,sig,u];exact rd 3 ⟨o_,fun _=>c1,fun _=>c2,fun _=>c3⟩
  ·simp[aZ,c3]at g3;rw[if_neg c3];simp;refine cf g3 [0,2,1,4] ?_;simp[bu,sig]
 ·have hk:k=0:=by omega
  subst hk;have c1:=k1 o_;have c:¬y<=0:=o_
  have c2:=k2 o_;have c3:=k3 o_;rw[if_neg c,if_neg c2,if_pos c3];simp
theorem aKL(t b:ah)(ar aB:List Nat)(i j n:Nat)(h:kA t b ar aB i j)(hn:n<32):
 al prog 91 [lR t b ar aB,.int .i64 n] (.bool (decide ((jS t b ar aB i j n).2=0))):=by
 have k:=aLa t b ar aB i j n h hn;generalize (jS t b ar aB i j n).2=e,(jS t b ar aB i j n).1=c at*;refine gA_ nf func91 mix ?_
 by_cases a:e=0
 ·simp[f91,aa,a,c2_ k]
 ·simp[f91,aa,a,c2_ k]
def sR(n:Nat)(l:List de):Bool:=!((decide (n<l.length)&&decide (l.length<=24))||decide (26<l.length))&&l.all jq
theorem Le(b:ah)(n:Nat)(v:b.aj.length<=1000000)(hn:n<=1000):al prog 17 [.seq (b.aj.map bP),.int .i64 n] (.bool (sR n b.aj)):=by
 refine gA_ nf func17 mix ?_;have o:sR n b.aj=(!((decide (n<b.aj.length)&&decide (b.aj.length<=24))||decide (26<b.aj.length))&&b.aj.all jq):=rfl;have tail:(n<b.aj.length->¬b.aj.length<=24)->¬26<b.aj.length->sR n b.aj=b.aj.all jq:=fun c a=>by
  rw[o]
  by_cases h:n<b.aj.length
  ·have:=c h;simp[h,this,a]
  ·simp[h,a]
 have loop:(n<b.aj.length->¬b.aj.length<=24)->¬26<b.aj.length->∀i,i<b.aj.length->(jq (b.sp i)=false->sR n b.aj=false):=fun c a i hi h=>by
  rw[tail c a];exact lC (ah.dY hi) h
 generalize sR n b.aj=R at*
 by_cases c1:n<b.aj.length/\b.aj.length<=24
 ·have w:(n:Int)<b.aj.length:=by omega
  have d:(b.aj.length:Int)<=24:=o_
  have l:R=false:=by rw[o];simp[c1]
  simp[f17,aa,c1.1,d,l]
 by_cases c2:26<b.aj.length
 ·have g:(26:Int)<b.aj.length:=by omega
  have d:¬(b.aj.length:Int)<=24:=o_
  have l:R=false:=by rw[o];simp[c2]
  by_cases c3:n<b.aj.length
  ·simp[f17,aa,c3,d,g,l]
  ·simp[f17,aa,c3,g,l]
 have g:¬(26:Int)<b.aj.length:=o_
 have tl:=tail (fun c a=>c1 ⟨c,a⟩) c2;have j:=loop (fun c a=>c1 ⟨c,a⟩) c2;clear tail loop o
 by_cases c3:n<b.aj.length
 all_goals
  have d:n<b.aj.length->¬(b.aj.length:Int)<=24:=fun h=>by omega
  first
  |(have d:=d c3;simp[f17,aa,c3,d,g])
  |simp[f17,aa,c3,g]
  refine lp (α:=Nat) (fun i=>⟨[(5,.p (.int .i64 i)),(0,.p (.seq (b.aj.map bP)))],[]⟩) (fun i=>i<=b.aj.length/\(b.aj.take i).all jq=true) (fun i=>b.aj.length-i) 0 s_ ?_;rintro i ⟨k1,k2⟩
  by_cases hi:i<b.aj.length
  ·have e:=ah.dY hi;have u:=b8 (i:=i) o_;have k:=qf (b.sp i).pt.x 40;have q:=qf (b.sp i).pt.y 40;have m:jq (b.sp i)=(decide ((b.sp i).name.length<=40)&&(decide ((b.sp i).pt.x.length<=40)&&decide ((b.sp i).pt.y.length<=40))):=rfl;have j:=j i hi
   by_cases t:(b.sp i).name.length<=40
   case neg=>
    have f:(40:Int)<(b.sp i).name.length:=o_
    have:=j (by rw[m];simp[t]);simp[hi,e,f,this,aa]
   have f:¬(40:Int)<(b.sp i).name.length:=o_
   by_cases a2:(b.sp i).pt.x.length<=40
   case neg=>
    have r:¬((b.sp i).pt.x.length:Int)<=40:=o_
    rw[decide_eq_false r]at k;have:=j (by rw[m];simp[a2]);simp[hi,e,f,aa,this,c2_ k]
   have r:((b.sp i).pt.x.length:Int)<=40:=o_
   rw[decide_eq_true r]at k
   by_cases a3:(b.sp i).pt.y.length<=40
   case neg=>
    have s:¬((b.sp i).pt.y.length:Int)<=40:=o_
    rw[decide_eq_false s]at q;have:=j (by rw[m];simp[a3]);simp[hi,e,f,aa,this,c2_ k,c2_ q]
   have s:((b.sp i).pt.y.length:Int)<=40:=o_
   rw[decide_eq_true s]at q;simp[hi,e,f,aa];refine c2_ k ?_;simp[hi,e,aa];refine c2_ q ?_;simp[u,aa];exact rd (i+1) ⟨hi,by rw[sV e,k2,m];simp[t,a2,a3]⟩
  ·have:i=b.aj.length:=by omega
   subst this;rw[bl]at k2;rw[tl,k2];simp
def qU(p:bS)(D:Nat):Bool:=fX p.x D&&fX p.y D
def qS(t b:ah)(n D:Nat):Bool:=
 oK t&&(sR n b.aj&&(decide (b.aj.length<=n)&&(decide (gh t b=0)&&(decide (t.aj.length<=8)&&(t.aK.all (fun p=>fX p.a D&&fX p.b D)&&(t.aj.all (fun s=>qU s.pt D)&&b.aj.all (fun s=>qU s.pt D)))))))
theorem aAS(t b:ah)(n D:Nat)(I:fu t)(H:im b)(hn:n<=1000)(M:D<=1000):al prog 19 [cA t,.seq (b.aj.map bP),.int .i64 n,.int .i64 D] (.bool (qS t b n D)):=by
 obtain⟨C,E,F,A,B⟩:=I;obtain⟨G,z⟩:=H;have j:=Kk t C E F;have l:=Le b n G hn;have L:=Fo t b ⟨C,E,F,A,B⟩ ⟨G,z⟩;refine gA_ nf func19 mix ?_;rw[qS];generalize gh t b=e at*;cases v:oK t
 ·rw[v]at j;simp[f19,aa,c1_ j]
 rw[v]at j;cases w:sR n b.aj
 ·rw[w]at l;simp(maxDischargeDepth:=99) [f19,aa,c1_ j,c2_ l]
 rw[w]at l;simp[f19,aa];refine c1_ j ?_;simp[aa];refine c2_ l ?_
 by_cases m:b.aj.length<=n
 case neg=>
  have r:n<b.aj.length:=o_
  simp[m,r,aa]
 have r:¬n<b.aj.length:=o_
 simp[m,r,aa];refine c2_ L ?_
 by_cases k:e=0
 case neg=>simp[k,aa]
 by_cases o:t.aj.length<=8
 case neg=>
  have u:(8:Int)<t.aj.length:=o_
  simp[k,o,u,aa]
 have u:¬(8:Int)<t.aj.length:=o_
 simp[k,o,u,aa];refine lp (α:=Nat) (fun i=>⟨[(9,.p (.int .i64 i)),(4,.ptr 0 []),(3,.p (.int .i64 D)),(1,.p (.seq (b.aj.map bP)))],[.box false (.p (cA t))]⟩) (fun i=>i<=t.aK.length/\(t.aK.take i).all (fun p=>fX p.a D&&fX p.b D)=true) (fun i=>t.aK.length-i) 0 s_ ?_;rintro i ⟨i1,i2⟩
 by_cases hi:i<t.aK.length
 ·have c:=ah.jo hi;have g:=b8 (i:=i) o_;obtain⟨_,J,K⟩:=A _ (bf c);have d:=En (t.pk i).a D J o_;have f2:=En (t.pk i).b D K o_;have bad:(fX (t.pk i).a D&&fX (t.pk i).b D)=false->t.aK.all (fun p=>fX p.a D&&fX p.b D)=false:=fun h=>lC c h;cases f:fX (t.pk i).a D
  ·rw[f]at d;rw[bad (by rw[f];rfl)];simp[hi,c,aa,c2_ d]
  rw[f]at d;cases a2:fX (t.pk i).b D
  ·rw[a2]at f2;rw[bad (by rw[a2];simp)];simp(maxDischargeDepth:=99) [hi,c,aa,c2_ d,c2_ f2]
  rw[a2]at f2;simp[hi,c,aa];refine c2_ d ?_;simp[hi,c,aa];refine c2_ f2 ?_;simp[g,aa];exact rd (i+1) ⟨hi,by rw[sV c,i2,f,a2];rfl⟩
 have:i=t.aK.length:=o_
 subst this;rw[bl]at i2;rw[i2];clear i1 i2 hi;simp[aa];refine lp (α:=Nat) (fun i=>⟨[(10,.p (.int .i64 i)),(4,.ptr 0 []),(3,.p (.int .i64 D)),(1,.p (.seq (b.aj.map bP)))],[.box false (.p (cA t))]⟩) (fun i=>i<=t.aj.length/\(t.aj.take i).all (fun s=>qU s.pt D)=true) (fun i=>t.aj.length-i) 0 s_ ?_;rintro i ⟨i1,i2⟩
 by_cases hi:i<t.aj.length
 ·have c:=ah.dY hi;have g:=b8 (i:=i) o_;have d:=HO (t.sp i).pt D (B _ (bf c)).2 o_;have q:qU (t.sp i).pt D=(fX (t.sp i).pt.x D&&fX (t.sp i).pt.y D):=rfl;rw[<-q]at d;cases f:qU (t.sp i).pt D
  ·rw[f]at d;rw[lC c f];simp[hi,c,aa,c2_ d]
  rw[f]at d;simp[hi,c,aa];refine c2_ d ?_;simp[g,aa];exact rd (i+1) ⟨hi,by rw[sV c,i2,f];rfl⟩
 have:i=t.aj.length:=o_
 subst this;rw[bl]at i2;rw[i2];clear i1 i2 hi;simp[aa];refine lp (α:=Nat) (fun i=>⟨[(11,.p (.int .i64 i)),(3,.p (.int .i64 D)),(1,.p (.seq (b.aj.map bP)))],[]⟩) (fun i=>i<=b.aj.length/\(b.aj.take i).all (fun s=>qU s.pt D)=true) (fun i=>b.aj.length-i) 0 s_ ?_;rintro i ⟨i1,i2⟩
 by_cases hi:i<b.aj.length
 ·have c:=ah.dY hi;have g:=b8 (i:=i) o_;have d:=HO (b.sp i).pt D (z _ (bf c)).2 o_;have q:qU (b.sp i).pt D=(fX (b.sp i).pt.x D&&fX (b.sp i).pt.y D):=rfl;rw[<-q]at d;cases f:qU (b.sp i).pt D
  ·rw[f]at d;rw[lC c f];simp[hi,c,aa,c2_ d]
  rw[f]at d;simp[hi,c,aa];refine c2_ d ?_;simp[g,aa];exact rd (i+1) ⟨hi,by rw[sV c,i2,f];rfl⟩
 have:i=b.aj.length:=o_
 subst this;rw[bl]at i2;rw[i2];simp[m,k,o,aa]
def rE(t b:ah)(ar aB:List Nat)(n:Nat):Bool:=
 decide (ar.length<=40)&&(decide (aB.length<=40)&&(oK t&&(sR n b.aj&&(decide (gh t b≠0)||qS t b n 9))))
theorem Yo(t b:ah)(ar aB:List Nat)(n:Nat)(a:fu t)(i:im b)(hn:n<=1000):al prog 4 [jt t b ar aB,.int .i64 n] (.bool (rE t b ar aB n)):=by
 have g:=Kk t a.cl a.pl a.sl;have k:=Le b n i.sl hn;have l:=Fo t b a i;have m:=aAS t b n 9 a i hn d_;refine gA_ nf func4 mix ?_;rw[rE];generalize gh t b=e,qS t b n 9=o at*
 by_cases d:ar.length<=40
 case neg=>
  have c:(40:Int)<ar.length:=o_
  simp[f4,d,c,aa]
 have c:¬(40:Int)<ar.length:=o_
 by_cases a2:aB.length<=40
 case neg=>
  have f:(40:Int)<aB.length:=o_
  simp[f4,a2,c,f,aa]
 have f:¬(40:Int)<aB.length:=o_
 cases j:oK t
 ·rw[j]at g;simp[f4,c,f,aa,c1_ g]
 rw[j]at g;simp[f4,d,a2,c,f,aa];refine c1_ g ?_;simp[aa];refine c2_ k ?_;cases p:sR n b.aj
 ·simp[aa]
 simp[aa];refine c2_ l ?_
 by_cases h:e=0
 case neg=>simp[d,a2,h,aa]
 simp[h,aa];refine c4_ m ?_;simp[d,a2,h,aa]
theorem XN(b:ah)(f:b.aj.length<=1000000):al prog 46 [.seq (b.aj.map bP)] (.seq (b.aj.map bP)):=by
 have g:(1000000:Nat)<dA:=d_
 have w1:a4.wrap 1=1:=d_
 refine gA_ nf func46 mix ?_;simp[f46,aa];refine lp (α:=Nat) (fun i=>⟨[(8,.p (.int .i64 i)),(7,.p (.int .i64 b.aj.length)),(6,.p (.seq (b.aj.map bP))),(3,.sl 0 i 3 0 i)],[.arr .grow i 3 ((b.aj.map (AV.p∘bP)).take i)]⟩) (fun i=>i<=b.aj.length) (fun i=>b.aj.length-i) 0 s_ ?_;rintro i i1
 by_cases hi:i<b.aj.length
 ·have a:=ah.dY hi;have e:=b8 (i:=i) o_;have d:(b.aj.map (AV.p∘bP)).take (i+1)=(b.aj.map (AV.p∘bP)).take i++[.p (bP (b.sp i))]:=by
   rw[b1,dq,a];rfl
  have c:min i b.aj.length=i:=o_
  simp[hi,a,e,c,aa];exact⟨o_,rd (i+1) hi (hh:=by simp[d]) (hr2:=by simp[mS])⟩
 ·have:i=b.aj.length:=by omega
  subst this;simp[aa]
theorem aK1(t b:ah)(ar aB:List Nat)(a:fu t)(c:im b):al prog 8 [jt t b ar aB] (jC t b ar aB):=by
 have k1:=Xw t a.cl a.pl a.sl;have k2:=XN b c.sl;refine gA_ nf func8 mix ?_;rw[jC];simp(maxDischargeDepth:=99) [f8,aa,e1_ k1,e1_ k2]
theorem Ye(l:List Nat)(h:l.length<=1000000):al prog 14 [.seq (l.map jM),.seq (l.map jM)] (.bool true):=by
 refine gA_ nf func14 mix ?_;simp[f14];refine lp (α:=Nat) (fun i=>⟨[(5,.p (.int .i64 i)),(1,.p (.seq (l.map jM))),(0,.p (.seq (l.map jM)))],[]⟩) (fun i=>i<=l.length) (fun i=>l.length-i) 0 s_ ?_;rintro i i1;have a:=b8 (i:=i) o_
 by_cases hi:i<l.length
 ·simp[hi,a,jM];exact rd (i+1) hi
 ·simp[hi]
theorem XU{t b:ah}{ar aB:List Nat}(h:gf t b ar aB=0):gh t b=0/\eJ b.aj ar≠none/\eJ b.aj aB≠none/\ar≠aB:=by
 rw[gf]at h
 by_cases a:gh t b=0
 case neg=>rw[if_pos a]at h;exact absurd h a
 rw[if_neg (by simp[a])]at h
 by_cases c:eJ b.aj ar=none\/eJ b.aj aB=none
 ·rw[if_pos c]at h;omega
 rw[if_neg c]at h
 by_cases d:ar=aB
 ·rw[if_pos d]at h;omega
 exact⟨a,fun e=>c (.inl e),fun e=>c (.inr e),d⟩
theorem aOS{t b:ah}{ar aB:List Nat}{n:Nat}(m:fu t)(k:im b)(hs:rE t b ar aB n=true)(h:gf t b ar aB=0):∃i j,kA t b ar aB i j:=by
 obtain⟨a,c,d,_⟩:=XU h;obtain⟨f,g,_⟩:=Ce k a;rw[rE,a]at hs;simp only[av,Bool.or_eq_true,decide_eq_true_eq]at hs;obtain⟨_,_,_,_,hs⟩:=hs;have hf:qS t b n 9=true:=by
  rcases hs with hs|hs
  ·exact absurd rfl hs
  ·exact hs
 rw[qS]at hf;simp only[av,eo]at hf;obtain⟨_,_,_,_,_,_,_,hf⟩:=hf;rcases zb b ar with⟨i,hi⟩|⟨_,e⟩
 case inr=>exact absurd e c
 rcases zb b aB with⟨j,l⟩|⟨_,e⟩
 case inr=>exact absurd e d
 refine⟨i,j,f,m.cl,g,fun s hs=>?_,hi,l⟩;have:=hf s hs;rw[qU,av]at this;exact⟨(tV this.1).mono d_,(tV this.2).mono d_⟩
end Go.ae
