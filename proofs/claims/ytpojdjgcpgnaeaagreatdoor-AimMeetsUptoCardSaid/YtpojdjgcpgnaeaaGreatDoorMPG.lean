import Derived.Test.YtpojdjgcpgnaeaaGreatDoorMPF
import Derived.Test.YtpojdjgcpgnaeaaGreatDoorMThC
/- Parts of a proof. -/
set_option maxRecDepth 100000
set_option maxHeartbeats 4000000
set_option linter.unusedSimpArgs false
set_option linter.unusedVariables false
set_option linter.unusedSectionVars false
open Go.Proofs.Tryz
open And renaming intro->aj
open Bool renaming cond_eq_ite->ak, true_and->am
open Decidable renaming not_not->ao, by_contra->av
open Go renaming FuncId->ax, DataW->ay, Field->aT
open Go.IntKind renaming i64->a0
open Go.Utf8 renaming decode->a4
open Int renaming tmod_eq_emod_of_nonneg->a5, natCast_emod->a6, natAbs_mul->a7, zero_mul->a8
open List renaming mem_of_getElem?->a9, take_length->bb, drop_eq_getElem_cons->be, map_cons->bi, take_of_length_le->bl, getElem?_eq_getElem->bo, mem_iff_getElem->bv, getElem?_take->bw, any_eq_true->b0, length_eq_zero_iff->b1, findIdx?_eq_some_iff_getElem->b2, take_add_one->b3, map_nil->b4, length_take->b5, zip_cons_cons->ca, zip_nil_left->cb, range->cc, getD_eq_getElem?_getD->ck, mem_map->cx, findIdx?_eq_none_iff->cy, find?_eq_none->c6, getElem_mem->c9, mem_range->da, getElem_take->db, range_succ->dg, length_map->dl, mem_cons_of_mem->dp, map_take->dq, mem_cons_self->dz, length_range->ea, getElem?_map->eb, foldl_append->ec, length_cons->ed, cons_append->ee, map_append->ei, getElem?_eq_none->ej, getElem?_range->ek, mem_filter->en, find?_cons->eo
open Nat renaming eq_of_beq_eq_true->eq, lt_trichotomy->er, lt_trans->ew, le_refl->ey, lt_of_lt_of_le->eP, beq->e7
open Option.some renaming injEq->e8
open Rat renaming mul_eq_zero->e9, intCast_sub->fa, div_def->fb, intCast_mul->fi, mul_nonneg->fl, mul_assoc->fm, zero_mul->fp, neg_zero->fv, mul_comm->gb
namespace Go.az
open Go.az renaming c1->c1_, c2->c2_, c3->c3_, c4->c4_, e1->e1_, e2->e2_, e3->e3_
open Go.Proofs
structure dZ where
 x:Int
 y:Int
 deriving DecidableEq
structure dX where
 name:List Nat
 fo:Int
 a:List Nat
 b:List Nat
structure cO where
 name:List Nat
 pt:bS
structure ai where
 cs:List dZ
 aI:Int
 bp:List dX
 ar:List cO
def cL(p:dZ):PV:=.st 156 [.int .i64 p.x,.int .i64 p.y]
def fR(p:dX):PV:=.st 106 [.str p.name,.int .i64 p.fo,.str p.a,.str p.b]
def bG(p:cO):PV:=.st 59 [.str p.name,dA p.pt]
def de(t:ai):PV:=.st 25 [.seq (t.cs.map cL),.int .i64 t.aI,.seq (t.bp.map fR),.seq (t.ar.map bG)]
@[simp] theorem aNB(p:dZ):aL (cL p)=.agg 156:=rfl
@[simp] theorem aL0(p:dZ):bW (cL p)=[.int .i64 p.x,.int .i64 p.y]:=rfl
@[simp] theorem aNy(p:dX):aL (fR p)=.agg 106:=rfl
@[simp] theorem aLX(p:dX):bW (fR p)=[.str p.name,.int .i64 p.fo,.str p.a,.str p.b]:=rfl
@[simp] theorem aNF(p:cO):aL (bG p)=.agg 59:=rfl
@[simp] theorem aL4(p:cO):bW (bG p)=[.str p.name,dA p.pt]:=rfl
@[simp] theorem aNK(t:ai):aL (de t)=.agg 25:=rfl
@[simp] theorem aL8(t:ai):bW (de t)=[.seq (t.cs.map cL),.int .i64 t.aI,.seq (t.bp.map fR),.seq (t.ar.map bG)]:=rfl
@[simp] theorem aJt:prog.cellsOf 156=2:=k_
@[simp] theorem aJs:prog.cellsOf 106=4:=k_
@[simp] theorem aJv:prog.cellsOf 59=3:=k_
def gD(p:dZ):Bool:=decide (10000<max p.x p.y)||decide (min p.x p.y< -10000)
theorem aaZ(p:dZ):aq prog 200 [cL p] (.bool (gD p)):=by
 obtain⟨x,y⟩:=p;refine gA_ nf func200 mix ?_;have e1:max x y=if x<y then y else x:=by split<;>omega
 have e2:min x y=if y<x then y else x:=by split<;>omega
 rw[gD,e1,e2]
 by_cases h:(if x<y then y else x)<=10000
 ·have a:¬10000<(if x<y then y else x):=by omega
  by_cases b:(if y<x then y else x)< -10000
  ·simp[f200,ad,h,a,b]
  ·simp[f200,ad,h,a,b]
 ·have a:10000<(if x<y then y else x):=by omega
  simp[f200,ad,h,a]
def et(p:dZ):Prop:=-10000<=p.x/\p.x<=10000/\-10000<=p.y/\p.y<=10000
theorem Hl{p:dZ}(h:gD p=false):et p:=by
 simp only[gD,Bool.or_eq_false_iff,decide_eq_false_iff_not]at h;unfold et;omega
def lD(a b c:dZ):Int:=(b.x-a.x)*(c.y-a.y)-(b.y-a.y)*(c.x-a.x)
theorem zb{a b:Int}{A B:Int}(c:-A<=a)(d:a<=A)(e:-B<=b)(f:b<=B):-(A*B)<=a*b/\a*b<=A*B:=by
 have k1:a.natAbs<=A.natAbs:=o_
 have k2:b.natAbs<=B.natAbs:=o_
 have k3:=Nat.mul_le_mul k1 k2;rw[<-a7,<-a7]at k3;have k4:0<=A*B:=Int.mul_nonneg o_ o_;omega
theorem TF(a b c:dZ)(i:et a)(j:et b)(hc:et c):aq prog 256 [cL a,cL b,cL c] (.int .i64 (lD a b c)):=by
 obtain⟨d,e⟩:=a;obtain⟨bx,f⟩:=b;obtain⟨g,h⟩:=c;simp only[et]at i j hc;have w1:a0.wrap (bx-d)=bx-d:=aR _ o_ o_;have w2:a0.wrap (h-e)=h-e:=aR _ o_ o_;have w3:a0.wrap (f-e)=f-e:=aR _ o_ o_
 have w4:a0.wrap (g-d)=g-d:=aR _ o_ o_;have m:=zb (a:=bx-d) (b:=h-e) (A:=20000) (B:=20000) o_ o_ o_ o_;have n:=zb (a:=f-e) (b:=g-d) (A:=20000) (B:=20000) o_ o_ o_ o_;have w5:a0.wrap ((bx-d)*(h-e))=(bx-d)*(h-e):=aR _ o_ o_;have k:a0.wrap ((f-e)*(g-d))=(f-e)*(g-d):=aR _ o_ o_;have l:a0.wrap ((bx-d)*(h-e)-(f-e)*(g-d))=(bx-d)*(h-e)-(f-e)*(g-d):=aR _ o_ o_;refine gA_ nf func256 mix ?_;rw[lD];simp[f256,ad,w1,w2,w3,w4,w5,k,l]
def ai.nx(t:ai)(i:Nat):Nat:=(i+1)% t.cs.length
def ai.at(t:ai)(i:Nat):dZ:=t.cs.getD i ⟨0,0⟩
theorem ai.get{t:ai}{i:Nat}(h:i<t.cs.length):t.cs[i]?=some (t.at i):=by
 rw[ai.at,ck,bo h];rfl
@[simp] theorem ai.aP{t:ai}{i:Nat}(h:i<t.cs.length):t.cs[i]'h=t.at i:=by
 rw[ai.at,ck,bo h];rfl
theorem ai.mg{t:ai}(h:0<t.cs.length)(i:Nat):t.nx i<t.cs.length:=Nat.mod_lt _ h
theorem HQ(t:ai)(i:Nat)(h:i<t.cs.length)(d:t.cs.length<=1000000):aq prog 257 [de t,.int .i64 i] (cL (t.at (t.nx i))):=by
 have w1:a0.wrap ((i:Int)+1)=(i:Int)+1:=aR _ o_ o_;have hn:=t.mg o_ i;have e1:((i:Int)+1).tmod (t.cs.length:Int)=((t.nx i:Nat):Int):=by
  rw[ai.nx,a6,a5 o_];rfl
 have b:=ai.get hn;have c:¬t.cs.length=0:=o_
 have a:¬t.cs=[]:=by intro e;rw[e]at h;simp at h
 refine gA_ nf func257 mix ?_;simp[f257,ad,w1,e1,b,c,a]
def ai.pn(t:ai)(i:Nat)(m:Nat):Prop:=∀k,k<m->k≠i->k≠t.nx i->0<lD (t.at i) (t.at (t.nx i)) (t.at k)
instance(t:ai)(i m:Nat):Decidable (t.pn i m):=inferInstanceAs (Decidable (∀k,k<m->_))
def ai.fF(t:ai):Bool:=decide (∀i,i<t.cs.length->t.pn i t.cs.length)
theorem ai.gl{t:ai}(h:∀p∈t.cs,et p){i:Nat}(hi:i<t.cs.length):et (t.at i):=h _ (a9 (ai.get hi))
theorem TQ(t:ai)(w:t.cs.length<=1000000)(hn:∀p∈t.cs,et p):aq prog 201 [de t] (.bool t.fF):=by
 refine gA_ nf func201 mix ?_;generalize a:t.cs.length=n at*;simp[f201,ad,a];refine lp (α:=Nat) (fun i=>⟨[(4,.p (.int .i64 i)),(3,.p (.int .i64 n)),(1,.ptr 0 [])],[.box false (.p (de t))]⟩) (fun i=>i<=n/\∀j,j<i->t.pn j n) (fun i=>n-i) 0 s_ ?_;rintro i ⟨u,o⟩
 by_cases hi:i<n
 ·simp[hi];refine lp (α:=Nat) (fun k=>⟨[(5,.p (.int .i64 k)),(4,.p (.int .i64 i)),(3,.p (.int .i64 n)),(1,.ptr 0 [])],[.box false (.p (de t))]⟩) (fun k=>k<=n/\t.pn i k) (fun k=>n-k) 0 (by simp[ai.pn]) ?_;rintro k ⟨g1,g2⟩
  by_cases hk:k<n
  ·have q:=HQ t i o_ o_;have x:t.nx i<n:=by rw[<-a];exact t.mg o_ i
   have d:=cH (i:=i) o_;have e:=cH (i:=k) o_;have e1:((i:Int)+1).tmod (n:Int)=((t.nx i:Nat):Int):=by
    rw[ai.nx,a,a6,a5 o_];rfl
   have r:=TF (t.at i) (t.at (t.nx i)) (t.at k) (ai.gl hn o_) (ai.gl hn o_) (ai.gl hn o_);have f:=ai.get (t:=t) (i:=i) o_;have gk:=ai.get (t:=t) (i:=k) o_;have m:¬n=0:=o_
   by_cases c1:k=i
   ·subst c1;simp[hk,e];exact rd (k+1) ⟨hk,fun j g=>by
     by_cases l:j=k
     ·intro h;exact(h l).elim
     ·exact g2 j o_⟩
   ·have b:¬(k:Int)=(i:Int):=by omega
    by_cases c2:k=t.nx i
    ·rw[<-c2]at e1;simp[hk,b,d,e,e1,m];exact rd (k+1) ⟨hk,fun j g=>by
      by_cases l:j=k
      ·intro _ h;exact(h o_).elim
      ·exact g2 j o_⟩
    ·have c:¬(k:Int)=((t.nx i:Nat):Int):=by omega
     by_cases c3:lD (t.at i) (t.at (t.nx i)) (t.at k)<=0
     ·simp[hk,b,c,d,e,e1,m,f,gk,a,ad];refine e2_ q ?_;simp[hk,a,f,gk,b,c,ad];refine e3_ r ?_;simp[c3,b,c];have:t.fF=false:=by
       rw[ai.fF,decide_eq_false_iff_not];intro h;have:=h i o_ k o_ c1 c2;omega
      rw[this]
     ·simp[hk,b,c,d,e,e1,m,f,gk,a,ad];refine e2_ q ?_;simp[hk,a,f,gk,b,c,ad];refine e3_ r ?_;simp[c3,e,b,c];exact rd (k+1) ⟨hk,fun j g=>by
       by_cases l:j=k
       ·subst l;intro _ _;omega
       ·exact g2 j o_⟩
  ·have:k=n:=by omega
   subst this;have d:=cH (i:=i) o_;simp[d];exact rd (i+1) ⟨hi,fun j g=>by
    by_cases s:j=i
    ·subst s;exact g2
    ·exact o j o_⟩
 ·have v:i=n:=by omega
  have:t.fF=true:=by
   rw[ai.fF,decide_eq_true_eq,a];intro j g;exact o j o_
  simp[hi,this]
def fW(p:dZ):V2:=⟨(p.x:Rat),(p.y:Rat)⟩
theorem jV{p:dZ}(h:et p):bd 14 (fW p):=by
 simp only[et]at h;exact⟨Bb o_ d_,Bb o_ d_⟩
theorem Hf(p:dZ)(h:et p):aq prog 293 [cL p] (eV (fW p)):=by
 have c:=h;simp only[et]at h;have a:=Fj p.x o_ o_;have b:=Fj p.y o_ o_;refine gA_ nf func293 mix ?_;rw[fW,Bm];simp(maxDischargeDepth:=99) [f293,ad,e1 a,e1 b]
def ai.dT(t:ai)(i:Nat):V2:=(fW (t.at (t.nx i))).sub (fW (t.at i))
def ai.side(t:ai)(i:Nat)(v:V2):Int:=bL ((t.dT i).bu (v.sub (fW (t.at i))))
theorem ai.okW{t:ai}(h:∀p∈t.cs,et p){i:Nat}(hi:i<t.cs.length):bd 29 (t.dT i):=gY (jV (ai.gl h (t.mg o_ i))) (jV (ai.gl h hi))
theorem Z1(t:ai)(i:Nat)(v:V2)(d:t.cs.length<=1000000)(hn:∀p∈t.cs,et p)(hi:i<t.cs.length)(c:bd 3000 v):aq prog 259 [de t,.int .i64 i,eV v] (.int .i64 (t.side i v)):=by
 have a:=ai.get hi;have b:=jV (ai.gl hn hi);have m:=jV (ai.gl hn (t.mg o_ i));have e:=Hf (t.at i) (ai.gl hn hi);have f:=HQ t i hi d;have g:=Hf (t.at (t.nx i)) (ai.gl hn (t.mg o_ i));have h:=FV (fW (t.at (t.nx i))) (fW (t.at i)) (m.mono d_) (b.mono d_);have j:=FV v (fW (t.at i)) (c.mono d_) (b.mono d_);have k:=S7 (t.dT i) (v.sub (fW (t.at i))) ((ai.okW hn hi).mono d_) ((gY c b).mono d_);have l:=oN ((t.dT i).bu (v.sub (fW (t.at i)))) ((mS (ai.okW hn hi) (gY c b)).mono d_);refine gA_ nf func259 mix ?_;rw[ai.side];simp[f259,ad,a,hi];refine e1 e ?_;simp[ad,a,hi];refine e2 f ?_;simp[ad,a,hi];refine e1 g ?_;simp[ad,a,hi];refine⟨r_,?_⟩;refine e2 h ?_;simp[ad,a,hi];refine e2 j ?_;simp[ad,a,hi];refine e2 k ?_;simp[ad,a,hi];refine e1 l ?_;simp[ad,a,hi]
def ai.rJ(t:ai)(v:V2)(m:Nat):Int:=(cc m).foldl (fun o i=>min o (t.side i v)) 1
theorem ai.He(t:ai)(v:V2)(m:Nat):t.rJ v (m+1)=min (t.rJ v m) (t.side m v):=by
 rw[ai.rJ,dg,ec];rfl
def ai.on(t:ai)(v:V2):Int:=t.rJ v t.cs.length
theorem HJ(a b:Int):min a b=if b<a then b else a:=by split<;>omega
theorem Qb(t:ai)(v:V2)(b:t.cs.length<=1000000)(hn:∀p∈t.cs,et p)(c:bd 3000 v):aq prog 205 [de t,eV v] (.int .i64 (t.on v)):=by
 refine gA_ nf func205 mix ?_;simp[f205,ad];refine lp (α:=Nat) (fun i=>⟨[(6,.p (.int .i64 i)),(5,.p (.int .i64 (t.rJ v i))),(3,.ptr 1 []),(2,.ptr 0 [])],[.box false (.p (de t)),.box false (.p (eV v))]⟩) (fun i=>i<=t.cs.length) (fun i=>t.cs.length-i) 0 s_ ?_ (hh:=by simp[ai.rJ]) (he:=by simp[ai.rJ]);rintro i e
 by_cases hi:i<t.cs.length
 ·have a:=Z1 t i v b hn hi c;have d:=cH (i:=i) o_;have hs:=ai.He t v i;rw[HJ]at hs;simp[hi,ad];refine c3 a ?_;simp[d,<-hs];exact rd (i+1) hi
 ·have:i=t.cs.length:=by omega
  subst this;simp[ai.on,ad]
def isLet(c:Int):Bool:=(decide (97<=c)&&decide (c<=122))||(decide (65<=c)&&decide (c<=90))
def jY(c:Int):Bool:=decide (48<=c)&&decide (c<=57)
def nL:Nat->List Nat->Bool
 |_,[]=>true
 |i,c::r=>(isLet c||(decide (i≠0)&&(jY c||decide ((c:Int)=95))))&&nL (i+1) r
def isName(s:List Nat):Bool:=decide (1<=s.length)&&decide (s.length<=24)&&nL 0 s
theorem cls(c:Int):(97<=c/\c<=122)\/(¬97<=c/\65<=c/\c<=90)\/(¬97<=c/\¬65<=c/\¬48<=c/\¬c=95)\/(¬97<=c/\¬65<=c/\48<=c/\c<=57/\¬c=95)\/(¬97<=c/\¬65<=c/\48<=c/\¬c<=57/\¬c=95)\/
 (¬97<=c/\65<=c/\¬c<=90/\48<=c/\¬c<=57/\c=95)\/(¬97<=c/\65<=c/\¬c<=90/\48<=c/\¬c<=57/\¬c=95)\/(97<=c/\¬c<=122/\65<=c/\¬c<=90/\48<=c/\¬c<=57/\¬c=95):=o_
theorem Hd(c:Int):aq prog 233 [.int .i32 c] (.bool (isLet c)):=by
 refine gA_ nf func233 mix ?_;rcases cls c with⟨a,b⟩|⟨a,b,d⟩|⟨a,b,d,e⟩|⟨a,b,d,e,f⟩|⟨a,b,d,e,f⟩|⟨a,b,d,e,f,g⟩|⟨a,b,d,e,f,g⟩|⟨a,b,d,e,f,g,h⟩<;>simp[f233,isLet, *]
theorem G5{s:List Nat}{i:Nat}(hi:i<s.length):nL i (s.drop i)=((isLet s[i]||(decide (i≠0)&&(jY s[i]||decide ((s[i]:Int)=95))))&&nL (i+1) (s.drop (i+1))):=by
 rw[be hi,nL]
theorem CJ(s:List Nat)(h:s.length<=1048576):aq prog 203 [.str s] (.bool (isName s)):=by
 refine gA_ nf func203 mix ?_;rcases CL s.length 1 with⟨g1,m⟩|⟨g1,m⟩
 ·have:s.length=0:=by omega
  simp[f203,g1,isName,this]
 rcases CL 24 s.length with⟨g2,n⟩|⟨g2,n⟩
 ·have:¬s.length<=24:=by omega
  simp[f203,g1,g2,isName,this]
 simp[f203,g1,g2];have e0:isName s=nL 0 s:=by simp[isName];omega
 refine lp (α:=Nat) (fun i=>⟨[(3,.p (.int .i64 i)),(0,.p (.str s))],[]⟩) (fun i=>i<=s.length/\isName s=nL i (s.drop i)) (fun i=>s.length-i) 0 (by simp[e0]) ?_;rintro i ⟨k1,k2⟩
 by_cases hi:i<s.length
 ·rw[G5 hi]at k2;have k:=cH (i:=i) o_;generalize hc:(s[i]:Int)=c at*
  by_cases j:i=0
  ·subst j;have l:a0.wrap 1=1:=aR 1 o_ o_;rcases cls c with⟨a,b⟩|⟨a,b,d⟩|⟨a,b,d,e⟩|⟨a,b,d,e,f⟩|⟨a,b,d,e,f⟩|⟨a,b,d,e,f,g⟩|⟨a,b,d,e,f,g⟩|⟨a,b,d,e,f,g,h⟩
   ·simp[isLet,a,b]at k2;simp[hi,hc,a,b,l];exact rd 1 ⟨hi,by simpa using k2⟩
   ·simp[isLet,a,b,d]at k2;simp[hi,hc,a,b,d,l];exact rd 1 ⟨hi,by simpa using k2⟩
   all_goals
    simp[isLet, *]at k2;simp[hi,hc, *]
  ·rcases cls c with⟨a,b⟩|⟨a,b,d⟩|⟨a,b,d,e⟩|⟨a,b,d,e,f⟩|⟨a,b,d,e,f⟩|⟨a,b,d,e,f,g⟩|⟨a,b,d,e,f,g⟩|⟨a,b,d,e,f,g,h⟩
   ·simp[isLet,a,b]at k2;simp[hi,hc,a,b,k];exact rd (i+1) ⟨hi,k2⟩
   ·simp[isLet,a,b,d]at k2;simp[hi,hc,a,b,d,k];exact rd (i+1) ⟨hi,k2⟩
   ·simp[isLet,jY,a,b,d,e]at k2;simp[hi,hc,j,a,b,d,e,k2]
   ·simp[isLet,jY,a,b,d,e,j]at k2;simp[hi,hc,j,a,b,d,e,k];exact rd (i+1) ⟨hi,k2⟩
   ·simp[isLet,jY,a,b,d,e,f]at k2;simp[hi,hc,j,a,b,d,e,f,k2]
   ·subst g;simp[isLet,jY,j]at k2;simp[hi,hc,j,k];exact rd (i+1) ⟨hi,k2⟩
   ·simp[isLet,jY,a,b,d,e,f,g]at k2;simp[hi,hc,j,a,b,d,e,f,g,k2]
   ·simp[isLet,jY,a,b,d,e,f,g,h]at k2;simp[hi,hc,j,a,b,d,e,f,g,h,k2]
 ·have:i=s.length:=by omega
  subst this;simp[nL]at k2;simp[k2]
theorem G2(s:List Nat):(ib s).size=s.length:=by
 show(s.map UInt8.ofNat).toArray.size=_;simp
theorem Hx(s:List Nat)(b:∀c∈s,c<256)(i:Nat)(h:i<s.length)(a:i<(ib s).size):((ib s)[i]'a).toNat=s[i]:=by
 have e:(ib s)[i]'a=UInt8.ofNat s[i]:=by
  have:(ib s)[i]'a=(s.map UInt8.ofNat).toArray[i]'(by simpa using h):=rfl;rw[this];simp
 rw[e];have:=b s[i] (c9 h);simp;omega
theorem ak6{s:List Nat}(d:∀c∈s,c<256){i:Nat}(h:i<s.length)(b:s[i]<128):a4 (ib s) i=(s[i],1):=by
 have a:i<(ib s).size:=by rw[G2];exact h
 have e:=Hx s d i h a;rw[decode_ascii (ib s) i a (by rw[e];exact b),e]
theorem ak3{s:List Nat}(b:∀c∈s,c<256){i:Nat}(h:i<s.length)(d:¬s[i]<128):128<=(a4 (ib s) i).1/\1<=(a4 (ib s) i).2:=by
 have a:i<(ib s).size:=by rw[G2];exact h
 have e:=Hx s b i h a;exact decode_high (ib s) i a (by rw[e];omega)
theorem CR(s:List Nat)(h:s.length<=1048576):aq prog 180 [.str s] (.bool (isName s)):=by
 refine TU fun m=>?_;have m:∀c∈s,c<256:=by simpa[nw,ez]using m
 refine gA_ nf func180 mix ?_;simp[f180];refine lp (α:=Nat) (fun i=>⟨[(6,.ptr 0 []),(0,.p (.str s))],[.eL s i]⟩) (fun i=>i<=s.length/\nL 0 s=nL i (s.drop i)) (fun i=>s.length-i) 0 s_ ?_;rintro i ⟨k1,k2⟩
 by_cases hi:i<s.length
 ·rw[G5 hi]at k2
  by_cases o:s[i]<128
  ·have n:=ak6 m hi o;simp[hi,n];refine c1 (Hd _) ?_;generalize hc:(s[i]:Int)=c at*
   by_cases j:i=0
   ·rcases cls c with⟨a,b⟩|⟨a,b,d⟩|⟨a,b,d,e⟩|⟨a,b,d,e,f⟩|⟨a,b,d,e,f⟩|⟨a,b,d,e,f,g⟩|⟨a,b,d,e,f,g⟩|⟨a,b,d,e,f,g,h⟩
    ·simp[isLet,a,b]at k2;simp[isLet,a,b];exact rd (i+1) ⟨hi,k2⟩
    ·simp[isLet,a,b,d]at k2;simp[isLet,a,b,d];exact rd (i+1) ⟨hi,k2⟩
    all_goals
     simp[isLet,isName, *]at k2;simp[isLet,isName, *]
   ·rcases cls c with⟨a,b⟩|⟨a,b,d⟩|⟨a,b,d,e⟩|⟨a,b,d,e,f⟩|⟨a,b,d,e,f⟩|⟨a,b,d,e,f,g⟩|⟨a,b,d,e,f,g⟩|⟨a,b,d,e,f,g,h⟩
    ·simp[isLet,a,b]at k2;simp[isLet,a,b];exact rd (i+1) ⟨hi,k2⟩
    ·simp[isLet,a,b,d]at k2;simp[isLet,a,b,d];exact rd (i+1) ⟨hi,k2⟩
    ·simp[isLet,jY,a,b,d,e]at k2;have k:c<48:=by omega
     simp[isLet,isName,a,b,e,j,k,k2]
    ·simp[isLet,jY,a,b,d,e,f,j]at k2;have k:¬c<48:=by omega
     have e2:¬57<c:=o_
     simp[isLet,a,b,k,e2,f,j];exact rd (i+1) ⟨hi,k2⟩
    ·simp[isLet,jY,a,b,d,e,f]at k2;have k:¬c<48:=by omega
     have e2:57<c:=o_
     simp[isLet,isName,a,b,k,e2,f,j,k2]
    ·subst g;simp[isLet,jY,j]at k2;simp[isLet,j];exact rd (i+1) ⟨hi,k2⟩
    ·simp[isLet,jY,a,b,d,e,f,g]at k2;have k:¬c<48:=by omega
     have e2:57<c:=o_
     simp[isLet,isName,a,b,d,k,e2,g,j,k2]
    ·simp[isLet,jY,a,b,d,e,f,g,h]at k2;have k:¬c<48:=by omega
     have e2:57<c:=o_
     simp[isLet,isName,a,b,d,e,k,e2,h,j,k2]
  ·obtain⟨n,_⟩:=ak3 m hi o;have z:isLet (s[i]:Int)=false:=by simp[isLet];omega
   have y:jY (s[i]:Int)=false:=by simp[jY];omega
   have x:¬(s[i]:Int)=95:=o_
   simp[z,y,x]at k2;rcases q:a4 (ib s) i with⟨c,d⟩
   rw[q]at n;have t:isLet (c:Int)=false:=by simp[isLet];omega
   have u:¬(c:Int)=95:=o_
   have v:¬(c:Int)<48:=o_
   have w:57<(c:Int):=o_
   simp[hi,q];refine c1 (Hd _) ?_
   by_cases j:i=0
   ·simp[t,j,isName,k2]
   ·simp[t,j,u,v,w,isName,k2]
 ·have:i=s.length:=by omega
  subst this;simp[nL]at k2;cases hs:s with
  |nil=>simp[isName]
  |cons a r=>
   rw[hs]at k2;rcases CL 24 s.length with⟨g,l⟩|⟨g,l⟩
   ·rw[hs]at g l;have:¬(r.length+1)<=24:=by simp at g;omega
    simp at l;simp[isName,k2,this];omega
   ·rw[hs]at g l;have:(r.length+1)<=24:=by simp at l;omega
    simp at l;simp[isName,k2,this];omega
theorem ig{s:List Nat}(h:bZ s=0):aQ 2000 (bm s):=by
 obtain⟨b,c⟩:=H3 h;have a:(10:Nat)^mD<=2^2000:=by decide+kernel
 exact⟨eP b a,eP c a⟩
theorem GL:bk 1=[49]:=GU (n:=1) d_
def fX(q:Rat):Int:=if bL q<0\/0<cT q 1 then 3 else 0
def ze(s:List Nat):Int:=if bZ s=0 then fX (bm s)else bZ s
theorem Hh(s:List Nat)(hs:jG s):aq prog 258 [.str s] (.int .i64 (ze s)):=by
 have d:=yr s hs;refine gA_ nf func258 mix ?_;rw[ze]
 by_cases c:bZ s=0
 ·have o:=ig c;have f:=oN (bm s) (o.mono d_);have g:=ur (bm s) 1 (o.mono d_) (by exact⟨by decide+kernel,by decide+kernel⟩);rw[(jx c).1]at f g;rw[GL]at g;rw[if_pos c,fX];rw[c]at d;generalize bL (bm s)=x,cT (bm s) 1=y at*
  by_cases a:x<0
  ·simp(maxDischargeDepth:=99) [f258,ad,a,c1 d,c1 f]
  ·by_cases b:0<y
   ·simp(maxDischargeDepth:=99) [f258,ad,a,b,c1 d,c1 f,c2 g]
   ·simp(maxDischargeDepth:=99) [f258,ad,a,b,c1 d,c1 f,c2 g]
 ·rw[if_neg c];generalize bZ s=e at*;simp[f258,ad,c,c1 d]
def iz(o p:dX):Bool:=decide (o.fo=p.fo)&&(decide (cT (bm o.a) (bm p.b)<=0)&&decide (cT (bm p.a) (bm o.b)<=0))
def iY(n:Nat)(c:List dX)(p:dX):Int:=
 if isName p.name=false then 8
 else if c.any (fun o=>decide (o.name=p.name))=true then 9
 else if p.fo<0\/(n:Int)<=p.fo then 10
 else if bZ p.a≠0 then bZ p.a
 else if bZ p.b≠0 then bZ p.b
 else if max (fX (bm p.a)) (fX (bm p.b))≠0 then max (fX (bm p.a)) (fX (bm p.b))
 else if 0<cT (bm p.a) (bm p.b)then 11
 else if c.any (fun o=>iz o p)=true then 17 else 0
def tW(p:dX):Prop:=jG p.name/\jG p.a/\jG p.b
def ai.pk(t:ai)(i:Nat):dX:=t.bp.getD i ⟨[],0,[],[]⟩
@[simp] theorem ai.Sd{t:ai}{i:Nat}(h:i<t.bp.length):t.bp[i]'h=t.pk i:=by
 rw[ai.pk,ck,bo h];rfl
theorem ai.mN{t:ai}{i:Nat}(h:i<t.bp.length):t.bp[i]?=some (t.pk i):=by rw[bo h,ai.Sd]
theorem wG{α:Type}{f:α->Bool}{l:List α}{i:Nat}{x:α}(h:l[i]?=some x):(l.take (i+1)).any f=((l.take i).any f||f x):=by
 rw[b3,h];simp
theorem Tb(t:ai)(i:Nat)(hi:i<t.bp.length)(U:t.bp.length<=1000000)(hc:t.cs.length<=1000000)(P:∀p∈t.bp,tW p)(Q:∀j,j<i->bZ (t.pk j).a=0/\bZ (t.pk j).b=0):
 aq prog 202 [de t,.int .i64 i] (.int .i64 (iY t.cs.length (t.bp.take i) (t.pk i))):=by
 have v:=ai.mN hi;obtain⟨R,D,E⟩:=P _ (a9 v);have m:=CJ (t.pk i).name R.1;have N:=yr (t.pk i).a D;have O:=yr (t.pk i).b E;refine gA_ nf func202 mix ?_;rw[iY];cases hn:isName (t.pk i).name
 ·rw[hn]at m;simp[f202,ad,v,hi,c1 m]
 rw[hn]at m;rw[if_neg d_];simp[f202,ad,v,hi];refine c1 m ?_;simp[ad];refine lp (α:=Nat) (fun j=>⟨[(6,.p (.int .i64 j)),(5,.ptr 1 []),(2,.ptr 0 []),(1,.p (.int .i64 i))],[.box false (.p (de t)),.box false (.p (fR (t.pk i)))]⟩) (fun j=>j<=i/\(t.bp.take j).any (fun o=>decide (o.name=(t.pk i).name))=false) (fun j=>i-j) 0 s_ ?_;rintro j ⟨V,C⟩
 by_cases q:j<i
 ·have z:j<t.bp.length:=by omega
  have g:=ai.mN z;have f:=cH (i:=j) o_
  by_cases n:(t.pk j).name=(t.pk i).name
  ·have:(t.bp.take i).any (fun o=>decide (o.name=(t.pk i).name))=true:=by
    rw[b0];exact⟨t.pk j,a9 (i:=j) (by rw[bw,if_pos q];exact g),by simp[n]⟩
   rw[if_pos this];simp[q,z,g,n,ad]
  ·simp[q,z,g,n,f,ad];exact rd (j+1) ⟨q,by rw[wG g,C];simp[n]⟩
 have:j=i:=o_
 subst this;rw[C,if_neg d_];have u:((t.pk j).fo<0\/(t.cs.length:Int)<=(t.pk j).fo)\/(¬(t.pk j).fo<0/\¬(t.cs.length:Int)<=(t.pk j).fo):=o_
 rcases u with u|⟨K,L⟩
 ·rw[if_pos u]
  by_cases e1:(t.pk j).fo<0
  ·simp[e1,ad]
  ·have e2:(t.cs.length:Int)<=(t.pk j).fo:=by omega
   simp[e1,e2,ad]
 rw[if_neg o_];have J:¬j<j:=o_
 simp[K,L,J,ad];refine c1 N ?_
 by_cases c:bZ (t.pk j).a=0
 case neg=>
  rw[if_pos c];simp[c,ad]
 rw[if_neg (by simp[c])];simp[c,ad];refine c1 O ?_
 by_cases d:bZ (t.pk j).b=0
 case neg=>
  rw[if_pos d];simp[d,ad]
 rw[if_neg (by simp[d])];simp[d,ad];have F:=ig c;have G:=ig d;have x:=Hh (t.pk j).a D;have y:=Hh (t.pk j).b E;rw[ze,if_pos c]at x;rw[ze,if_pos d]at y;have A:=ur (bm (t.pk j).a) (bm (t.pk j).b) (F.mono d_) (G.mono d_);rw[(jx c).1,(jx d).1]at A;refine e1 x ?_;simp[ad];refine e1 y ?_;have em:max (fX (bm (t.pk j).a)) (fX (bm (t.pk j).b))=if fX (bm (t.pk j).a)<fX (bm (t.pk j).b)then fX (bm (t.pk j).b)else fX (bm (t.pk j).a):=by split<;>omega
 simp[ad,<-em];clear em x y;generalize max (fX (bm (t.pk j).a)) (fX (bm (t.pk j).b))=M at*
 by_cases hm:M=0
 case neg=>
  simp[hm,ad]
 subst hm;simp[ad];refine c2 A ?_
 by_cases s:0<cT (bm (t.pk j).a) (bm (t.pk j).b)
 ·rw[if_pos s];simp[s,ad]
 rw[if_neg s];simp[s,ad];refine lp (α:=Nat) (fun k=>⟨[(8,.p (.int .i64 k)),(5,.ptr 1 []),(2,.ptr 0 []),(1,.p (.int .i64 j))],[.box false (.p (de t)),.box false (.p (fR (t.pk j)))]⟩) (fun k=>k<=j/\(t.bp.take k).any (fun o=>iz o (t.pk j))=false) (fun k=>j-k) 0 s_ ?_;rintro k ⟨k1,k2⟩
 by_cases hk:k<j
 ·have e:k<t.bp.length:=by omega
  have gk:=ai.mN e;have f:=cH (i:=k) o_;obtain⟨H,I⟩:=Q k hk;have S:=ig H;have T:=ig I;have l:=ur (bm (t.pk k).a) (bm (t.pk j).b) (S.mono d_) (G.mono d_);have w:=ur (bm (t.pk j).a) (bm (t.pk k).b) (F.mono d_) (T.mono d_);rw[(jx H).1,(jx d).1]at l;rw[(jx c).1,(jx I).1]at w;have B:iz (t.pk k) (t.pk j)=true->(t.bp.take j).any (fun o=>iz o (t.pk j))=true:=fun h=>by
   rw[b0];exact⟨t.pk k,a9 (i:=k) (by rw[bw,if_pos hk];exact gk),h⟩
  have r:iz (t.pk k) (t.pk j)=false->(t.bp.take (k+1)).any (fun o=>iz o (t.pk j))=false:=fun h=>by
   rw[wG gk,k2,h];rfl
  rw[iz]at B r
  by_cases e1:(t.pk k).fo=(t.pk j).fo
  ·by_cases e2:cT (bm (t.pk k).a) (bm (t.pk j).b)<=0
   ·by_cases e3:cT (bm (t.pk j).a) (bm (t.pk k).b)<=0
    ·rw[if_pos (B (by simp[e1,e2,e3]))];simp[hk,e,gk,e1,ad,e2,e3,c2 l,c2 w]
    ·simp[hk,e,gk,e1,ad];refine c2 l ?_;simp[e1,e2,ad];refine c2 w ?_;simp[e1,e2,e3,f,ad];exact rd (k+1) ⟨hk,r (by simp[e3])⟩
   ·simp[hk,e,gk,e1,ad];refine c2 l ?_;simp[e1,e2,f,ad];exact rd (k+1) ⟨hk,r (by simp[e2])⟩
  ·simp[hk,e,gk,e1,f,ad];exact rd (k+1) ⟨hk,r (by simp[e1])⟩
 ·have:k=j:=by omega
  subst this;rw[k2,if_neg d_];simp[ad]
structure NV where
 x:NF
 y:NF
noncomputable def cM(v:NV):PV:=.st 119 [eF v.x,eF v.y]
@[simp] theorem aNv(v:NV):aL (cM v)=.agg 119:=rfl
@[simp] theorem aLU(v:NV):bW (cM v)=[eF v.x,eF v.y]:=rfl
@[simp] theorem aJr:prog.cellsOf 119=8:=k_
@[simp] theorem aJq:prog.cellsOf 125=12:=k_
theorem pW(x y:NF):cM ⟨x,y⟩=.st 119 [eF x,eF y]:=rfl
def NV.q(v:NV):V2:=⟨v.x.q,v.y.q⟩
def NV.add(v w:NV):NV:=⟨v.x.add w.x,v.y.add w.y⟩
def NV.sub(v w:NV):NV:=⟨v.x.sub w.x,v.y.sub w.y⟩
def NV.times(v:NV)(k:NF):NV:=⟨v.x.mul k,v.y.mul k⟩
def NV.dot(v w:NV):NF:=(v.x.mul w.x).add (v.y.mul w.y)
def NV.bu(v w:NV):NF:=(v.x.mul w.y).sub (v.y.mul w.x)
theorem NV.dW(v w:NV):(v.sub w).q=v.q.sub w.q:=by simp only[NV.sub,NV.q,V2.sub,NF.dW]
theorem NV.Kb(v w:NV):(v.add w).q=v.q.add w.q:=rfl
theorem NV.wK(v:NV)(k:NF):(v.times k).q=v.q.mul k.q:=rfl
theorem NV.lQ(v w:NV):(v.dot w).q=v.q.dot w.q:=rfl
theorem NV.lC(v w:NV):(v.bu w).q=v.q.bu w.q:=NF.dW _ _
theorem aif(v w:NV)(a:bd kQ v.q)(b:bd kQ w.q):aq prog 56 [cM v,cM w] (cM (v.add w)):=by
 have c:=nH v.x w.x (dH a.1) (dH b.1);have d:=nH v.y w.y (dH a.2) (dH b.2);refine gA_ nf func56 mix ?_;rw[NV.add,pW];simp(maxDischargeDepth:=99) [f56,ad,e2 c,e2 d]
theorem yD(v w:NV)(a:bd kQ v.q)(b:bd kQ w.q):aq prog 86 [cM v,cM w] (cM (v.sub w)):=by
 have c:=nF v.x w.x (dH a.1) (dH b.1);have d:=nF v.y w.y (dH a.2) (dH b.2);refine gA_ nf func86 mix ?_;rw[NV.sub,pW];simp(maxDischargeDepth:=99) [f86,ad,e2 c,e2 d]
theorem vN(v:NV)(k:NF)(a:bd kQ v.q)(hk:aQ kQ k.q):aq prog 57 [cM v,eF k] (cM (v.times k)):=by
 have b:=fB v.x k (dH a.1) (dH hk);have c:=fB v.y k (dH a.2) (dH hk);refine gA_ nf func57 mix ?_;rw[NV.times,pW];simp(maxDischargeDepth:=99) [f57,ad,e2 b,e2 c]
theorem BM(v w:NV)(a:bd kQ v.q)(b:bd kQ w.q):aq prog 101 [cM v,cM w] (eF (v.dot w)):=by
 have c:=fB v.x w.x (dH a.1) (dH b.1);have d:=fB v.y w.y (dH a.2) (dH b.2);have e:=nH (v.x.mul w.x) (v.y.mul w.y) ((bC a.1 b.1).mono d_) ((bC a.2 b.2).mono d_);refine gA_ nf func101 mix ?_;rw[NV.dot];simp(maxDischargeDepth:=99) [f101,ad,e2 c,e2 d,e2 e]
theorem CN(v w:NV)(a:bd kQ v.q)(b:bd kQ w.q):aq prog 154 [cM v,cM w] (eF (v.bu w)):=by
 have c:=fB v.x w.y (dH a.1) (dH b.2);have d:=fB v.y w.x (dH a.2) (dH b.1);have e:=nF (v.x.mul w.y) (v.y.mul w.x) ((bC a.1 b.2).mono d_) ((bC a.2 b.1).mono d_);refine gA_ nf func154 mix ?_;rw[NV.bu];simp(maxDischargeDepth:=99) [f154,ad,e2 c,e2 d,e2 e]
theorem Ag(v:NV)(a:bd kQ v.q):aq prog 87 [cM v] (eF (v.dot v)):=by
 refine gA_ nf func87 mix ?_;simp[f87,ad,c2 (BM v v a a)]
def NV.from(p:bS):NV:=⟨⟨bm p.x,false⟩,⟨bm p.y,false⟩⟩
theorem FJ(p:bS)(c:bZ p.x=0)(d:bZ p.y=0)(a:jF p):aq prog 55 [dA p] (cM (.from p)):=by
 have a1:=mG p.x c a.1.1;have b:=mG p.y d a.2.1;refine gA_ nf func55 mix ?_;rw[NV.from,pW];simp(maxDischargeDepth:=99) [f55,ad,e1 a1,e1 b]
structure NS where
 a:NF
 b:NF
 d:NF
noncomputable def fJ(s:NS):PV:=.st 125 [eF s.a,eF s.b,eF s.d]
@[simp] theorem aNu(s:NS):aL (fJ s)=.agg 125:=rfl
@[simp] theorem aLT(s:NS):bW (fJ s)=[eF s.a,eF s.b,eF s.d]:=rfl
theorem qg(a b d:NF):fJ ⟨a,b,d⟩=.st 125 [eF a,eF b,eF d]:=rfl
def NS.q(s:NS):S3:=⟨s.a.q,s.b.q,s.d.q⟩
def fV(k:Nat)(s:NS):Prop:=aQ k s.a.q/\aQ k s.b.q/\aQ k s.d.q
def lg(s:S3):Bool:=nK s.a||nK s.b||nK s.d
theorem FN(s:NS)(h:fV kB s):aq prog 53 [fJ s] (.bool (lg s.q)):=by
 have c:=A7 s.a h.1;have e:=A7 s.b h.2.1;have f:=A7 s.d h.2.2;refine gA_ nf func53 mix ?_;rw[lg,NS.q];dsimp only;generalize nK s.a.q=x,nK s.b.q=y,nK s.d.q=z at*;cases x
 ·cases y
  ·simp(maxDischargeDepth:=99) [f53,ad,c1 c,c1 e,c1 f]
  ·simp(maxDischargeDepth:=99) [f53,ad,c1 c,c1 e]
 ·simp[f53,ad,c1 c]
theorem FU(s:NS)(h:fV kB s):aq prog 54 [fJ s] (eS s.q):=by
 have c:=A0 s.a h.1;have e:=A0 s.b h.2.1;have f:=A0 s.d h.2.2;refine gA_ nf func54 mix ?_;rw[NS.q,kY];simp(maxDischargeDepth:=99) [f54,ad,e1 c,e1 e,e1 f]
theorem jz{q:Rat}(h:aQ 1800 q):nK q=false:=by
 have a:(bc q.num.natAbs).length<=600:=tK (K:=1800) (k:=600) h.1 d_ d_;have b:(bc q.den).length<=600:=tK (K:=1800) (k:=600) h.2 d_ d_;rw[nK,lZ,lZ,decide_eq_false o_,decide_eq_false o_];rfl
def NF.width(r:Int):NF:=.int (4*r*r)
theorem aH8(r:Int):(NF.width r).q=bR r:=rfl
theorem ais(r:Int)(a:0<=r)(b:r<=1000000):aq prog 89 [.int .i64 r] (eF (.width r)):=by
 have d:=yc a b;have c:=mI (4*r*r) o_ o_;have w1:a0.wrap (4*r)=4*r:=aR _ o_ o_;have w2:a0.wrap (4*r*r)=4*r*r:=aR _ o_ o_;refine gA_ nf func89 mix ?_;rw[NF.width];simp[f89,w1,w2,ad,c1 c]
structure NM where
 w:NV
 d:NV
 root:NF
noncomputable def jB(m:NM):PV:=.st 121 [cM m.w,cM m.d,eF m.root]
@[simp] theorem Dc(m:NM):aL (jB m)=.agg 121:=rfl
@[simp] theorem aLS(m:NM):bW (jB m)=[cM m.w,cM m.d,eF m.root]:=rfl
theorem B6(a b:NV)(d:NF):jB ⟨a,b,d⟩=.st 121 [cM a,cM b,eF d]:=rfl
def NM.of(width:NF)(p d b:NV):NM:=⟨b.sub p,d,(((b.sub p).dot d).mul ((b.sub p).dot d)).sub ((d.dot d).mul (((b.sub p).dot (b.sub p)).sub width))⟩
def yC(width:NF)(p d b:NV):Bool:=decide (0<=cT ((b.sub p).dot (b.sub p)).q width.q)&&decide (0<bL ((b.sub p).dot d).q)&&decide (0<bL (NM.of width p d b).root.q)
theorem afO(width:NF)(p d b:NV)(j:aQ 500 width.q)(t:bd 200 p.q)(f:bd 500 d.q)(s:bd 200 b.q):aq prog 90 [eF width,cM p,cM d,cM b] (.aD [jB (.of width p d b),.bool (yC width p d b)]):=by
 have a:bd 401 (b.sub p).q:=by rw[NV.dW];exact gY s t
 have e:=fe a a;have c:=fe a f;have k:=fe f f;have g:=fA e j;have r:=yD b p (s.mono d_) (t.mono d_);obtain⟨w,u⟩:∃w,b.sub p=w:=⟨_,rfl⟩
 have x:NM.of width p d b=⟨w,d,((w.dot d).mul (w.dot d)).sub ((d.dot d).mul ((w.dot w).sub width))⟩:=by rw[NM.of,u]
 rw[yC,x,B6];rw[u]at r a e c g⊢;have v:bd kQ w.q:=a.mono d_;have kd:bd kQ d.q:=f.mono d_;have B:=BM w d v kd;have C:=fB (w.dot d) (w.dot d) (c.mono d_) (c.mono d_);have E:=Ag d kd;have n:=Ag w v;have y:=nF (w.dot w) width (e.mono d_) (j.mono d_);have q1:((w.dot w).sub width).q=w.q.dot w.q-width.q:=NF.dW _ _;have D:=fB (d.dot d) ((w.dot w).sub width) (k.mono d_) (by rw[q1];exact g.mono d_);have F:(((w.dot d).mul (w.dot d)).sub ((d.dot d).mul ((w.dot w).sub width))).q=w.q.dot d.q*w.q.dot d.q-d.q.dot d.q*(w.q.dot w.q-width.q):=by rw[NF.dW,NF.Gq,NF.Gq,q1];rfl
 have z:=nF ((w.dot d).mul (w.dot d)) ((d.dot d).mul ((w.dot w).sub width)) ((bC c c).mono d_) (by rw[NF.Gq,q1];exact(bC k g).mono d_);have A:=ry (w.dot w) width (e.mono d_) (j.mono d_);have i:=mF (w.dot d);have m:=mF (((w.dot d).mul (w.dot d)).sub ((d.dot d).mul ((w.dot w).sub width)));simp only[show∀q:Rat,(if q<0 then(-1:Int)else if q=0 then 0 else 1)=bL q from fun _=>rfl]at i m;refine gA_ nf func90 mix ?_;dsimp only;generalize ((w.dot d).mul (w.dot d)).sub ((d.dot d).mul ((w.dot w).sub width))=root at*;generalize bL root.q=s2,bL (w.dot d).q=s1,cT (w.dot w).q width.q=o at*;simp[f90,ad];refine c2 r ?_;simp[ad];refine c2 B ?_;simp[ad];refine e2 C ?_;simp[ad];refine e1 E ?_;simp[ad];refine e1 n ?_;simp[ad];refine e2 y ?_;simp[ad];refine e2 D ?_;simp[ad];refine e2 z ?_;simp[ad];refine⟨r_,?_⟩;refine e1 n ?_;simp[ad];refine e2 A ?_
 by_cases h:0<=o
 ·by_cases l:0<s1
  ·simp(maxDischargeDepth:=99) [ad,h,l,e1 i,e1 m]
  ·simp[ad,h,l,e1 i]
 ·simp[ad,h]
def NM.far(m:NM):NS:=⟨(m.w.dot m.d).div (m.d.dot m.d),(m.d.dot m.d).inv.neg,m.root⟩
theorem F3(m:NM)(c:bd 500 m.w.q)(a:bd 500 m.d.q)(hz:m.d.q.dot m.d.q≠0):aq prog 52 [jB m] (fJ m.far):=by
 obtain⟨w,d,root⟩:=m;dsimp only at c a hz;have b:=fe a a;have g:=Ag d (a.mono d_);have e:=BM w d (c.mono d_) (a.mono d_);have h:=tI (w.dot d) (d.dot d) ((fe c a).mono d_) (b.mono d_) hz;have hI:=yt (d.dot d) (b.mono d_) hz;have f:=ru (d.dot d).inv ((uX b).mono d_);refine gA_ nf func52 mix ?_;rw[NM.far,qg];dsimp only;rw[B6];simp(maxDischargeDepth:=99) [f52,ad,c1 g,e2 e,e2 h,e1 hI,e1 f]
theorem UU(p:bS)(j:jF p):aq prog 85 [dA p] (.int .i64 (lV p)):=by
 have f:=zK p j;have k:bJ [dM p,bh (decide (p.x=[48]/\p.y=[48])) 6]=lV p:=by
  rw[lV,bJ,bJ,bJ,bh]
  by_cases h:dM p=0
  ·by_cases g:p.x=[48]/\p.y=[48]
   ·simp[h,g]
   ·simp[h,g]
  ·simp[h]
 refine gA_ nf func85 mix ?_;rw[<-k];obtain⟨x,y⟩:=p;simp only[dA]at*;generalize dM ⟨x,y⟩=c at*;have e:∀b:Bool,decide (x=[48]/\y=[48])=b->aq prog 91 [.bool b,.int .i64 6] (.int .i64 (bh b 6))/\aq prog 61 [.seq [.int .i64 c,.int .i64 (bh b 6)]] (.int .i64 (bJ [c,bh (decide (x=[48]/\y=[48])) 6])):=fun b i=>by
  rw[i];exact⟨Dr b 6,DA [c,bh b 6] s_⟩
 generalize bJ [c,bh (decide (x=[48]/\y=[48])) 6]=res at*
 by_cases hx:x=[48]
 ·by_cases hy:y=[48]
  ·obtain⟨d,a⟩:=e true (by simp[hx,hy]);simp[f85,ad];refine e1 f ?_;simp[ad,hx,hy];refine e2 d ?_;simp[ad];refine ep a t_ t_ ?_;simp
   repeat' first|rfl|apply aj
  ·obtain⟨d,a⟩:=e false (by simp[hx,hy]);simp[f85,ad];refine e1 f ?_;simp[ad,hx,hy];refine e2 d ?_ (h1:=by simp[hy]);simp[ad];refine ep a t_ t_ ?_;simp
   repeat' first|rfl|apply aj
 ·obtain⟨d,a⟩:=e false (by simp[hx]);simp[f85,ad];refine e1 f ?_;simp[ad,hx];refine e2 d ?_;simp[ad];refine ep a t_ t_ ?_;simp
  repeat' first|rfl|apply aj
theorem qM:∀l:List Int,bJ l=0↔∀e∈l,e=0
 |[]=>by simp[bJ]
 |e::r=>by
  rw[bJ]
  by_cases h:e=0
  ·rw[if_pos h,qM r];simp[h]
  ·rw[if_neg h];simp[h]
theorem jO{p:bS}(h:dM p=0):bZ p.x=0/\bZ p.y=0:=by
 have:=(qM _).1 h;exact⟨this _ s_,this _ s_⟩
theorem D6{p:bS}(h:lV p=0):dM p=0/\¬(p.x=[48]/\p.y=[48]):=by
 rw[lV]at h
 split at h
 ·cases h
 ·rename_i a;exact⟨h,fun x=>a ⟨h,x⟩⟩
def vP(p:bS):V2:=⟨bm p.x,bm p.y⟩
theorem gH(p:bS):(NV.from p).q=vP p:=rfl
theorem sq_nonneg(a:Rat):0<=a*a:=by
 rcases Rat.le_total (a:=0) (b:=a)with h|h
 ·exact fl h h
 ·have c:0<=-a:=by
   have:=Rat.neg_le_neg h
   rwa [fv]at this
  have:=fl c c
  rwa [Rat.neg_mul,Rat.mul_neg,Rat.neg_neg]at this
theorem aGH{a b:Rat}(h:a*a+b*b=0):a=0/\b=0:=by
 have key:∀x y:Rat,x*x+y*y=0->x=0:=fun x y h=>by
  have c:=sq_nonneg x;have d:=sq_nonneg y;have e:x*x<=0:=by
   have f:x*x+0<=x*x+y*y:=(Rat.add_le_add_left).2 d
   rwa [Rat.add_zero,h]at f
  have g:x*x=0:=Rat.le_antisymm e c;rcases e9.1 g with h|h<;>exact h
 exact⟨key a b h,key b a (by rw[Rat.add_comm];exact h)⟩
theorem alx{p:bS}(h:lV p=0):(vP p).dot (vP p)≠0:=by
 obtain⟨c,d⟩:=D6 h;obtain⟨e,f⟩:=jO c;intro hz;obtain⟨a,b⟩:=aGH hz;apply d;have e1:=(jx e).1;have e2:=(jx f).1;simp only[vP]at a b;rw[a,lP]at e1;rw[b,lP]at e2;exact⟨e1.symm,e2.symm⟩
def tF:PV:=.st 44 [.str [],.str [],.str []]
theorem Dp{k:Nat}{p:bS}(h:bd k (vP p)):bd k (NV.from p).q:=h
def BH:PV:=.st 113 [.int .i64 0,.aK]
def zeroV:PV:=.st 119 [.st 115 [BH,BH],.st 115 [BH,BH]]
@[simp] theorem aN0:aL zeroV=.agg 119:=rfl
theorem rV{a b:Nat}{x y:NF}(h:aQ a x.q)(c:aQ b y.q):aQ (a+b+1) (x.add y).q:=kl h c
theorem CP{a b:Nat}{x y:NF}(h:aQ a x.q)(c:aQ b y.q):aQ (a+b+1) (x.sub y).q:=by rw[NF.dW];exact fA h c
theorem dJ{a b:Nat}{x y:NF}(h:aQ a x.q)(c:aQ b y.q):aQ (a+b) (x.mul y).q:=bC h c
theorem zD{a b:Nat}{x y:NF}(h:aQ a x.q)(c:aQ b y.q):aQ (a+b) (x.div y).q:=iK h c
theorem se{a:Nat}{x:NF}(h:aQ a x.q):aQ a (x.inv).q:=uX h
theorem rU{a:Nat}{x:NF}(h:aQ a x.q):aQ a (x.neg).q:=kU h
theorem zj(s:NS)(hs:fV 30000 s):aq prog 102 [fJ s] (.int .i64 (cJ s.q)):=by
 have g:=mF s.a;have h:=mF s.b;have i:=mF s.d;have k:=fB s.a s.a (hs.1.mono d_) (hs.1.mono d_);have l:=fB s.b s.b (hs.2.1.mono d_) (hs.2.1.mono d_);have m:=fB (s.b.mul s.b) s.d ((dJ hs.2.1 hs.2.1).mono d_) (hs.2.2.mono d_);have n:=ry (s.a.mul s.a) ((s.b.mul s.b).mul s.d) ((dJ hs.1 hs.1).mono d_) ((dJ (dJ hs.2.1 hs.2.1) hs.2.2).mono d_);have q1:cJ s.q=gn (bL s.a.q) (bL s.b.q*bL s.d.q) (cT (s.a.mul s.a).q ((s.b.mul s.b).mul s.d).q):=rfl;rw[q1];rw[show(if s.a.q<0 then(-1:Int)else if s.a.q=0 then 0 else 1)=bL s.a.q from rfl]at g;rw[show(if s.b.q<0 then(-1:Int)else if s.b.q=0 then 0 else 1)=bL s.b.q from rfl]at h;rw[show(if s.d.q<0 then(-1:Int)else if s.d.q=0 then 0 else 1)=bL s.d.q from rfl]at i;have e:=kV s.a.q;have f:=kX (kV s.b.q) (kV s.d.q);have j:=FY (s.a.mul s.a).q ((s.b.mul s.b).mul s.d).q;have w1:=kW f;refine gA_ nf func102 mix ?_;clear q1;generalize cT (s.a.mul s.a).q ((s.b.mul s.b).mul s.d).q=o,bL s.a.q=x,bL s.b.q=y1,bL s.d.q=y2 at*;have w2:=kW (kX e f);have w3:=kW (kX e j);simp[f102,ad,-aW];rw[aW];simp[-aW,ad];rw[aW];simp[-aW,ad];refine e1 g ?_;simp[ad];refine e1 h ?_;simp[ad];refine e1 i ?_;simp[ad,w1];generalize y1*y2=y at*;rw[gn]
 by_cases c2:x=0
 ·subst c2;rw[if_pos o_,if_pos rfl];simp[ad]
 ·by_cases c:0<=x*y
  ·rw[if_pos c,if_neg c2];simp[c,c2,w2,ad]
  ·rw[if_neg c];simp(maxDischargeDepth:=99) [c,c2,w2,ad,w3,e2 k,e2 l,e2 m,e2 n]
structure NB where
 a:NV
 b:NV
 d:NF
noncomputable def lW(n:NB):PV:=.st 132 [cM n.a,cM n.b,eF n.d]
@[simp] theorem aNt(n:NB):aL (lW n)=.agg 132:=rfl
@[simp] theorem aLR(n:NB):bW (lW n)=[cM n.a,cM n.b,eF n.d]:=rfl
theorem tH(a b:NV)(d:NF):lW ⟨a,b,d⟩=.st 132 [cM a,cM b,eF d]:=rfl
def NB.q(n:NB):P4:=⟨⟨n.a.x.q,n.b.x.q,n.d.q⟩,⟨n.a.y.q,n.b.y.q,n.d.q⟩⟩
def okB(k:Nat)(n:NB):Prop:=bd k n.a.q/\bd k n.b.q/\aQ k n.d.q
theorem okB.mono{k l:Nat}{n:NB}(h:okB k n)(a:k<=l):okB l n:=⟨h.1.mono a,h.2.1.mono a,h.2.2.mono a⟩
def NB.sx(n:NB):NS:=⟨n.a.x,n.b.x,n.d⟩
def NB.sy(n:NB):NS:=⟨n.a.y,n.b.y,n.d⟩
def rI(p:P4):Bool:=lg p.x||lg p.y
def SL:PV:=.st 49 [tF,tF]
theorem FW(n:NB)(h:okB kB n):aq prog 58 [lW n] (if rI n.q=true then .aD [SL,.int .i64 4]else .aD [nI n.q,.int .i64 0]):=by
 have f:fV kB n.sx:=⟨h.1.1,h.2.1.1,h.2.2⟩
 have g:fV kB n.sy:=⟨h.1.2,h.2.1.2,h.2.2⟩
 have a:=FN n.sx f;have b:=FN n.sy g;have c:=FU n.sx f;have e:=FU n.sy g;rw[show n.sx.q=n.q.x from rfl]at a c;rw[show n.sy.q=n.q.y from rfl]at b e;rw[NB.sx,qg]at a c;rw[NB.sy,qg]at b e;refine gA_ nf func58 mix ?_;obtain⟨⟨i,j⟩,⟨bx,k⟩,d⟩:=n;rw[rI,SL,tF,nI];generalize (NB.q ⟨⟨i,j⟩,⟨bx,k⟩,d⟩)=p at*;dsimp only at*;clear f g h;cases hx:lg p.x
 ·cases hy:lg p.y
  ·rw[hx]at a;rw[hy]at b;simp+decide (maxDischargeDepth:=99) [f58,ad,tH,pW,c1 a,c1 b,e1 c,e1 e]
  ·rw[hx]at a;rw[hy]at b;simp+decide (maxDischargeDepth:=99) [f58,ad,tH,pW,c1 a,c1 b]
 ·rw[hx]at a;simp+decide (maxDischargeDepth:=99) [f58,ad,tH,pW,c1 a]
theorem P3(e:Int):∀l:List Int,bJ (l++[e])=if bJ l=0 then e else bJ l
 |[]=>by by_cases h:e=0<;>simp[bJ,h]
 |x::l=>by
  simp only[ee,bJ,P3 e l]
  by_cases hx:x=0
  ·simp[hx]
  ·simp[hx]
theorem FT{q:Rat}{k:Nat}(h:aQ k q)(hk:k<=1800):jG (bk q)/\bZ (bk q)=0:=by
 have a:(bc q.num.natAbs).length<=600:=tK (K:=1800) (k:=600) (h.mono hk).1 d_ d_;have b:(bc q.den).length<=600:=tK (K:=1800) (k:=600) (h.mono hk).2 d_ d_;have d:=GY q;exact⟨⟨o_,fun c hc=>ew (S5 q c hc) d_⟩,ai6 a b⟩
theorem aGj:bk 0=[48]:=lP
theorem FR(s:S3)(hs:dN 1800 s):aq prog 14 [eS s] (.int .i64 (if bL s.d<0 then 3 else 0)):=by
 obtain⟨a1,a2⟩:=FT hs.1 (ey _);obtain⟨h,e⟩:=FT hs.2.1 (ey _);obtain⟨d1,d2⟩:=FT hs.2.2 (ey _);have f:=MC [bk s.a,bk s.b,bk s.d] s_ (by intro x hx;simp at hx;rcases hx with rfl|rfl|rfl<;>assumption);have g:=oN s.d (hs.2.2.mono d_);simp only[bi,b4,a2,e,d2,bJ,if_true]at f;refine gA_ nf func14 mix ?_;clear a1 a2 h e d1 d2 hs;generalize bL s.d=x at*;simp[f14,ad,-aW];rw[aW];simp[-aW,ad];rw[aW];simp[-aW,ad];refine cp f t_ ?_
 by_cases c:x<0
 ·simp[c,ad,c1 g]
 ·simp[c,ad,c1 g]
theorem ZH(x:Rat)(s:S3)(hx:aQ 8000 x)(hs:dN 8000 s):aq prog 25 [.str (bk x),eS s] (eS (S3.times x s)):=by
 have c:=gF x s.a (hx.mono d_) (hs.1.mono d_);have d:=gF x s.b (hx.mono d_) (hs.2.1.mono d_);refine gA_ nf func25 mix ?_;rw[S3.times,kY];simp(maxDischargeDepth:=99) [f25,ad,e2 c,e2 d]
def P4.jf(p:P4):S3:=(p.x.mul p.x).add (p.y.mul p.y)
theorem G1(p:P4)(a:ku 1500 p):aq prog 20 [nI p] (eS p.jf):=by
 have b:=yE p.x p.x (a.1.mono d_) (a.1.mono d_);have c:=yE p.y p.y (a.2.mono d_) (a.2.mono d_);have d:=B7 (p.x.mul p.x) (p.y.mul p.y) ((wE a.1 a.1).mono d_) ((wE a.2 a.2).mono d_);refine gA_ nf func20 mix ?_;rw[P4.jf];simp(maxDischargeDepth:=99) [f20,ad,e2 b,e2 c,e2 d]
theorem adP(s:S3)(x:Rat)(hs:Gu s)(hx:aQ 600 x):aq prog 24 [eS s,.str (bk x)] (.bool (decide (dS s ⟨x,0,0⟩=0))):=by
 have z:aQ 1 (0:Rat):=⟨d_,d_⟩
 have h:=S2 s ⟨x,0,0⟩ hs ⟨hx.mono d_,z.mono d_,z.mono d_⟩;rw[kY x 0 0,aGj]at h;refine gA_ nf func24 mix ?_;generalize dS s ⟨x,0,0⟩=o at*;simp[f24,ad];refine c2 h ?_
 by_cases c:o=0<;>simp[c,ad]
theorem Dh(p:P4)(b:ku 1800 p)(c:0<=bL p.x.d)(a:p.y.d=p.x.d):aq prog 16 [nI p] (.bool true):=by
 have k1:=FR p.x b.1;have k2:=FR p.y b.2;rw[a]at k2;rw[if_neg o_]at k1 k2;refine gA_ nf func16 mix ?_;simp(maxDischargeDepth:=99) [f16,ad,a,c1 k1,c1 k2]
theorem jA{q:Rat}(h:0<q):bL q=1:=by
 rw[bL,if_neg (by grind),if_neg (by grind)]
theorem pj{q:Rat}(h:q<0):bL q= -1:=by rw[bL,if_pos h]
theorem mT:bL 0=0:=d_
theorem aBn{s:S3}{x:Rat}(c:s.a=x)(e:s.b=0):dS s ⟨x,0,0⟩=0:=by
 have h:cJ ⟨s.a-x,s.b,s.d⟩=0:=by
  rw[cJ,c,e];dsimp only;rw[Rat.sub_self,mT,a8,gn];rfl
 rw[dS];dsimp only;rw[h,mT,gn];rfl
theorem PN{s:List Nat}(h:eH s 6=true):aQ 20 (bm s)/\bZ s=0:=by
 simp only[eH,Bool.and_eq_true,decide_eq_true_eq]at h;have a:=BS h.1.2;have b:=BS h.2;exact⟨⟨ew a d_,ew b d_⟩,h.1.1.2⟩
def ij{α:Type}(a:List α->α->Int)(l:List α)(i:Nat):Int:=match l[i]? with
 |some x=>a (l.take i) x
 |none=>0
def lB{α:Type}(a:List α->α->Int)(l:List α):Int:=bJ ((cc l.length).map (ij a l))
theorem G7{f:Nat->Int}:∀(n i:Nat),(∀j,j<i->f j=0)->i<n->f i≠0->bJ ((cc n).map f)=f i
 |0,i,_,h,_=>by omega
 |n+1,i,a,g,b=>by
  rw[dg,ei,bi,b4,P3]
  by_cases hi:i<n
  ·rw[G7 n i a hi b,if_neg b]
  ·have:i=n:=by omega
   subst this;rw[(qM _).2 (by intro e c;obtain⟨j,d,rfl⟩:=cx.1 c;exact a j (da.1 d)),if_pos rfl]
theorem uh{α:Type}{a:List α->α->Int}{l:List α}{i:Nat}{x:α}(h:∀j,j<i->ij a l j=0)(hx:l[i]?=some x)(hn:a (l.take i) x≠0):lB a l=a (l.take i) x:=by
 have hi:=(List.getElem?_eq_some_iff.1 hx).1;have e:ij a l i=a (l.take i) x:=by rw[ij,hx]
 rw[lB,G7 _ i h hi (by rw[e];exact hn),e]
theorem qu{α:Type}{b:List α->α->Int}{l:List α}:lB b l=0↔∀j,j<l.length->ij b l j=0:=by
 rw[lB,qM];constructor
 ·intro h j a;exact h _ (cx.2 ⟨j,da.2 a,rfl⟩)
 ·intro h e c;obtain⟨j,a,rfl⟩:=cx.1 c;exact h j (da.1 a)
theorem ug{α:Type}{a:List α->α->Int}{l:List α}{i:Nat}{x:α}(h:∀j,j<i->ij a l j=0)(hx:l[i]?=some x)(hn:a (l.take i) x=0):∀j,j<i+1->ij a l j=0:=by
 intro j c
 by_cases b:j=i
 ·subst b;rw[ij,hx];exact hn
 ·exact h j o_
def jX(t:ai)(bef:List cO)(s:cO):Int:=
 if isName s.name=false then 8
 else if bef.any (fun o=>decide (o.name=s.name))=true then 9
 else if dM s.pt≠0 then dM s.pt
 else if t.on (vP s.pt)<0 then 16 else 0
def iw(t:ai):Int:=
 if t.cs.length<3 then 2
 else if 12<t.cs.length then 5
 else if t.cs.any gD=true then 3
 else if t.fF=false then 15
 else if t.aI<1\/1000<t.aI then 3
 else if 12<t.bp.length then 5
 else if lB (iY t.cs.length) t.bp≠0 then lB (iY t.cs.length) t.bp
 else if 256<t.ar.length then 5
 else lB (jX t) t.ar
def oZ(p:cO):Prop:=jG p.name/\jF p.pt
def ai.sp(t:ai)(i:Nat):cO:=t.ar.getD i ⟨[],⟨[],[]⟩⟩
@[simp] theorem ai.l8{t:ai}{i:Nat}(h:i<t.ar.length):t.ar[i]'h=t.sp i:=by
 rw[ai.sp,ck,bo h];rfl
theorem ai.eM{t:ai}{i:Nat}(h:i<t.ar.length):t.ar[i]?=some (t.sp i):=by rw[bo h,ai.l8]
structure jJ(t:ai):Prop where
 cl:t.cs.length<=1000000
 pl:t.bp.length<=1000000
 sl:t.ar.length<=1000000
 pk:∀p∈t.bp,tW p
 sp:∀s∈t.ar,oZ s
def jr(t:ai)(name:List Nat):Int:=match t.ar.findIdx? (fun s=>decide (s.name=name))with
 |some i=>i
 |none=>-1
theorem Hp{n:Nat}{c:List dX}{p:dX}(h:iY n c p=0):bZ p.a=0/\bZ p.b=0:=by
 rw[iY]at h
 split at h
 ·omega
 split at h
 ·omega
 split at h
 ·omega
 split at h
 ·contradiction
 split at h
 ·contradiction
 rename_i d e;exact⟨ao.1 d,ao.1 e⟩
theorem Z2(t:ai)(name:List Nat)(h:t.ar.length<=1000000):aq prog 204 [de t,.str name] (.int .i64 (jr t name)):=by
 refine gA_ nf func204 mix ?_;simp[f204,ad];refine lp (α:=Nat) (fun i=>⟨[(5,.p (.int .i64 i)),(2,.ptr 0 []),(1,.p (.str name))],[.box false (.p (de t))]⟩) (fun i=>i<=t.ar.length/\∀j,j<i->¬(t.sp j).name=name) (fun i=>t.ar.length-i) 0 s_ ?_;rintro i ⟨g,c⟩
 by_cases hi:i<t.ar.length
 ·have d:=ai.eM hi;have f:=cH (i:=i) o_
  by_cases a:(t.sp i).name=name
  ·have:jr t name=i:=by
    have:t.ar.findIdx? (fun s=>decide (s.name=name))=some i:=by
     rw[b2];refine⟨hi,by rw[ai.l8];simp[a],fun j b=>?_⟩;rw[ai.l8];simp[c j b]
    rw[jr,this]
   simp[hi,d,a,this,ad]
  ·simp[hi,d,a,f,ad];exact rd (i+1) ⟨hi,fun j b=>by
    by_cases e:j=i
    ·subst e;exact a
    ·exact c j o_⟩
 ·have:i=t.ar.length:=by omega
  subst this;have:jr t name= -1:=by
   have:t.ar.findIdx? (fun s=>decide (s.name=name))=none:=by
    rw[cy];intro s hs;obtain⟨j,b,rfl⟩:=bv.1 hs;rw[ai.l8];simp[c j b]
   rw[jr,this]
  simp[this,ad]
theorem aGG{t:ai}{i:Nat}(hi:i<t.ar.length):jr t (t.sp i).name<i↔(t.ar.take i).any (fun o=>decide (o.name=(t.sp i).name))=true:=by
 obtain⟨k,hk⟩:∃k,t.ar.findIdx? (fun s=>decide (s.name=(t.sp i).name))=some k:=by
  cases h:t.ar.findIdx? (fun s=>decide (s.name=(t.sp i).name))with
  |some k=>exact⟨k,rfl⟩
  |none=>
   rw[cy]at h;have:=h _ (a9 (ai.eM hi));simp at this
 rw[jr,hk];rw[b2]at hk;obtain⟨k1,k2,k3⟩:=hk;rw[b0];constructor
 ·intro h;have h:k<i:=by simp only at h;omega
  exact⟨t.ar[k],a9 (i:=k) (by rw[bw,if_pos h,bo k1]),k2⟩
 ·rintro⟨o,b,a⟩;obtain⟨j,c,rfl⟩:=bv.1 b;simp only[b5]at c;simp only;rw[db]at a;have:¬j<k:=fun d=>by
   have:=k3 j d;rw[a]at this;simp at this
  omega
theorem S8(t:ai)(I:jJ t):aq prog 136 [de t] (.int .i64 (iw t)):=by
 obtain⟨r,J,K,G,H⟩:=I;refine gA_ nf func136 mix ?_;rw[iw]
 by_cases c1:t.cs.length<3
 ·have cI:(t.cs.length:Int)<3:=by omega
  rw[if_pos c1];simp[f136,ad,cI]
 have u:¬(t.cs.length:Int)<3:=o_
 rw[if_neg c1]
 by_cases c2:12<t.cs.length
 ·have cI:(12:Int)<t.cs.length:=by omega
  rw[if_pos c2];simp[f136,ad,u,cI]
 have x:¬(12:Int)<t.cs.length:=o_
 rw[if_neg c2];simp[f136,ad,u,x];refine lp (α:=Nat) (fun i=>⟨[(3,.p (.int .i64 i)),(1,.ptr 0 [])],[.box false (.p (de t))]⟩) (fun i=>i<=t.cs.length/\(t.cs.take i).any gD=false) (fun i=>t.cs.length-i) 0 s_ ?_;rintro i ⟨i1,i2⟩
 by_cases hi:i<t.cs.length
 ·have g:=ai.get hi;have e:=cH (i:=i) o_;have k:=aaZ (t.at i);cases hf:gD (t.at i)
  ·rw[hf]at k;simp[hi,g,ad];refine c1_ k ?_;simp[e,ad];exact rd (i+1) ⟨hi,by rw[wG g,i2,hf];rfl⟩
  ·rw[hf]at k;have:t.cs.any gD=true:=b0.2 ⟨t.at i,a9 g,hf⟩;rw[if_pos this];simp[hi,g,ad,c1_ k]
 have:i=t.cs.length:=o_
 subst this;rw[bb]at i2;have hn:∀p∈t.cs,et p:=fun p F=>Hl (by
  cases h:gD p
  ·rfl
  ·rw[b0.2 ⟨p,F,h⟩]at i2;cases i2)
 have B:=TQ t r hn;rw[i2,if_neg d_];simp[ad];refine c1_ B ?_;cases O:t.fF
 ·simp[ad]
 rw[if_neg d_];have s:(t.aI<1\/1000<t.aI)\/(¬t.aI<1/\¬1000<t.aI):=o_
 rcases s with s|⟨r1,w⟩
 ·rw[if_pos s]
  by_cases e1:t.aI<1
  ·simp[e1,ad]
  ·have e2:1000<t.aI:=by omega
   simp[e1,e2,ad]
 rw[if_neg o_]
 by_cases c3:12<t.bp.length
 ·have cI:(12:Int)<t.bp.length:=by omega
  rw[if_pos c3];simp[r1,w,cI,ad]
 have y:¬(12:Int)<t.bp.length:=o_
 rw[if_neg c3];simp[r1,w,y,ad];refine lp (α:=Nat) (fun i=>⟨[(4,.p (.int .i64 i)),(1,.ptr 0 [])],[.box false (.p (de t))]⟩) (fun i=>i<=t.bp.length/\∀j,j<i->ij (iY t.cs.length) t.bp j=0) (fun i=>t.bp.length-i) 0 s_ ?_;rintro i ⟨k1,k2⟩
 by_cases hk:i<t.bp.length
 ·have gk:=ai.mN hk;have e:=cH (i:=i) o_;have b:=Tb t i hk J r G (fun j E=>by
   have:=k2 j E;rw[ij,ai.mN o_]at this;exact Hp this)
  by_cases d:iY t.cs.length (t.bp.take i) (t.pk i)=0
  ·rw[d]at b;simp[hk,ad];refine c2_ b ?_;simp[e,ad];exact rd (i+1) ⟨hk,ug k2 gk d⟩
  ·have D:=uh k2 gk d;rw[D,if_pos d];simp[hk,ad,d,c2_ b]
 have:i=t.bp.length:=o_
 subst this;have C:=qu.2 k2;rw[C,if_neg d_]
 by_cases c4:256<t.ar.length
 ·have cI:(256:Int)<t.ar.length:=by omega
  rw[if_pos c4];simp[cI,ad]
 have z:¬(256:Int)<t.ar.length:=o_
 rw[if_neg c4];simp[z,ad];refine lp (α:=Nat) (fun i=>⟨[(6,.p (.int .i64 i)),(1,.ptr 0 [])],[.box false (.p (de t))]⟩) (fun i=>i<=t.ar.length/\∀j,j<i->ij (jX t) t.ar j=0) (fun i=>t.ar.length-i) 0 s_ ?_;rintro i ⟨s1,s2⟩
 by_cases hs:i<t.ar.length
 ·have a:=ai.eM hs;have e:=cH (i:=i) o_;obtain⟨M,N⟩:=H _ (a9 a);have c:=CJ (t.sp i).name M.1;have l:=Z2 t (t.sp i).name K;have b:=Dn (t.sp i).pt N;have v:=aGG hs;have f:jX t (t.ar.take i) (t.sp i)≠0->lB (jX t) t.ar=jX t (t.ar.take i) (t.sp i):=uh s2 a;have L:jX t (t.ar.take i) (t.sp i)=0->∀j,j<i+1->ij (jX t) t.ar j=0:=ug s2 a;have ev:jX t (t.ar.take i) (t.sp i)=if isName (t.sp i).name=false then 8 else if(t.ar.take i).any (fun o=>decide (o.name=(t.sp i).name))=true then 9 else if dM (t.sp i).pt≠0 then dM (t.sp i).pt else if t.on (vP (t.sp i).pt)<0 then 16 else 0:=rfl
  cases m:isName (t.sp i).name
  ·rw[m]at c;rw[m,if_pos rfl]at ev;rw[f (by rw[ev];decide),ev];simp[hs,a,ad,c1_ c]
  rw[m]at c;rw[m,if_neg d_]at ev
  by_cases tw:jr t (t.sp i).name<i
  ·rw[if_pos (v.1 tw)]at ev;rw[f (by rw[ev];decide),ev];simp[hs,a,ad,tw,c1_ c,c2_ l]
  rw[if_neg (fun h=>tw (v.2 h))]at ev
  by_cases pe:dM (t.sp i).pt=0
  case neg=>
   rw[if_pos pe]at ev;rw[f (by rw[ev];exact pe),ev];simp(maxDischargeDepth:=99) [hs,a,ad,tw,pe,c1_ c,c2_ l,c1_ b]
  rw[if_neg (by simp[pe])]at ev;obtain⟨g1,g2⟩:=jO pe;have q:=Qb t (vP (t.sp i).pt) r hn ⟨(ig g1).mono d_,(ig g2).mono d_⟩;have A:eV (vP (t.sp i).pt)=dA (t.sp i).pt:=by
   rw[eV,vP];dsimp only;rw[(jx g1).1,(jx g2).1]
  rw[A]at q;rw[pe]at b
  by_cases n:t.on (vP (t.sp i).pt)<0
  ·rw[if_pos n]at ev;rw[f (by rw[ev];decide),ev];simp(maxDischargeDepth:=99) [hs,a,ad,tw,n,c1_ c,c2_ l,c1_ b,c2_ q]
  ·rw[if_neg n]at ev;simp[hs,a,ad];refine c1_ c ?_;simp[ad];refine c2_ l ?_;simp[tw,ad];refine c1_ b ?_;simp[ad];refine c2_ q ?_;simp[n,e,ad];exact rd (i+1) ⟨hs,L ev⟩
 ·have:i=t.ar.length:=by omega
  subst this;rw[qu.2 s2];simp[ad]
open Go.Proofs Go.Proofs.YtpojdjgcpgnaeaaGreatDoor
section
variable{H:Type}{W:World}{aa:Nat->Prop}
theorem za:∀d:ay H,1<=Rows.uptoBulk d:=by
 intro d;cases d with
 |lit l=>cases l<;>simp[Rows.uptoBulk]
 |_=>simp[Rows.uptoBulk]
theorem zh{α:Type}{n:Nat}{t e:TypeId}{F:α->PV}{ok:α->Prop}(g:prog.underlying t=some (.slice e))
 (p:∀(d:ay H),(∃c,aX prog W aa (bM prog n e d) c)->Rows.uptoBulk d<=1048576->∃a,bM prog n e d=F a/\ok a/\2<=Rows.uptoBulk d)
 {d:ay H}(h:∃cs,aX prog W aa (bM prog (n+1) t d) cs)(k:Rows.uptoBulk d<=1048576):∃l:List α,bM prog (n+1) t d=.seq (l.map F)/\(∀a∈l,ok a)/\l.length<=1000000:=by
 obtain⟨cs,h⟩:=h;cases d with
 |nil=>exact⟨[],by simp[bM,g],(fun _ h=>nomatch h),s_⟩
 |slice f sp=>
  simp only[bM,g,aX]at h⊢;have i:∀e'∈f.map (bM prog n e),∃c,aX prog W aa e' c:=by
   rcases h with⟨h,_⟩|⟨_,_,_,_,w,h,_⟩
   ·rw[h];intro _ h;cases h
   ·exact Hy h
  have key:∀f:List (ay H),(∀e'∈f.map (bM prog n e),∃c,aX prog W aa e' c)->Rows.uptoBulkAll f<=1048576->∃l:List α,f.map (bM prog n e)=l.map F/\(∀a∈l,ok a)/\2*l.length<=Rows.uptoBulkAll f:=by
   intro f
   induction f with
   |nil=>intro _ _;exact⟨[],rfl,(fun _ h=>nomatch h),s_⟩
   |cons d r v=>
    intro i k;rw[Rows.uptoBulkAll]at k⊢;obtain⟨a,q,u,m⟩:=p d (i _ dz) o_;obtain⟨l,j,o,y⟩:=v (fun e' s=>i e' (dp _ s)) o_;refine⟨a::l,by simp only[bi];rw[q,j],fun x hx=>?_,by rw[ed];omega⟩;rcases List.mem_cons.1 hx with rfl|hx
    ·exact u
    ·exact o x hx
  rw[Rows.uptoBulk]at k;obtain⟨l,j,m,o⟩:=key f i o_;exact⟨l,by rw[j],m,o_⟩
 |lit l=>simp only[bM,g,aX]at h
 |ptr d=>simp only[bM,g,aX]at h
 |agg l=>simp only[bM,g,aX]at h
 |iface a b=>simp only[bM,g,aX]at h
 |map l=>simp only[bM,g,aX]at h
 |held a=>simp only[bM,g,aX]at h
theorem wL{n:Nat}{d:ay H}(h:∃cs,aX prog W aa (bM prog (n+1) 9 d) cs)(a:Rows.uptoBulk d<=1048576):∃s:List Nat,bM prog (n+1) 9 d=.str s/\jG s:=by
 obtain⟨cs,h⟩:=h;cases d with
 |lit l=>
  cases l with
  |string bytes=>
   refine⟨bytes.map (·.toNat),by simp only[bM,GO],?_,?_⟩
   ·rw[Rows.uptoBulk]at a;rw[dl];omega
   ·intro c hc;obtain⟨u,_,rfl⟩:=cx.1 hc;exact u.toNat_lt
  |_=>simp only[bM,GO,aX]at h
 |_=>simp only[bM,GO,aX]at h
theorem aHB:∃a b:aT,prog.underlying 157=some (.struct #[a,b])/\a.type=3/\b.type=3:=⟨_,_,underlying157,rfl,rfl⟩
theorem SD:prog.underlyingId 157=156:=k_
theorem TT{m n:Nat}(j:m=n+1){d:ay H}(h:∃cs,aX prog W aa (bM prog (m+1) 157 d) cs)(o:Rows.uptoBulk d<=1048576):∃p:dZ,bM prog (m+1) 157 d=cL p/\True/\2<=Rows.uptoBulk d:=by
 obtain⟨cs,h⟩:=h;obtain⟨f0,f1,f,t0,t1⟩:=aHB;cases d with
 |agg l=>
  simp only[bM,f,aX]at h⊢;obtain⟨q,k,e,c,_⟩:=h;rw[SD,aG3]at e;cases e
  match l,c with
  |[],c=>simp[bn]at c
  |[x],c=>simp[bn]at c
  |x::y::r,c=>
   have:=za x;simp only[ca,bi,bn,cb,b4,t0,t1]at c⊢;obtain⟨c0,_,_,g1,_,c1,_,_,g2,_⟩:=c;subst j;obtain⟨a,g⟩:=zg (n:=n) x c0 g1;obtain⟨b,i⟩:=zg (n:=n) y c1 g2;refine⟨⟨a,b⟩,by rw[g,i,SD];rfl,trivial,?_⟩;rw[Rows.uptoBulk,Rows.uptoBulkAll];omega
 |_=>simp only[bM,f,aX]at h
theorem aHz:∃a b f2 f3:aT,prog.underlying 107=some (.struct #[a,b,f2,f3])/\a.type=9/\b.type=3/\f2.type=30/\f3.type=30:=⟨_,_,_,_,underlying107,rfl,rfl,rfl,rfl⟩
theorem SB:prog.underlyingId 107=106:=k_
theorem Tp{m n:Nat}(q:m=n+1){d:ay H}(h:∃cs,aX prog W aa (bM prog (m+1) 107 d) cs)(o:Rows.uptoBulk d<=1048576):∃p:dX,bM prog (m+1) 107 d=fR p/\tW p/\2<=Rows.uptoBulk d:=by
 obtain⟨cs,h⟩:=h;obtain⟨f0,f1,f2,f3,g,t0,t1,t2,t3⟩:=aHz;cases d with
 |agg l=>
  have e:∀x∈l,Rows.uptoBulk x<=1048576:=fun x hx=>by
   have:=rA.vM hx;rw[Rows.uptoBulk]at o;omega
  simp only[bM,g,aX]at h⊢;obtain⟨B,A,f,c,_⟩:=h;rw[SB,aG1]at f;cases f
  match l,c with
  |[],c=>simp[bn]at c
  |[x],c=>simp[bn]at c
  |[x,y],c=>simp[bn]at c
  |[x,y,z],c=>simp[bn]at c
  |x::y::z::w::r,c=>
   have:=za x;simp only[ca,bi,bn,cb,b4,t0,t1,t2,t3]at c⊢;obtain⟨c0,_,_,g0,_,c1,_,_,g1,_,c2,_,_,g2,_,c3,_,_,g3,_⟩:=c;subst q;obtain⟨a,i,k⟩:=wL (n:=n) ⟨c0,g0⟩ (e x s_);obtain⟨b,j⟩:=zg (n:=n) y c1 g1;obtain⟨u,eu,s⟩:=BU (n:=n) ⟨c2,g2⟩ (e z s_);obtain⟨v,ev,t⟩:=BU (n:=n) ⟨c3,g3⟩ (e w s_);refine⟨⟨a,b,u,v⟩,by rw[i,j,eu,ev,SB];rfl,⟨k,s,t⟩,?_⟩;rw[Rows.uptoBulk,Rows.uptoBulkAll];omega
 |_=>simp only[bM,g,aX]at h
theorem aHG:∃a b:aT,prog.underlying 109=some (.struct #[a,b])/\a.type=9/\b.type=32:=⟨_,_,underlying109,rfl,rfl⟩
theorem SF:prog.underlyingId 109=59:=k_
theorem TR{m n:Nat}(s:m=n+2){d:ay H}(h:∃cs,aX prog W aa (bM prog (m+1) 109 d) cs)(o:Rows.uptoBulk d<=1048576):∃p:cO,bM prog (m+1) 109 d=bG p/\oZ p/\2<=Rows.uptoBulk d:=by
 obtain⟨cs,h⟩:=h;obtain⟨f0,f1,g,t0,t1⟩:=aHG;cases d with
 |agg l=>
  have f:∀x∈l,Rows.uptoBulk x<=1048576:=fun x hx=>by
   have:=rA.vM hx;rw[Rows.uptoBulk]at o;omega
  simp only[bM,g,aX]at h⊢;obtain⟨u,t,e,c,_⟩:=h;rw[SF,Sw]at e;cases e
  match l,c with
  |[],c=>simp[bn]at c
  |[x],c=>simp[bn]at c
  |x::y::r,c=>
   have:=za x;simp only[ca,bi,bn,cb,b4,t0,t1]at c⊢;obtain⟨c0,_,_,g1,_,c1,_,_,g2,_⟩:=c;subst s;obtain⟨a,i,k⟩:=wL (n:=n+1) ⟨c0,g1⟩ (f x s_);obtain⟨b,j,q⟩:=Ew (n:=n) ⟨c1,g2⟩ (f y s_);refine⟨⟨a,b⟩,by rw[i,j,SF];rfl,⟨k,q⟩,?_⟩;rw[Rows.uptoBulk,Rows.uptoBulkAll];omega
 |_=>simp only[bM,g,aX]at h
theorem aHH:∃a b f2 f3:aT,prog.underlying 26=some (.struct #[a,b,f2,f3])/\a.type=22/\b.type=3/\f2.type=23/\f3.type=24:=⟨_,_,_,_,underlying26,rfl,rfl,rfl,rfl⟩
theorem SG:prog.underlyingId 26=25:=k_
theorem aG8{m n:Nat}(p:m=n+4){d:ay H}(h:∃cs,aX prog W aa (bM prog (m+1) 26 d) cs)(e:Rows.uptoBulk d<=1048576):∃t:ai,bM prog (m+1) 26 d=de t/\True/\jJ t:=by
 obtain⟨cs,h⟩:=h;obtain⟨f0,f1,f2,f3,j,t0,t1,t2,t3⟩:=aHH;cases d with
 |agg l=>
  have g:∀x∈l,Rows.uptoBulk x<=1048576:=fun x hx=>by
   have:=rA.vM hx;rw[Rows.uptoBulk]at e;omega
  simp only[bM,j,aX]at h⊢;obtain⟨E,D,i,c,_⟩:=h;rw[SG,aG4]at i;cases i
  match l,c with
  |[],c=>simp[bn]at c
  |[x],c=>simp[bn]at c
  |[x,y],c=>simp[bn]at c
  |[x,y,z],c=>simp[bn]at c
  |x::y::z::w::r,c=>
   simp only[ca,bi,bn,cb,b4,t0,t1,t2,t3]at c⊢;obtain⟨c0,_,_,g0,_,c1,_,_,g1,_,c2,_,_,g2,_,c3,_,_,g3,_⟩:=c;subst p;obtain⟨a,k,_,A⟩:=zh (n:=n+3) aHt (F:=cL) (ok:=fun _=>True) (fun d f e=>TT (n:=n+1) rfl f e) ⟨c0,g0⟩ (g x s_);obtain⟨b,o⟩:=zg (n:=n+3) y c1 g1;obtain⟨u,eu,q,B⟩:=zh (n:=n+3) aHu (F:=fR) (ok:=tW) (fun d f e=>Tp (n:=n+1) rfl f e) ⟨c2,g2⟩ (g z s_);obtain⟨v,ev,s,C⟩:=zh (n:=n+3) aHv (F:=bG) (ok:=oZ) (fun d f e=>TR (n:=n) rfl f e) ⟨c3,g3⟩ (g w s_);exact⟨⟨a,b,u,v⟩,by rw[k,o,eu,ev,SG];rfl,trivial,A,B,C,q,s⟩
 |_=>simp only[bM,j,aX]at h
end
def fK(p:dX):PV:=.st 106 [.str p.name,.int .i64 p.fo,.str p.a,.str p.b]
def im(p:cO):PV:=.st 59 [.str p.name,dA p.pt]
def b7(t:ai):PV:=.st 39 [.seq (t.cs.map cL),.int .i64 t.aI,.seq (t.bp.map fK),.seq (t.ar.map im)]
@[simp] theorem aNz(p:dX):aL (fK p)=.agg 106:=rfl
@[simp] theorem aLY(p:dX):bW (fK p)=[.str p.name,.int .i64 p.fo,.str p.a,.str p.b]:=rfl
@[simp] theorem aNG(p:cO):aL (im p)=.agg 59:=rfl
@[simp] theorem aL5(p:cO):bW (im p)=[.str p.name,dA p.pt]:=rfl
@[simp] theorem aNJ(t:ai):aL (b7 t)=.agg 39:=rfl
@[simp] theorem aL7(t:ai):bW (b7 t)=[.seq (t.cs.map cL),.int .i64 t.aI,.seq (t.bp.map fK),.seq (t.ar.map im)]:=rfl
@[simp] theorem aJx:prog.cellsOf 39=4:=k_
theorem ahS(p:dZ):aq prog 147 [cL p] (.bool (gD p)):=by
 obtain⟨x,y⟩:=p;refine gA_ nf func147 mix ?_;have e1:max x y=if x<y then y else x:=by split<;>omega
 have e2:min x y=if y<x then y else x:=by split<;>omega
 rw[gD,e1,e2]
 by_cases h:(if x<y then y else x)<=10000
 ·have a:¬10000<(if x<y then y else x):=by omega
  by_cases b:(if y<x then y else x)< -10000
  ·simp[f147,ad,h,a,b]
  ·simp[f147,ad,h,a,b]
 ·have a:10000<(if x<y then y else x):=by omega
  simp[f147,ad,h,a]
def idxFrom{α:Type}(p:α->Bool):List α->Nat->Int
 |[],_=>-1
 |x::r,i=>if p x then(i:Int)else idxFrom p r (i+1)
theorem rP{α:Type}(p:α->Bool):∀(l:List α)(i:Nat),decide (0<=idxFrom p l i)=l.any p
 |[],i=>by simp[idxFrom]
 |x::r,i=>by
  by_cases h:p x
  ·simp[idxFrom,h]
  ·simp[idxFrom,h,rP p r]
theorem Tn(l:List dZ)(h:l.length<=1000000):
 aq prog 216 [.seq (l.map cL),.func 147 [] []] (.int .i64 (idxFrom gD l 0)):=by
 refine gA_ nf func216 mix ?_;simp[f216];refine lp (α:=Nat) (fun i=>⟨[(8,.p (.int .i64 i)),(7,.p (.int .i64 l.length)),(1,.p (.func 147 [] [])),(0,.p (.seq (l.map cL)))],[]⟩) (fun i=>i<=l.length/\idxFrom gD l 0=idxFrom gD (l.drop i) i) (fun i=>l.length-i) 0 s_ ?_;rintro i ⟨k1,k2⟩
 by_cases hi:i<l.length
 ·rw[be hi]at k2;have b:=cH (i:=i) o_;simp[hi];refine c1 (ahS l[i]) ?_
  by_cases a:gD l[i]
  ·simp[idxFrom,a]at k2;simp[a,k2]
  ·simp[idxFrom,a]at k2;simp[a,b];exact rd (i+1) ⟨hi,k2⟩
 ·have:i=l.length:=by omega
  subst this;simp[idxFrom]at k2;simp[k2]
theorem S6(l:List dZ)(h:l.length<=1000000):
 aq prog 146 [.seq (l.map cL),.func 147 [] []] (.bool (l.any gD)):=by
 refine gA_ nf func146 mix ?_;simp[f146];refine c2 (Tn l h) ?_;simp[<-rP gD l 0]
def nT(l:List dZ):List (PV×PV):=l.map (fun p=>(cL p,PV.bool true))
theorem HZ{p q:dZ}(h:¬p=q):¬(p.x=q.x/\p.y=q.y):=fun⟨a,b⟩=>h (by cases p;cases q;simp_all)
theorem am0(a b c d:Int):iW prog 9 157 (.st 156 [.int .i64 a,.int .i64 b]) (.st 156 [.int .i64 c,.int .i64 d])=some ((a==c)&&((b==d)&&true)):=k_
@[simp] theorem CU(p q:dZ):iW prog 9 157 (cL p) (cL q)=some (decide (p=q)):=by
 rw[cL,cL,am0]
 by_cases h:p=q
 ·subst h;simp
 ·rw[decide_eq_false h];have:=HZ h
  by_cases a:p.x=q.x
  ·have b:¬p.y=q.y:=fun b=>this ⟨a,b⟩;simp[a,b]
  ·simp[a]
theorem HY(p q:dZ):kJ (cL p) (cL q)=some (decide (p=q)):=by
 by_cases h:p=q
 ·subst h;simp[cL,kJ,yK]
 ·rw[decide_eq_false h];have:=HZ h
  by_cases a:p.x=q.x
  ·have b:¬p.y=q.y:=fun b=>this ⟨a,b⟩;simp[cL,kJ,yK,a,beq_false_of_ne b]
  ·simp[cL,kJ,yK,beq_false_of_ne a]
theorem amY(p q:dZ):rE prog 157 (cL p) (cL q)=some (decide (p=q)):=by
 have e1:=CU p q;have e2:=HY p q;rw[cL]at e1 e2⊢;rw[rE,e1,e2];simp
@[simp] theorem Hv(q:dZ):∀l:List dZ,gA prog 157 (nT l) (cL q)=some (if q∈l then some (.bool true)else none)
 |[]=>rfl
 |p::r=>by
  rw[nT,bi,gA,amY]
  by_cases h:q=p
  ·simp[h]
  ·have:=Hv q r;rw[nT]at this;simp[h,this]
theorem Tj{q:dZ}{l:List dZ}(h:¬q∈l):nu prog 157 (nT l) (cL q)=some none:=by
 have:=Hv q l;rw[if_neg h]at this;rw[cL]at this⊢;rw[nu,this]
theorem Hw{q:dZ}:∀{l:List dZ},¬q∈l->gM (nT l) (cL q) (.bool true)=nT (l++[q])
 |[],_=>rfl
 |p::r,h=>by
  have a:¬q=p:=fun e=>h (e▸dz);have b:¬q∈r:=fun e=>h (dp _ e);have:=Hw b;rw[nT]at this⊢;rw[bi,gM,HY,this];simp[a,nT]
theorem aAw:tP prog 157=true:=k_
@[simp high] theorem aJh(c:Bool)(H:ah)(p q:dZ):lT prog .neq 157 c H (.p (cL p)) (.p (cL q))=some (True,{v:=.p (.bool !(decide (p=q)))}):=by
 have e:=CU p q;rw[cL,cL]at*;simp[lT,e,aAw]
@[simp high] theorem aLK(q:dZ):gN prog 157 (cL q)=true:=by
 have e1:=CU q q;rw[cL]at e1⊢;rw[gN];simp[e1]
theorem TK(a c:dZ):lD a a c=0:=by simp[lD]
theorem Tk(a b:dZ):lD a b a=0:=by simp[lD]
theorem TC{t:ai}(e:3<=t.cs.length){j k:Nat}(c:j<t.cs.length)(hk:k<t.cs.length)(d:j≠k)(b:t.at j=t.at k):t.fF=false:=by
 rw[ai.fF,decide_eq_false_iff_not];intro h
 by_cases hx:k=t.nx j
 ·obtain⟨m,m1,m2,m3⟩:∃m,m<t.cs.length/\m≠j/\m≠k:=by
   rcases er j k with a|a|a
   ·by_cases e0:j=0
    ·by_cases e1:k=1
     ·exact⟨2,o_,o_,o_⟩
     ·exact⟨1,o_,o_,o_⟩
    ·exact⟨0,o_,o_,o_⟩
   ·exact(d a).elim
   ·by_cases e0:k=0
    ·by_cases e1:j=1
     ·exact⟨2,o_,o_,o_⟩
     ·exact⟨1,o_,o_,o_⟩
    ·exact⟨0,o_,o_,o_⟩
  have:=h j c m m1 m2 (hx▸m3);rw[<-hx,<-b,TK]at this;omega
 ·have:=h j c k hk (Ne.symm d) hx;rw[<-b,Tk]at this;omega
theorem TN(t:ai)(ac:3<=t.cs.length)(ae:t.cs.length<=1000000)(hn:∀p∈t.cs,et p):aq prog 148 [b7 t] (.bool t.fF):=by
 refine gA_ nf func148 mix ?_;generalize q:t.cs.length=n at*;simp[f148,ad,q];refine lp (α:=Nat) (fun i=>⟨[(16,.p (.int .i64 i)),(15,.p (.int .i64 n)),(14,.p (.seq (t.cs.map cL))),(3,.map 1),(1,.ptr 0 [])],[.box false (.p (b7 t)),.map false (nT (t.cs.take i))]⟩) (fun i=>i<=n/\∀j k,j<k->k<i->t.at j≠t.at k) (fun i=>n-i) 0 s_ ?_ (hh:=by simp[nT]);rintro i ⟨ab,E⟩
 by_cases hi:i<n
 ·have G:=ai.get (t:=t) (i:=i) o_;have z:=cH (i:=i) o_;have V:t.cs.take (i+1)=t.cs.take i++[t.at i]:=by rw[b3,G];rfl
  simp[-gN,hi,q,G,ad]
  by_cases f:t.at i∈t.cs.take i
  ·obtain⟨j,s,r⟩:=bv.1 f;rw[b5]at s;rw[db,ai.aP o_]at r;have P:=TC o_ (j:=j) (k:=i) o_ o_ o_ r;simp[f,P]
  ·have hI:=Tj f;have H:=Hw f;rw[<-V]at H;simp[-gN,-nu,f,hI,H,z];exact rd (i+1) ⟨hi,fun j k w hk=>by
    by_cases S:k=i
    ·subst S;intro r;exact f (r▸a9 (i:=j) (by rw[bw,if_pos w];exact ai.get o_))
    ·exact E j k w o_⟩
 have Q:i=n:=o_
 subst Q;have inj:∀j k,j<i->k<i->t.at j=t.at k->j=k:=fun j k s hk r=>by
  rcases er j k with h|h|h
  ·exact(E j k h hk r).elim
  ·exact h
  ·exact(E k j h s r.symm).elim
 simp[q,ad];refine lp (α:=Nat) (fun m=>⟨[(32,.p (.int .i64 m)),(31,.p (.int .i64 i)),(30,.p (.seq (t.cs.map cL))),(6,.p (.int .i64 i)),(1,.ptr 0 [])],[.box false (.p (b7 t))]⟩) (fun m=>m<=i/\∀j,j<m->t.pn j i) (fun m=>i-m) 0 s_ ?_;rintro m ⟨g1,g2⟩;have T:¬i=0:=o_
 by_cases f:m<i
 ·have L:=ai.get (t:=t) (i:=m) o_;have z:=cH (i:=m) o_;have U:t.nx m<i:=by rw[<-q];exact t.mg o_ m
  have M:=ai.get (t:=t) (i:=t.nx m) o_;have e1:((m:Int)+1).tmod (i:Int)=((t.nx m:Nat):Int):=by
   rw[ai.nx,q,a6,a5 o_];rfl
  simp[f,q,L,M,z,e1,T,ad];refine⟨r_,?_⟩;refine lp (α:=Nat) (fun k=>⟨[(48,.p (.int .i64 k)),(47,.p (.int .i64 i)),(46,.p (.seq (t.cs.map cL))),(9,.ptr 2 []),(8,.ptr 1 []),(32,.p (.int .i64 m)),(31,.p (.int .i64 i)),(30,.p (.seq (t.cs.map cL))),(6,.p (.int .i64 i)),(1,.ptr 0 [])],[.box false (.p (b7 t)),.box false (.p (cL (t.at m))),.box false (.p (cL (t.at (t.nx m))))]⟩) (fun k=>k<=i/\t.pn m k) (fun k=>i-k) 0 (by simp[ai.pn]) ?_;rintro k ⟨q1,D⟩
  by_cases hk:k<i
  ·have gk:=ai.get (t:=t) (i:=k) o_;have F:=cH (i:=k) o_
   by_cases c1:t.at k=t.at m
   ·have:=inj _ _ hk f c1;subst this;simp[-lT,lT.eq_1,hk,gk,F,ad];exact rd (k+1) ⟨hk,fun j s=>by
     by_cases w:j=k
     ·intro h;exact(h w).elim
     ·exact D j o_⟩
   ·by_cases c2:t.at k=t.at (t.nx m)
    ·have:=inj _ _ hk U c2;have c3:¬t.at (t.nx m)=t.at m:=by rw[<-c2];exact c1
     simp[-lT,lT.eq_1,hk,gk,F,c2,c3,ad];exact rd (k+1) ⟨hk,fun j s=>by
      by_cases w:j=k
      ·intro _ h;exact(h o_).elim
      ·exact D j o_⟩
    ·have K:k≠m:=fun e=>c1 (by rw[e]);have nx:k≠t.nx m:=fun e=>c2 (by rw[e]);have O:lD (t.at m) (t.at (t.nx m)) (t.at k)=((t.at (t.nx m)).x-(t.at m).x)*((t.at k).y-(t.at m).y)-((t.at (t.nx m)).y-(t.at m).y)*((t.at k).x-(t.at m).x):=rfl;have W:=ai.gl hn (i:=m) o_;have X:=ai.gl hn (i:=t.nx m) o_;have Y:=ai.gl hn (i:=k) o_;have J:t.pn m (k+1)↔0<lD (t.at m) (t.at (t.nx m)) (t.at k):=⟨fun h=>h k o_ K nx,fun h j s u v=>by
      by_cases w:j=k
      ·subst w;exact h
      ·exact D j o_ u v⟩
     have I:¬0<lD (t.at m) (t.at (t.nx m)) (t.at k)->t.fF=false:=fun h=>by
      rw[ai.fF,decide_eq_false_iff_not];intro N;exact h (N m o_ k o_ K nx)
     rw[O]at J I;simp[-lT,lT.eq_1,hk,gk,F,c1,c2,ad];simp only[et]at W X Y;generalize t.at m=A,t.at (t.nx m)=B,t.at k=C at*;obtain⟨c,d⟩:=A;obtain⟨bx,g⟩:=B;obtain⟨l,o⟩:=C;dsimp only at*;have w1:a0.wrap (bx-c)=bx-c:=aR _ o_ o_;have w2:a0.wrap (o-d)=o-d:=aR _ o_ o_;have w3:a0.wrap (g-d)=g-d:=aR _ o_ o_
     have w4:a0.wrap (l-c)=l-c:=aR _ o_ o_;have af:=zb (a:=bx-c) (b:=o-d) (A:=20000) (B:=20000) o_ o_ o_ o_;have ag:=zb (a:=g-d) (b:=l-c) (A:=20000) (B:=20000) o_ o_ o_ o_;have w5:a0.wrap ((bx-c)*(o-d))=(bx-c)*(o-d):=aR _ o_ o_;have Z:a0.wrap ((g-d)*(l-c))=(g-d)*(l-c):=aR _ o_ o_;have aa:a0.wrap ((bx-c)*(o-d)-(g-d)*(l-c))=(bx-c)*(o-d)-(g-d)*(l-c):=aR _ o_ o_;simp[w1,w2,w3,w4,w5,Z,aa]
     by_cases hc:(bx-c)*(o-d)-(g-d)*(l-c)<=0
     ·have:=I o_;simp[hc,this]
     ·simp[hc];exact rd (k+1) ⟨hk,J.2 o_⟩
  ·have:k=i:=by omega
   subst this;simp[z];exact rd (m+1) ⟨f,fun j s=>by
    by_cases R:j=m
    ·subst R;exact D
    ·exact g2 j o_⟩
 ·have:m=i:=by omega
  subst this;have:t.fF=true:=by
   rw[ai.fF,decide_eq_true_eq,q];exact g2
  simp[this]
noncomputable def fT(v:NV):PV:=.st 245 [eF v.x,eF v.y]
@[simp] theorem aNI(v:NV):aL (fT v)=.agg 245:=rfl
@[simp] theorem aL6(v:NV):bW (fT v)=[eF v.x,eF v.y]:=rfl
@[simp] theorem aJw:prog.cellsOf 245=8:=k_
theorem CV(x y:NF):fT ⟨x,y⟩=.st 245 [eF x,eF y]:=rfl
noncomputable def vR(a b:NV):PV:=.st 294 [fT a,fT b]
@[simp] theorem aNo(a b:NV):aL (vR a b)=.agg 294:=rfl
@[simp] theorem aLN(a b:NV):bW (vR a b)=[fT a,fT b]:=rfl
theorem F4(p:bS)(c:bZ p.x=0)(d:bZ p.y=0)(a:jF p):aq prog 181 [dA p] (fT (.from p)):=by
 have a1:=mG p.x c a.1.1;have b:=mG p.y d a.2.1;refine gA_ nf func181 mix ?_;rw[NV.from,CV];simp(maxDischargeDepth:=99) [f181,ad,e1 a1,e1 b]
def c7(p:dZ):NV:=⟨.int p.x,.int p.y⟩
theorem Hc(p:dZ)(h:et p):aq prog 299 [cL p] (fT (c7 p)):=by
 simp only[et]at h;have a1:=mI p.x o_ o_;have a:=mI p.y o_ o_;refine gA_ nf func299 mix ?_;rw[c7,CV];simp(maxDischargeDepth:=99) [f299,ad,e1 a1,e1 a]
theorem CX(v w:NV)(a:bd kQ v.q)(b:bd kQ w.q):aq prog 235 [fT v,fT w] (fT (v.sub w)):=by
 have c:=nF v.x w.x (dH a.1) (dH b.1);have d:=nF v.y w.y (dH a.2) (dH b.2);refine gA_ nf func235 mix ?_;rw[NV.sub,CV];simp(maxDischargeDepth:=99) [f235,ad,e2 c,e2 d]
theorem TE(v w:NV)(a:bd kQ v.q)(b:bd kQ w.q):aq prog 236 [fT v,fT w] (eF (v.bu w)):=by
 have c:=fB v.x w.y (dH a.1) (dH b.2);have d:=fB v.y w.x (dH a.2) (dH b.1);have e:=nF (v.x.mul w.y) (v.y.mul w.x) ((bC a.1 b.2).mono d_) ((bC a.2 b.1).mono d_);refine gA_ nf func236 mix ?_;rw[NV.bu];simp(maxDischargeDepth:=99) [f236,ad,e2 c,e2 d,e2 e]
theorem ahR(t:ai)(i:Nat)(hi:i<t.cs.length)(h:t.cs.length<=1000000)(hn:∀p∈t.cs,et p):aq prog 273 [b7 t,.int .i64 i] (vR (c7 (t.at i)) (c7 (t.at (t.nx i)))):=by
 have a:=t.mg o_ i;have a1:=Hc (t.at i) (ai.gl hn hi);have b:=Hc (t.at (t.nx i)) (ai.gl hn a);have w1:=cH (i:=i) o_;have e1:((i:Int)+1).tmod (t.cs.length:Int)=((t.nx i:Nat):Int):=by
  rw[ai.nx,a6,a5 o_];rfl
 have g:¬t.cs.length=0:=o_
 have f:¬t.cs=[]:=by intro e;rw[e]at hi;simp at hi
 have c:=ai.get hi;have d:=ai.get a;refine gA_ nf func273 mix ?_;rw[vR];simp(maxDischargeDepth:=99) [f273,ad,w1,e1,g,f,c,d,hi,a,e1_ a1,e1_ b]
theorem aia(t:ai):aq prog 234 [b7 t] (.func 272 [] [.cE (b7 t)]):=by
 refine gA_ nf func234 mix ?_;simp[f234];show gR [.box false (.p (b7 t))] 7 (.p (b7 t)) (b7 t);rw[zk];exact Wk.refl _
noncomputable def zi(t:ai)(i:Nat):List PV:=[.int .i64 i,vR (c7 (t.at i)) (c7 (t.at (t.nx i)))]
theorem CM{t:ai}{i:Nat}(h:i<t.cs.length):((cc t.cs.length).map (zi t))[i]?=some (zi t i):=by
 rw[eb,ek h];rfl
theorem aFL(t:ai)(g:t.cs.length<=1000000)(hn:∀p∈t.cs,et p):Stream prog 272 [] [.cE (b7 t)] ((cc t.cs.length).map (zi t)):=by
 intro b k e H' hk a j d;rw[dl,ea]at hk d;refine gX nf (i_ func272) mix (by simp[f272]) ?_;simp[f272,ad];refine lp (α:=Nat) (fun i=>⟨[(7,.p (.int .i64 i)),(6,.p (.int .i64 t.cs.length)),(1,.p (.cE (b7 t))),(0,.map b)],e i⟩) (fun i=>i<=k) (fun i=>k-i) 0 s_ ?_ (hr:=by simp;exact(a 0 o_).2) (hr2:=(a 0 o_).1);rintro i l
 by_cases hi:i<t.cs.length
 ·have f:=ahR t i hi g hn;have h:=cH (i:=i) o_;simp[hi];refine c2 f ?_;simp
  by_cases c:i<k
  ·refine⟨e (i+1),_,j i _ c (CM hi),?_⟩;simp[h];exact rd (i+1) c (hr:=by simp;exact(a (i+1) c).2) (hr2:=(a (i+1) c).1)
  ·have:i=k:=by omega
   subst this;rcases d with⟨e1,_⟩|⟨y,e1,e2⟩
   ·omega
   ·rw[CM hi]at e1;injection e1 with e1
    subst e1;refine⟨H',_,e2,?_⟩;simp
 ·have:i=t.cs.length:=by omega
  subst this;rcases d with⟨e1,e2⟩|⟨y,e1,e2⟩
  ·have:t.cs.length=k:=by omega
   subst this;simp[e2]
  ·rw[ej (by simp;omega)]at e1;cases e1
noncomputable def yP(t:ai)(v:NV)(L:eA)(i:Nat):ah:=[.box false (.p (b7 t)),.box false (.p (fT v)),.box false (.p (.int .i64 (t.rJ v.q i))),.loop L]
theorem Qg(t:ai)(v:NV)(k:t.cs.length<=1000000)(hn:∀p∈t.cs,et p)(f:bd 3000 v.q):aq prog 182 [b7 t,fT v] (.int .i64 (t.on v.q)):=by
 refine gA_ nf func182 mix ?_;simp[f182,ad];refine c1 (aia t) ?_;simp;refine rf (aFL t k hn) rfl s_ (yP t v) t.cs.length s_ (fun L=>rfl) ?_ ?_ ?_
 ·intro L a i hi;refine⟨rfl,by simp[yP],fun _ hx=>?_⟩;simp[yP]at hx⊢;exact hx
 ·intro L a i x hi hx;rw[CM hi]at hx;injection hx with hx
  subst hx;have b:=jV (ai.gl hn hi);have g:=jV (ai.gl hn (t.mg o_ i));have q1:bd 29 ((c7 (t.at (t.nx i))).sub (c7 (t.at i))).q:=by rw[NV.dW];exact gY g b
  have l:bd 3015 (v.sub (c7 (t.at i))).q:=by rw[NV.dW];exact gY f b
  have a1:=CX (c7 (t.at (t.nx i))) (c7 (t.at i)) (g.mono d_) (b.mono d_);have h:=CX v (c7 (t.at i)) (f.mono d_) (b.mono d_);have j:=TE ((c7 (t.at (t.nx i))).sub (c7 (t.at i))) (v.sub (c7 (t.at i))) (q1.mono d_) (l.mono d_);have d:=mF (((c7 (t.at (t.nx i))).sub (c7 (t.at i))).bu (v.sub (c7 (t.at i))));have c:bL (((c7 (t.at (t.nx i))).sub (c7 (t.at i))).bu (v.sub (c7 (t.at i)))).q=t.side i v.q:=by
   rw[NV.lC,NV.dW,NV.dW];rfl
  rw[bL]at c;rw[c]at d;have hs:=ai.He t v.q i;rw[HJ]at hs;refine uf nf mix a rfl rfl k_ ?_;have e:=congrArg eA.env a;dsimp only at e;clear a c;generalize (c7 (t.at (t.nx i))).sub (c7 (t.at i))=W,v.sub (c7 (t.at i))=U at*;generalize W.bu U=C at*;simp[yP,zi,vR,ad];refine e2 a1 ?_;simp[ad];refine e2 h ?_;simp[ad];refine e2 j ?_;simp[ad];refine e1 d ?_;simp[ad];refine⟨r_,?_⟩;rw[<-hs];refine df.og s_ s_ s_ s_ ?_;simp;exact wM e s_
 ·intro L a;refine .inl ⟨s_,?_⟩;simp[yP,ai.on]
theorem Hg(s:List Nat)(hs:jG s)(g:bZ s=0):aq prog 221 [.str s] (.int .i64 (fX (bm s))):=by
 have o:=ig g;have a1:=mG s g hs.1;have c:=mF ⟨bm s,false⟩;have f:=mI 1 d_ d_;have d:=ry ⟨bm s,false⟩ (.int 1) (o.mono d_) ((show aQ 1 (NF.int 1).q from⟨d_,d_⟩).mono d_);have e2:(if(⟨bm s,false⟩:NF).q<0 then(-1:Int)else if(⟨bm s,false⟩:NF).q=0 then 0 else 1)=bL (bm s):=rfl;have e4:cT (⟨bm s,false⟩:NF).q (NF.int 1).q=cT (bm s) 1:=rfl;rw[e2]at c;rw[e4]at d;have e:=fun b=>jq b 3;refine gA_ nf func221 mix ?_;rw[fX];clear e2 e4 o;generalize bL (bm s)=x,cT (bm s) 1=y,(⟨bm s,false⟩:NF)=v at*
 by_cases a:x<0
 ·simp[f221,ad];refine c1 a1 ?_;simp[ad];refine e1_ c ?_;simp[a,ad];refine e2_ (e true) ?_;simp[bh];omega
 ·by_cases b:0<y
  ·simp[f221,ad];refine c1 a1 ?_;simp[ad];refine e1_ c ?_;simp[a,ad];refine e1_ f ?_;simp[a,ad];refine e2_ d ?_;simp[a,b,ad];refine e2_ (e true) ?_;simp[bh];omega
  ·simp[f221,ad];refine c1 a1 ?_;simp[ad];refine e1_ c ?_;simp[a,ad];refine e1_ f ?_;simp[a,ad];refine e2_ d ?_;simp[a,b,ad];refine e2_ (e false) ?_;simp[bh];omega
def rT(p:dX):Prop:=tW p/\bZ p.a=0/\bZ p.b=0
theorem ahU(p o:dX)(q:rT p)(n:rT o):aq prog 220 [fK p,fK o] (.bool (iz o p)):=by
 obtain⟨⟨_,t,u⟩,k,l⟩:=q;obtain⟨⟨_,r,s⟩,i,j⟩:=n;have a1:=mG p.a k t.1;have d:=mG o.b j s.1;have c:=ry ⟨bm p.a,false⟩ ⟨bm o.b,false⟩ ((ig k).mono d_) ((ig j).mono d_);have f:=mG o.a i r.1;have g:=mG p.b l u.1;have e:=ry ⟨bm o.a,false⟩ ⟨bm p.b,false⟩ ((ig i).mono d_) ((ig l).mono d_);dsimp only at c e;refine gA_ nf func220 mix ?_;rw[iz];generalize cT (bm p.a) (bm o.b)=x,cT (bm o.a) (bm p.b)=y,(⟨bm p.a,false⟩:NF)=v1,(⟨bm p.b,false⟩:NF)=v2,(⟨bm o.a,false⟩:NF)=v3,(⟨bm o.b,false⟩:NF)=v4 at*
 by_cases c1:o.fo=p.fo
 case neg=>
  have m:¬p.fo=o.fo:=fun h=>c1 h.symm;simp[f220,ad,c1,m]
 by_cases c2:x<=0
 ·by_cases c3:y<=0
  ·simp(maxDischargeDepth:=99) [f220,ad,c1,c2,c3,e1_ a1,e1_ d,e2_ c,e1_ f,e1_ g,e2_ e]
  ·simp(maxDischargeDepth:=99) [f220,ad,c1,c2,c3,e1_ a1,e1_ d,e2_ c,e1_ f,e1_ g,e2_ e]
 ·simp(maxDischargeDepth:=99) [f220,ad,c1,c2,e1_ a1,e1_ d,e2_ c]
theorem TA(p o:dX):c8 prog 218 [.box false (.p (fK p))] [.p (fK o),.ptr 0 []] [.box false (.p (fK p))] (.p (.bool (decide (o.name=p.name)))):=by
 refine gX nf (i_ func218) mix (by simp[f218]) ?_
 by_cases h:o.name=p.name
 ·simp[f218,ad,h];exact df.og s_ s_ s_ s_ s_
 ·simp[f218,ad,h];exact df.og s_ s_ s_ s_ s_
theorem TJ(p:dX)(l:List dX)(h:l.length<=1000000):
 c8 prog 167 [.box false (.p (fK p))] [.p (.seq (l.map fK)),.func 218 [] [.ptr 0 []]] [.box false (.p (fK p))] (.p (.int .i64 (idxFrom (fun o=>decide (o.name=p.name)) l 0))):=by
 refine gX nf (i_ func167) mix (by simp[f167]) ?_;simp[f167];refine lp (α:=Nat) (fun i=>⟨[(8,.p (.int .i64 i)),(7,.p (.int .i64 l.length)),(1,.func 218 [] [.ptr 0 []]),(0,.p (.seq (l.map fK)))],[.box false (.p (fK p))]⟩) (fun i=>i<=l.length/\idxFrom (fun o=>decide (o.name=p.name)) l 0=idxFrom (fun o=>decide (o.name=p.name)) (l.drop i) i) (fun i=>l.length-i) 0 s_ ?_;rintro i ⟨k1,k2⟩;have a:=cH (i:=i) o_
 by_cases hi:i<l.length
 ·rw[be hi,idxFrom]at k2;simp[hi];refine cf (TA p l[i]) [0] ?_
  by_cases hk:l[i].name=p.name
  ·simp[hk]at k2;simp[hk,k2,bt]
  ·simp[hk]at k2;simp[hk,a,bt];exact rd (i+1) ⟨hi,k2⟩
 ·have:i=l.length:=by omega
  subst this;simp[idxFrom]at k2;simp[k2]
theorem Tv(p:dX)(l:List dX)(h:l.length<=1000000):
 c8 prog 217 [.box false (.p (fK p))] [.p (.seq (l.map fK)),.func 218 [] [.ptr 0 []]] [.box false (.p (fK p))] (.p (.bool (l.any (fun o=>decide (o.name=p.name))))):=by
 refine gX nf (i_ func217) mix (by simp[f217]) ?_;simp[f217];refine cf (TJ p l h) [0] ?_;have:=rP (fun o=>decide (o.name=p.name)) l 0;simp[bt,<-this]
theorem Tz(p o:cO):c8 prog 223 [.box false (.p (im p))] [.p (im o),.ptr 0 []] [.box false (.p (im p))] (.p (.bool (decide (o.name=p.name)))):=by
 refine gX nf (i_ func223) mix (by simp[f223]) ?_
 by_cases h:o.name=p.name
 ·simp[f223,ad,h];exact df.og s_ s_ s_ s_ s_
 ·simp[f223,ad,h];exact df.og s_ s_ s_ s_ s_
theorem Tf(p:cO)(l:List cO)(h:l.length<=1000000):
 c8 prog 269 [.box false (.p (im p))] [.p (.seq (l.map im)),.func 223 [] [.ptr 0 []]] [.box false (.p (im p))] (.p (.int .i64 (idxFrom (fun o=>decide (o.name=p.name)) l 0))):=by
 refine gX nf (i_ func269) mix (by simp[f269]) ?_;simp[f269];refine lp (α:=Nat) (fun i=>⟨[(8,.p (.int .i64 i)),(7,.p (.int .i64 l.length)),(1,.func 223 [] [.ptr 0 []]),(0,.p (.seq (l.map im)))],[.box false (.p (im p))]⟩) (fun i=>i<=l.length/\idxFrom (fun o=>decide (o.name=p.name)) l 0=idxFrom (fun o=>decide (o.name=p.name)) (l.drop i) i) (fun i=>l.length-i) 0 s_ ?_;rintro i ⟨k1,k2⟩;have a:=cH (i:=i) o_
 by_cases hi:i<l.length
 ·rw[be hi,idxFrom]at k2;simp[hi];refine cf (Tz p l[i]) [0] ?_
  by_cases hk:l[i].name=p.name
  ·simp[hk]at k2;simp[hk,k2,bt]
  ·simp[hk]at k2;simp[hk,a,bt];exact rd (i+1) ⟨hi,k2⟩
 ·have:i=l.length:=by omega
  subst this;simp[idxFrom]at k2;simp[k2]
theorem Tu(p:cO)(l:List cO)(h:l.length<=1000000):
 c8 prog 222 [.box false (.p (im p))] [.p (.seq (l.map im)),.func 223 [] [.ptr 0 []]] [.box false (.p (im p))] (.p (.bool (l.any (fun o=>decide (o.name=p.name))))):=by
 refine gX nf (i_ func222) mix (by simp[f222]) ?_;simp[f222];refine cf (Tf p l h) [0] ?_;have:=rP (fun o=>decide (o.name=p.name)) l 0;simp[bt,<-this]
theorem Tx(p:dX)(c:rT p)(l:List dX)(h:l.length<=1000000)(b:∀o∈l,rT o):
 aq prog 167 [.seq (l.map fK),.func 220 [fK p] []] (.int .i64 (idxFrom (fun o=>iz o p) l 0)):=by
 refine gA_ nf func167 mix ?_;simp[f167];refine lp (α:=Nat) (fun i=>⟨[(8,.p (.int .i64 i)),(7,.p (.int .i64 l.length)),(1,.p (.func 220 [fK p] [])),(0,.p (.seq (l.map fK)))],[]⟩) (fun i=>i<=l.length/\idxFrom (fun o=>iz o p) l 0=idxFrom (fun o=>iz o p) (l.drop i) i) (fun i=>l.length-i) 0 s_ ?_;rintro i ⟨k1,k2⟩;have d:=cH (i:=i) o_
 by_cases hi:i<l.length
 ·rw[be hi,idxFrom]at k2;have a:=ahU p l[i] c (b _ (c9 hi));simp[hi];refine c2 a ?_;cases hk:iz l[i] p
  ·simp[hk]at k2;simp[d];exact rd (i+1) ⟨hi,k2⟩
  ·simp[hk]at k2;simp[k2]
 ·have:i=l.length:=by omega
  subst this;simp[idxFrom]at k2;simp[k2]
theorem Ta(p:dX)(b:rT p)(l:List dX)(h:l.length<=1000000)(a:∀o∈l,rT o):
 aq prog 217 [.seq (l.map fK),.func 220 [fK p] []] (.bool (l.any (fun o=>iz o p))):=by
 refine gA_ nf func217 mix ?_;simp[f217];refine c2 (Tx p b l h a) ?_;have:=rP (fun o=>iz o p) l 0;simp[<-this]
def l6(n:Nat)(c:List dX)(p:dX):Int:=bJ [bh (!isName p.name) 8,bh (c.any fun o=>decide (o.name=p.name)) 9,bh (decide (p.fo<0\/(n:Int)<=p.fo)) 10,bZ p.a,bZ p.b]
def Ct(c:List dX)(p:dX):Int:=bJ [fX (bm p.a),fX (bm p.b),bh (decide (0<cT (bm p.a) (bm p.b))) 11,bh (c.any fun o=>iz o p) 17]
theorem G3(q:Rat):fX q=0\/fX q=3:=by
 rw[fX];split
 ·exact .inr rfl
 ·exact .inl rfl
theorem Tq(n:Nat)(e:List dX)(p:dX):iY n e p=if l6 n e p=0 then Ct e p else l6 n e p:=by
 rw[iY,l6,Ct];generalize bZ p.a=i;generalize bZ p.b=j;have k:=G3 (bm p.a);have h:=G3 (bm p.b);generalize fX (bm p.a)=s,fX (bm p.b)=t at*;generalize cT (bm p.a) (bm p.b)=y;generalize (e.any fun o=>iz o p)=m;generalize (e.any fun o=>decide (o.name=p.name))=a;have l:max (0:Int) 3=3:=rfl;have q:max (3:Int) 0=3:=rfl;cases r:isName p.name
 ·simp[bJ,bh]
 cases a
 case true=>simp[bJ,bh]
 by_cases c:p.fo<0\/(n:Int)<=p.fo
 ·simp[bJ,bh,c]
 by_cases d:i=0
 case neg=>simp[bJ,bh,c,d]
 by_cases f:j=0
 case neg=>simp[bJ,bh,c,d,f]
 rcases k with rfl|rfl
 ·rcases h with rfl|rfl
  ·by_cases g:0<y
   ·simp[bJ,bh,c,d,f,g]
   ·cases m<;>simp[bJ,bh,c,d,f,g]
  ·simp[bJ,bh,c,d,f,l]
 ·rcases h with rfl|rfl
  ·simp[bJ,bh,c,d,f,q]
  ·simp[bJ,bh,c,d,f]
theorem Ti{n:Nat}{bef:List dX}{p:dX}(h:l6 n bef p=0):bZ p.a=0/\bZ p.b=0:=by
 rw[l6,qM]at h;exact⟨h _ s_,h _ s_⟩
theorem S9(t:ai)(p:dX)(d:List dX)(K:t.cs.length<=1000000)(H:tW p)(m:d.length<=1000000)(G:∀o∈d,rT o):
 aq prog 150 [b7 t,fK p,.seq (d.map fK)] (.int .i64 (iY t.cs.length d p)):=by
 obtain⟨D,j,k⟩:=H;have k1:=Tv p d m;have k2:=CR p.name D.1;have k3:=jq (!isName p.name) 8;have k4:=jq (d.any fun o=>decide (o.name=p.name)) 9;have k5:=fun b=>jq b 10;have k6:=BL p.a j.1 j.2;have k7:=BL p.b k.1 k.2;have k8:=rR [bh (!isName p.name) 8,bh (d.any fun o=>decide (o.name=p.name)) 9,bh (decide (p.fo<0\/(t.cs.length:Int)<=p.fo)) 10,bZ p.a,bZ p.b] s_;have g:=Ti (n:=t.cs.length) (bef:=d) (p:=p);rw[Tq];have s:=fun h:l6 t.cs.length d p=0=>Ta p ⟨⟨D,j,k⟩,(g h).1,(g h).2⟩ d m G;have u:=fun h:l6 t.cs.length d p=0=>Hg p.a j (g h).1;have v:=fun h:l6 t.cs.length d p=0=>Hg p.b k (g h).2;have w:=fun h:l6 t.cs.length d p=0=>mG p.a (g h).1 j.1;have x:=fun h:l6 t.cs.length d p=0=>mG p.b (g h).2 k.1;have q:=fun h:l6 t.cs.length d p=0=>ry ⟨bm p.a,false⟩ ⟨bm p.b,false⟩ ((ig (g h).1).mono d_) ((ig (g h).2).mono d_);dsimp only at q;have C:=jq (decide (0<cT (bm p.a) (bm p.b))) 11;have z:=jq (d.any fun o=>iz o p) 17;have i:=rR [fX (bm p.a),fX (bm p.b),bh (decide (0<cT (bm p.a) (bm p.b))) 11,bh (d.any fun o=>iz o p) 17] s_;have A:l6 t.cs.length d p=bJ [bh (!isName p.name) 8,bh (d.any fun o=>decide (o.name=p.name)) 9,bh (decide (p.fo<0\/(t.cs.length:Int)<=p.fo)) 10,bZ p.a,bZ p.b]:=rfl;have B:Ct d p=bJ [fX (bm p.a),fX (bm p.b),bh (decide (0<cT (bm p.a) (bm p.b))) 11,bh (d.any fun o=>iz o p) 17]:=rfl;rw[<-A]at k8;rw[<-B]at i;clear A B g;generalize l6 t.cs.length d p=l,Ct d p=J,bZ p.a=x1,bZ p.b=x2,fX (bm p.a)=x3,fX (bm p.b)=x4,cT (bm p.a) (bm p.b)=x5,(d.any fun o=>decide (o.name=p.name))=E,(d.any fun o=>iz o p)=I,isName p.name=F,(⟨bm p.a,false⟩:NF)=v1,(⟨bm p.b,false⟩:NF)=v2 at*;refine gA_ nf func150 mix ?_;have r:∀b:Bool,decide (p.fo<0\/(t.cs.length:Int)<=p.fo)=b->aq prog 145 [.bool b,.int .i64 10] (.int .i64 (bh b 10))/\aq prog 144 [.seq [.int .i64 (bh (!F) 8),.int .i64 (bh E 9),.int .i64 (bh b 10),.int .i64 x1,.int .i64 x2]] (.int .i64 l):=fun b m=>by
  rw[m]at k8;exact⟨k5 b,by simpa using k8⟩
 simp at i;have y:aq prog 145 [.bool (decide (0<x5)),.int .i64 11] (.int .i64 (bh (decide (0<x5)) 11)):=C;clear k5 k8 C;generalize L:bh (!F) 8=w1,M:bh E 9=w2,N:bh (decide (0<x5)) 11=w3,O:bh I 17=w4 at*;simp[f150,-aW,ad];rw[aW];simp[-aW,ad];rw[aW];simp[-aW,ad];refine cf k1 [1] ?_;simp[-aW,ad,bt,sig]
 by_cases e:p.fo<0
 ·obtain⟨f1,f2⟩:=r true (by simp[e]);rw[aW,aW];simp[-aW,ad];refine e1_ k2 ?_;simp[-aW,ad];refine e2_ k3 ?_;simp[-aW,ad];refine e2_ k4 ?_;simp[-aW,ad,e];refine e2_ f1 ?_;simp[-aW,ad,e];refine e1_ k6 ?_;simp[-aW,ad,e];refine e1_ k7 ?_;simp[-aW,ad,e];refine ep f2 t_ t_ ?_;simp[-aW,ad,e];refine⟨r_,?_⟩
  by_cases c:l=0
  case neg=>simp[c,ad]
  simp[c,ad];refine c2_ (s c) ?_;simp[ad];refine e1_ (u c) ?_;simp[ad];refine e1_ (v c) ?_;simp[ad];refine e1_ (w c) ?_;simp[ad];refine e1_ (x c) ?_;simp[ad];refine e2_ (q c) ?_;simp[ad];refine e2_ y ?_;simp[ad];refine e2_ z ?_;simp[ad];refine ep i t_ t_ ?_;simp[ad];exact⟨by repeat' first|rfl|apply aj,fun h=>(h c).elim⟩
 by_cases f:(t.cs.length:Int)<=p.fo
 ·obtain⟨f1,f2⟩:=r true (by simp[e,f]);rw[aW,aW];simp[-aW,ad];refine e1_ k2 ?_;simp[-aW,ad];refine e2_ k3 ?_;simp[-aW,ad];refine e2_ k4 ?_;simp[-aW,ad,e,f];refine e2_ f1 ?_;simp[-aW,ad,e,f];refine e1_ k6 ?_;simp[-aW,ad,e,f];refine e1_ k7 ?_;simp[-aW,ad,e,f];refine ep f2 t_ t_ ?_;simp[-aW,ad,e,f];refine⟨r_,?_⟩
  by_cases c:l=0
  case neg=>simp[c,ad]
  simp[c,ad];refine c2_ (s c) ?_;simp[ad];refine e1_ (u c) ?_;simp[ad];refine e1_ (v c) ?_;simp[ad];refine e1_ (w c) ?_;simp[ad];refine e1_ (x c) ?_;simp[ad];refine e2_ (q c) ?_;simp[ad];refine e2_ y ?_;simp[ad];refine e2_ z ?_;simp[ad];refine ep i t_ t_ ?_;simp[ad];exact⟨by repeat' first|rfl|apply aj,fun h=>(h c).elim⟩
 ·obtain⟨f1,f2⟩:=r false (by simp[e,f]);rw[aW,aW];simp[-aW,ad];refine e1_ k2 ?_;simp[-aW,ad];refine e2_ k3 ?_;simp[-aW,ad];refine e2_ k4 ?_;simp[-aW,ad,e,f];refine e2_ f1 ?_;simp[-aW,ad,e,f];refine e1_ k6 ?_;simp[-aW,ad,e,f];refine e1_ k7 ?_;simp[-aW,ad,e,f];refine ep f2 t_ t_ ?_;simp[-aW,ad,e,f];refine⟨r_,?_⟩
  by_cases c:l=0
  case neg=>simp[c,ad]
  simp[c,ad];refine c2_ (s c) ?_;simp[ad];refine e1_ (u c) ?_;simp[ad];refine e1_ (v c) ?_;simp[ad];refine e1_ (w c) ?_;simp[ad];refine e1_ (x c) ?_;simp[ad];refine e2_ (q c) ?_;simp[ad];refine e2_ y ?_;simp[ad];refine e2_ z ?_;simp[ad];refine ep i t_ t_ ?_;simp[ad];exact⟨by repeat' first|rfl|apply aj,fun h=>(h c).elim⟩
def jT(a:List cO)(s:cO):Int:=bJ [bh (!isName s.name) 8,bh (a.any fun o=>decide (o.name=s.name)) 9,dM s.pt]
theorem To(t:ai)(b:List cO)(s:cO):jX t b s=if jT b s=0 then bh (decide (t.on (vP s.pt)<0)) 16 else jT b s:=by
 rw[jX,jT];generalize dM s.pt=c;generalize (b.any fun o=>decide (o.name=s.name))=a;cases e:isName s.name
 ·simp[bJ,bh]
 cases a
 case true=>simp[bJ,bh]
 by_cases d:c=0
 case neg=>simp[bJ,bh,d]
 simp[bJ,bh,d]
theorem Hu{bef:List cO}{s:cO}(h:jT bef s=0):dM s.pt=0:=by
 rw[jT,qM]at h;exact h _ s_
theorem Tw(t:ai)(s:cO)(a:List cO)(l:t.cs.length<=1000000)(hn:∀p∈t.cs,et p)(hs:oZ s)(k:a.length<=1000000):
 aq prog 152 [b7 t,im s,.seq (a.map im)] (.int .i64 (jX t a s)):=by
 obtain⟨r,g⟩:=hs;have k1:=Tu s a k;have k2:=CR s.name r.1;have k3:=jq (!isName s.name) 8;have k4:=jq (a.any fun o=>decide (o.name=s.name)) 9;have k6:=zK s.pt g;have k8:=rR [bh (!isName s.name) 8,bh (a.any fun o=>decide (o.name=s.name)) 9,dM s.pt] s_;have c:=Hu (bef:=a) (s:=s);rw[To];have m:=fun h:jT a s=0=>F4 s.pt (jO (c h)).1 (jO (c h)).2 g;have f:=fun h:jT a s=0=>Qg t (.from s.pt) l hn (Dp ⟨(ig (jO (c h)).1).mono d_,(ig (jO (c h)).2).mono d_⟩);have n:=jq (decide (t.on (vP s.pt)<0)) 16;rw[gH]at f;have e:jT a s=bJ [bh (!isName s.name) 8,bh (a.any fun o=>decide (o.name=s.name)) 9,dM s.pt]:=rfl;rw[<-e]at k8;clear e c;generalize jT a s=d,t.on (vP s.pt)=y,dM s.pt=x1,(a.any fun o=>decide (o.name=s.name))=i,isName s.name=j,NV.from s.pt=v1 at*;refine gA_ nf func152 mix ?_;have q:aq prog 144 [.seq [.int .i64 (bh (!j) 8),.int .i64 (bh i 9),.int .i64 x1]] (.int .i64 d):=by simpa using k8
 clear k8;generalize u:bh (!j) 8=w1,v:bh i 9=w2,w:bh (decide (y<0)) 16=w3 at*;simp[f152,ad];refine cf k1 [1] ?_;simp[ad,bt,sig];refine e1_ k2 ?_;simp[ad];refine e2_ k3 ?_;simp[ad];refine e2_ k4 ?_;simp[ad];refine e1_ k6 ?_;simp[ad];refine ep q t_ t_ ?_;simp[ad];refine⟨r_,?_⟩
 by_cases b:d=0
 case neg=>simp[b,ad]
 simp[b,ad];refine e1_ (m b) ?_;simp[ad];refine e2_ (f b) ?_;simp[ad];refine e2_ n ?_;simp[ad];exact fun h=>(h b).elim
def mh{α:Type}(b:Nat)(a:List α->α->Int)(l:List α):Int:=if b<l.length then 5 else lB a l
theorem Bh{α:Type}{n:Nat}{f:α->PV}(h:∀a,ad (.p (f a))≠.bad/\bP prog (ad (.p (f a)))=n)(l:List α):gf prog n (l.map (AV.p∘f)):=xm.2 fun v b=>by
 obtain⟨a,_,rfl⟩:=cx.1 b;exact h a
theorem LP(l:List dX):gf prog 4 (l.map (AV.p∘fK)):=Bh (fun r=>⟨by simp[ad],by simp[ad]⟩) l
theorem LQ(l:List cO):gf prog 3 (l.map (AV.p∘im)):=Bh (fun r=>⟨by simp[ad],by simp[ad]⟩) l
theorem TM(t:ai)(a:Nat)(h:t.cs.length<=1000000)(m:t.bp.length<=1000000)(c:∀p∈t.bp,tW p):
 aq prog 149 [.seq (t.bp.map fK),.int .i64 a,.func 150 [b7 t] []] (.int .i64 (mh a (iY t.cs.length) t.bp)):=by
 refine gA_ nf func149 mix ?_;rw[mh]
 by_cases c1:a<t.bp.length
 ·have cI:(a:Int)<t.bp.length:=by omega
  rw[if_pos c1];simp[f149,cI]
 have d:¬(a:Int)<t.bp.length:=o_
 rw[if_neg c1];simp[f149,d];refine lp (α:=Nat) (fun i=>⟨[(16,.p (.int .i64 i)),(15,.p (.int .i64 t.bp.length)),(14,.p (.seq (t.bp.map fK))),(0,.p (.seq (t.bp.map fK))),(2,.p (.func 150 [b7 t] []))],[]⟩) (fun i=>i<=t.bp.length/\∀j,j<i->ij (iY t.cs.length) t.bp j=0) (fun i=>t.bp.length-i) 0 s_ ?_;rintro i ⟨k1,k2⟩
 by_cases hk:i<t.bp.length
 ·have gk:=ai.mN hk;have l:=cH (i:=i) o_;have b:=S9 t (t.pk i) (t.bp.take i) h (c _ (a9 gk)) (by rw[b5];omega) (fun o k=>by
   obtain⟨j,f,rfl⟩:=bv.1 k;rw[b5]at f;rw[db];have:=k2 j o_;have g:=ai.mN (t:=t) (i:=j) o_;rw[ij,g]at this;rw[ai.Sd o_];exact⟨c _ (a9 g),Hp this⟩)
  rw[dq]at b
  by_cases he:iY t.cs.length (t.bp.take i) (t.pk i)=0
  ·rw[he]at b;have:=ug k2 gk he;simp[hk,gk,ad];refine⟨⟨k1,LP _⟩,?_⟩;refine e3_ b ?_;simp[l,ad];exact rd (i+1) ⟨hk,this⟩
  ·have e:=uh k2 gk he;rw[e];simp[hk,gk,ad];refine⟨⟨k1,LP _⟩,?_⟩;simp[he,ad,e3_ b]
 ·have:i=t.bp.length:=by omega
  subst this;rw[qu.2 k2];simp
theorem TL(t:ai)(a:Nat)(e:t.cs.length<=1000000)(hn:∀p∈t.cs,et p)(h:t.ar.length<=1000000)(f:∀p∈t.ar,oZ p):
 aq prog 151 [.seq (t.ar.map im),.int .i64 a,.func 152 [b7 t] []] (.int .i64 (mh a (jX t) t.ar)):=by
 refine gA_ nf func151 mix ?_;rw[mh]
 by_cases c1:a<t.ar.length
 ·have cI:(a:Int)<t.ar.length:=by omega
  rw[if_pos c1];simp[f151,cI]
 have c:¬(a:Int)<t.ar.length:=o_
 rw[if_neg c1];simp[f151,c];refine lp (α:=Nat) (fun i=>⟨[(16,.p (.int .i64 i)),(15,.p (.int .i64 t.ar.length)),(14,.p (.seq (t.ar.map im))),(0,.p (.seq (t.ar.map im))),(2,.p (.func 152 [b7 t] []))],[]⟩) (fun i=>i<=t.ar.length/\∀j,j<i->ij (jX t) t.ar j=0) (fun i=>t.ar.length-i) 0 s_ ?_;rintro i ⟨k1,k2⟩
 by_cases hk:i<t.ar.length
 ·have gk:=ai.eM hk;have g:=cH (i:=i) o_;have b:=Tw t (t.sp i) (t.ar.take i) e hn (f _ (a9 gk)) (by rw[b5];omega);rw[dq]at b
  by_cases he:jX t (t.ar.take i) (t.sp i)=0
  ·rw[he]at b;have:=ug k2 gk he;simp[hk,gk,ad];refine⟨⟨k1,LQ _⟩,?_⟩;refine e3_ b ?_;simp[g,ad];exact rd (i+1) ⟨hk,this⟩
  ·have d:=uh k2 gk he;rw[d];simp[hk,gk,ad];refine⟨⟨k1,LQ _⟩,?_⟩;simp[he,ad,e3_ b]
 ·have:i=t.ar.length:=by omega
  subst this;rw[qu.2 k2];simp
def nS(t:ai):Int:=bJ [bh (decide ((t.cs.length:Int)<3)) 2,bh (decide (12<(t.cs.length:Int))) 5,bh (t.cs.any gD) 3]
def rS(t:ai):Int:=bJ [bh (!t.fF) 15,bh (decide (t.aI<1\/1000<t.aI)) 3,mh 12 (iY t.cs.length) t.bp]
theorem G8{t:ai}(h:nS t=0):3<=t.cs.length/\t.cs.length<=12/\∀p∈t.cs,et p:=by
 rw[nS,qM]at h;have b:=h (bh (decide ((t.cs.length:Int)<3)) 2) s_;have d:=h (bh (decide (12<(t.cs.length:Int))) 5) s_;have a:=h (bh (t.cs.any gD) 3) s_;refine⟨?_,?_,fun p e=>Hl ?_⟩
 ·by_cases c:(t.cs.length:Int)<3
  ·simp[bh,c]at b
  ·omega
 ·by_cases c:12<(t.cs.length:Int)
  ·simp[bh,c]at d
  ·omega
 ·cases hf:gD p
  ·rfl
  ·have:t.cs.any gD=true:=b0.2 ⟨p,e,hf⟩;rw[this]at a;simp[bh]at a
theorem Hi(t:ai):iw t=if nS t=0 then(if rS t=0 then mh 256 (jX t) t.ar else rS t)else nS t:=by
 rw[iw,nS,rS,mh,mh]
 by_cases c1:t.cs.length<3
 ·have:(t.cs.length:Int)<3:=by omega
  simp[bJ,bh,c1,this]
 have b:¬(t.cs.length:Int)<3:=o_
 by_cases c2:12<t.cs.length
 ·have:(12:Int)<t.cs.length:=by omega
  simp[bJ,bh,c1,c2,b,this]
 have c:¬(12:Int)<t.cs.length:=o_
 generalize t.cs.any gD=a;cases a
 case true=>simp[bJ,bh,c1,c2,b,c]
 cases t.fF
 ·simp[bJ,bh,c1,c2,b,c]
 by_cases c3:t.aI<1\/1000<t.aI
 ·simp[bJ,bh,c1,c2,b,c,c3]
 by_cases c4:12<t.bp.length
 ·simp[bJ,bh,c1,c2,b,c,c3,c4]
 generalize lB (iY t.cs.length) t.bp=e
 by_cases c5:e=0
 ·simp[bJ,bh,c1,c2,b,c,c3,c4,c5]
 ·simp[bJ,bh,c1,c2,b,c,c3,c4,c5]
theorem Tc(t:ai)(v:jJ t):aq prog 92 [b7 t] (.int .i64 (iw t)):=by
 obtain⟨j,z,A,s,u⟩:=v;have k1:=jq (decide ((t.cs.length:Int)<3)) 2;have k2:=jq (decide (12<(t.cs.length:Int))) 5;have k3:=S6 t.cs j;have k4:=jq (t.cs.any gD) 3;have k5:=rR [bh (decide ((t.cs.length:Int)<3)) 2,bh (decide (12<(t.cs.length:Int))) 5,bh (t.cs.any gD) 3] s_;have z1:=G8 (t:=t);rw[Hi];have w:=fun h:nS t=0=>TN t (z1 h).1 j (z1 h).2.2;have x:=jq (!t.fF) 15;have q:=fun b=>jq b 3;have l:=TM t 12 j z s;have i:=rR [bh (!t.fF) 15,bh (decide (t.aI<1\/1000<t.aI)) 3,mh 12 (iY t.cs.length) t.bp] s_;have m:=fun h:nS t=0=>TL t 256 j (z1 h).2.2 A u;have o:nS t=bJ [bh (decide ((t.cs.length:Int)<3)) 2,bh (decide (12<(t.cs.length:Int))) 5,bh (t.cs.any gD) 3]:=rfl;have p:rS t=bJ [bh (!t.fF) 15,bh (decide (t.aI<1\/1000<t.aI)) 3,mh 12 (iY t.cs.length) t.bp]:=rfl;rw[<-o]at k5;rw[<-p]at i;clear o p z1;generalize nS t=n,rS t=g,mh 12 (iY t.cs.length) t.bp=x1,mh 256 (jX t) t.ar=x2,t.cs.any gD=x3,t.fF=x4,B:bh (decide ((t.cs.length:Int)<3)) 2=w1,C:bh (decide (12<(t.cs.length:Int))) 5=w2 at*;generalize D:bh x3 3=w3,E:bh (!x4) 15=w4 at*;have k:∀b:Bool,decide (t.aI<1\/1000<t.aI)=b->aq prog 145 [.bool b,.int .i64 3] (.int .i64 (bh b 3))/\aq prog 144 [.seq [.int .i64 w4,.int .i64 (bh b 3),.int .i64 x1]] (.int .i64 g):=fun b r=>by
  rw[r]at i;exact⟨q b,by simpa using i⟩
 have y:aq prog 144 [.seq [.int .i64 w1,.int .i64 w2,.int .i64 w3]] (.int .i64 n):=by simpa using k5
 clear i q k5;refine gA_ nf func92 mix ?_;simp[f92,ad];refine e2_ k1 ?_;simp[ad];refine e2_ k2 ?_;simp[ad];refine e2_ k3 ?_;simp[ad];refine e2_ k4 ?_;simp[ad];refine ep y t_ t_ ?_;simp[ad];refine⟨r_,?_⟩
 by_cases a:n=0
 case neg=>simp[a,ad]
 simp[a,ad];refine e1_ (w a) ?_;simp[ad];refine e2_ x ?_;simp[ad]
 by_cases r1:t.aI<1
 ·have c:¬1<=t.aI:=by omega
  obtain⟨f1,f2⟩:=k true (by simp[r1]);simp[r1,c,ad];refine e2_ f1 ?_;simp[r1,c,ad];refine e3_ l ?_;simp[r1,c,ad];refine ep f2 t_ t_ ?_;simp[r1,c,ad];refine⟨r_,?_⟩
  by_cases d:g=0
  case neg=>simp[a,d,ad]
  simp[a,d,ad];refine c3_ (m a) ?_;simp[a,d,ad]
 have c:1<=t.aI:=o_
 by_cases e:1000<t.aI
 ·have f:¬t.aI<=1000:=by omega
  obtain⟨f1,f2⟩:=k true (by simp[r1,e]);simp[r1,c,e,f,ad];refine e2_ f1 ?_;simp[r1,c,e,f,ad];refine e3_ l ?_;simp[r1,c,e,f,ad];refine ep f2 t_ t_ ?_;simp[r1,c,e,f,ad];refine⟨r_,?_⟩
  by_cases d:g=0
  case neg=>simp[a,d,ad]
  simp[a,d,ad];refine c3_ (m a) ?_;simp[a,d,ad]
 ·have f:t.aI<=1000:=by omega
  obtain⟨f1,f2⟩:=k false (by simp[r1,e]);simp[r1,c,e,f,ad];refine e2_ f1 ?_;simp[r1,c,e,f,ad];refine e3_ l ?_;simp[r1,c,e,f,ad];refine ep f2 t_ t_ ?_;simp[r1,c,e,f,ad];refine⟨r_,?_⟩
  by_cases d:g=0
  case neg=>simp[a,d,ad]
  simp[a,d,ad];refine c3_ (m a) ?_;simp[a,d,ad]
noncomputable def yG(i:Nat)(a w:NV):PV:=.st 169 [.int .i64 i,cM a,cM w]
@[simp] theorem aNn(i:Nat)(a w:NV):aL (yG i a w)=.agg 169:=rfl
@[simp] theorem aLM(i:Nat)(a w:NV):bW (yG i a w)=[.int .i64 i,cM a,cM w]:=rfl
@[simp] theorem aJo:prog.cellsOf 169=17:=k_
def ai.cB(t:ai)(i:Nat):NV:=(c7 (t.at (t.nx i))).sub (c7 (t.at i))
theorem ai.uq(t:ai)(i:Nat):(t.cB i).q=t.dT i:=by rw[ai.cB,NV.dW];rfl
theorem Ht(p:dZ)(h:et p):aq prog 169 [cL p] (cM (c7 p)):=by
 simp only[et]at h;have a1:=mI p.x o_ o_;have a:=mI p.y o_ o_;refine gA_ nf func169 mix ?_;rw[c7,pW];simp(maxDischargeDepth:=99) [f169,ad,e1 a1,e1 a]
theorem Z8(t:ai):aq prog 153 [b7 t] (.func 224 [] [.cE (b7 t)]):=by
 refine gA_ nf func153 mix ?_;simp[f153];show gR [.box false (.p (b7 t))] 7 (.p (b7 t)) (b7 t);rw[zk];exact Wk.refl _
noncomputable def rQ(t:ai)(i:Nat):List PV:=[yG i (c7 (t.at i)) (t.cB i)]
def ie(t:ai)(i:Nat):ah:=[.box false (.p (cL (t.at i))),.box false (.p (cL (t.at (t.nx i))))]
theorem CO{t:ai}{i:Nat}(h:i<t.cs.length):((cc t.cs.length).map (rQ t))[i]?=some (rQ t i):=by
 rw[eb,ek h];rfl
theorem aFq(t:ai)(E:t.cs.length<=1000000)(hn:∀p∈t.cs,et p):HR prog 224 [] [.cE (b7 t)] ((cc t.cs.length).map (rQ t)) (ie t):=by
 intro b k d D H' hk a A g;rw[dl,ea]at hk g;refine gX nf (i_ func224) mix (by simp[f224]) ?_;simp[f224,ad];refine lp (α:=Nat) (fun i=>⟨[(9,.p (.int .i64 i)),(8,.p (.int .i64 t.cs.length)),(7,.p (.seq (t.cs.map cL))),(1,.p (.cE (b7 t))),(0,.map b)],d i⟩) (fun i=>i<=k) (fun i=>k-i) 0 s_ ?_ (hr:=by simp;exact(a 0 o_).2) (hr2:=(a 0 o_).1);rintro i w
 by_cases hi:i<t.cs.length
 ·have m:=cH (i:=i) o_;have h:=t.mg o_ i;have u:=ai.get hi;have v:=ai.get h;have e1:((i:Int)+1).tmod (t.cs.length:Int)=((t.nx i:Nat):Int):=by
   rw[ai.nx,a6,a5 o_];rfl
  have z:¬t.cs.length=0:=o_
  have x:¬t.cs=[]:=by intro e;rw[e]at hi;simp at hi
  have B:=jV (ai.gl hn hi);have C:=jV (ai.gl hn h);have a1:=Ht (t.at i) (ai.gl hn hi);have o:=Ht (t.at (t.nx i)) (ai.gl hn h);have j:=yD (c7 (t.at (t.nx i))) (c7 (t.at i)) (C.mono d_) (B.mono d_);have q:(c7 (t.at (t.nx i))).sub (c7 (t.at i))=t.cB i:=rfl;rw[q]at j;simp[hi,m,e1,z,x,u,v,ad];refine⟨r_,?_⟩;refine e1_ a1 ?_;simp[ad];refine e1_ o ?_;simp[ad];refine e1_ a1 ?_;simp[ad];refine e2_ j ?_;simp[ad];have l:dG (d i++ie t i) (d i++ie t i):=dG.app (a i w).1 (by simp[ie])
  by_cases c:i<k
  ·obtain⟨g1,g2,g3,g4,g5⟩:=A i _ c (CO hi);refine yk g1 rfl g2 l g3 (by rfl) (by rfl) fun r f=>?_;simp[f,m];exact rd (i+1) c (hn:=g4) (hh:=g5) (hr:=by simp;exact(a (i+1) c).2) (hr2:=(a (i+1) c).1)
  ·have:i=k:=by omega
   subst this;rcases g with⟨e1,_⟩|⟨y,n,e1,e2,e3,e4,e5,e6,s⟩
   ·omega
   ·rw[CO hi]at e1;injection e1 with e1
    subst e1;refine yk e2 rfl e3 l e4 (by rfl) (by rfl) fun r f=>?_;simp[f];exact .inr (df.og e5 trivial e6 trivial s)
 ·have:i=t.cs.length:=by omega
  subst this;rcases g with⟨e1,e2⟩|⟨y,n,e1,e2⟩
  ·have:t.cs.length=k:=by omega
   subst this;simp[e2]
  ·rw[ej (by simp;omega)]at e1;cases e1
theorem Td{t:ai}{v:NV}{i:Nat}(hn:∀p∈t.cs,et p)(d:bd 3000 v.q)(hi:i<t.cs.length):
 aq prog 86 [cM v,cM (c7 (t.at i))] (cM (v.sub (c7 (t.at i))))/\aq prog 154 [cM (t.cB i),cM (v.sub (c7 (t.at i)))] (eF ((t.cB i).bu (v.sub (c7 (t.at i)))))/\
 aq prog 143 [eF ((t.cB i).bu (v.sub (c7 (t.at i))))] (.int .i64 (t.side i v.q)):=by
 have a:=jV (ai.gl hn hi);have e:=jV (ai.gl hn (t.mg o_ i));have q1:bd 29 (t.cB i).q:=by rw[ai.cB,NV.dW];exact gY e a
 have f:bd 3015 (v.sub (c7 (t.at i))).q:=by rw[NV.dW];exact gY d a
 refine⟨yD v (c7 (t.at i)) (d.mono d_) (a.mono d_),CN (t.cB i) (v.sub (c7 (t.at i))) (q1.mono d_) (f.mono d_),?_⟩;have b:=mF ((t.cB i).bu (v.sub (c7 (t.at i))));have c:bL ((t.cB i).bu (v.sub (c7 (t.at i)))).q=t.side i v.q:=by rw[NV.lC,NV.dW,ai.uq];rfl
 rw[bL]at c;rw[c]at b;exact b
def NS.add(s t:NS):NS:=⟨s.a.add t.a,s.b.add t.b,s.d⟩
def NS.neg(s:NS):NS:=⟨s.a.neg,s.b.neg,s.d⟩
def NS.times(s:NS)(k:NF):NS:=⟨s.a.mul k,s.b.mul k,s.d⟩
def NB.bu(n:NB)(e:NV):NS:=⟨e.bu n.a,e.bu n.b,n.d⟩
theorem Ix(s t:NS)(hs:fV 30000 s)(c:fV 30000 t):aq prog 226 [fJ s,fJ t] (fJ (s.add t)):=by
 have d:=nH s.a t.a (hs.1.mono d_) (c.1.mono d_);have e:=nH s.b t.b (hs.2.1.mono d_) (c.2.1.mono d_);refine gA_ nf func226 mix ?_;rw[NS.add,qg];simp(maxDischargeDepth:=99) [f226,ad,e2 d,e2 e]
theorem H4(s:NS)(hs:fV 30000 s):aq prog 156 [fJ s] (fJ s.neg):=by
 have c:=ru s.a (hs.1.mono d_);have d:=ru s.b (hs.2.1.mono d_);refine gA_ nf func156 mix ?_;rw[NS.neg,qg];simp(maxDischargeDepth:=99) [f156,ad,e1 c,e1 d]
theorem Hr(s:NS)(k:NF)(hs:fV 30000 s)(hk:aQ 30000 k.q):aq prog 225 [fJ s,eF k] (fJ (s.times k)):=by
 have c:=fB s.a k (hs.1.mono d_) (hk.mono d_);have d:=fB s.b k (hs.2.1.mono d_) (hk.mono d_);refine gA_ nf func225 mix ?_;rw[NS.times,qg];simp(maxDischargeDepth:=99) [f225,ad,e2 c,e2 d]
theorem TG(n:NB)(e:NV)(hn:okB 8000 n)(c:bd 8000 e.q):aq prog 155 [lW n,cM e] (fJ (n.bu e)):=by
 have d:=CN e n.a (c.mono d_) (hn.1.mono d_);have f:=CN e n.b (c.mono d_) (hn.2.1.mono d_);refine gA_ nf func155 mix ?_;rw[NB.bu,qg];simp(maxDischargeDepth:=99) [f155,ad,e2 d,e2 f]
theorem Tm(v:NV):aq prog 95 [cM v] (lW ⟨v,⟨.int 0,.int 0⟩,.int 0⟩):=by
 have a:=mI 0 d_ d_;have b:=mI 0 d_ d_;have c:=mI 0 d_ d_;refine gA_ nf func95 mix ?_;rw[tH,pW (.int 0) (.int 0)];simp(maxDischargeDepth:=99) [f95,ad,e1 a,e1 b,e1 c]
def NS.plain(a d:NF):NS:=⟨a,.int 0,d⟩
def NS.norm(s:NS):NF:=(s.a.mul s.a).sub ((s.b.mul s.b).mul s.d)
open Classical in
noncomputable def NS.under(s:NS)(k:NF):NS:=if s.norm.q=0 then .plain (k.div (s.a.add s.a)) s.d else⟨(k.mul s.a).div s.norm,(k.mul s.b).neg.div s.norm,s.d⟩
theorem It(a d:NF):aq prog 227 [eF a,eF d] (fJ (.plain a d)):=by
 have b:=mI 0 d_ d_;refine gA_ nf func227 mix ?_;rw[NS.plain,qg];simp[f227,ad,e1 b]
theorem aHi{x:NF}(h:x.q≠0):(x.add x).q≠0:=by
 show x.q+x.q≠0;intro e;apply h
 grind
theorem aie(s:NS)(k:NF)(hs:fV 3000 s)(hk:aQ 3000 k.q)(e:s.norm.q=0->s.a.q≠0):aq prog 159 [fJ s,eF k] (fJ (s.under k)):=by
 have k1:=fB s.a s.a (hs.1.mono d_) (hs.1.mono d_);have k2:=fB s.b s.b (hs.2.1.mono d_) (hs.2.1.mono d_);have k3:=fB (s.b.mul s.b) s.d ((dJ hs.2.1 hs.2.1).mono d_) (hs.2.2.mono d_);have k4:=nF (s.a.mul s.a) ((s.b.mul s.b).mul s.d) ((dJ hs.1 hs.1).mono d_) ((dJ (dJ hs.2.1 hs.2.1) hs.2.2).mono d_);have k5:=mF s.norm;have k6:=nH s.a s.a (hs.1.mono d_) (hs.1.mono d_);have k7:=fun h:s.norm.q=0=>tI k (s.a.add s.a) (hk.mono d_) ((rV hs.1 hs.1).mono d_) (aHi (e h));have k8:=It (k.div (s.a.add s.a)) s.d;have i:=fB k s.a (hk.mono d_) (hs.1.mono d_);have f:=fun h:¬s.norm.q=0=>tI (k.mul s.a) s.norm ((dJ hk hs.1).mono d_) ((show aQ 15001 s.norm.q from(CP (dJ hs.1 hs.1) (dJ (dJ hs.2.1 hs.2.1) hs.2.2))).mono d_) h;have l:=fB k s.b (hk.mono d_) (hs.2.1.mono d_);have m:=ru (k.mul s.b) ((dJ hk hs.2.1).mono d_);have g:=fun h:¬s.norm.q=0=>tI ((k.mul s.b).neg) s.norm ((rU (dJ hk hs.2.1)).mono d_) ((show aQ 15001 s.norm.q from(CP (dJ hs.1 hs.1) (dJ (dJ hs.2.1 hs.2.1) hs.2.2))).mono d_) h;rw[show(s.a.mul s.a).sub ((s.b.mul s.b).mul s.d)=s.norm from rfl]at k4;refine gA_ nf func159 mix ?_;rw[NS.under]
 by_cases hz:s.norm.q=0
 ·have c:(if s.norm.q<0 then(-1:Int)else if s.norm.q=0 then 0 else 1)=0:=by rw[hz];rfl
  rw[c]at k5;have p:=k7 hz;rw[if_pos hz];clear k7 f g e hz c;generalize k.div (s.a.add s.a)=r,s.a.add s.a=t,s.norm=n at*;simp+decide (maxDischargeDepth:=99) [f159,ad,e2 k1,e2 k2,e2 k3,e2 k4,c1 k5,e2 k6,e2 p,e2 k8]
 ·have c:¬(if s.norm.q<0 then(-1:Int)else if s.norm.q=0 then 0 else 1)=0:=by
   split<;>decide
  have j:=f hz;have o:=g hz;rw[if_neg hz,qg];clear k7 f g e;generalize (if s.norm.q<0 then(-1:Int)else if s.norm.q=0 then 0 else 1)=u at*;clear hz;generalize (k.mul s.a).div s.norm=r1,(k.mul s.b).neg.div s.norm=t,s.norm=n at*;simp+decide (maxDischargeDepth:=99) [f159,ad,c,e2 k1,e2 k2,e2 k3,e2 k4,c1 k5,e2 i,e2 j,e2 l,e1 m,e2 o]
structure XD where
 i:Nat
 a:NV
 w:NV
 g:NF
 s:NS
noncomputable def ji(x:XD):PV:=.st 171 [yG x.i x.a x.w,eF x.g,fJ x.s]
@[simp] theorem aNp(x:XD):aL (ji x)=.agg 171:=rfl
@[simp] theorem aLO(x:XD):bW (ji x)=[yG x.i x.a x.w,eF x.g,fJ x.s]:=rfl
@[simp] theorem aJp:prog.cellsOf 171=33:=k_
def nM(x:XD):Prop:=x.i<=1000000/\aQ 1900 x.g.q/\fV 1900 x.s
def rC(x y:XD):Int:=if cJ ((y.s.times x.g).add ((x.s.times y.g).neg)).q=0 then(x.i:Int)-y.i else cJ ((y.s.times x.g).add ((x.s.times y.g).neg)).q
theorem wJ{a b:Nat}{s:NS}{k:NF}(hs:fV a s)(hk:aQ b k.q):fV (a+b) (s.times k):=⟨dJ hs.1 hk,dJ hs.2.1 hk,hs.2.2.mono o_⟩
theorem Hj{a:Nat}{s:NS}(hs:fV a s):fV a s.neg:=⟨rU hs.1,rU hs.2.1,hs.2.2⟩
theorem aAB{a b:Nat}{s t:NS}(hs:fV a s)(c:fV b t):fV (a+b+1) (s.add t):=⟨rV hs.1 c.1,rV hs.2.1 c.2.1,hs.2.2.mono o_⟩
theorem fV.mono{k l:Nat}{s:NS}(h:fV k s)(a:k<=l):fV l s:=⟨h.1.mono a,h.2.1.mono a,h.2.2.mono a⟩
theorem Tl(x y:XD)(hx:nM x)(b:nM y):aq prog 158 [ji x,ji y] (.int .i64 (rC x y)):=by
 obtain⟨x1,x2,x3⟩:=hx;obtain⟨y1,y2,y3⟩:=b;have k1:=Hr y.s x.g (y3.mono d_) (x2.mono d_);have k2:=Hr x.s y.g (x3.mono d_) (y2.mono d_);have k3:=H4 (x.s.times y.g) ((wJ x3 y2).mono d_);have k4:=Ix (y.s.times x.g) (x.s.times y.g).neg ((wJ y3 x2).mono d_) ((Hj (wJ x3 y2)).mono d_);have k5:=zj ((y.s.times x.g).add (x.s.times y.g).neg) ((aAB (wJ y3 x2) (Hj (wJ x3 y2))).mono d_);have w1:a0.wrap ((x.i:Int)-y.i)=(x.i:Int)-y.i:=aR _ o_ o_;refine gA_ nf func158 mix ?_;rw[rC];generalize cJ ((y.s.times x.g).add (x.s.times y.g).neg).q=r at*;generalize (y.s.times x.g).add (x.s.times y.g).neg=v1 at*;generalize (x.s.times y.g).neg=v2 at*;generalize x.s.times y.g=v3,y.s.times x.g=v4 at*
 by_cases a:r=0
 ·simp(maxDischargeDepth:=99) [f158,ad,a,w1,e2 k1,e2 k2,e1 k3,e2 k4,e1 k5]
 ·simp(maxDischargeDepth:=99) [f158,ad,a,e2 k1,e2 k2,e1 k3,e2 k4,e1 k5]
theorem aiy(x:XD)(hx:nM x)(b:x.s.norm.q=0->x.s.a.q≠0):aq prog 96 [ji x] (fJ (x.s.under x.g)):=by
 obtain⟨x1,x2,x3⟩:=hx;have k1:=aie x.s x.g (x3.mono d_) (x2.mono d_) b;refine gA_ nf func96 mix ?_;generalize x.s.under x.g=r at*;simp[f96,ad,c2 k1]
def tT(m x:XD):XD:=if rC x m<0 then x else m
def jk(m:XD)(l:List XD):XD:=l.foldl tT m
theorem CK(m:XD):jk m []=m:=List.foldl_nil
theorem Tt(m x:XD)(r:List XD):jk m (x::r)=jk (tT m x) r:=List.foldl_cons ..
def zF:PV:=.st 115 [.st 113 [.int .i64 0,.aK],.st 113 [.int .i64 0,.aK]]
def zV:PV:=.st 119 [zF,zF]
def yV:PV:=.st 171 [.st 169 [.int .i64 0,zV,zV],zF,.st 125 [zF,zF,zF]]
@[simp] theorem aPa:cG prog 172=some yV:=k_
@[simp] theorem aNW:aL yV=.agg 171:=rfl
theorem TP(a:XD)(l:List XD)(g:l.length<=1000000)(d:nM a)(hx:∀x∈l,nM x):
 aq prog 157 [.seq ((a::l).map ji),.func 158 [] []] (ji (jk a l)):=by
 refine gA_ nf func157 mix ?_;have e:¬((l.length:Int)+1<1):=o_
 simp[f157,e];refine lp (α:=Nat×XD) (fun(i,m)=>⟨[(6,.p (.int .i64 ((i+1:Nat):Int))),(5,.ptr 1 []),(4,.ptr 0 []),(0,.p (.seq (ji a::l.map ji))),(1,.p (.func 158 [] []))],[.box false (.p yV),.box false (.p (ji m))]⟩) (fun(i,m)=>i<=l.length/\nM m/\jk m (l.drop i)=jk a l) (fun(i,_)=>l.length-i) (0,a) (by simp;exact d) ?_ (he:=s_);rintro⟨i,m⟩ ⟨g1,g2,g3⟩;dsimp only at g1 g2 g3⊢
 by_cases hi:i<l.length
 ·have b:a0.wrap ((i:Int)+1+1)=(i:Int)+1+1:=aR _ o_ o_;have f:=Tl l[i] m (hx _ (c9 hi)) g2;rw[be hi,Tt]at g3;simp[hi];refine⟨o_,?_⟩;refine e2 f ?_;rw[tT]at g3
  by_cases c:rC l[i] m<0
  ·rw[if_pos c]at g3;simp[c,hi,b];exact⟨o_,rd (i+1,l[i]) ⟨hi,hx _ (c9 hi),g3⟩⟩
  ·rw[if_neg c]at g3;simp[c,b];exact rd (i+1,m) ⟨hi,g2,g3⟩
 ·have:i=l.length:=by omega
  subst this;rw[List.drop_length,CK]at g3;subst g3;simp
@[simp] theorem aMd:bW yV=[.st 169 [.int .i64 0,zV,zV],zF,.st 125 [zF,zF,zF]]:=rfl
def ai.ct(t:ai)(p:NV)(n:NB)(i:Nat):XD:=⟨i,c7 (t.at i),t.cB i,(t.cB i).bu (p.sub (c7 (t.at i))),(n.bu (t.cB i)).neg⟩
def ai.pos(t:ai)(n:NB)(i:Nat):Bool:=decide (0<cJ ((n.bu (t.cB i)).neg).q)
def ai.fL(t:ai)(p:NV)(n:NB)(m:Nat):List XD:=((cc m).filter (t.pos n)).map (t.ct p n)
theorem ai.CQ(t:ai)(p:NV)(n:NB)(m:Nat):t.fL p n (m+1)=if t.pos n m=true then t.fL p n m++[t.ct p n m]else t.fL p n m:=by
 rw[ai.fL,dg,List.filter_append,ei]
 by_cases h:t.pos n m=true
 ·rw[if_pos h,List.filter_cons_of_pos h];rfl
 ·rw[if_neg h,List.filter_cons_of_neg h,List.filter_nil,b4,List.append_nil];rfl
theorem ai.HP(t:ai)(p:NV)(n:NB)(m:Nat):(t.fL p n m).length<=m:=by
 rw[ai.fL,dl];have:=List.length_filter_le (t.pos n) (cc m)
 rwa [ea]at this
theorem zf{t:ai}{p:NV}{n:NB}{i:Nat}(j:t.cs.length<=1000000)(hn:∀c∈t.cs,et c)(f:bd 800 p.q)(d:okB 900 n)(hi:i<t.cs.length):nM (t.ct p n i):=by
 have e:=jV (ai.gl hn hi);have g:=jV (ai.gl hn (t.mg o_ i));have q1:bd 29 (t.cB i).q:=by rw[ai.cB,NV.dW];exact gY g e
 have h:bd 815 (p.sub (c7 (t.at i))).q:=by rw[NV.dW];exact gY f e
 refine⟨?_,?_,kU ?_,kU ?_,d.2.2.mono d_⟩
 ·show i<=1000000;omega
 ·show aQ 1900 ((t.cB i).bu (p.sub (c7 (t.at i)))).q;rw[NV.lC];exact(mS q1 h).mono d_
 ·show aQ 1900 ((t.cB i).bu n.a).q;rw[NV.lC];exact(mS q1 d.1).mono d_
 ·show aQ 1900 ((t.cB i).bu n.b).q;rw[NV.lC];exact(mS q1 d.2.1).mono d_
noncomputable def gI(t:ai)(p:NV)(n:NB)(s:AV)(L:eA):ah:=[.box false (.p (b7 t)),.box false (.p (cM p)),.box false (.p (lW n)),.box false (.p yV),.box false s,.loop L]
noncomputable def iL(t:ai)(p:NV)(n:NB)(L:eA):List XD->ah
 |[]=>gI t p n (.p .aK) L
 |x::r=>gI t p n (.sl 11 r.length 33 0 (r.length+1)) L++[.hole,.hole,.hole,.hole,.hole,.arr .grow r.length 33 ((x::r).map fun x=>.p (ji x))]
noncomputable def Qr(t:ai)(p:NV)(n:NB)(L:eA)(i:Nat):ah:=
 if t.pos n i=true then
  match t.fL p n i with
  |[]=>gI t p n (.sl 11 0 33 0 1) L++ie t i++[.hole,.hole,.hole,.arr .grow 0 33 [.p (ji (t.ct p n i))]]
  |x::r=>gI t p n (.sl 11 (r.length+1) 33 0 (r.length+2)) L++[.hole,.hole,.hole,.hole,.hole,.arr .grow (r.length+1) 33 ((x::r++[t.ct p n i]).map fun x=>.p (ji x))]++ie t i
 else iL t p n L (t.fL p n i)++ie t i
theorem Z9(t:ai)(p:NV)(n:NB)(u:t.cs.length<=1000000)(hn:∀c∈t.cs,et c)(y:bd 800 p.q)(d:okB 900 n)(o:XD)(l:List XD)(w:t.fL p n t.cs.length=o::l):aq prog 94 [b7 t,cM p,lW n] (ji (jk o l)):=by
 refine gA_ nf func94 mix ?_;simp[f94,ad];refine c1 (Z8 t) ?_;simp;refine rfd (aFq t u hn) rfl s_ (fun L i=>iL t p n L (t.fL p n i)) (fun L i=>Qr t p n L i) t.cs.length s_ (fun L=>rfl) ?_ ?_ ?_
 ·intro L a i hi;generalize t.fL p n i=z;cases z with
  |nil=>
   refine⟨rfl,by simp[iL,gI],fun _ hx=>?_⟩;simp[iL,gI]at hx⊢;exact hx
  |cons x r=>
   refine⟨rfl,by simp[iL,gI],fun _ hx=>?_⟩;simp[iL,gI]at hx⊢;exact hx
 ·intro L a i x hi hx;rw[CO o_]at hx;injection hx with hx
  subst hx;have B:=zf u hn y d hi;obtain⟨a1,a2,a3⟩:=Td hn (y.mono d_) hi;have hs:=ai.CQ t p n i;have v:=ai.HP t p n i;have F:=jV (ai.gl hn hi);have G:=jV (ai.gl hn (t.mg o_ i));have q1:bd 29 (t.cB i).q:=by rw[ai.cB,NV.dW];exact gY G F
  have H:fV 1900 (n.bu (t.cB i)).neg:=B.2.2;have I:fV 1900 (n.bu (t.cB i)):=⟨by rw[NB.bu,NV.lC];exact(mS q1 d.1).mono d_,by rw[NB.bu,NV.lC];exact(mS q1 d.2.1).mono d_,d.2.2.mono d_⟩
  have g:=TG n (t.cB i) (d.mono d_) (q1.mono d_);have k:=H4 (n.bu (t.cB i)) (I.mono d_);have m:=zj (n.bu (t.cB i)).neg (H.mono d_);have D:t.pos n i=decide (0<cJ ((n.bu (t.cB i)).neg).q):=rfl;have J:t.ct p n i=⟨i,c7 (t.at i),t.cB i,(t.cB i).bu (p.sub (c7 (t.at i))),(n.bu (t.cB i)).neg⟩:=rfl;rw[Qr];have e:=congrArg eA.env a;dsimp only at e;clear B H I q1 F G a3;generalize t.fL p n (i+1)=A,t.fL p n i=z at*
  by_cases b:t.pos n i=true
  case neg=>
   rw[if_neg b]at hs⊢;subst hs;have f:¬0<cJ ((n.bu (t.cB i)).neg).q:=by rw[D]at b;simpa using b
   have E:cJ ((n.bu (t.cB i)).neg).q<=0:=o_
   generalize cJ ((n.bu (t.cB i)).neg).q=K,(n.bu (t.cB i)).neg=v2,n.bu (t.cB i)=v1 at*;refine⟨?_,s_,fun j _ h=>h,by cases A<;>rfl,?_⟩
   ·cases A with
    |nil=>
     refine uf nf mix a rfl rfl k_ ?_;clear a;simp[iL,gI,rQ,ie,ad];refine c2 g ?_;simp[ad];refine c1 k ?_;simp[ad];refine c1 m ?_;simp[ad,f,E];refine df.og s_ s_ s_ s_ ?_;simp;exact wM e s_
    |cons x r=>
     refine uf nf mix a rfl rfl k_ ?_;clear a;simp[iL,gI,rQ,ie,ad];refine c2 g ?_;simp[ad];refine c1 k ?_;simp[ad];refine c1 m ?_;simp[ad,f,E];refine df.og s_ s_ s_ s_ ?_;simp;exact wM e s_
   ·cases A with
    |nil=>simp[iL,gI,ie]
    |cons x r=>simp[iL,gI,ie]
  rw[if_pos b]at hs⊢;have f:0<cJ ((n.bu (t.cB i)).neg).q:=by rw[D]at b;simpa using b
  rw[b,J]at*;generalize cJ ((n.bu (t.cB i)).neg).q=K,(n.bu (t.cB i)).neg=v2,n.bu (t.cB i)=v1,(t.cB i).bu (p.sub (c7 (t.at i)))=v3,p.sub (c7 (t.at i))=v4 at*;cases z with
  |nil=>
   rw[List.nil_append]at hs;subst hs;refine⟨?_,by simp[iL,gI,ie],fun j s h=>?_,rfl,?_⟩
   ·refine uf nf mix a rfl rfl k_ ?_;clear a;simp[iL,gI,rQ,ie,ad];refine c2 g ?_;simp[ad];refine c1 k ?_;simp[ad];refine c1 m ?_;simp[ad,f];refine e2_ a1 ?_;simp[ad];refine e2_ a2 ?_;simp[ad];refine⟨d_,⟨by repeat' first|rfl|apply aj,by repeat' first|rfl|apply aj⟩,?_⟩;refine df.og s_ s_ (by simp[ji]) s_ ?_;simp;exact wM e s_
   ·rcases j with _|_|_|_|_|_|_|_|j
    all_goals first|(simp[gI,ie]at h;done)|(simp[iL,gI,ie]at s;omega)
   ·simp[iL,gI,ie]
  |cons x r=>
   have M:r.length+2<=dc:=by
    have:i<=1000000:=o_
    rw[ed]at v;simp only[dc];omega
   rw[ee]at hs;subst hs;refine⟨?_,by simp[iL,gI,ie],fun j s h=>?_,by simp[iL,gI],?_⟩
   ·refine uf nf mix a rfl rfl k_ ?_;clear a;simp[iL,gI,rQ,ie,ad];refine c2 g ?_;simp[ad];refine c1 k ?_;simp[ad];refine c1 m ?_;simp[ad,f];refine e2_ a1 ?_;simp[ad];refine e2_ a2 ?_;simp[ad];refine⟨o_,⟨by repeat' first|rfl|apply aj,by repeat' first|rfl|apply aj⟩,?_⟩;refine df.og (by simp[ji]) s_ (by simp[ji]) s_ ?_;simp;exact wM e s_
   ·rcases j with _|_|_|_|_|_|_|_|_|_|_|_|_|_|j
    all_goals first|(simp[gI,ie]at h;done)|(simp[iL,gI,ie];done)|(simp[iL,gI,ie]at s;omega)
   ·simp[iL,gI,ie]
 ·intro L a;refine .inl ⟨s_,?_⟩;rw[w];simp[iL,gI];have C:∀x∈o::l,nM x:=fun x hx=>by
   rw[<-w,ai.fL]at hx;obtain⟨i,hi,rfl⟩:=cx.1 hx;exact zf u hn y d (da.1 (en.1 hi).1)
  have v:=ai.HP t p n t.cs.length;rw[w,ed]at v;refine cp (TP o l o_ (C _ dz) (fun x hx=>C x (dp _ hx))) (by simp[nO,lx,Ty (vs:=l.map ji) (l:=l.map fun x=>AV.p (ji x)) s_];exact⟨rfl,rfl⟩) ?_;simp
def ai.dY(t:ai)(d:V2)(i:Nat):Rat:=d.bu (t.dT i)
def ai.jj(t:ai)(p d:V2)(i:Nat):Rat:=(t.dT i).bu (p.sub (fW (t.at i)))/t.dY d i
def ai.ld(t:ai)(p d:V2):Nat->Int×Rat
 |0=>(-1,0)
 |m+1=>if bL (t.dY d m)<=0 then t.ld p d m else if(t.ld p d m).1<0\/cT (t.jj p d m) (t.ld p d m).2<0 then((m:Int),t.jj p d m)else t.ld p d m
theorem aAD{t:ai}{p d:V2}{i:Nat}(hn:∀c∈t.cs,et c)(f:bd 90 p)(e:bd 90 d)(hi:i<t.cs.length):aQ 239 (t.dY d i)/\aQ 269 ((t.dT i).bu (p.sub (fW (t.at i))))/\aQ 508 (t.jj p d i):=by
 have w:=ai.okW hn hi;have g:=jV (ai.gl hn hi);have a:=mS e w;have b:=mS w (gY f g);exact⟨a.mono d_,b.mono d_,(iK b a).mono d_⟩
theorem wF{t:ai}(h:iw t=0):3<=t.cs.length/\t.cs.length<=12/\(∀p∈t.cs,et p)/\t.fF=true:=by
 rw[Hi]at h
 by_cases d:nS t=0
 ·rw[if_pos d]at h
  by_cases e:rS t=0
  ·obtain⟨a,b,c⟩:=G8 d;refine⟨a,b,c,?_⟩;rw[rS,qM]at e;have f:=e (bh (!t.fF) 15) s_;cases hc:t.fF
   ·rw[hc]at f;simp[bh]at f
   ·rfl
  ·rw[if_neg e]at h;exact(e h).elim
 ·rw[if_neg d]at h;exact(d h).elim
def cV(v:NV):NB:=⟨v,⟨.int 0,.int 0⟩,.int 0⟩
def ph(d:bS):NB:=⟨.from d,⟨.int 0,.int 0⟩,.int 0⟩
theorem TS(x o:Int):gn x 0 o=x:=by
 rw[gn]
 by_cases h:x=0
 ·simp[h]
 ·simp;omega
theorem G4{s:S3}(c:s.b=0):cJ s=bL s.a:=by
 rw[cJ,c,show bL (0:Rat)=0 from rfl,a8,TS]
theorem Hq{a b:Rat}:cT a b<0↔a<b:=by
 rw[cT];constructor
 ·intro h
  split at h
  ·assumption
  ·split at h<;>omega
 ·intro h;rw[if_pos h];decide
theorem CS{a:Rat}:bL a<=0↔a<=0:=by
 rw[bL]
 split
 ·grind
 ·split<;>grind
theorem uw(t:ai)(d:NV)(i:Nat):((cV d).bu (t.cB i)).neg.q=⟨t.dY (d.q) i,0,0⟩:=by
 have c:((cV d).bu (t.cB i)).neg.a.q=t.dY (d.q) i:=by
  show -((t.cB i).bu (d)).q=_;rw[NV.lC,ai.uq,ai.dY,V2.bu,V2.bu]
  grind
 have e:((cV d).bu (t.cB i)).neg.b.q=0:=by
  show -((t.cB i).bu ⟨.int 0,.int 0⟩).q=0;rw[NV.lC];show -((t.cB i).q.x*0-(t.cB i).q.y*0)=0
  grind
 rw[NS.q,c,e];rfl
theorem Iy(t:ai)(d:NV)(i:Nat):t.pos (cV d) i=decide (0<t.dY (d.q) i):=by
 rw[ai.pos,uw,G4 rfl];dsimp only;have:=CS (a:=t.dY (d.q) i)
 by_cases h:0<t.dY (d.q) i
 ·have b:¬bL (t.dY (d.q) i)<=0:=fun e=>by have:=this.1 e;grind
  rw[decide_eq_true h,decide_eq_true o_]
 ·have b:bL (t.dY (d.q) i)<=0:=this.2 (by grind);rw[decide_eq_false h,decide_eq_false o_]
theorem Qv(t:ai)(p:bS)(n:NB)(i:Nat):(t.ct (.from p) n i).g.q=(t.dT i).bu ((vP p).sub (fW (t.at i))):=by
 show((t.cB i).bu ((NV.from p).sub (c7 (t.at i)))).q=_;rw[NV.lC,NV.dW,ai.uq];rfl
theorem C1(t:ai)(p:bS)(d:NV)(i:Nat):(t.ct (.from p) (cV d) i).s.norm.q=t.dY (d.q) i*t.dY (d.q) i:=by
 have h:=uw t d i;show(((((cV d).bu (t.cB i)).neg.a).mul (((cV d).bu (t.cB i)).neg.a)).sub (((((cV d).bu (t.cB i)).neg.b).mul (((cV d).bu (t.cB i)).neg.b)).mul (((cV d).bu (t.cB i)).neg.d))).q=_;rw[NF.dW];show(((cV d).bu (t.cB i)).neg.q.a)*(((cV d).bu (t.cB i)).neg.q.a)-(((cV d).bu (t.cB i)).neg.q.b)*(((cV d).bu (t.cB i)).neg.q.b)*(((cV d).bu (t.cB i)).neg.q.d)=_;rw[h]
 grind
theorem an3(t:ai)(p:bS)(d:NV)(i:Nat)(h:t.dY (d.q) i≠0):((t.ct (.from p) (cV d) i).s.under (t.ct (.from p) (cV d) i).g).a.q=t.jj (vP p) (d.q) i:=by
 have hn:=C1 t p d i;have f:=Qv t p (cV d) i;have hs:(t.ct (.from p) (cV d) i).s.a.q=t.dY (d.q) i:=congrArg S3.a (uw t d i);have c:¬(t.ct (.from p) (cV d) i).s.norm.q=0:=by
  rw[hn];intro e;rcases e9.1 e with e|e<;>exact h e
 generalize t.ct (.from p) (cV d) i=x at*;rw[NS.under,if_neg c];show x.g.q*x.s.a.q/x.s.norm.q=_;rw[hn,f,hs,ai.jj];generalize t.dY (d.q) i=a,(t.dT i).bu ((vP p).sub (fW (t.at i)))=b at*
 grind
theorem ajq(t:ai)(p:bS)(d:NV){i j:Nat}(v:j<i)(hi:0<t.dY (d.q) i)(r:0<t.dY (d.q) j):rC (t.ct (.from p) (cV d) i) (t.ct (.from p) (cV d) j)<0↔t.jj (vP p) (d.q) i<t.jj (vP p) (d.q) j:=by
 have e:∀a b:Nat,((t.ct (.from p) (cV d) b).s.times (t.ct (.from p) (cV d) a).g).q=⟨t.dY (d.q) b*(t.dT a).bu ((vP p).sub (fW (t.at a))),0,0⟩:=by
  intro a b;have o:=Qv t p (cV d) a;have hs:(t.ct (.from p) (cV d) b).s.q=⟨t.dY (d.q) b,0,0⟩:=uw t d b;generalize t.ct (.from p) (cV d) a=x,t.ct (.from p) (cV d) b=y at*;rw[NS.q]at hs⊢;injection hs with c f n
  show(⟨y.s.a.q*x.g.q,y.s.b.q*x.g.q,y.s.d.q⟩:S3)=_;rw[c,f,n,o,fp]
 have hc:(((t.ct (.from p) (cV d) j).s.times (t.ct (.from p) (cV d) i).g).add ((t.ct (.from p) (cV d) i).s.times (t.ct (.from p) (cV d) j).g).neg).q=⟨t.dY (d.q) j*(t.dT i).bu ((vP p).sub (fW (t.at i)))+-(t.dY (d.q) i*(t.dT j).bu ((vP p).sub (fW (t.at j)))),0,0⟩:=by
  have c:=e i j;have f:=e j i;generalize (t.ct (.from p) (cV d) j).s.times (t.ct (.from p) (cV d) i).g=x,(t.ct (.from p) (cV d) i).s.times (t.ct (.from p) (cV d) j).g=y at*;rw[NS.q]at c f⊢;injection c with a1 a2 a3
  injection f with l m u
  show(⟨x.a.q+-y.a.q,x.b.q+-y.b.q,x.d.q⟩:S3)=_;rw[a1,a2,a3,l,m,show(0:Rat)+-0=0 by grind]
 rw[rC,hc,G4 rfl];dsimp only;rw[ai.jj,ai.jj];show(if bL _=0 then(i:Int)-(j:Int)else bL _)<0↔_;generalize t.dY (d.q) i=a,t.dY (d.q) j=b,(t.dT i).bu ((vP p).sub (fW (t.at i)))=g,(t.dT j).bu ((vP p).sub (fW (t.at j)))=k at*;have key:b*g+-(a*k)<0↔g/a<k/b:=by
  rw[Rat.div_lt_iff hi,fb,fm,gb b⁻¹ a,<-fm,<-fb,Rat.lt_div_iff r];constructor<;>intro h<;>grind
 rw[bL]
 by_cases c1:b*g+-(a*k)<0
 ·rw[if_pos c1];exact⟨fun _=>key.1 c1,fun _=>by rw[if_neg d_];decide⟩
 ·rw[if_neg c1];have:¬g/a<k/b:=fun h=>c1 (key.2 h)
  by_cases c2:b*g+-(a*k)=0
  ·rw[if_pos c2,if_pos rfl];exact⟨fun h=>by omega,fun h=>(this h).elim⟩
  ·rw[if_neg c2,if_neg d_];exact⟨fun h=>by omega,fun h=>(this h).elim⟩
theorem IC(t:ai)(p:bS)(d:NV):∀m:Nat,match t.fL (.from p) (cV d) m with
  |[]=>t.ld (vP p) (d.q) m=(-1,0)
  |m0::l=>∃j,j<m/\0<t.dY (d.q) j/\jk m0 l=t.ct (.from p) (cV d) j/\t.ld (vP p) (d.q) m=((j:Int),t.jj (vP p) (d.q) j)
 |0=>rfl
 |m+1=>by
  have b:=IC t p d m;have hs:t.ld (vP p) (d.q) (m+1)=if bL (t.dY (d.q) m)<=0 then t.ld (vP p) (d.q) m else if(t.ld (vP p) (d.q) m).1<0\/cT (t.jj (vP p) (d.q) m) (t.ld (vP p) (d.q) m).2<0 then((m:Int),t.jj (vP p) (d.q) m)else t.ld (vP p) (d.q) m:=rfl
  rw[ai.CQ,Iy,hs]
  by_cases a:0<t.dY (d.q) m
  ·rw[decide_eq_true a,if_pos rfl,if_neg (fun h=>by have:=CS.1 h;grind)];generalize n:t.fL (.from p) (cV d) m=L at*;cases L with
   |nil=>
    dsimp only at b;rw[b,if_pos (.inl d_)];exact⟨m,o_,a,CK _,rfl⟩
   |cons m0 l=>
    obtain⟨j,i,e,f,g⟩:=b;rw[ee];dsimp only;have k:jk m0 (l++[t.ct (.from p) (cV d) m])=tT (jk m0 l) (t.ct (.from p) (cV d) m):=by
     rw[jk,ec];rfl
    have hc:=ajq t p d i a e;rw[k,f,g,tT];dsimp only
    by_cases c:t.jj (vP p) (d.q) m<t.jj (vP p) (d.q) j
    ·rw[if_pos (hc.2 c),if_pos (.inr (Hq.2 c))];exact⟨m,o_,a,rfl,rfl⟩
    ·rw[if_neg (fun h=>c (hc.1 h)),if_neg (fun h=>by
      rcases h with h|h
      ·omega
      ·exact c (Hq.1 h))]
     exact⟨j,o_,e,rfl,rfl⟩
  ·rw[decide_eq_false a,if_neg d_,if_pos (CS.2 (by grind))];generalize t.fL (.from p) (cV d) m=L at*;cases L with
   |nil=>exact b
   |cons m0 l=>
    obtain⟨j,i,e,f,g⟩:=b;exact⟨j,o_,e,f,g⟩
theorem aAs(t:ai)(p d:bS)(i:Nat):(t.ct (.from p) (ph d) i).s.norm.q=t.dY (vP d) i*t.dY (vP d) i:=C1 t p (.from d) i
theorem TD{dx dy a b c d:Rat}(f:dx*b-dy*a=0)(g:dx*d-dy*c=0)(h:¬a*d-b*c=0):dx=0/\dy=0:=by
 have e1:dx*(a*d-b*c)=0:=by grind
 have e2:dy*(a*d-b*c)=0:=by grind
 constructor
 ·rcases e9.1 e1 with e|e
  ·exact e
  ·exact(h e).elim
 ·rcases e9.1 e2 with e|e
  ·exact e
  ·exact(h e).elim
theorem ank(t:ai)(d:V2)(u:3<=t.cs.length)(hc:t.fF=true)(p:¬(d.x=0/\d.y=0)):∃i,i<t.cs.length/\0<t.dY d i:=by
 refine av fun q=>?_;have o:∀i,i<t.cs.length->t.dY d i<=0:=fun i hi=>by
  by_cases h:0<t.dY d i
  ·exact(q ⟨i,hi,h⟩).elim
  ·grind
 obtain⟨f,hf⟩:∃f:Nat->Rat,f=fun i=>d.bu (fW (t.at i)):=⟨_,rfl⟩
 have step:∀i,i<t.cs.length->f (t.nx i)<=f i:=fun i hi=>by
  have:=o i hi;rw[ai.dY,ai.dT,V2.bu,V2.sub]at this;rw[hf];dsimp only at this⊢;rw[V2.bu,V2.bu]
  grind
 have a:∀i,i+1<t.cs.length->t.nx i=i+1:=fun i hi=>Nat.mod_eq_of_lt hi;have s:t.nx (t.cs.length-1)=0:=by
  rw[ai.nx,Nat.sub_add_cancel o_];exact Nat.mod_self _
 have n:∀k,2+k<t.cs.length->f (2+k)<=f 2:=fun k=>by
  induction k with
  |zero=>intro _;exact Rat.le_refl
  |succ k r=>
   intro h;have g:=step (2+k) o_;rw[a _ o_]at g;exact Rat.le_trans g (r o_)
 have a1:=step 0 o_;have j:=step 1 o_;have l:=n (t.cs.length-3) o_;have m:=step (t.cs.length-1) o_;rw[a 0 o_]at a1;rw[a 1 o_]at j;rw[s]at m;rw[show 2+(t.cs.length-3)=t.cs.length-1 by omega]at l;have b:f 1=f 0:=by grind
 have c:f 2=f 0:=by grind
 rw[ai.fF,decide_eq_true_eq]at hc;have hx:=hc 0 o_ 2 o_ d_ (by rw[a 0 o_];decide);rw[a 0 o_,lD]at hx;rw[hf]at b c;dsimp only at b c;rw[V2.bu,V2.bu,fW,fW]at b c;dsimp only at b c;generalize t.at 0=A,t.at (0+1)=B,t.at 2=C at*;have hq:¬(((B.x:Rat)-A.x)*((C.y:Rat)-A.y)-((B.y:Rat)-A.y)*((C.x:Rat)-A.x))=0:=by
  intro e;have e2:(((B.x-A.x)*(C.y-A.y)-(B.y-A.y)*(C.x-A.x):Int):Rat)=((0:Int):Rat):=by
   rw[fa,fi,fi,fa,fa,fa,fa];exact e
  have:=Rat.intCast_inj.1 e2;omega
 exact p (TD (dx:=d.x) (dy:=d.y) (by grind) (by grind) hq)
theorem nR(s:List Nat)(n:Int):aq prog 135 [.str s,.int .i64 n] (.bool (decide ((s.length:Int)<=n))):=by
 refine gA_ nf func135 mix ?_;simp[f135]
def kL(p:dX):Bool:=decide (p.name.length<=40)&&(decide (p.a.length<=40)&&decide (p.b.length<=40))
def iN(s:cO):Bool:=decide (s.name.length<=40)&&(decide (s.pt.x.length<=40)&&decide (s.pt.y.length<=40))
def nU(t:ai):Bool:=!(decide (14<t.cs.length)||(decide (14<t.bp.length)||((decide (8<t.ar.length)&&decide (t.ar.length<=256))||decide (258<t.ar.length))))&&(t.bp.all kL&&t.ar.all iN)
theorem qw{α:Type}{f:α->Bool}{l:List α}{i:Nat}{x:α}(h:l[i]?=some x):(l.take (i+1)).all f=((l.take i).all f&&f x):=by
 rw[b3,h];simp
theorem jW{α:Type}{f:α->Bool}{l:List α}{i:Nat}{x:α}(h:l[i]?=some x)(hf:f x=false):l.all f=false:=by
 cases a:l.all f
 ·rfl
 ·rw[List.all_eq_true]at a;rw[a x (a9 h)]at hf;cases hf
theorem TH(t:ai)(A:t.cs.length<=1000000)(B:t.bp.length<=1000000)(C:t.ar.length<=1000000):aq prog 74 [de t] (.bool (nU t)):=by
 refine gA_ nf func74 mix ?_;have r:nU t=(!(decide (14<t.cs.length)||(decide (14<t.bp.length)||((decide (8<t.ar.length)&&decide (t.ar.length<=256))||decide (258<t.ar.length))))&&(t.bp.all kL&&t.ar.all iN)):=rfl
 by_cases c1:14<t.cs.length
 ·have o:(14:Int)<t.cs.length:=by omega
  have n:nU t=false:=by rw[r];simp[c1]
  simp[f74,ad,o,n]
 have o:¬(14:Int)<t.cs.length:=o_
 by_cases c2:14<t.bp.length
 ·have q:(14:Int)<t.bp.length:=by omega
  have n:nU t=false:=by rw[r];simp[c2]
  simp[f74,ad,o,q,n]
 have q:¬(14:Int)<t.bp.length:=o_
 have tail:(8<t.ar.length->¬t.ar.length<=256)->¬258<t.ar.length->nU t=(t.bp.all kL&&t.ar.all iN):=fun z w=>by
  rw[r]
  by_cases h:8<t.ar.length
  ·have:=z h;simp[c1,c2,h,this,w]
  ·simp[c1,c2,h,w]
 by_cases c3:8<t.ar.length
 ·have s:(8:Int)<t.ar.length:=by omega
  by_cases c4:t.ar.length<=256
  ·have v:(t.ar.length:Int)<=256:=by omega
   have n:nU t=false:=by rw[r];simp[c3,c4]
   simp[f74,ad,o,q,s,v,n]
  ·have v:¬(t.ar.length:Int)<=256:=by omega
   by_cases c5:258<t.ar.length
   ·have u:(258:Int)<t.ar.length:=by omega
    have n:nU t=false:=by rw[r];simp[c5]
    simp[f74,ad,o,q,s,v,u,n]
   ·have u:¬(258:Int)<t.ar.length:=by omega
    rw[tail (fun _=>c4) c5];simp[f74,ad,o,q,s,v,u];refine lp (α:=Nat) (fun i=>⟨[(3,.p (.int .i64 i)),(1,.ptr 0 [])],[.box false (.p (de t))]⟩) (fun i=>i<=t.bp.length/\(t.bp.take i).all kL=true) (fun i=>t.bp.length-i) 0 s_ ?_;rintro i ⟨k1,k2⟩
    by_cases hi:i<t.bp.length
    ·have c:=ai.mN hi;have m:=cH (i:=i) o_;have f:=nR (t.pk i).a 40;have j:=nR (t.pk i).b 40;have g:kL (t.pk i)=(decide ((t.pk i).name.length<=40)&&(decide ((t.pk i).a.length<=40)&&decide ((t.pk i).b.length<=40))):=rfl
     by_cases a1:(t.pk i).name.length<=40
     ·have d:¬(40:Int)<(t.pk i).name.length:=by omega
      by_cases a2:(t.pk i).a.length<=40
      ·have k:((t.pk i).a.length:Int)<=40:=by omega
       rw[decide_eq_true k]at f
       by_cases a3:(t.pk i).b.length<=40
       ·have l:((t.pk i).b.length:Int)<=40:=by omega
        rw[decide_eq_true l]at j;have e:kL (t.pk i)=true:=by rw[g];simp[a1,a2,a3]
        simp[hi,c,d,ad];refine c2_ f ?_;simp[hi,c,d,ad];refine c2_ j ?_;simp[hi,c,d,m,ad];exact rd (i+1) ⟨hi,by rw[qw c,k2,e];rfl⟩
       ·have l:¬((t.pk i).b.length:Int)<=40:=by omega
        rw[decide_eq_false l]at j;have e:kL (t.pk i)=false:=by rw[g];simp[a3]
        rw[jW c e];simp[hi,c,d,ad,m,c2_ f,c2_ j]
      ·have k:¬((t.pk i).a.length:Int)<=40:=by omega
       rw[decide_eq_false k]at f;have e:kL (t.pk i)=false:=by rw[g];simp[a2]
       rw[jW c e];simp[hi,c,d,ad,c2_ f]
     ·have d:(40:Int)<(t.pk i).name.length:=by omega
      have e:kL (t.pk i)=false:=by rw[g];simp[a1]
      rw[jW c e];simp[hi,c,d,ad]
    have:i=t.bp.length:=o_
    subst this;rw[bb]at k2;rw[k2,am];simp[ad];refine lp (α:=Nat) (fun i=>⟨[(4,.p (.int .i64 i)),(1,.ptr 0 [])],[.box false (.p (de t))]⟩) (fun i=>i<=t.ar.length/\(t.ar.take i).all iN=true) (fun i=>t.ar.length-i) 0 s_ ?_;rintro i ⟨k1,k2⟩
    by_cases hi:i<t.ar.length
    ·have c:=ai.eM hi;have m:=cH (i:=i) o_;have f:=nR (t.sp i).pt.x 40;have j:=nR (t.sp i).pt.y 40;have g:iN (t.sp i)=(decide ((t.sp i).name.length<=40)&&(decide ((t.sp i).pt.x.length<=40)&&decide ((t.sp i).pt.y.length<=40))):=rfl
     by_cases a1:(t.sp i).name.length<=40
     ·have d:¬(40:Int)<(t.sp i).name.length:=by omega
      by_cases a2:(t.sp i).pt.x.length<=40
      ·have k:((t.sp i).pt.x.length:Int)<=40:=by omega
       rw[decide_eq_true k]at f
       by_cases a3:(t.sp i).pt.y.length<=40
       ·have l:((t.sp i).pt.y.length:Int)<=40:=by omega
        rw[decide_eq_true l]at j;have e:iN (t.sp i)=true:=by rw[g];simp[a1,a2,a3]
        simp[hi,c,d,ad];refine c2_ f ?_;simp[hi,c,d,ad];refine c2_ j ?_;simp[hi,c,d,m,ad];exact rd (i+1) ⟨hi,by rw[qw c,k2,e];rfl⟩
       ·have l:¬((t.sp i).pt.y.length:Int)<=40:=by omega
        rw[decide_eq_false l]at j;have e:iN (t.sp i)=false:=by rw[g];simp[a3]
        rw[jW c e];simp[hi,c,d,ad,m,c2_ f,c2_ j]
      ·have k:¬((t.sp i).pt.x.length:Int)<=40:=by omega
       rw[decide_eq_false k]at f;have e:iN (t.sp i)=false:=by rw[g];simp[a2]
       rw[jW c e];simp[hi,c,d,ad,c2_ f]
     ·have d:(40:Int)<(t.sp i).name.length:=by omega
      have e:iN (t.sp i)=false:=by rw[g];simp[a1]
      rw[jW c e];simp[hi,c,d,ad]
    have:i=t.ar.length:=o_
    subst this;rw[bb]at k2;rw[k2];simp[ad]
 ·have s:¬(8:Int)<t.ar.length:=by omega
  have u:¬(258:Int)<t.ar.length:=o_
  rw[tail (fun h=>absurd h c3) o_];simp[f74,ad,o,q,s,u];refine lp (α:=Nat) (fun i=>⟨[(3,.p (.int .i64 i)),(1,.ptr 0 [])],[.box false (.p (de t))]⟩) (fun i=>i<=t.bp.length/\(t.bp.take i).all kL=true) (fun i=>t.bp.length-i) 0 s_ ?_;rintro i ⟨k1,k2⟩
  by_cases hi:i<t.bp.length
  ·have c:=ai.mN hi;have m:=cH (i:=i) o_;have f:=nR (t.pk i).a 40;have j:=nR (t.pk i).b 40;have g:kL (t.pk i)=(decide ((t.pk i).name.length<=40)&&(decide ((t.pk i).a.length<=40)&&decide ((t.pk i).b.length<=40))):=rfl
   by_cases a1:(t.pk i).name.length<=40
   ·have d:¬(40:Int)<(t.pk i).name.length:=by omega
    by_cases a2:(t.pk i).a.length<=40
    ·have k:((t.pk i).a.length:Int)<=40:=by omega
     rw[decide_eq_true k]at f
     by_cases a3:(t.pk i).b.length<=40
     ·have l:((t.pk i).b.length:Int)<=40:=by omega
      rw[decide_eq_true l]at j;have e:kL (t.pk i)=true:=by rw[g];simp[a1,a2,a3]
      simp[hi,c,d,ad];refine c2_ f ?_;simp[hi,c,d,ad];refine c2_ j ?_;simp[hi,c,d,m,ad];exact rd (i+1) ⟨hi,by rw[qw c,k2,e];rfl⟩
     ·have l:¬((t.pk i).b.length:Int)<=40:=by omega
      rw[decide_eq_false l]at j;have e:kL (t.pk i)=false:=by rw[g];simp[a3]
      rw[jW c e];simp[hi,c,d,ad,m,c2_ f,c2_ j]
    ·have k:¬((t.pk i).a.length:Int)<=40:=by omega
     rw[decide_eq_false k]at f;have e:kL (t.pk i)=false:=by rw[g];simp[a2]
     rw[jW c e];simp[hi,c,d,ad,c2_ f]
   ·have d:(40:Int)<(t.pk i).name.length:=by omega
    have e:kL (t.pk i)=false:=by rw[g];simp[a1]
    rw[jW c e];simp[hi,c,d,ad]
  have:i=t.bp.length:=o_
  subst this;rw[bb]at k2;rw[k2,am];simp[ad];refine lp (α:=Nat) (fun i=>⟨[(4,.p (.int .i64 i)),(1,.ptr 0 [])],[.box false (.p (de t))]⟩) (fun i=>i<=t.ar.length/\(t.ar.take i).all iN=true) (fun i=>t.ar.length-i) 0 s_ ?_;rintro i ⟨k1,k2⟩
  by_cases hi:i<t.ar.length
  ·have c:=ai.eM hi;have m:=cH (i:=i) o_;have f:=nR (t.sp i).pt.x 40;have j:=nR (t.sp i).pt.y 40;have g:iN (t.sp i)=(decide ((t.sp i).name.length<=40)&&(decide ((t.sp i).pt.x.length<=40)&&decide ((t.sp i).pt.y.length<=40))):=rfl
   by_cases a1:(t.sp i).name.length<=40
   ·have d:¬(40:Int)<(t.sp i).name.length:=by omega
    by_cases a2:(t.sp i).pt.x.length<=40
    ·have k:((t.sp i).pt.x.length:Int)<=40:=by omega
     rw[decide_eq_true k]at f
     by_cases a3:(t.sp i).pt.y.length<=40
     ·have l:((t.sp i).pt.y.length:Int)<=40:=by omega
      rw[decide_eq_true l]at j;have e:iN (t.sp i)=true:=by rw[g];simp[a1,a2,a3]
      simp[hi,c,d,ad];refine c2_ f ?_;simp[hi,c,d,ad];refine c2_ j ?_;simp[hi,c,d,m,ad];exact rd (i+1) ⟨hi,by rw[qw c,k2,e];rfl⟩
     ·have l:¬((t.sp i).pt.y.length:Int)<=40:=by omega
      rw[decide_eq_false l]at j;have e:iN (t.sp i)=false:=by rw[g];simp[a3]
      rw[jW c e];simp[hi,c,d,ad,m,c2_ f,c2_ j]
    ·have k:¬((t.sp i).pt.x.length:Int)<=40:=by omega
     rw[decide_eq_false k]at f;have e:iN (t.sp i)=false:=by rw[g];simp[a2]
     rw[jW c e];simp[hi,c,d,ad,c2_ f]
   ·have d:(40:Int)<(t.sp i).name.length:=by omega
    have e:iN (t.sp i)=false:=by rw[g];simp[a1]
    rw[jW c e];simp[hi,c,d,ad]
  have:i=t.ar.length:=o_
  subst this;rw[bb]at k2;rw[k2];simp[ad]
theorem VG(l:List dZ):gf prog 2 (l.map (AV.p∘cL)):=Bh (fun r=>⟨by simp[ad],by simp[ad]⟩) l
theorem ui{α:Type}{f:α->AV}{l:List α}{j:Nat}{x:α}(h:l[j+1]?=some x):(l.take (j+1+1)).map f=(l.map f).take (j+1)++[f x]:=by
 rw[b3 (i:=j+1),h,ei,dq];rfl
theorem lE{N:Nat×Nat->Prop}{α:Type}{f:α->PV}{k:Nat}{l:List α}:aZ N ((l.map (AV.p∘f)).take k)=True:=by
 rw[dP,eq_iff_iff,iff_true];intro x hx;obtain⟨a,_,rfl⟩:=cx.1 (List.mem_of_mem_take hx);trivial
theorem qy:fK=fR:=rfl
theorem qx:im=bG:=rfl
theorem uo{α:Type}{l:List α}{x:α}(h:l[0]?=some x):l.take 1=[x]:=by
 rw[b3 (i:=0),h];rfl
theorem TO(t:ai)(s:t.cs.length<=1000000)(u:t.bp.length<=1000000)(v:t.ar.length<=1000000):aq prog 8 [de t] (b7 t):=by
 have r:(1000000:Nat)<dc:=d_
 have w1:a0.wrap 1=1:=d_
 refine gA_ nf func8 mix ?_;simp[f8,ad];refine⟨⟨VG _,o_⟩,?_⟩
 by_cases hc:t.cs=[]
 ·simp[hc];refine⟨⟨by repeat' first|rfl|apply aj,by repeat' first|rfl|apply aj⟩,?_⟩;refine lp (α:=Nat) (fun i=>match i with
    |0=>⟨[(18,.p (.int .i64 0)),(17,.p (.int .i64 t.bp.length)),(16,.p (.seq (t.bp.map fR))),(3,.ptr 3 []),(2,.ptr 1 []),(1,.ptr 0 [])],[.box false (.p (de t)),.box false (.p (.st 39 [.aK,.int .i64 0,.aK,.aK])),.arr .exact 0 2 [],.box false (.st 39 [.sl 2 0 2 0 0,.p (.int .i64 t.aI),.p .aK,.p .aK])]⟩
    |m+1=>⟨[(18,.p (.int .i64 ((m+1:Nat):Int))),(17,.p (.int .i64 t.bp.length)),(16,.p (.seq (t.bp.map fR))),(3,.ptr 3 []),(2,.ptr 1 []),(1,.ptr 0 [])],[.box false (.p (de t)),.box false (.p (.st 39 [.aK,.int .i64 0,.aK,.aK])),.arr .exact 0 2 [],.box false (.st 39 [.sl 2 0 2 0 0,.p (.int .i64 t.aI),.sl 6 m 4 0 (m+1),.p .aK]),.hole,.hole,.arr .grow m 4 ((t.bp.take (m+1)).map (AV.p∘fR))]⟩) (fun i=>i<=t.bp.length) (fun i=>t.bp.length-i) 0 s_ ?_
  rintro i o
  by_cases hi:i<t.bp.length
  ·have a:=ai.mN hi;rcases i with _|j
   ·have b:=uo a;simp[hi,a,w1,ad];exact⟨o_,rd 1 hi (hh:=by simp[b]) (hr2:=by simp[lE])⟩
   ·have h:a0.wrap ((j:Int)+1+1)=(j:Int)+1+1:=aR _ o_ o_;have hI:(j:Int)+1<t.bp.length:=by omega
    have b:=ui (f:=AV.p∘fR) a;simp[hi,hI,a,h,ad];exact⟨o_,⟨o_,o_⟩,rd (j+2) hi (hh:=by simp at b;simp[b]) (hr2:=by simp[lE])⟩
  have q:i=t.bp.length:=o_
  rcases i with _|j
  ·have n:t.bp=[]:=b1.1 q.symm;simp[n,ad];refine lp (α:=Nat) (fun i=>match i with
     |0=>⟨[(32,.p (.int .i64 0)),(31,.p (.int .i64 t.ar.length)),(30,.p (.seq (t.ar.map bG))),(3,.ptr 3 []),(2,.ptr 1 []),(1,.ptr 0 [])],[.box false (.p (de t)),.box false (.p (.st 39 [.aK,.int .i64 0,.aK,.aK])),.arr .exact 0 2 [],.box false (.st 39 [.sl 2 0 2 0 0,.p (.int .i64 t.aI),.p .aK,.p .aK])]⟩
     |m+1=>⟨[(32,.p (.int .i64 ((m+1:Nat):Int))),(31,.p (.int .i64 t.ar.length)),(30,.p (.seq (t.ar.map bG))),(3,.ptr 3 []),(2,.ptr 1 []),(1,.ptr 0 [])],[.box false (.p (de t)),.box false (.p (.st 39 [.aK,.int .i64 0,.aK,.aK])),.arr .exact 0 2 [],.box false (.st 39 [.sl 2 0 2 0 0,.p (.int .i64 t.aI),.p .aK,.sl 6 m 3 0 (m+1)]),.hole,.hole,.arr .grow m 3 ((t.ar.take (m+1)).map (AV.p∘bG))]⟩) (fun i=>i<=t.ar.length) (fun i=>t.ar.length-i) 0 s_ ?_
   rintro i o
   by_cases hi:i<t.ar.length
   ·have a:=ai.eM hi;rcases i with _|j
    ·have b:=uo a;simp[hi,a,w1,ad];exact⟨o_,rd 1 hi (hh:=by simp[b]) (hr2:=by simp[lE])⟩
    ·have h:a0.wrap ((j:Int)+1+1)=(j:Int)+1+1:=aR _ o_ o_;have hI:(j:Int)+1<t.ar.length:=by omega
     have b:=ui (f:=AV.p∘bG) a;simp[hi,hI,a,h,ad];exact⟨o_,⟨o_,o_⟩,rd (j+2) hi (hh:=by simp at b;simp[b]) (hr2:=by simp[lE])⟩
   have d:i=t.ar.length:=o_
   rcases i with _|c
   ·have e:t.ar=[]:=b1.1 d.symm;simp[e,ad];simp[b7,hc,n,e,qy,qx]
   ·have hI:¬((c:Int)+1<t.ar.length):=by omega
    have g:t.ar.take (c+1)=t.ar:=by rw[d,bb]
    simp[hI,g,ad];have l:(t.ar.map (AV.p∘bG)).take (c+1)=t.ar.map (AV.p∘bG):=bl (by simp;omega);simp[b7,hc,n,l,qy,qx];omega
  ·have hI:¬((j:Int)+1<t.bp.length):=by omega
   have g:t.bp.take (j+1)=t.bp:=by rw[q,bb]
   simp[hI,g,ad];refine lp (α:=Nat) (fun i=>match i with
    |0=>⟨[(32,.p (.int .i64 0)),(31,.p (.int .i64 t.ar.length)),(30,.p (.seq (t.ar.map bG))),(3,.ptr 3 []),(2,.ptr 1 []),(1,.ptr 0 [])],[.box false (.p (de t)),.box false (.p (.st 39 [.aK,.int .i64 0,.aK,.aK])),.arr .exact 0 2 [],.box false (.st 39 [.sl 2 0 2 0 0,.p (.int .i64 t.aI),.sl 6 j 4 0 (j+1),.p .aK]),.hole,.hole,.arr .grow j 4 (t.bp.map (AV.p∘fR))]⟩
    |m+1=>⟨[(32,.p (.int .i64 ((m+1:Nat):Int))),(31,.p (.int .i64 t.ar.length)),(30,.p (.seq (t.ar.map bG))),(3,.ptr 3 []),(2,.ptr 1 []),(1,.ptr 0 [])],[.box false (.p (de t)),.box false (.p (.st 39 [.aK,.int .i64 0,.aK,.aK])),.arr .exact 0 2 [],.box false (.st 39 [.sl 2 0 2 0 0,.p (.int .i64 t.aI),.sl 6 j 4 0 (j+1),.sl 9 m 3 0 (m+1)]),.hole,.hole,.arr .grow j 4 (t.bp.map (AV.p∘fR)),.hole,.hole,.arr .grow m 3 ((t.ar.take (m+1)).map (AV.p∘bG))]⟩) (fun i=>i<=t.ar.length) (fun i=>t.ar.length-i) 0 s_ ?_
   rintro i o
   by_cases hi:i<t.ar.length
   ·have a:=ai.eM hi;rcases i with _|j
    ·have b:=uo a;simp[hi,a,w1,ad];exact⟨o_,rd 1 hi (hh:=by simp[b]) (hr2:=by simp[lE])⟩
    ·have h:a0.wrap ((j:Int)+1+1)=(j:Int)+1+1:=aR _ o_ o_;have hI:(j:Int)+1<t.ar.length:=by omega
     have b:=ui (f:=AV.p∘bG) a;simp[hi,hI,a,h,ad];exact⟨o_,⟨o_,o_⟩,rd (j+2) hi (hh:=by simp at b;simp[b]) (hr2:=by simp[lE])⟩
   have d:i=t.ar.length:=o_
   rcases i with _|c
   ·have e:t.ar=[]:=b1.1 d.symm;simp[e,ad];have k:(t.bp.map (AV.p∘fR)).take (j+1)=t.bp.map (AV.p∘fR):=bl (by simp;omega);simp[b7,hc,k,e,qy,qx];omega
   ·have hI:¬((c:Int)+1<t.ar.length):=by omega
    have g:t.ar.take (c+1)=t.ar:=by rw[d,bb]
    simp[hI,g,ad];have k:(t.bp.map (AV.p∘fR)).take (j+1)=t.bp.map (AV.p∘fR):=bl (by simp;omega);have l:(t.ar.map (AV.p∘bG)).take (c+1)=t.ar.map (AV.p∘bG):=bl (by simp;omega);simp[b7,hc,k,l,qy,qx];omega
 ·simp[hc];refine⟨⟨by repeat' first|rfl|apply aj,by repeat' first|rfl|apply aj⟩,?_⟩;refine lp (α:=Nat) (fun i=>match i with
    |0=>⟨[(18,.p (.int .i64 0)),(17,.p (.int .i64 t.bp.length)),(16,.p (.seq (t.bp.map fR))),(3,.ptr 4 []),(2,.ptr 1 []),(1,.ptr 0 [])],[.box false (.p (de t)),.box false (.p (.st 39 [.aK,.int .i64 0,.aK,.aK])),.arr .exact 0 2 [],.arr .grow 0 2 (t.cs.map (AV.p∘cL)),.box false (.st 39 [.sl 3 0 2 0 t.cs.length,.p (.int .i64 t.aI),.p .aK,.p .aK])]⟩
    |m+1=>⟨[(18,.p (.int .i64 ((m+1:Nat):Int))),(17,.p (.int .i64 t.bp.length)),(16,.p (.seq (t.bp.map fR))),(3,.ptr 4 []),(2,.ptr 1 []),(1,.ptr 0 [])],[.box false (.p (de t)),.box false (.p (.st 39 [.aK,.int .i64 0,.aK,.aK])),.arr .exact 0 2 [],.arr .grow 0 2 (t.cs.map (AV.p∘cL)),.box false (.st 39 [.sl 3 0 2 0 t.cs.length,.p (.int .i64 t.aI),.sl 7 m 4 0 (m+1),.p .aK]),.hole,.hole,.arr .grow m 4 ((t.bp.take (m+1)).map (AV.p∘fR))]⟩) (fun i=>i<=t.bp.length) (fun i=>t.bp.length-i) 0 s_ ?_
  rintro i o
  by_cases hi:i<t.bp.length
  ·have a:=ai.mN hi;rcases i with _|j
   ·have b:=uo a;simp[hi,a,w1,ad];exact⟨o_,rd 1 hi (hh:=by simp[b]) (hr2:=by simp[lE])⟩
   ·have h:a0.wrap ((j:Int)+1+1)=(j:Int)+1+1:=aR _ o_ o_;have hI:(j:Int)+1<t.bp.length:=by omega
    have b:=ui (f:=AV.p∘fR) a;simp[hi,hI,a,h,ad];exact⟨o_,⟨o_,o_⟩,rd (j+2) hi (hh:=by simp at b;simp[b]) (hr2:=by simp[lE])⟩
  have q:i=t.bp.length:=o_
  rcases i with _|j
  ·have n:t.bp=[]:=b1.1 q.symm;simp[n,ad];refine lp (α:=Nat) (fun i=>match i with
     |0=>⟨[(32,.p (.int .i64 0)),(31,.p (.int .i64 t.ar.length)),(30,.p (.seq (t.ar.map bG))),(3,.ptr 4 []),(2,.ptr 1 []),(1,.ptr 0 [])],[.box false (.p (de t)),.box false (.p (.st 39 [.aK,.int .i64 0,.aK,.aK])),.arr .exact 0 2 [],.arr .grow 0 2 (t.cs.map (AV.p∘cL)),.box false (.st 39 [.sl 3 0 2 0 t.cs.length,.p (.int .i64 t.aI),.p .aK,.p .aK])]⟩
     |m+1=>⟨[(32,.p (.int .i64 ((m+1:Nat):Int))),(31,.p (.int .i64 t.ar.length)),(30,.p (.seq (t.ar.map bG))),(3,.ptr 4 []),(2,.ptr 1 []),(1,.ptr 0 [])],[.box false (.p (de t)),.box false (.p (.st 39 [.aK,.int .i64 0,.aK,.aK])),.arr .exact 0 2 [],.arr .grow 0 2 (t.cs.map (AV.p∘cL)),.box false (.st 39 [.sl 3 0 2 0 t.cs.length,.p (.int .i64 t.aI),.p .aK,.sl 7 m 3 0 (m+1)]),.hole,.hole,.arr .grow m 3 ((t.ar.take (m+1)).map (AV.p∘bG))]⟩) (fun i=>i<=t.ar.length) (fun i=>t.ar.length-i) 0 s_ ?_
   rintro i o
   by_cases hi:i<t.ar.length
   ·have a:=ai.eM hi;rcases i with _|j
    ·have b:=uo a;simp[hi,a,w1,ad];exact⟨o_,rd 1 hi (hh:=by simp[b]) (hr2:=by simp[lE])⟩
    ·have h:a0.wrap ((j:Int)+1+1)=(j:Int)+1+1:=aR _ o_ o_;have hI:(j:Int)+1<t.ar.length:=by omega
     have b:=ui (f:=AV.p∘bG) a;simp[hi,hI,a,h,ad];exact⟨o_,⟨o_,o_⟩,rd (j+2) hi (hh:=by simp at b;simp[b]) (hr2:=by simp[lE])⟩
   have d:i=t.ar.length:=o_
   rcases i with _|c
   ·have e:t.ar=[]:=b1.1 d.symm;simp[e,ad];simp[b7,hc,n,e,qy,qx]
   ·have hI:¬((c:Int)+1<t.ar.length):=by omega
    have g:t.ar.take (c+1)=t.ar:=by rw[d,bb]
    simp[hI,g,ad];have l:(t.ar.map (AV.p∘bG)).take (c+1)=t.ar.map (AV.p∘bG):=bl (by simp;omega);simp[b7,hc,n,l,qy,qx];omega
  ·have hI:¬((j:Int)+1<t.bp.length):=by omega
   have g:t.bp.take (j+1)=t.bp:=by rw[q,bb]
   simp[hI,g,ad];refine lp (α:=Nat) (fun i=>match i with
    |0=>⟨[(32,.p (.int .i64 0)),(31,.p (.int .i64 t.ar.length)),(30,.p (.seq (t.ar.map bG))),(3,.ptr 4 []),(2,.ptr 1 []),(1,.ptr 0 [])],[.box false (.p (de t)),.box false (.p (.st 39 [.aK,.int .i64 0,.aK,.aK])),.arr .exact 0 2 [],.arr .grow 0 2 (t.cs.map (AV.p∘cL)),.box false (.st 39 [.sl 3 0 2 0 t.cs.length,.p (.int .i64 t.aI),.sl 7 j 4 0 (j+1),.p .aK]),.hole,.hole,.arr .grow j 4 (t.bp.map (AV.p∘fR))]⟩
    |m+1=>⟨[(32,.p (.int .i64 ((m+1:Nat):Int))),(31,.p (.int .i64 t.ar.length)),(30,.p (.seq (t.ar.map bG))),(3,.ptr 4 []),(2,.ptr 1 []),(1,.ptr 0 [])],[.box false (.p (de t)),.box false (.p (.st 39 [.aK,.int .i64 0,.aK,.aK])),.arr .exact 0 2 [],.arr .grow 0 2 (t.cs.map (AV.p∘cL)),.box false (.st 39 [.sl 3 0 2 0 t.cs.length,.p (.int .i64 t.aI),.sl 7 j 4 0 (j+1),.sl 10 m 3 0 (m+1)]),.hole,.hole,.arr .grow j 4 (t.bp.map (AV.p∘fR)),.hole,.hole,.arr .grow m 3 ((t.ar.take (m+1)).map (AV.p∘bG))]⟩) (fun i=>i<=t.ar.length) (fun i=>t.ar.length-i) 0 s_ ?_
   rintro i o
   by_cases hi:i<t.ar.length
   ·have a:=ai.eM hi;rcases i with _|j
    ·have b:=uo a;simp[hi,a,w1,ad];exact⟨o_,rd 1 hi (hh:=by simp[b]) (hr2:=by simp[lE])⟩
    ·have h:a0.wrap ((j:Int)+1+1)=(j:Int)+1+1:=aR _ o_ o_;have hI:(j:Int)+1<t.ar.length:=by omega
     have b:=ui (f:=AV.p∘bG) a;simp[hi,hI,a,h,ad];exact⟨o_,⟨o_,o_⟩,rd (j+2) hi (hh:=by simp at b;simp[b]) (hr2:=by simp[lE])⟩
   have d:i=t.ar.length:=o_
   rcases i with _|c
   ·have e:t.ar=[]:=b1.1 d.symm;simp[e,ad];have k:(t.bp.map (AV.p∘fR)).take (j+1)=t.bp.map (AV.p∘fR):=bl (by simp;omega);simp[b7,hc,k,e,qy,qx];omega
   ·have hI:¬((c:Int)+1<t.ar.length):=by omega
    have g:t.ar.take (c+1)=t.ar:=by rw[d,bb]
    simp[hI,g,ad];have k:(t.bp.map (AV.p∘fR)).take (j+1)=t.bp.map (AV.p∘fR):=bl (by simp;omega);have l:(t.ar.map (AV.p∘bG)).take (c+1)=t.ar.map (AV.p∘bG):=bl (by simp;omega);simp[b7,hc,k,l,qy,qx];omega
theorem anj(t:ai)(p:bS)(d:NV)(e:3<=t.cs.length)(hc:t.fF=true)(k:¬((d.q).x=0/\(d.q).y=0)):∃j,j<t.cs.length/\0<t.dY (d.q) j/\(∃a l,t.fL (.from p) (cV d) t.cs.length=a::l/\jk a l=t.ct (.from p) (cV d) j)/\t.ld (vP p) (d.q) t.cs.length=((j:Int),t.jj (vP p) (d.q) j):=by
 obtain⟨i,hi,n⟩:=ank t (d.q) e hc k;have h:=IC t p d t.cs.length;have m:t.ct (.from p) (cV d) i∈t.fL (.from p) (cV d) t.cs.length:=by
  rw[ai.fL];exact cx.2 ⟨i,en.2 ⟨da.2 hi,by rw[Iy,decide_eq_true n]⟩,rfl⟩
 generalize o:t.fL (.from p) (cV d) t.cs.length=L at*;cases L with
 |nil=>cases m
 |cons a l=>
  obtain⟨j,b,c,f,g⟩:=h;exact⟨j,b,c,⟨a,l,rfl,f⟩,g⟩
theorem am2(t:ai)(p d:bS)(b:3<=t.cs.length)(hc:t.fF=true)(c:¬((vP d).x=0/\(vP d).y=0)):∃j,j<t.cs.length/\0<t.dY (vP d) j/\(∃a l,t.fL (.from p) (ph d) t.cs.length=a::l/\jk a l=t.ct (.from p) (ph d) j)/\t.ld (vP p) (vP d) t.cs.length=((j:Int),t.jj (vP p) (vP d) j):=anj t p (.from d) b hc c
theorem aDy{x:bS}(hx:dM x=0):dA x=eV (vP x):=by
 obtain⟨g1,g2⟩:=jO hx;rw[eV,vP];dsimp only;rw[(jx g1).1,(jx g2).1]
def fu(r:Int)(a b:V2):Int:=cT ((a.sub b).dot (a.sub b)) (bR r)
def il(t:ai)(bef:List cO)(s:cO):Int:=
 if isName s.name=false then 8
 else if bef.any (fun o=>decide (o.name=s.name))=true then 9
 else if dM s.pt≠0 then dM s.pt
 else if t.on (vP s.pt)<0 then 16
 else if bef.any (fun o=>decide (fu t.aI (vP o.pt) (vP s.pt)<0))=true then 17 else 0
def sd(t b:ai):Int:=if 24<b.ar.length then 5 else lB (il t) b.ar
def iA(t b:ai):Int:=if iw t≠0 then iw t else sd t b
structure jK(b:ai):Prop where
 sl:b.ar.length<=1000000
 sp:∀s∈b.ar,oZ s
theorem uu{t:ai}(h:iw t=0):1<=t.aI/\t.aI<=1000:=by
 rw[iw]at h
 split at h
 ·omega
 split at h
 ·omega
 split at h
 ·omega
 split at h
 ·omega
 split at h
 ·omega
 omega
theorem wP{s:bS}(h:dM s=0):eV (vP s)=dA s/\bd 2000 (vP s):=by
 obtain⟨g1,g2⟩:=jO h;refine⟨?_,ig g1,ig g2⟩;rw[eV,vP];dsimp only;rw[(jx g1).1,(jx g2).1]
theorem IU(t:ai)(a:0<=t.aI)(b:t.aI<=1000000):aq prog 17 [de t] (.str (bk (bR t.aI))):=by
 have d:=yc a b;have c:=Fj (4*t.aI*t.aI) o_ o_;have w1:a0.wrap (4*t.aI)=4*t.aI:=aR _ o_ o_;have w2:a0.wrap (4*t.aI*t.aI)=4*t.aI*t.aI:=aR _ o_ o_;refine gA_ nf func17 mix ?_;rw[bR];simp[f17,ad,w1,w2,c1 c]
theorem Um(t:ai)(a b:V2)(d:0<=t.aI)(e:t.aI<=1000000)(f:bd 2000 a)(g:bd 2000 b):aq prog 206 [de t,eV a,eV b] (.int .i64 (fu t.aI a b)):=by
 have c:=gY f g;have k1:=FV a b (f.mono d_) (g.mono d_);have k2:=UY (a.sub b) (c.mono d_);have k3:=IU t d e;have k4:=ur ((a.sub b).dot (a.sub b)) (bR t.aI) ((fe c c).mono d_) ((qP d e).mono d_);refine gA_ nf func206 mix ?_;rw[fu];simp(maxDischargeDepth:=99) [f206,ad,e2 k1,e1 k2,e1 k3,e2 k4]
theorem Ip{α:Type}{f:α->Bool}{l:List α}{i j:Nat}{x:α}(h:l[j]?=some x)(a:j<i)(hf:f x=true):(l.take i).any f=true:=by
 rw[b0];exact⟨x,a9 (i:=j) (by rw[bw,if_pos a];exact h),hf⟩
theorem C6{t:ai}{a:List cO}{s:cO}(h:il t a s=0):dM s.pt=0:=by
 rw[il]at h
 split at h
 ·omega
 split at h
 ·omega
 split at h
 ·contradiction
 ·rename_i g;exact ao.1 g
theorem T4(t b:ai)(v:iw t=0)(z:jK b)(A:t.cs.length<=1000000):aq prog 137 [de t,.seq (b.ar.map bG)] (.int .i64 (sd t b)):=by
 obtain⟨O,B⟩:=z;obtain⟨_,_,hn,_⟩:=wF v;obtain⟨r0,r1⟩:=uu v;refine gA_ nf func137 mix ?_;rw[sd]
 by_cases c4:24<b.ar.length
 ·have cI:(24:Int)<b.ar.length:=by omega
  rw[if_pos c4];simp[f137,ad,cI]
 have x:¬(24:Int)<b.ar.length:=o_
 rw[if_neg c4];simp[f137,ad,x];refine lp (α:=Nat) (fun i=>⟨[(5,.p (.int .i64 i)),(2,.ptr 0 []),(1,.p (.seq (b.ar.map bG)))],[.box false (.p (de t))]⟩) (fun i=>i<=b.ar.length/\∀j,j<i->ij (il t) b.ar j=0) (fun i=>b.ar.length-i) 0 s_ ?_;rintro i ⟨s1,s2⟩
 by_cases hs:i<b.ar.length
 case neg=>
  have:i=b.ar.length:=o_
  subst this;rw[qu.2 s2];simp[ad]
 have a:=ai.eM hs;have C:=cH (i:=i) o_;obtain⟨H,I⟩:=B _ (a9 a);have f:=CJ (b.sp i).name H.1;have y:=Dn (b.sp i).pt I;have d:il t (b.ar.take i) (b.sp i)≠0->lB (il t) b.ar=il t (b.ar.take i) (b.sp i):=uh s2 a;have G:il t (b.ar.take i) (b.sp i)=0->∀j,j<i+1->ij (il t) b.ar j=0:=ug s2 a;have L:∀j,j<i->dM (b.sp j).pt=0:=fun j c=>by
  have:=s2 j c;rw[ij,ai.eM o_]at this;exact C6 this
 have ev:il t (b.ar.take i) (b.sp i)=if isName (b.sp i).name=false then 8 else if(b.ar.take i).any (fun o=>decide (o.name=(b.sp i).name))=true then 9 else if dM (b.sp i).pt≠0 then dM (b.sp i).pt else if t.on (vP (b.sp i).pt)<0 then 16 else if(b.ar.take i).any (fun o=>decide (fu t.aI (vP o.pt) (vP (b.sp i).pt)<0))=true then 17 else 0:=rfl
 clear s2;generalize il t (b.ar.take i) (b.sp i)=E,lB (il t) b.ar=M at*;cases l:isName (b.sp i).name
 ·rw[l]at f;rw[l,if_pos rfl]at ev;rw[d (by rw[ev];decide),ev];simp[hs,a,ad,c1_ f]
 rw[l]at f;rw[l,if_neg d_]at ev;simp[hs,a,ad];refine c1_ f ?_;simp[ad];refine lp (α:=Nat) (fun k=>⟨[(6,.p (.int .i64 k)),(5,.p (.int .i64 i)),(2,.ptr 0 []),(1,.p (.seq (b.ar.map bG)))],[.box false (.p (de t))]⟩) (fun k=>k<=i/\(b.ar.take k).any (fun o=>decide (o.name=(b.sp i).name))=false) (fun k=>i-k) 0 s_ ?_;rintro k ⟨k1,k2⟩
 by_cases hk:k<i
 ·have r:k<b.ar.length:=by omega
  have gk:=ai.eM r;have F:=cH (i:=k) o_
  by_cases h:(b.sp k).name=(b.sp i).name
  ·rw[if_pos (Ip gk hk (by simp[h]))]at ev;rw[d (by rw[ev];decide),ev];simp[hs,hk,r,gk,a,h,ad]
  ·simp[hs,hk,r,gk,a,h,F,ad];exact rd (k+1) ⟨hk,by rw[wG gk,k2];simp[h]⟩
 have:k=i:=o_
 subst this;rw[k2,if_neg d_]at ev;clear k1 k2 hk;have s:¬k<k:=o_
 simp[s,hs,a,ad];refine c1_ y ?_
 by_cases pe:dM (b.sp k).pt=0
 case neg=>
  rw[if_pos pe]at ev;rw[d (by rw[ev];exact pe),ev];simp[pe,ad]
 rw[if_neg (by simp[pe])]at ev;obtain⟨pl,ok⟩:=wP pe;have u:=Qb t (vP (b.sp k).pt) A hn (ok.mono d_);rw[pl]at u;simp[pe,hs,a,ad];refine e2_ u ?_
 by_cases m:t.on (vP (b.sp k).pt)<0
 ·rw[if_pos m]at ev;rw[d (by rw[ev];decide),ev];simp[m,ad]
 rw[if_neg m]at ev;simp[m,ad];refine lp (α:=Nat) (fun j=>⟨[(8,.p (.int .i64 j)),(5,.p (.int .i64 k)),(2,.ptr 0 []),(1,.p (.seq (b.ar.map bG)))],[.box false (.p (de t))]⟩) (fun j=>j<=k/\(b.ar.take j).any (fun o=>decide (fu t.aI (vP o.pt) (vP (b.sp k).pt)<0))=false) (fun j=>k-j) 0 s_ ?_;rintro j ⟨N,w⟩
 by_cases c:j<k
 ·have q:j<b.ar.length:=by omega
  have e:=ai.eM q;have D:=cH (i:=j) o_;obtain⟨K,J⟩:=wP (L j c);have n:=Um t (vP (b.sp j).pt) (vP (b.sp k).pt) o_ o_ J ok;rw[pl,K]at n
  by_cases g:fu t.aI (vP (b.sp j).pt) (vP (b.sp k).pt)<0
  ·rw[if_pos (Ip e c (by simp[g]))]at ev;rw[d (by rw[ev];decide),ev];simp[hs,c,q,e,a,ad,g,e3_ n]
  ·simp[hs,c,q,e,a,ad];refine e3_ n ?_;simp[g,D,ad];exact rd (j+1) ⟨c,by rw[wG e,w];simp[g]⟩
 have:j=k:=o_
 subst this;rw[w,if_neg d_]at ev;simp[s,C,ad];exact rd (j+1) ⟨hs,G ev⟩
theorem HT(t b:ai)(a:jJ t)(c:jK b):aq prog 76 [de t,.seq (b.ar.map bG)] (.int .i64 (iA t b)):=by
 have k1:=S8 t a;refine gA_ nf func76 mix ?_;rw[iA]
 by_cases h:iw t=0
 ·rw[if_neg (by simp[h])];have k2:=T4 t b h c a.cl;rw[h]at k1;simp[f76,ad,c1_ k1,c2_ k2]
 ·rw[if_pos h];generalize iw t=e at*;simp[f76,ad,h,c1_ k1]
theorem ahQ(v w:NV)(a:bd kQ v.q)(b:bd kQ w.q):aq prog 274 [fT v,fT w] (eF (v.dot w)):=by
 have c:=fB v.x w.x (dH a.1) (dH b.1);have d:=fB v.y w.y (dH a.2) (dH b.2);have e:=nH (v.x.mul w.x) (v.y.mul w.y) ((bC a.1 b.1).mono d_) ((bC a.2 b.2).mono d_);refine gA_ nf func274 mix ?_;rw[NV.dot];simp(maxDischargeDepth:=99) [f274,ad,e2 c,e2 d,e2 e]
theorem Uu(t:ai)(a:0<=t.aI)(b:t.aI<=1000000):aq prog 275 [b7 t] (eF (.width t.aI)):=by
 have d:=yc a b;have c:=mI (4*t.aI*t.aI) o_ o_;have w1:a0.wrap (4*t.aI)=4*t.aI:=aR _ o_ o_;have w2:a0.wrap (4*t.aI*t.aI)=4*t.aI*t.aI:=aR _ o_ o_;refine gA_ nf func275 mix ?_;rw[NF.width];simp[f275,ad,w1,w2,c1 c]
theorem Jt(a b:V2):(b.sub a).dot (b.sub a)=(a.sub b).dot (a.sub b):=by
 simp only[V2.sub,V2.dot]
 grind
theorem Uw(t:ai)(a b:NV)(d:0<=t.aI)(e:t.aI<=1000000)(f:bd 2000 a.q)(g:bd 2000 b.q):aq prog 238 [b7 t,fT a,fT b] (.int .i64 (fu t.aI a.q b.q)):=by
 have c:=gY g f;rw[<-NV.dW]at c;have k1:=CX b a (g.mono d_) (f.mono d_);have k2:=ahQ (b.sub a) (b.sub a) (c.mono d_) (c.mono d_);have k3:=Uu t d e;have k4:=ry ((b.sub a).dot (b.sub a)) (.width t.aI) (by rw[NV.lQ];exact(fe c c).mono d_) ((qP d e).mono d_);have hq:cT ((b.sub a).dot (b.sub a)).q (NF.width t.aI).q=fu t.aI a.q b.q:=by
  rw[fu,NV.lQ,NV.dW,Jt];rfl
 rw[hq]at k4;refine gA_ nf func238 mix ?_;simp(maxDischargeDepth:=99) [f238,ad,c2 k1,e2 k2,e1 k3,e2 k4]
def v7(p:cO):Prop:=oZ p/\dM p.pt=0
theorem aox(t:ai)(v:NV)(o:cO)(b:0<=t.aI)(c:t.aI<=1000000)(e:bd 2000 v.q)(d:v7 o):
 c8 prog 237 [.box false (.p (b7 t)),.box false (.p (fT v))] [.p (bG o),.ptr 0 [],.ptr 1 []] [.box false (.p (b7 t)),.box false (.p (fT v))] (.p (.bool (decide (fu t.aI (vP o.pt) v.q<0)))):=by
 obtain⟨⟨g,f⟩,a⟩:=d;obtain⟨g1,g2⟩:=jO a;obtain⟨_,ok⟩:=wP a;have k1:=F4 o.pt g1 g2 f;have k2:=Uw t (.from o.pt) v b c (by rw[gH];exact ok) e;rw[gH]at k2;generalize fu t.aI (vP o.pt) v.q=y,NV.from o.pt=n1 at*;refine gX nf (i_ func237) mix (by simp[f237]) ?_;simp[f237,ad];refine e1_ k1 ?_;simp[ad];refine e3_ k2 ?_;simp[ad];exact df.og s_ s_ s_ s_ s_
theorem Uh(t:ai)(v:NV)(l:List cO)(h:l.length<=1000000)(a:0<=t.aI)(b:t.aI<=1000000)(d:bd 2000 v.q)(c:∀o∈l,v7 o):
 c8 prog 232 [.box false (.p (b7 t)),.box false (.p (fT v))] [.p (.seq (l.map bG)),.func 237 [] [.ptr 0 [],.ptr 1 []]] [.box false (.p (b7 t)),.box false (.p (fT v))] (.p (.int .i64 (idxFrom (fun o=>decide (fu t.aI (vP o.pt) v.q<0)) l 0))):=by
 refine gX nf (i_ func232) mix (by simp[f232]) ?_;simp[f232];refine lp (α:=Nat) (fun i=>⟨[(8,.p (.int .i64 i)),(7,.p (.int .i64 l.length)),(1,.func 237 [] [.ptr 0 [],.ptr 1 []]),(0,.p (.seq (l.map bG)))],[.box false (.p (b7 t)),.box false (.p (fT v))]⟩) (fun i=>i<=l.length/\idxFrom (fun o=>decide (fu t.aI (vP o.pt) v.q<0)) l 0=idxFrom (fun o=>decide (fu t.aI (vP o.pt) v.q<0)) (l.drop i) i) (fun i=>l.length-i) 0 s_ ?_;rintro i ⟨k1,k2⟩;have e:=cH (i:=i) o_
 by_cases hi:i<l.length
 ·rw[be hi,idxFrom]at k2;simp[hi];refine cf (aox t v l[i] a b d (c _ (c9 hi))) [0,1] ?_
  by_cases hk:fu t.aI (vP l[i].pt) v.q<0
  ·simp[hk]at k2;simp[hk,k2,bt]
  ·simp[hk]at k2;simp[hk,e,bt];exact rd (i+1) ⟨hi,k2⟩
 ·have:i=l.length:=by omega
  subst this;simp[idxFrom]at k2;simp[k2]
theorem T7(t:ai)(v:NV)(l:List cO)(h:l.length<=1000000)(a:0<=t.aI)(b:t.aI<=1000000)(d:bd 2000 v.q)(c:∀o∈l,v7 o):
 c8 prog 178 [.box false (.p (b7 t)),.box false (.p (fT v))] [.p (.seq (l.map bG)),.func 237 [] [.ptr 0 [],.ptr 1 []]] [.box false (.p (b7 t)),.box false (.p (fT v))] (.p (.bool (l.any (fun o=>decide (fu t.aI (vP o.pt) v.q<0))))):=by
 refine gX nf (i_ func178) mix (by simp[f178]) ?_;simp[f178];refine cf (Uh t v l h a b d c) [0,1] ?_;have:=rP (fun o=>decide (fu t.aI (vP o.pt) v.q<0)) l 0;simp[bt,<-this]
theorem Uv(t:ai)(v:NV)(l:List cO)(h:l.length<=1000000)(a:0<=t.aI)(b:t.aI<=1000000)(d:bd 2000 v.q)(c:∀o∈l,v7 o):
 aq prog 183 [b7 t,.seq (l.map bG),fT v] (.bool (!l.any (fun o=>decide (fu t.aI (vP o.pt) v.q<0)))):=by
 have k1:=T7 t v l h a b d c;generalize (l.any (fun o=>decide (fu t.aI (vP o.pt) v.q<0)))=y at*;refine gA_ nf func183 mix ?_;simp[f183,ad];refine cf k1 [0,1] ?_;simp[ad,bt]
theorem Ur(p o:cO):c8 prog 179 [.box false (.p (bG p))] [.p (bG o),.ptr 0 []] [.box false (.p (bG p))] (.p (.bool (decide (o.name=p.name)))):=by
 refine gX nf (i_ func179) mix (by simp[f179]) ?_
 by_cases h:o.name=p.name
 ·simp[f179,ad,h];exact df.og s_ s_ s_ s_ s_
 ·simp[f179,ad,h];exact df.og s_ s_ s_ s_ s_
theorem Ug(p:cO)(l:List cO)(h:l.length<=1000000):
 c8 prog 232 [.box false (.p (bG p))] [.p (.seq (l.map bG)),.func 179 [] [.ptr 0 []]] [.box false (.p (bG p))] (.p (.int .i64 (idxFrom (fun o=>decide (o.name=p.name)) l 0))):=by
 refine gX nf (i_ func232) mix (by simp[f232]) ?_;simp[f232];refine lp (α:=Nat) (fun i=>⟨[(8,.p (.int .i64 i)),(7,.p (.int .i64 l.length)),(1,.func 179 [] [.ptr 0 []]),(0,.p (.seq (l.map bG)))],[.box false (.p (bG p))]⟩) (fun i=>i<=l.length/\idxFrom (fun o=>decide (o.name=p.name)) l 0=idxFrom (fun o=>decide (o.name=p.name)) (l.drop i) i) (fun i=>l.length-i) 0 s_ ?_;rintro i ⟨k1,k2⟩;have a:=cH (i:=i) o_
 by_cases hi:i<l.length
 ·rw[be hi,idxFrom]at k2;simp[hi];refine cf (Ur p l[i]) [0] ?_
  by_cases hk:l[i].name=p.name
  ·simp[hk]at k2;simp[hk,k2,bt]
  ·simp[hk]at k2;simp[hk,a,bt];exact rd (i+1) ⟨hi,k2⟩
 ·have:i=l.length:=by omega
  subst this;simp[idxFrom]at k2;simp[k2]
theorem T6(p:cO)(l:List cO)(h:l.length<=1000000):
 c8 prog 178 [.box false (.p (bG p))] [.p (.seq (l.map bG)),.func 179 [] [.ptr 0 []]] [.box false (.p (bG p))] (.p (.bool (l.any (fun o=>decide (o.name=p.name))))):=by
 refine gX nf (i_ func178) mix (by simp[f178]) ?_;simp[f178];refine cf (Ug p l h) [0] ?_;have:=rP (fun o=>decide (o.name=p.name)) l 0;simp[bt,<-this]
def wO(r:Int)(a:List cO)(v:V2):Bool:=a.any (fun o=>decide (fu r (vP o.pt) v<0))
def B9(t:ai)(a:List cO)(s:cO):Int:=bJ [bh (decide (t.on (vP s.pt)<0)) 16,bh (a.any (fun o=>decide (fu t.aI (vP o.pt) (vP s.pt)<0))) 17]
theorem Uz(t:ai)(a:List cO)(s:cO):il t a s=if jT a s=0 then B9 t a s else jT a s:=by
 rw[il,jT,B9];generalize t.on (vP s.pt)=y;generalize dM s.pt=x1;generalize (a.any fun o=>decide (o.name=s.name))=d;generalize (a.any fun o=>decide (fu t.aI (vP o.pt) (vP s.pt)<0))=e;generalize isName s.name=f;cases f
 ·simp[bJ,bh]
 cases d
 case true=>simp[bJ,bh]
 by_cases b:x1=0
 case neg=>simp[bJ,bh,b]
 by_cases c:y<0
 ·simp[bJ,bh,b,c]
 cases e
 ·simp[bJ,bh,b,c]
 ·simp[bJ,bh,b,c]
theorem ao5(t:ai)(s:cO)(a:List cO)(x:t.cs.length<=1000000)(j:iw t=0)(hs:oZ s)(i:a.length<=1000000)(w:∀o∈a,v7 o):
 c8 prog 177 [.box false (.p (b7 t))] [.p (bG s),.p (.seq (a.map bG)),.ptr 0 []] [.box false (.p (b7 t))] (.p (.int .i64 (il t a s))):=by
 obtain⟨_,_,hn,_⟩:=wF j;obtain⟨r0,r1⟩:=uu j;obtain⟨E,m⟩:=hs;have k1:=T6 s a i;have k2:=CR s.name E.1;have k3:=jq (!isName s.name) 8;have k4:=jq (a.any fun o=>decide (o.name=s.name)) 9;have k6:=zK s.pt m;have k8:=rR [bh (!isName s.name) 8,bh (a.any fun o=>decide (o.name=s.name)) 9,dM s.pt] s_;have b:=Hu (bef:=a) (s:=s);rw[Uz];have z:=fun h:jT a s=0=>F4 s.pt (jO (b h)).1 (jO (b h)).2 m;have k:=fun h:jT a s=0=>Qg t (.from s.pt) x hn (Dp ⟨(ig (jO (b h)).1).mono d_,(ig (jO (b h)).2).mono d_⟩);have A:=jq (decide (t.on (vP s.pt)<0)) 16;have l:jT a s=0->aq prog 183 [b7 t,.seq (a.map bG),fT (.from s.pt)] (.bool (!wO t.aI a (NV.from s.pt).q)):=fun h=>Uv t (.from s.pt) a i o_ o_ (Dp ⟨ig (jO (b h)).1,ig (jO (b h)).2⟩) w;have B:=jq (wO t.aI a (vP s.pt)) 17;have d:=rR [bh (decide (t.on (vP s.pt)<0)) 16,bh (wO t.aI a (vP s.pt)) 17] s_;simp only[gH]at k l;have f:jT a s=bJ [bh (!isName s.name) 8,bh (a.any fun o=>decide (o.name=s.name)) 9,dM s.pt]:=rfl;have g:B9 t a s=bJ [bh (decide (t.on (vP s.pt)<0)) 16,bh (wO t.aI a (vP s.pt)) 17]:=rfl;rw[<-f]at k8;rw[<-g]at d;clear f g b;generalize jT a s=e,B9 t a s=v,wO t.aI a (vP s.pt)=r,t.on (vP s.pt)=y,dM s.pt=x1,(a.any fun o=>decide (o.name=s.name))=n,isName s.name=u,NV.from s.pt=v1 at*;refine gX nf (i_ func177) mix (by simp[f177]) ?_;have D:aq prog 144 [.seq [.int .i64 (bh (!u) 8),.int .i64 (bh n 9),.int .i64 x1]] (.int .i64 e):=by simpa using k8
 have C:aq prog 144 [.seq [.int .i64 (bh (decide (y<0)) 16),.int .i64 (bh r 17)]] (.int .i64 v):=by simpa using d
 clear k8 d;generalize F:bh (!u) 8=w1,G:bh n 9=w2,H:bh (decide (y<0)) 16=w3,I:bh r 17=w4 at*;simp[f177,ad];refine cf k1 [1] ?_;simp[ad,bt,sig];refine e1_ k2 ?_;simp[ad];refine e2_ k3 ?_;simp[ad];refine e2_ k4 ?_;simp[ad];refine e1_ k6 ?_;simp[ad];refine ep D t_ t_ ?_;simp[ad];refine⟨r_,?_⟩
 by_cases c:e=0
 case neg=>
  simp[c,ad];exact df.og s_ s_ s_ s_ s_
 simp[c,ad];refine c1_ (z c) ?_;simp[ad];refine e2_ (k c) ?_;simp[ad];refine e2_ A ?_;simp[ad];refine e3_ (l c) ?_;simp[ad];refine e2_ B ?_;simp[ad];refine ep C t_ t_ ?_;simp[ad];refine⟨r_,?_⟩;exact⟨fun h=>(h c).elim,df.og s_ s_ s_ s_ s_⟩
theorem LO(l:List cO):gf prog 3 (l.map (AV.p∘bG)):=Bh (fun r=>⟨by simp[ad],by simp[ad]⟩) l
theorem ao6(t b:ai)(h:t.cs.length<=1000000)(l:iw t=0)(c:jK b):
 c8 prog 176 [.box false (.p (b7 t))] [.p (.seq (b.ar.map bG)),.p (.int .i64 24),.func 177 [] [.ptr 0 []]] [.box false (.p (b7 t))] (.p (.int .i64 (sd t b))):=by
 obtain⟨n,d⟩:=c;refine gX nf (i_ func176) mix (by simp[f176]) ?_;rw[sd]
 by_cases c1:24<b.ar.length
 ·have cI:(24:Int)<b.ar.length:=by omega
  rw[if_pos c1];simp[f176,cI]
 have e:¬(24:Int)<b.ar.length:=o_
 rw[if_neg c1];simp[f176,e];refine lp (α:=Nat) (fun i=>⟨[(16,.p (.int .i64 i)),(15,.p (.int .i64 b.ar.length)),(14,.p (.seq (b.ar.map bG))),(2,.func 177 [] [.ptr 0 []]),(0,.p (.seq (b.ar.map bG)))],[.box false (.p (b7 t))]⟩) (fun i=>i<=b.ar.length/\∀j,j<i->ij (il t) b.ar j=0) (fun i=>b.ar.length-i) 0 s_ ?_;rintro i ⟨k1,k2⟩
 by_cases hk:i<b.ar.length
 ·have gk:=ai.eM hk;have m:=cH (i:=i) o_;have a:=ao5 t (b.sp i) (b.ar.take i) h l (d _ (a9 gk)) (by rw[b5];omega) (fun o k=>by
   obtain⟨j,f,rfl⟩:=bv.1 k;rw[b5]at f;rw[db];have:=k2 j o_;have g:=ai.eM (t:=b) (i:=j) o_;rw[ij,g]at this;rw[ai.l8 o_];exact⟨d _ (a9 g),C6 this⟩)
  rw[dq]at a
  by_cases he:il t (b.ar.take i) (b.sp i)=0
  ·rw[he]at a;have:=ug k2 gk he;simp[hk,gk,ad];refine⟨⟨k1,LO _⟩,?_⟩;refine ef a [0] ?_;simp[m,ad,bt,sig];exact rd (i+1) ⟨hk,this⟩
  ·have c:=uh k2 gk he;rw[c];simp[hk,gk,ad];refine⟨⟨k1,LO _⟩,?_⟩;refine ef a [0] ?_;simp[he,ad,bt,sig];exact df.og s_ s_ s_ s_ s_
 ·have:i=b.ar.length:=by omega
  subst this;rw[qu.2 k2];simp
theorem TX(t b:ai)(a:jJ t)(c:jK b):aq prog 111 [b7 t,.seq (b.ar.map bG)] (.int .i64 (iA t b)):=by
 have k1:=Tc t a;refine gA_ nf func111 mix ?_;rw[iA]
 by_cases h:iw t=0
 ·rw[if_neg (by simp[h])];have k2:=ao6 t b a.cl h c;rw[h]at k1;simp[f111,ad];refine c1_ k1 ?_;simp[ad];refine cf k2 [0] ?_;simp[ad,bt]
 ·rw[if_pos h];generalize iw t=e at*;simp[f111,ad,h,c1_ k1]
noncomputable def nG(l:List cO):List (PV×PV):=l.map (fun s=>(.str s.name,cM (.from s.pt)))
def fO(l:List cO)(n:List Nat):Option cO:=l.find? (fun s=>decide (s.name=n))
theorem IJ(a b:List Nat):kJ (.str a) (.str b)=some (decide (b=a)):=by
 rw[kJ]
 by_cases h:b=a
 ·simp[h]
 ·simp[h];exact fun e=>h e.symm
@[simp] theorem IM(T:TypeId)(q:List Nat):∀l:List cO,gA prog T (nG l) (.str q)=some ((fO l q).map (fun s=>cM (.from s.pt)))
 |[]=>rfl
 |p::r=>by
  have:=IM T q r;rw[nG]at this;rw[nG,bi,gA,rE,IJ,fO,eo]
  ·by_cases h:p.name=q
   ·simp[h]
   ·simp[h,this,fO]
  ·intro u fs h;cases h
theorem Js(q:cO):∀{l:List cO},fO l q.name=none->gM (nG l) (.str q.name) (cM (.from q.pt))=nG (l++[q])
 |[],_=>rfl
 |p::r,h=>by
  rw[fO,eo]at h
  by_cases e:p.name=q.name
  ·simp[e]at h
  ·simp[e]at h;have:=Js q (l:=r) (by rw[fO,c6];simpa using h);rw[nG]at this⊢;rw[bi,gM,IJ,this];simp[e,nG]
noncomputable def po(t b:ai):PV:=.st 117 [b7 t,.seq (b.ar.map bG),.eJ (nG b.ar),eF (.width t.aI)]
@[simp] theorem aNm(t b:ai):aL (po t b)=.agg 117:=rfl
@[simp] theorem aLL(t b:ai):bW (po t b)=[b7 t,.seq (b.ar.map bG),.eJ (nG b.ar),eF (.width t.aI)]:=rfl
structure tV(b:ai):Prop where
 sl:b.ar.length<=24
 sp:∀s∈b.ar,v7 s
 ne:∀i,i<b.ar.length->fO (b.ar.take i) (b.sp i).name=none
theorem aAy{t b:ai}(l:jK b)(h:iA t b=0):iw t=0/\tV b/\(∀s∈b.ar,0<=t.on (vP s.pt)):=by
 rw[iA]at h
 by_cases c:iw t=0
 case neg=>rw[if_pos c]at h;exact absurd h c
 rw[if_neg (by simp[c]),sd]at h
 by_cases f:24<b.ar.length
 ·rw[if_pos f]at h;omega
 rw[if_neg f]at h;have k:=qu.1 h;have d:∀i,i<b.ar.length->il t (b.ar.take i) (b.sp i)=0:=fun i hi=>by
  have:=k i hi
  rwa [ij,ai.eM hi]at this
 refine⟨c,⟨o_,fun s hs=>?_,fun i hi=>?_⟩,fun s hs=>?_⟩
 ·obtain⟨j,a,rfl⟩:=bv.1 hs;rw[ai.l8 a];exact⟨l.sp _ (a9 (ai.eM a)),C6 (d j a)⟩
 ·have:=d i hi;rw[il]at this
  split at this
  ·omega
  split at this
  ·omega
  rename_i g;rw[fO,c6];intro x hx e;exact g (b0.2 ⟨x,hx,e⟩)
 ·obtain⟨j,a,rfl⟩:=bv.1 hs;rw[ai.l8 a];have:=d j a;rw[il]at this
  split at this
  ·omega
  split at this
  ·omega
  split at this
  ·contradiction
  split at this
  ·omega
  omega
def wN:PV:=.st 117 [.st 39 [.aK,.int .i64 0,.aK,.aK],.aK,.fM,.st 115 [.st 113 [.int .i64 0,.aK],.st 113 [.int .i64 0,.aK]]]
@[simp] theorem aNV:aL wN=.agg 117:=rfl
theorem TY(t b:ai)(f:0<=t.aI)(g:t.aI<=1000000)(j:tV b):aq prog 112 [b7 t,.seq (b.ar.map bG)] (po t b):=by
 obtain⟨q,k,e⟩:=j;have k1:=ais t.aI f g;refine gA_ nf func112 mix ?_;rw[po];simp[f112,ad];refine e1 k1 ?_;simp[ad];refine⟨rfl,?_⟩;refine lp (α:=Nat) (fun i=>⟨[(17,.p (.int .i64 i)),(16,.p (.int .i64 b.ar.length)),(15,.p (.seq (b.ar.map bG))),(5,.ptr 3 []),(4,.ptr 1 [])],[.box false (.p (b7 t)),.box false (.p wN),.map false (nG (b.ar.take i)),.box false (.st 117 [.p (b7 t),.p (.seq (b.ar.map bG)),.map 2,.p (eF (.width t.aI))])]⟩) (fun i=>i<=b.ar.length) (fun i=>b.ar.length-i) 0 s_ ?_ (hh:=by simp[wN,nG]);rintro i i1
 by_cases hi:i<b.ar.length
 ·have a:=ai.eM hi;have m:=cH (i:=i) o_;obtain⟨⟨r,n⟩,o⟩:=k _ (a9 a);obtain⟨g1,g2⟩:=jO o;have h:=FJ (b.sp i).pt g1 g2 n;have d:=Js (b.sp i) (e i hi);have l:b.ar.take (i+1)=b.ar.take i++[b.sp i]:=by rw[b3,a];rfl
  have c:=IM 9 (b.sp i).name (b.ar.take i);rw[e i hi]at c;rw[<-l]at d;generalize NV.from (b.sp i).pt=n1 at*;simp[hi,a,ad];refine e1 h ?_;simp[c,d,m,ad];exact rd (i+1) o_
 ·have:i=b.ar.length:=by omega
  subst this;simp[ad]
def Qq(p q:V2):PV:=.st 105 [eV p,eV q]
@[simp] theorem aNN(p q:V2):aL (Qq p q)=.agg 105:=rfl
@[simp] theorem aMb(p q:V2):bW (Qq p q)=[eV p,eV q]:=rfl
theorem CY{b:ai}(a:tV b){i:Nat}(hi:i<b.ar.length):fO b.ar (b.sp i).name=some (b.sp i):=by
 have h:=a.ne i hi;rw[fO]at h⊢;have e:b.ar=b.ar.take i++(b.sp i::b.ar.drop (i+1)):=by
  rw[<-ai.l8 hi,<-be hi,List.take_append_drop]
 generalize b.sp i=x at*;rw[e,List.find?_append,h];simp
def rY(t b:ai)(aU bI:List Nat):PV:=.st 28 [de t,.seq (b.ar.map bG),.str aU,.str bI]
@[simp] theorem aNE(t b:ai)(aU bI:List Nat):aL (rY t b aU bI)=.agg 28:=rfl
@[simp] theorem aL3(t b:ai)(aU bI:List Nat):bW (rY t b aU bI)=[de t,.seq (b.ar.map bG),.str aU,.str bI]:=rfl
theorem C9(b:ai)(name:List Nat)(k:b.ar.length<=1000000):aq prog 13 [.seq (b.ar.map bG),.str name] (.int .i64 (jr b name)):=by
 refine gA_ nf func13 mix ?_;simp[f13,ad];refine lp (α:=Nat) (fun i=>⟨[(5,.p (.int .i64 i)),(1,.p (.str name)),(0,.p (.seq (b.ar.map bG)))],[]⟩) (fun i=>i<=b.ar.length/\∀j,j<i->¬(b.sp j).name=name) (fun i=>b.ar.length-i) 0 s_ ?_;rintro i ⟨h,d⟩
 by_cases hi:i<b.ar.length
 ·have e:=ai.eM hi;have g:=cH (i:=i) o_
  by_cases a:(b.sp i).name=name
  ·have:jr b name=i:=by
    have:b.ar.findIdx? (fun s=>decide (s.name=name))=some i:=by
     rw[b2];refine⟨hi,by rw[ai.l8];simp[a],fun j c=>?_⟩;rw[ai.l8];simp[d j c]
    rw[jr,this]
   simp[hi,e,a,this,ad]
  ·simp[hi,e,a,g,ad];exact rd (i+1) ⟨hi,fun j c=>by
    by_cases f:j=i
    ·subst f;exact a
    ·exact d j o_⟩
 ·have:i=b.ar.length:=by omega
  subst this;have:jr b name= -1:=by
   have:b.ar.findIdx? (fun s=>decide (s.name=name))=none:=by
    rw[cy];intro s hs;obtain⟨j,c,rfl⟩:=bv.1 hs;rw[ai.l8];simp[d j c]
   rw[jr,this]
  simp[this,ad]
def hasB(b:ai)(name:List Nat)(i:Nat):Prop:=jr b name=i/\i<b.ar.length/\fO b.ar name=some (b.sp i)
theorem zn(b:ai)(name:List Nat):(∃i,hasB b name i)\/(jr b name= -1/\fO b.ar name=none):=by
 cases h:b.ar.findIdx? (fun s=>decide (s.name=name))with
 |some i=>
  left;have c:=h;rw[b2]at c;obtain⟨a,d,e⟩:=c;refine⟨i,by rw[jr,h],a,?_⟩;rw[fO,List.find?_eq_some_iff_getElem];rw[ai.l8 a]at d;exact⟨d,i,a,ai.l8 a,fun j f=>by have:=e j f;simpa using this⟩
 |none=>
  right;refine⟨by rw[jr,h],?_⟩;rw[cy]at h;rw[fO,c6];intro s hs;have:=h s hs;simpa using this
structure R5(t b:ai)(aU bI:List Nat)(i j:Nat):Prop where
 kM:iw t=0
 tl:t.cs.length<=1000000
 L:tV b
 FZ:∀s∈b.ar,bd 60 (vP s.pt)
 ci:hasB b aU i
 bj:hasB b bI j
theorem R5.at{t b:ai}{aU bI:List Nat}{i j:Nat}(h:R5 t b aU bI i j){k:Nat}(hk:k<b.ar.length):eV (vP (b.sp k).pt)=dA (b.sp k).pt/\bd 60 (vP (b.sp k).pt):=by
 have m:=a9 (ai.eM hk);exact⟨(wP (h.L.sp _ m).2).1,h.FZ _ m⟩
def zp(t b:ai)(aU bI:List Nat):PV:=.st 89 [b7 t,.seq (b.ar.map bG),.str aU,.str bI]
@[simp] theorem aND(t b:ai)(aU bI:List Nat):aL (zp t b aU bI)=.agg 89:=rfl
@[simp] theorem aL2(t b:ai)(aU bI:List Nat):bW (zp t b aU bI)=[b7 t,.seq (b.ar.map bG),.str aU,.str bI]:=rfl
def rW(t b:ai)(aU bI:List Nat):Int:=
 if iA t b≠0 then iA t b else if fO b.ar aU=none\/fO b.ar bI=none then 10 else if aU=bI then 9 else 0
theorem Ua(t b:ai)(aU bI:List Nat)(k:jJ t)(c:jK b):aq prog 28 [rY t b aU bI] (.int .i64 (rW t b aU bI)):=by
 have k1:=HT t b k c;have k2:=C9 b aU c.sl;have k3:=C9 b bI c.sl;have w1:a0.wrap (-1)= -1:=rfl;refine gA_ nf func28 mix ?_;rw[rW]
 by_cases h:iA t b=0
 case neg=>
  rw[if_pos h];generalize iA t b=e at*;simp[f28,ad,h,c2_ k1]
 rw[h]at k1;rw[if_neg (by simp[h])];rcases zn b aU with⟨i,i1,i2,i3⟩|⟨i1,i3⟩
 case inr=>
  rw[i1]at k2;rw[if_pos (.inl i3)];simp(maxDischargeDepth:=99) [f28,ad,c2_ k1,c2_ k2]
 have a:¬(i:Int)<0:=o_
 rw[i1]at k2;rcases zn b bI with⟨j,d,l,f⟩|⟨d,f⟩
 case inr=>
  rw[d]at k3;rw[if_pos (.inr f)];simp(maxDischargeDepth:=99) [f28,ad,a,c2_ k1,c2_ k2,c2_ k3]
 have g:¬(j:Int)<0:=o_
 rw[d]at k3;rw[if_neg (by rw[i3,f];simp)]
 by_cases e:aU=bI
 ·rw[if_pos e];simp(maxDischargeDepth:=99) [f28,ad,a,g,e,c2_ k1,c2_ k2,c2_ k3]
 ·rw[if_neg e];simp(maxDischargeDepth:=99) [f28,ad,a,g,e,c2_ k1,c2_ k2,c2_ k3]
noncomputable def Qp(t b:ai)(aU bI:List Nat):PV:=.st 179 [po t b,zp t b aU bI]
@[simp] theorem aNL(t b:ai)(aU bI:List Nat):aL (Qp t b aU bI)=.agg 179:=rfl
@[simp] theorem aL9(t b:ai)(aU bI:List Nat):bW (Qp t b aU bI)=[po t b,zp t b aU bI]:=rfl
def aIV:PV:=.st 39 [.aK,.int .i64 0,.aK,.aK]
def GR:PV:=.st 89 [aIV,.aK,.str [],.str []]
def SJ:PV:=.st 179 [wN,GR]
@[simp] theorem aNX:aL GR=.agg 89:=rfl
@[simp] theorem aNY:aL SJ=.agg 179:=rfl
@[simp] theorem aMe:bW SJ=[wN,GR]:=rfl
def qp(n:Nat)(l:List cO):Bool:=!((decide (n<l.length)&&decide (l.length<=24))||decide (26<l.length))&&l.all iN
theorem TV(b:ai)(n:Nat)(u:b.ar.length<=1000000)(hn:n<=1000):aq prog 75 [.seq (b.ar.map bG),.int .i64 n] (.bool (qp n b.ar)):=by
 refine gA_ nf func75 mix ?_;have o:qp n b.ar=(!((decide (n<b.ar.length)&&decide (b.ar.length<=24))||decide (26<b.ar.length))&&b.ar.all iN):=rfl;have tail:(n<b.ar.length->¬b.ar.length<=24)->¬26<b.ar.length->qp n b.ar=b.ar.all iN:=fun c a=>by
  rw[o]
  by_cases h:n<b.ar.length
  ·have:=c h;simp[h,this,a]
  ·simp[h,a]
 have loop:(n<b.ar.length->¬b.ar.length<=24)->¬26<b.ar.length->∀i,i<b.ar.length->(iN (b.sp i)=false->qp n b.ar=false):=fun c a i hi h=>by
  rw[tail c a];exact jW (ai.eM hi) h
 generalize qp n b.ar=R at*
 by_cases c1:n<b.ar.length/\b.ar.length<=24
 ·have v:(n:Int)<b.ar.length:=by omega
  have d:(b.ar.length:Int)<=24:=o_
  have l:R=false:=by rw[o];simp[c1]
  simp[f75,ad,c1.1,d,l]
 by_cases c2:26<b.ar.length
 ·have g:(26:Int)<b.ar.length:=by omega
  have d:¬(b.ar.length:Int)<=24:=o_
  have l:R=false:=by rw[o];simp[c2]
  by_cases c3:n<b.ar.length
  ·simp[f75,ad,c3,d,g,l]
  ·simp[f75,ad,c3,g,l]
 have g:¬(26:Int)<b.ar.length:=o_
 have tl:=tail (fun c a=>c1 ⟨c,a⟩) c2;have j:=loop (fun c a=>c1 ⟨c,a⟩) c2;clear tail loop o
 by_cases c3:n<b.ar.length
 all_goals
  have d:n<b.ar.length->¬(b.ar.length:Int)<=24:=fun h=>by omega
  first
  |(have d:=d c3;simp[f75,ad,c3,d,g])
  |simp[f75,ad,c3,g]
  refine lp (α:=Nat) (fun i=>⟨[(5,.p (.int .i64 i)),(0,.p (.seq (b.ar.map bG)))],[]⟩) (fun i=>i<=b.ar.length/\(b.ar.take i).all iN=true) (fun i=>b.ar.length-i) 0 s_ ?_;rintro i ⟨k1,k2⟩
  by_cases hi:i<b.ar.length
  ·have e:=ai.eM hi;have t:=cH (i:=i) o_;have k:=nR (b.sp i).pt.x 40;have q:=nR (b.sp i).pt.y 40;have m:iN (b.sp i)=(decide ((b.sp i).name.length<=40)&&(decide ((b.sp i).pt.x.length<=40)&&decide ((b.sp i).pt.y.length<=40))):=rfl;have j:=j i hi
   by_cases a1:(b.sp i).name.length<=40
   case neg=>
    have f:(40:Int)<(b.sp i).name.length:=o_
    have:=j (by rw[m];simp[a1]);simp[hi,e,f,this,ad]
   have f:¬(40:Int)<(b.sp i).name.length:=o_
   by_cases a2:(b.sp i).pt.x.length<=40
   case neg=>
    have r:¬((b.sp i).pt.x.length:Int)<=40:=o_
    rw[decide_eq_false r]at k;have:=j (by rw[m];simp[a2]);simp[hi,e,f,ad,this,c2_ k]
   have r:((b.sp i).pt.x.length:Int)<=40:=o_
   rw[decide_eq_true r]at k
   by_cases a3:(b.sp i).pt.y.length<=40
   case neg=>
    have s:¬((b.sp i).pt.y.length:Int)<=40:=o_
    rw[decide_eq_false s]at q;have:=j (by rw[m];simp[a3]);simp[hi,e,f,ad,this,c2_ k,c2_ q]
   have s:((b.sp i).pt.y.length:Int)<=40:=o_
   rw[decide_eq_true s]at q;simp[hi,e,f,ad];refine c2_ k ?_;simp[hi,e,ad];refine c2_ q ?_;simp[t,ad];exact rd (i+1) ⟨hi,by rw[qw e,k2,m];simp[a1,a2,a3]⟩
  ·have:i=b.ar.length:=by omega
   subst this;rw[bb]at k2;rw[tl,k2];simp
def mL(p:bS)(D:Nat):Bool:=eH p.x D&&eH p.y D
def mJ(t b:ai)(n D:Nat):Bool:=
 nU t&&(qp n b.ar&&(decide (b.ar.length<=n)&&(decide (iA t b=0)&&(decide (t.ar.length<=8)&&(t.bp.all (fun p=>eH p.a D&&eH p.b D)&&(t.ar.all (fun s=>mL s.pt D)&&b.ar.all (fun s=>mL s.pt D)))))))
theorem ZW(t b:ai)(n D:Nat)(H:jJ t)(G:jK b)(hn:n<=1000)(L:D<=1000):aq prog 27 [de t,.seq (b.ar.map bG),.int .i64 n,.int .i64 D] (.bool (mJ t b n D)):=by
 obtain⟨B,C,E,z,A⟩:=H;obtain⟨F,w⟩:=G;have g:=TH t B C E;have k:=TV b n F hn;have K:=HT t b ⟨B,C,E,z,A⟩ ⟨F,w⟩;refine gA_ nf func27 mix ?_;rw[mJ];generalize iA t b=e at*;cases u:nU t
 ·rw[u]at g;simp[f27,ad,c1_ g]
 rw[u]at g;cases v:qp n b.ar
 ·rw[v]at k;simp(maxDischargeDepth:=99) [f27,ad,c1_ g,c2_ k]
 rw[v]at k;simp[f27,ad];refine c1_ g ?_;simp[ad];refine c2_ k ?_
 by_cases l:b.ar.length<=n
 case neg=>
  have q:n<b.ar.length:=o_
  simp[l,q,ad]
 have q:¬n<b.ar.length:=o_
 simp[l,q,ad];refine c2_ K ?_
 by_cases j:e=0
 case neg=>simp[j,ad]
 by_cases m:t.ar.length<=8
 case neg=>
  have r:(8:Int)<t.ar.length:=o_
  simp[j,m,r,ad]
 have r:¬(8:Int)<t.ar.length:=o_
 simp[j,m,r,ad];refine lp (α:=Nat) (fun i=>⟨[(9,.p (.int .i64 i)),(4,.ptr 0 []),(3,.p (.int .i64 D)),(1,.p (.seq (b.ar.map bG)))],[.box false (.p (de t))]⟩) (fun i=>i<=t.bp.length/\(t.bp.take i).all (fun p=>eH p.a D&&eH p.b D)=true) (fun i=>t.bp.length-i) 0 s_ ?_;rintro i ⟨i1,i2⟩
 by_cases hi:i<t.bp.length
 ·have c:=ai.mN hi;have f:=cH (i:=i) o_;obtain⟨_,I,J⟩:=z _ (a9 c);have d:=B8 (t.pk i).a D I o_;have f2:=B8 (t.pk i).b D J o_;have bad:(eH (t.pk i).a D&&eH (t.pk i).b D)=false->t.bp.all (fun p=>eH p.a D&&eH p.b D)=false:=fun h=>jW c h;cases a1:eH (t.pk i).a D
  ·rw[a1]at d;rw[bad (by rw[a1];rfl)];simp[hi,c,ad,c2_ d]
  rw[a1]at d;cases a2:eH (t.pk i).b D
  ·rw[a2]at f2;rw[bad (by rw[a2];simp)];simp(maxDischargeDepth:=99) [hi,c,ad,c2_ d,c2_ f2]
  rw[a2]at f2;simp[hi,c,ad];refine c2_ d ?_;simp[hi,c,ad];refine c2_ f2 ?_;simp[f,ad];exact rd (i+1) ⟨hi,by rw[qw c,i2,a1,a2];rfl⟩
 have:i=t.bp.length:=o_
 subst this;rw[bb]at i2;rw[i2];clear i1 i2 hi;simp[ad];refine lp (α:=Nat) (fun i=>⟨[(10,.p (.int .i64 i)),(4,.ptr 0 []),(3,.p (.int .i64 D)),(1,.p (.seq (b.ar.map bG)))],[.box false (.p (de t))]⟩) (fun i=>i<=t.ar.length/\(t.ar.take i).all (fun s=>mL s.pt D)=true) (fun i=>t.ar.length-i) 0 s_ ?_;rintro i ⟨i1,i2⟩
 by_cases hi:i<t.ar.length
 ·have c:=ai.eM hi;have f:=cH (i:=i) o_;have d:=Fc (t.sp i).pt D (A _ (a9 c)).2 o_;have o:mL (t.sp i).pt D=(eH (t.sp i).pt.x D&&eH (t.sp i).pt.y D):=rfl;rw[<-o]at d;cases a1:mL (t.sp i).pt D
  ·rw[a1]at d;rw[jW c a1];simp[hi,c,ad,c2_ d]
  rw[a1]at d;simp[hi,c,ad];refine c2_ d ?_;simp[f,ad];exact rd (i+1) ⟨hi,by rw[qw c,i2,a1];rfl⟩
 have:i=t.ar.length:=o_
 subst this;rw[bb]at i2;rw[i2];clear i1 i2 hi;simp[ad];refine lp (α:=Nat) (fun i=>⟨[(11,.p (.int .i64 i)),(3,.p (.int .i64 D)),(1,.p (.seq (b.ar.map bG)))],[]⟩) (fun i=>i<=b.ar.length/\(b.ar.take i).all (fun s=>mL s.pt D)=true) (fun i=>b.ar.length-i) 0 s_ ?_;rintro i ⟨i1,i2⟩
 by_cases hi:i<b.ar.length
 ·have c:=ai.eM hi;have f:=cH (i:=i) o_;have d:=Fc (b.sp i).pt D (w _ (a9 c)).2 o_;have o:mL (b.sp i).pt D=(eH (b.sp i).pt.x D&&eH (b.sp i).pt.y D):=rfl;rw[<-o]at d;cases a1:mL (b.sp i).pt D
  ·rw[a1]at d;rw[jW c a1];simp[hi,c,ad,c2_ d]
  rw[a1]at d;simp[hi,c,ad];refine c2_ d ?_;simp[f,ad];exact rd (i+1) ⟨hi,by rw[qw c,i2,a1];rfl⟩
 have:i=b.ar.length:=o_
 subst this;rw[bb]at i2;rw[i2];simp[l,j,m,ad]
def Iw(t b:ai)(aU bI:List Nat)(n:Nat):Bool:=
 decide (aU.length<=40)&&(decide (bI.length<=40)&&(nU t&&(qp n b.ar&&(decide (iA t b≠0)||mJ t b n 9))))
theorem T3(b:ai)(f:b.ar.length<=1000000):aq prog 9 [.seq (b.ar.map bG)] (.seq (b.ar.map bG)):=by
 have g:(1000000:Nat)<dc:=d_
 have w1:a0.wrap 1=1:=d_
 refine gA_ nf func9 mix ?_;simp[f9,ad];refine lp (α:=Nat) (fun i=>⟨[(8,.p (.int .i64 i)),(7,.p (.int .i64 b.ar.length)),(6,.p (.seq (b.ar.map bG))),(3,.sl 0 i 3 0 i)],[.arr .grow i 3 ((b.ar.map (AV.p∘bG)).take i)]⟩) (fun i=>i<=b.ar.length) (fun i=>b.ar.length-i) 0 s_ ?_;rintro i i1
 by_cases hi:i<b.ar.length
 ·have a:=ai.eM hi;have e:=cH (i:=i) o_;have d:(b.ar.map (AV.p∘bG)).take (i+1)=(b.ar.map (AV.p∘bG)).take i++[.p (bG (b.sp i))]:=by
   rw[b3,eb,a];rfl
  have c:min i b.ar.length=i:=o_
  simp[hi,a,e,c,ad];exact⟨o_,rd (i+1) hi (hh:=by simp[d]) (hr2:=by simp[lE])⟩
 ·have:i=b.ar.length:=by omega
  subst this;simp[ad]
theorem T9{t b:ai}{aU bI:List Nat}(h:rW t b aU bI=0):iA t b=0/\fO b.ar aU≠none/\fO b.ar bI≠none/\aU≠bI:=by
 rw[rW]at h
 by_cases a:iA t b=0
 case neg=>rw[if_pos a]at h;exact absurd h a
 rw[if_neg (by simp[a])]at h
 by_cases c:fO b.ar aU=none\/fO b.ar bI=none
 ·rw[if_pos c]at h;omega
 rw[if_neg c]at h
 by_cases d:aU=bI
 ·rw[if_pos d]at h;omega
 exact⟨a,fun e=>c (.inl e),fun e=>c (.inr e),d⟩
structure yX where
 t:ai
 b:ai
 aU:List Nat
 bI:List Nat
def Qo(s:yX):PV:=rY s.t s.b s.aU s.bI
structure R6(s:yX):Prop where
 t:jJ s.t
 b:jK s.b
 aU:jG s.aU
 bI:jG s.bI
section
variable{H:Type}{W:World}{aa:Nat->Prop}
theorem aHy:∃a b:aT,prog.underlying 60=some (.struct #[a,b])/\a.type=9/\b.type=32:=⟨_,_,underlying60,rfl,rfl⟩
theorem SA:prog.underlyingId 60=59:=k_
theorem Un{m n:Nat}(s:m=n+2){d:ay H}(h:∃cs,aX prog W aa (bM prog (m+1) 60 d) cs)(o:Rows.uptoBulk d<=1048576):∃p:cO,bM prog (m+1) 60 d=bG p/\oZ p/\2<=Rows.uptoBulk d:=by
 obtain⟨cs,h⟩:=h;obtain⟨f0,f1,g,t0,t1⟩:=aHy;cases d with
 |agg l=>
  have f:∀x∈l,Rows.uptoBulk x<=1048576:=fun x hx=>by
   have:=rA.vM hx;rw[Rows.uptoBulk]at o;omega
  simp only[bM,g,aX]at h⊢;obtain⟨u,t,e,c,_⟩:=h;rw[SA,Sw]at e;cases e
  match l,c with
  |[],c=>simp[bn]at c
  |[x],c=>simp[bn]at c
  |x::y::r,c=>
   have:=za x;simp only[ca,bi,bn,cb,b4,t0,t1]at c⊢;obtain⟨c0,_,_,g1,_,c1,_,_,g2,_⟩:=c;subst s;obtain⟨a,i,k⟩:=wL (n:=n+1) ⟨c0,g1⟩ (f x s_);obtain⟨b,j,q⟩:=Ew (n:=n) ⟨c1,g2⟩ (f y s_);refine⟨⟨a,b⟩,by rw[i,j,SA];rfl,⟨k,q⟩,?_⟩;rw[Rows.uptoBulk,Rows.uptoBulkAll];omega
 |_=>simp only[bM,g,aX]at h
theorem aHC:∃a b f2 f3:aT,prog.underlying 29=some (.struct #[a,b,f2,f3])/\a.type=26/\b.type=27/\f2.type=9/\f3.type=9:=⟨_,_,_,_,underlying29,rfl,rfl,rfl,rfl⟩
theorem SE:prog.underlyingId 29=28:=k_
theorem aGk{m n:Nat}(s:m=n+5){d:ay H}(h:∃cs,aX prog W aa (bM prog (m+1) 29 d) cs)(f:Rows.uptoBulk d<=1048576):∃t:yX,bM prog (m+1) 29 d=Qo t/\True/\R6 t:=by
 obtain⟨cs,h⟩:=h;obtain⟨f0,f1,f2,f3,i,t0,t1,t2,t3⟩:=aHC;cases d with
 |agg l=>
  have e:∀x∈l,Rows.uptoBulk x<=1048576:=fun x hx=>by
   have:=rA.vM hx;rw[Rows.uptoBulk]at f;omega
  simp only[bM,i,aX]at h⊢;obtain⟨E,D,g,c,_⟩:=h;rw[SE,aG5]at g;cases g
  match l,c with
  |[],c=>simp[bn]at c
  |[x],c=>simp[bn]at c
  |[x,y],c=>simp[bn]at c
  |[x,y,z],c=>simp[bn]at c
  |x::y::z::w::r,c=>
   simp only[ca,bi,bn,cb,b4,t0,t1,t2,t3]at c⊢;obtain⟨c0,_,_,g0,_,c1,_,_,g1,_,c2,_,_,g2,_,c3,_,_,g3,_⟩:=c;subst s;obtain⟨a,j,_,o⟩:=aG8 (n:=n) rfl ⟨c0,g0⟩ (e x s_);obtain⟨b,k,p,C⟩:=zh (n:=n+4) aHw (F:=bG) (ok:=oZ) (fun d q f=>Un (n:=n+1) rfl q f) ⟨c1,g1⟩ (e y s_);obtain⟨u,eu,A⟩:=wL (n:=n+4) ⟨c2,g2⟩ (e z s_);obtain⟨v,ev,B⟩:=wL (n:=n+4) ⟨c3,g3⟩ (e w s_);exact⟨⟨a,⟨[],0,[],b⟩,u,v⟩,by rw[j,k,eu,ev,SE];rfl,trivial,o,⟨C,p⟩,A,B⟩
 |_=>simp only[bM,i,aX]at h
theorem UB{d:ay H}(h:∃cs,aX prog W aa (bM prog 8 29 d) cs)(a:Rows.uptoBulk d<=1048576):∃t:yX,bM prog 8 29 d=Qo t/\True/\R6 t:=aGk (n:=2) rfl h a
end
namespace Hk
mutual
def ud:PV->PV->Bool
 | .int .i64 a,.int .i64 b=>qj a b
 | .int .u64 a,.int .u64 b=>qj a b
 | .bool a,.bool b=>a==b
 | .str a,.str b=>uc a b
 | .aK,.aK=>true
 | .fM,.fM=>true
 | .cZ f a,.cZ g b=>bif f==g then mP a b else false
 | .seq a,.seq b=>mP a b
 | .eJ a,.eJ b=>wj a b
 | .st u a,.st v b=>bif e7 u v then mP a b else false
 | .aD a,.aD b=>mP a b
 | .func f a b,.func g c d=>bif e7 f g then(bif mP a c then mP b d else false)else false
 | .cE a,.cE b=>ud a b
 |_,_=>false
def mP:List PV->List PV->Bool
 |[],[]=>true
 |a::l,b::m=>bif ud a b then mP l m else false
 |_,_=>false
def wj:List (PV×PV)->List (PV×PV)->Bool
 |[],[]=>true
 |(a,c)::l,(b,d)::m=>bif ud a b then(bif ud c d then wj l m else false)else false
 |_,_=>false
end
mutual
theorem xP:∀{a b:PV},ud a b=true->a=b
 |a,b,h=>by
  unfold ud at h
  split at h
  ·rw[BB h]
  ·rw[BB h]
  ·rw[eq_of_beq h]
  ·rw[EK h]
  ·rfl
  ·rfl
  ·rename_i f a g b;cases hf:f==g
   ·rw[hf]at h;cases h
   ·rw[hf,cond_true]at h;rw[eq_of_beq hf,qU h]
  ·rw[qU h]
  ·rw[NH h]
  ·simp only[ak]at h
   split at h
   ·rename_i i;rw[eq i,qU h]
   ·cases h
  ·rw[qU h]
  ·simp only[ak]at h
   split at h
   ·rename_i i
    split at h
    ·rename_i e;rw[eq i,qU e,qU h]
    ·cases h
   ·cases h
  ·rw[xP h]
  ·cases h
theorem qU:∀{a b:List PV},mP a b=true->a=b
 |[],[],_=>rfl
 |[],_::_,h=>by simp[mP]at h
 |_::_,[],h=>by simp[mP]at h
 |a::l,b::m,h=>by
  simp only[mP,ak]at h
  split at h
  ·rename_i e;rw[xP e,qU h]
  ·cases h
theorem NH:∀{a b:List (PV×PV)},wj a b=true->a=b
 |[],[],_=>rfl
 |[],_::_,h=>by simp[wj]at h
 |_::_,[],h=>by simp[wj]at h
 |(a,c)::l,(b,d)::m,h=>by
  simp only[wj,ak]at h
  split at h
  ·rename_i e
   split at h
   ·rename_i j;rw[xP e,xP j,NH h]
   ·cases h
  ·cases h
end
def yd:List (ax×List PV×PV)->ax->List PV->Option PV
 |[],f,vs=>hk f vs
 |(g,us,v)::r,f,vs=>bif e7 g f then(bif mP us vs then some v else yd r f vs)else yd r f vs
def ma:List (ax×List PV×PV)->Prop
 |[]=>True
 |(g,us,v)::r=>aq prog g us v/\ma r
theorem xB:∀{l m:List (ax×List PV×PV)},ma l->ma m->ma (l++m)
 |[],_,_,h=>h
 |_::_,_,h,a=>⟨h.1,xB h.2 a⟩
theorem DV:∀{l:List (ax×List PV×PV)},ma l->∀f vs v,yd l f vs=some v->aq prog f vs v
 |[],_,f,vs,v,h=>aqk h
 |(g,us,w)::r,a,f,vs,v,h=>by
  simp only[yd,ak]at h
  split at h
  ·rename_i b
   split at h
   ·rename_i hs;simp only[e8]at h;subst h;rw[<-qU hs,<-eq b];exact a.1
   ·exact DV a.2 f vs v h
  ·exact DV a.2 f vs v h
def RQ(v:PV):Option PV->Bool
 |some w=>ud v w
 |none=>false
theorem ayn{v:PV}{o:Option PV}(h:RQ v o=true):o=some v:=by
 cases o with
 |none=>cases h
 |some w=>rw[xP h]
def aDL:ax->ax->Nat:=fun _ _=>0
theorem cS(l:List (ax×List PV×PV))(a:ma l){f:ax}{vs:List PV}{v:PV}(h:RQ v (Sl (yd l) aDL f vs)=true):aq prog f vs v:=N1 (DV a) (ayn h)
end Hk
namespace ky
def T:PV:=.st 39 [.cZ true [.st 156 [.int .i64 0,.int .i64 0],.st 156 [.int .i64 2000,.int .i64 0],.st 156 [.int .i64 2000,.int .i64 1000],.st 156 [.int .i64 0,.int .i64 1000]],.int .i64 30,.cZ true [.st 106 [.str [97],.int .i64 0,.str [48],.str [49,47,50,48]],.st 106 [.str [99],.int .i64 1,.str [57,47,50,48],.str [49,49,47,50,48]]],.aK]
def B:PV:=.cZ true [.st 59 [.str [99,117,101],.st 31 [.str [53,48,48],.str [53,48,48]]],.st 59 [.str [111,110,101],.st 31 [.str [49,48,48,48],.str [53,48,48]]],.st 59 [.str [116,119,111],.st 31 [.str [49,48,48,48],.str [55,48,48]]]]
def aU:PV:=.str [99,117,101]
def one:PV:=.str [111,110,101]
def X:PV:=.st 89 [T,B,aU,one]
def Y:PV:=.st 179 [.st 117 [T,B,.eJ [(.str [99,117,101],.st 119 [.st 115 [.st 113 [.int .i64 500,.aK],.st 113 [.int .i64 1,.aK]],.st 115 [.st 113 [.int .i64 500,.aK],.st 113 [.int .i64 1,.aK]]]),(.str [111,110,101],.st 119 [.st 115 [.st 113 [.int .i64 1000,.aK],.st 113 [.int .i64 1,.aK]],.st 115 [.st 113 [.int .i64 500,.aK],.st 113 [.int .i64 1,.aK]]]),(.str [116,119,111],.st 119 [.st 115 [.st 113 [.int .i64 1000,.aK],.st 113 [.int .i64 1,.aK]],.st 115 [.st 113 [.int .i64 700,.aK],.st 113 [.int .i64 1,.aK]]])],.st 115 [.st 113 [.int .i64 3600,.aK],.st 113 [.int .i64 1,.aK]]],.st 89 [T,B,.str [99,117,101],.str [111,110,101]]]
def WR:PV:=.cZ false (.int .i64 0::[.int .i64 1,.int .i64 2,.int .i64 3,.int .i64 4,.int .i64 5,.int .i64 6,.int .i64 7,.int .i64 8,.int .i64 9,.int .i64 10,.int .i64 11,.int .i64 12,.int .i64 13,.int .i64 14,.int .i64 15,.int .i64 16,.int .i64 17,.int .i64 18,.int .i64 19,.int .i64 20,.int .i64 21,.int .i64 22,.int .i64 23,.int .i64 24,.int .i64 25,.int .i64 26,.int .i64 27,.int .i64 28,.int .i64 29,.int .i64 30,.int .i64 31,.int .i64 32]++[.int .i64 33,.int .i64 34,.int .i64 35,.int .i64 36,.int .i64 37,.int .i64 38,.int .i64 39,.int .i64 40,.int .i64 41,.int .i64 42,.int .i64 43,.int .i64 44,.int .i64 45,.int .i64 46,.int .i64 47,.int .i64 48,.int .i64 49,.int .i64 50,.int .i64 51,.int .i64 52,.int .i64 53,.int .i64 54,.int .i64 55,.int .i64 56,.int .i64 57,.int .i64 58,.int .i64 59,.int .i64 60,.int .i64 61,.int .i64 62,.int .i64 63,.int .i64 64])
def k0:List (ax×List PV×PV):=[]
theorem RS:Hk.ma k0:=trivial
theorem g1:aq prog 92 [T] (.int .i64 0):=Hk.cS k0 RS k_
theorem g2:aq prog 111 [T,B] (.int .i64 0):=Hk.cS k0 RS k_
def k1:List (ax×List PV×PV):=[(92,[T],.int .i64 0),(111,[T,B],.int .i64 0)]
theorem RU:Hk.ma k1:=⟨g1,g2,trivial⟩
theorem g3:aq prog 103 [X] (.aD [Y,.int .i64 0]):=Hk.cS k1 RU k_
def k2:List (ax×List PV×PV):=[(103,[X],.aD [Y,.int .i64 0])]++k1
theorem eD:Hk.ma k2:=Hk.xB (l:=[(103,[X],.aD [Y,.int .i64 0])]) ⟨g3,trivial⟩ RU
end ky
namespace ky
theorem y0:aq prog 110 [Y,.int .i64 0] (.aD [.str [],.int .i64 18]):=Hk.cS k2 eD k_
theorem y1:aq prog 110 [Y,.int .i64 1] (.aD [.str [],.int .i64 18]):=Hk.cS k2 eD k_
theorem y2:aq prog 110 [Y,.int .i64 2] (.aD [.str [],.int .i64 18]):=Hk.cS k2 eD k_
theorem y3:aq prog 110 [Y,.int .i64 3] (.aD [.str [],.int .i64 18]):=Hk.cS k2 eD k_
theorem y4:aq prog 110 [Y,.int .i64 4] (.aD [.str [],.int .i64 18]):=Hk.cS k2 eD k_
theorem y5:aq prog 110 [Y,.int .i64 5] (.aD [.str [],.int .i64 18]):=Hk.cS k2 eD k_
theorem y6:aq prog 110 [Y,.int .i64 6] (.aD [.str [],.int .i64 18]):=Hk.cS k2 eD k_
theorem y7:aq prog 110 [Y,.int .i64 7] (.aD [.str [],.int .i64 18]):=Hk.cS k2 eD k_
theorem y8:aq prog 110 [Y,.int .i64 8] (.aD [.str [],.int .i64 18]):=Hk.cS k2 eD k_
theorem y9:aq prog 110 [Y,.int .i64 9] (.aD [.str [],.int .i64 0]):=Hk.cS k2 eD k_
theorem y10:aq prog 110 [Y,.int .i64 10] (.aD [.str [],.int .i64 0]):=Hk.cS k2 eD k_
theorem y11:aq prog 110 [Y,.int .i64 11] (.aD [.str [],.int .i64 0]):=Hk.cS k2 eD k_
theorem y12:aq prog 110 [Y,.int .i64 12] (.aD [.str [],.int .i64 0]):=Hk.cS k2 eD k_
theorem y13:aq prog 110 [Y,.int .i64 13] (.aD [.str [],.int .i64 0]):=Hk.cS k2 eD k_
theorem y14:aq prog 110 [Y,.int .i64 14] (.aD [.str [],.int .i64 0]):=Hk.cS k2 eD k_
theorem y15:aq prog 110 [Y,.int .i64 15] (.aD [.str [],.int .i64 0]):=Hk.cS k2 eD k_
theorem y16:aq prog 110 [Y,.int .i64 16] (.aD [.str [],.int .i64 0]):=Hk.cS k2 eD k_
theorem y17:aq prog 110 [Y,.int .i64 17] (.aD [.str [],.int .i64 0]):=Hk.cS k2 eD k_
theorem y18:aq prog 110 [Y,.int .i64 18] (.aD [.str [],.int .i64 0]):=Hk.cS k2 eD k_
theorem y19:aq prog 110 [Y,.int .i64 19] (.aD [.str [],.int .i64 0]):=Hk.cS k2 eD k_
theorem y20:aq prog 110 [Y,.int .i64 20] (.aD [.str [],.int .i64 0]):=Hk.cS k2 eD k_
theorem y21:aq prog 110 [Y,.int .i64 21] (.aD [.str [],.int .i64 0]):=Hk.cS k2 eD k_
theorem y22:aq prog 110 [Y,.int .i64 22] (.aD [.str [],.int .i64 0]):=Hk.cS k2 eD k_
theorem y23:aq prog 110 [Y,.int .i64 23] (.aD [.str [],.int .i64 0]):=Hk.cS k2 eD k_
theorem y24:aq prog 110 [Y,.int .i64 24] (.aD [.str [],.int .i64 18]):=Hk.cS k2 eD k_
theorem y25:aq prog 110 [Y,.int .i64 25] (.aD [.str [],.int .i64 18]):=Hk.cS k2 eD k_
theorem y26:aq prog 110 [Y,.int .i64 26] (.aD [.str [],.int .i64 18]):=Hk.cS k2 eD k_
theorem y27:aq prog 110 [Y,.int .i64 27] (.aD [.str [],.int .i64 18]):=Hk.cS k2 eD k_
theorem y28:aq prog 110 [Y,.int .i64 28] (.aD [.str [],.int .i64 18]):=Hk.cS k2 eD k_
theorem y29:aq prog 110 [Y,.int .i64 29] (.aD [.str [],.int .i64 18]):=Hk.cS k2 eD k_
theorem y30:aq prog 110 [Y,.int .i64 30] (.aD [.str [],.int .i64 18]):=Hk.cS k2 eD k_
theorem y31:aq prog 110 [Y,.int .i64 31] (.aD [.str [],.int .i64 18]):=Hk.cS k2 eD k_
def k3:List (ax×List PV×PV):=[(110,[Y,.int .i64 0],.aD [.str [],.int .i64 18]),(110,[Y,.int .i64 1],.aD [.str [],.int .i64 18]),(110,[Y,.int .i64 2],.aD [.str [],.int .i64 18]),(110,[Y,.int .i64 3],.aD [.str [],.int .i64 18]),(110,[Y,.int .i64 4],.aD [.str [],.int .i64 18]),(110,[Y,.int .i64 5],.aD [.str [],.int .i64 18]),(110,[Y,.int .i64 6],.aD [.str [],.int .i64 18]),(110,[Y,.int .i64 7],.aD [.str [],.int .i64 18]),(110,[Y,.int .i64 8],.aD [.str [],.int .i64 18]),(110,[Y,.int .i64 9],.aD [.str [],.int .i64 0]),(110,[Y,.int .i64 10],.aD [.str [],.int .i64 0]),(110,[Y,.int .i64 11],.aD [.str [],.int .i64 0]),(110,[Y,.int .i64 12],.aD [.str [],.int .i64 0]),(110,[Y,.int .i64 13],.aD [.str [],.int .i64 0]),(110,[Y,.int .i64 14],.aD [.str [],.int .i64 0]),(110,[Y,.int .i64 15],.aD [.str [],.int .i64 0]),(110,[Y,.int .i64 16],.aD [.str [],.int .i64 0]),(110,[Y,.int .i64 17],.aD [.str [],.int .i64 0]),(110,[Y,.int .i64 18],.aD [.str [],.int .i64 0]),(110,[Y,.int .i64 19],.aD [.str [],.int .i64 0]),(110,[Y,.int .i64 20],.aD [.str [],.int .i64 0]),(110,[Y,.int .i64 21],.aD [.str [],.int .i64 0]),(110,[Y,.int .i64 22],.aD [.str [],.int .i64 0]),(110,[Y,.int .i64 23],.aD [.str [],.int .i64 0]),(110,[Y,.int .i64 24],.aD [.str [],.int .i64 18]),(110,[Y,.int .i64 25],.aD [.str [],.int .i64 18]),(110,[Y,.int .i64 26],.aD [.str [],.int .i64 18]),(110,[Y,.int .i64 27],.aD [.str [],.int .i64 18]),(110,[Y,.int .i64 28],.aD [.str [],.int .i64 18]),(110,[Y,.int .i64 29],.aD [.str [],.int .i64 18]),(110,[Y,.int .i64 30],.aD [.str [],.int .i64 18]),(110,[Y,.int .i64 31],.aD [.str [],.int .i64 18])]++k2
theorem ki:Hk.ma k3:=Hk.xB (l:=[(110,[Y,.int .i64 0],.aD [.str [],.int .i64 18]),(110,[Y,.int .i64 1],.aD [.str [],.int .i64 18]),(110,[Y,.int .i64 2],.aD [.str [],.int .i64 18]),(110,[Y,.int .i64 3],.aD [.str [],.int .i64 18]),(110,[Y,.int .i64 4],.aD [.str [],.int .i64 18]),(110,[Y,.int .i64 5],.aD [.str [],.int .i64 18]),(110,[Y,.int .i64 6],.aD [.str [],.int .i64 18]),(110,[Y,.int .i64 7],.aD [.str [],.int .i64 18]),(110,[Y,.int .i64 8],.aD [.str [],.int .i64 18]),(110,[Y,.int .i64 9],.aD [.str [],.int .i64 0]),(110,[Y,.int .i64 10],.aD [.str [],.int .i64 0]),(110,[Y,.int .i64 11],.aD [.str [],.int .i64 0]),(110,[Y,.int .i64 12],.aD [.str [],.int .i64 0]),(110,[Y,.int .i64 13],.aD [.str [],.int .i64 0]),(110,[Y,.int .i64 14],.aD [.str [],.int .i64 0]),(110,[Y,.int .i64 15],.aD [.str [],.int .i64 0]),(110,[Y,.int .i64 16],.aD [.str [],.int .i64 0]),(110,[Y,.int .i64 17],.aD [.str [],.int .i64 0]),(110,[Y,.int .i64 18],.aD [.str [],.int .i64 0]),(110,[Y,.int .i64 19],.aD [.str [],.int .i64 0]),(110,[Y,.int .i64 20],.aD [.str [],.int .i64 0]),(110,[Y,.int .i64 21],.aD [.str [],.int .i64 0]),(110,[Y,.int .i64 22],.aD [.str [],.int .i64 0]),(110,[Y,.int .i64 23],.aD [.str [],.int .i64 0]),(110,[Y,.int .i64 24],.aD [.str [],.int .i64 18]),(110,[Y,.int .i64 25],.aD [.str [],.int .i64 18]),(110,[Y,.int .i64 26],.aD [.str [],.int .i64 18]),(110,[Y,.int .i64 27],.aD [.str [],.int .i64 18]),(110,[Y,.int .i64 28],.aD [.str [],.int .i64 18]),(110,[Y,.int .i64 29],.aD [.str [],.int .i64 18]),(110,[Y,.int .i64 30],.aD [.str [],.int .i64 18]),(110,[Y,.int .i64 31],.aD [.str [],.int .i64 18])]) ⟨y0,y1,y2,y3,y4,y5,y6,y7,y8,y9,y10,y11,y12,y13,y14,y15,y16,y17,y18,y19,y20,y21,y22,y23,y24,y25,y26,y27,y28,y29,y30,y31,trivial⟩ eD
end ky
namespace ky
theorem z0:aq prog 108 [Y,.int .i64 9,.str [99]] (.bool false):=Hk.cS k3 ki k_
theorem z1:aq prog 108 [Y,.int .i64 10,.str [99]] (.bool false):=Hk.cS k3 ki k_
theorem z2:aq prog 108 [Y,.int .i64 11,.str [99]] (.bool false):=Hk.cS k3 ki k_
theorem z3:aq prog 108 [Y,.int .i64 12,.str [99]] (.bool false):=Hk.cS k3 ki k_
theorem z4:aq prog 108 [Y,.int .i64 13,.str [99]] (.bool false):=Hk.cS k3 ki k_
theorem z5:aq prog 108 [Y,.int .i64 14,.str [99]] (.bool false):=Hk.cS k3 ki k_
theorem z6:aq prog 108 [Y,.int .i64 15,.str [99]] (.bool false):=Hk.cS k3 ki k_
theorem z7:aq prog 108 [Y,.int .i64 16,.str [99]] (.bool true):=Hk.cS k3 ki k_
theorem z8:aq prog 108 [Y,.int .i64 17,.str [99]] (.bool false):=Hk.cS k3 ki k_
theorem z9:aq prog 108 [Y,.int .i64 18,.str [99]] (.bool false):=Hk.cS k3 ki k_
theorem z10:aq prog 108 [Y,.int .i64 19,.str [99]] (.bool false):=Hk.cS k3 ki k_
theorem z11:aq prog 108 [Y,.int .i64 20,.str [99]] (.bool false):=Hk.cS k3 ki k_
theorem z12:aq prog 108 [Y,.int .i64 21,.str [99]] (.bool false):=Hk.cS k3 ki k_
theorem z13:aq prog 108 [Y,.int .i64 22,.str [99]] (.bool false):=Hk.cS k3 ki k_
theorem z14:aq prog 108 [Y,.int .i64 23,.str [99]] (.bool false):=Hk.cS k3 ki k_
def k4:List (ax×List PV×PV):=[(108,[Y,.int .i64 9,.str [99]],.bool false),(108,[Y,.int .i64 10,.str [99]],.bool false),(108,[Y,.int .i64 11,.str [99]],.bool false),(108,[Y,.int .i64 12,.str [99]],.bool false),(108,[Y,.int .i64 13,.str [99]],.bool false),(108,[Y,.int .i64 14,.str [99]],.bool false),(108,[Y,.int .i64 15,.str [99]],.bool false),(108,[Y,.int .i64 16,.str [99]],.bool true),(108,[Y,.int .i64 17,.str [99]],.bool false),(108,[Y,.int .i64 18,.str [99]],.bool false),(108,[Y,.int .i64 19,.str [99]],.bool false),(108,[Y,.int .i64 20,.str [99]],.bool false),(108,[Y,.int .i64 21,.str [99]],.bool false),(108,[Y,.int .i64 22,.str [99]],.bool false),(108,[Y,.int .i64 23,.str [99]],.bool false)]++k3
theorem Gn:Hk.ma k4:=Hk.xB (l:=[(108,[Y,.int .i64 9,.str [99]],.bool false),(108,[Y,.int .i64 10,.str [99]],.bool false),(108,[Y,.int .i64 11,.str [99]],.bool false),(108,[Y,.int .i64 12,.str [99]],.bool false),(108,[Y,.int .i64 13,.str [99]],.bool false),(108,[Y,.int .i64 14,.str [99]],.bool false),(108,[Y,.int .i64 15,.str [99]],.bool false),(108,[Y,.int .i64 16,.str [99]],.bool true),(108,[Y,.int .i64 17,.str [99]],.bool false),(108,[Y,.int .i64 18,.str [99]],.bool false),(108,[Y,.int .i64 19,.str [99]],.bool false),(108,[Y,.int .i64 20,.str [99]],.bool false),(108,[Y,.int .i64 21,.str [99]],.bool false),(108,[Y,.int .i64 22,.str [99]],.bool false),(108,[Y,.int .i64 23,.str [99]],.bool false)]) ⟨z0,z1,z2,z3,z4,z5,z6,z7,z8,z9,z10,z11,z12,z13,z14,trivial⟩ ki
end ky
namespace ky
theorem w0:aq prog 109 [Y,.st 106 [.str [97],.int .i64 0,.str [48],.str [49,47,50,48]]] (WR):=Hk.cS k2 eD k_
end ky
namespace ky
theorem w1:aq prog 109 [Y,.st 106 [.str [99],.int .i64 1,.str [57,47,50,48],.str [49,49,47,50,48]]] (WR):=Hk.cS k2 eD k_
end ky
namespace ky
theorem o:aq prog 42 [X] (.aD [.cZ false [.int .i64 9,.int .i64 10,.int .i64 11,.int .i64 12,.int .i64 13,.int .i64 14,.int .i64 15,.int .i64 16,.int .i64 17,.int .i64 18,.int .i64 19,.int .i64 20,.int .i64 21,.int .i64 22,.int .i64 23],.int .i64 0]):=Hk.cS k4 Gn k_
theorem p:aq prog 43 [X,.str [99]] (.aD [.cZ false [.int .i64 16],.int .i64 0]):=Hk.cS k4 Gn k_
def k5:List (ax×List PV×PV):=[(42,[X],.aD [.cZ false [.int .i64 9,.int .i64 10,.int .i64 11,.int .i64 12,.int .i64 13,.int .i64 14,.int .i64 15,.int .i64 16,.int .i64 17,.int .i64 18,.int .i64 19,.int .i64 20,.int .i64 21,.int .i64 22,.int .i64 23],.int .i64 0]),(43,[X,.str [99]],.aD [.cZ false [.int .i64 16],.int .i64 0]),(109,[Y,.st 106 [.str [97],.int .i64 0,.str [48],.str [49,47,50,48]]],WR),(109,[Y,.st 106 [.str [99],.int .i64 1,.str [57,47,50,48],.str [49,49,47,50,48]]],WR)]++k4
theorem azm:Hk.ma k5:=Hk.xB (l:=[(42,[X],.aD [.cZ false [.int .i64 9,.int .i64 10,.int .i64 11,.int .i64 12,.int .i64 13,.int .i64 14,.int .i64 15,.int .i64 16,.int .i64 17,.int .i64 18,.int .i64 19,.int .i64 20,.int .i64 21,.int .i64 22,.int .i64 23],.int .i64 0]),(43,[X,.str [99]],.aD [.cZ false [.int .i64 16],.int .i64 0]),(109,[Y,.st 106 [.str [97],.int .i64 0,.str [48],.str [49,47,50,48]]],WR),(109,[Y,.st 106 [.str [99],.int .i64 1,.str [57,47,50,48],.str [49,49,47,50,48]]],WR)]) ⟨o,p,w0,w1,trivial⟩ Gn
end ky
theorem Zm:aq prog 7 [] (.bool true):=Hk.cS ky.k5 ky.azm k_
namespace ky
end ky
def NS.mul(s t:NS):NS:=⟨(s.a.mul t.a).add ((s.b.mul t.b).mul s.d),(s.a.mul t.b).add (t.a.mul s.b),s.d⟩
theorem ahx(s t:NS)(hs:fV 20000 s)(c:fV 20000 t):aq prog 231 [fJ s,fJ t] (fJ (s.mul t)):=by
 have k1:=fB s.a t.a (hs.1.mono d_) (c.1.mono d_);have k2:=fB s.b t.b (hs.2.1.mono d_) (c.2.1.mono d_);have k3:=fB (s.b.mul t.b) s.d ((dJ hs.2.1 c.2.1).mono d_) (hs.2.2.mono d_);have k4:=nH (s.a.mul t.a) ((s.b.mul t.b).mul s.d) ((dJ hs.1 c.1).mono d_) ((dJ (dJ hs.2.1 c.2.1) hs.2.2).mono d_);have k5:=fB s.a t.b (hs.1.mono d_) (c.2.1.mono d_);have k6:=fB t.a s.b (c.1.mono d_) (hs.2.1.mono d_);have k7:=nH (s.a.mul t.b) (t.a.mul s.b) ((dJ hs.1 c.2.1).mono d_) ((dJ c.1 hs.2.1).mono d_);refine gA_ nf func231 mix ?_;rw[NS.mul,fJ];simp(maxDischargeDepth:=99) [f231,ad,e2 k1,e2 k2,e2 k3,e2 k4,e2 k5,e2 k6,e2 k7]
def Cr(s:NS):Prop:=aQ 600 s.a.q/\aQ 600 s.b.q/\aQ 1200 s.d.q
theorem Is(s t:NS)(hs:Cr s)(f:Cr t):aq prog 186 [fJ s,fJ t] (.int .i64 (dS s.q t.q)):=by
 have g:=CP hs.1 f.1;have e:fV 1300 ⟨s.a.sub t.a,s.b,s.d⟩:=⟨g.mono d_,hs.2.1.mono d_,hs.2.2.mono d_⟩
 have k1:=nF s.a t.a (hs.1.mono d_) (f.1.mono d_);have k2:=zj ⟨s.a.sub t.a,s.b,s.d⟩ ⟨e.1.mono d_,e.2.1.mono d_,e.2.2.mono d_⟩;have k3:=mF t.b;have k4:=mF t.d;have k5:=ahx ⟨s.a.sub t.a,s.b,s.d⟩ ⟨s.a.sub t.a,s.b,s.d⟩ ⟨e.1.mono d_,e.2.1.mono d_,e.2.2.mono d_⟩ ⟨e.1.mono d_,e.2.1.mono d_,e.2.2.mono d_⟩;have k6:=fB t.b t.b (f.2.1.mono d_) (f.2.1.mono d_);have k7:=fB (t.b.mul t.b) t.d ((dJ f.2.1 f.2.1).mono d_) (f.2.2.mono d_);have j:=dJ (dJ f.2.1 f.2.1) f.2.2;have k8:=ru ((t.b.mul t.b).mul t.d) (j.mono d_);have k9:=It ((t.b.mul t.b).mul t.d).neg s.d;have h:fV 4900 (NS.mul ⟨s.a.sub t.a,s.b,s.d⟩ ⟨s.a.sub t.a,s.b,s.d⟩):=⟨(rV (dJ g g) (dJ (dJ hs.2.1 hs.2.1) hs.2.2)).mono d_,(rV (dJ g hs.2.1) (dJ g hs.2.1)).mono d_,hs.2.2.mono d_⟩
 have i:fV 2500 (NS.plain ((t.b.mul t.b).mul t.d).neg s.d):=⟨(rU j).mono d_,aQ.mono (show aQ 20 (NF.int 0).q from Bb d_ d_) d_,hs.2.2.mono d_⟩
 have vY:=Ix (NS.mul ⟨s.a.sub t.a,s.b,s.d⟩ ⟨s.a.sub t.a,s.b,s.d⟩) (NS.plain ((t.b.mul t.b).mul t.d).neg s.d) ⟨h.1.mono d_,h.2.1.mono d_,h.2.2.mono d_⟩ ⟨i.1.mono d_,i.2.1.mono d_,i.2.2.mono d_⟩;have Cl:=zj ((NS.mul ⟨s.a.sub t.a,s.b,s.d⟩ ⟨s.a.sub t.a,s.b,s.d⟩).add (NS.plain ((t.b.mul t.b).mul t.d).neg s.d)) ⟨(rV h.1 i.1).mono d_,(rV h.2.1 i.2.1).mono d_,hs.2.2.mono d_⟩;have q1:NS.q ⟨s.a.sub t.a,s.b,s.d⟩=⟨s.q.a-t.q.a,s.q.b,s.q.d⟩:=by simp only[NS.q,NF.dW]
 have p:((NS.mul ⟨s.a.sub t.a,s.b,s.d⟩ ⟨s.a.sub t.a,s.b,s.d⟩).add (NS.plain ((t.b.mul t.b).mul t.d).neg s.d)).q=⟨(s.q.a-t.q.a)*(s.q.a-t.q.a)+s.q.b*s.q.b*s.q.d-t.q.b*t.q.b*t.q.d,2*((s.q.a-t.q.a)*s.q.b),s.q.d⟩:=by
  have e1:(s.a.sub t.a).q=s.a.q-t.a.q:=NF.dW _ _;have hx:((NS.mul ⟨s.a.sub t.a,s.b,s.d⟩ ⟨s.a.sub t.a,s.b,s.d⟩).add (NS.plain ((t.b.mul t.b).mul t.d).neg s.d)).q=⟨(s.a.sub t.a).q*(s.a.sub t.a).q+s.b.q*s.b.q*s.d.q+-(t.b.q*t.b.q*t.d.q),((s.a.sub t.a).q*s.b.q+(s.a.sub t.a).q*s.b.q)+((0:Int):Rat),s.d.q⟩:=rfl;rw[hx,e1];have hz:((0:Int):Rat)=0:=rfl;rw[hz];show S3.mk _ _ _=S3.mk _ _ _;congr 1
  ·show _=(s.a.q-t.a.q)*(s.a.q-t.a.q)+s.b.q*s.b.q*s.d.q-t.b.q*t.b.q*t.d.q
   grind
  ·show _=2*((s.a.q-t.a.q)*s.b.q)
   grind
 rw[q1]at k2;rw[p]at Cl;rw[show(if t.b.q<0 then(-1:Int)else if t.b.q=0 then 0 else 1)=bL t.q.b from rfl]at k3;rw[show(if t.d.q<0 then(-1:Int)else if t.d.q=0 then 0 else 1)=bL t.q.d from rfl]at k4;have k:=rz ⟨s.q.a-t.q.a,s.q.b,s.q.d⟩;have l:=kX (yZ (kV t.q.b)) (kV t.q.d);have r:=rz ⟨(s.q.a-t.q.a)*(s.q.a-t.q.a)+s.q.b*s.q.b*s.q.d-t.q.b*t.q.b*t.q.d,2*((s.q.a-t.q.a)*s.q.b),s.q.d⟩;have n:-(bL t.q.b*bL t.q.d)= -bL t.q.b*bL t.q.d:=by rw[Int.neg_mul]
 rw[dS,n];clear q1 p g j h i e n;generalize cJ ⟨(s.q.a-t.q.a)*(s.q.a-t.q.a)+s.q.b*s.q.b*s.q.d-t.q.b*t.q.b*t.q.d,2*((s.q.a-t.q.a)*s.q.b),s.q.d⟩=o,cJ ⟨s.q.a-t.q.a,s.q.b,s.q.d⟩=x at*;have w0:=kW (yZ (kV t.q.b));generalize bL t.q.b=y1,bL t.q.d=y2 at*;have w1:=kW l;have w2:=kW (kX k l);have w3:=kW (kX k r);generalize u:(NS.mul ⟨s.a.sub t.a,s.b,s.d⟩ ⟨s.a.sub t.a,s.b,s.d⟩).add (NS.plain ((t.b.mul t.b).mul t.d).neg s.d)=m1,NS.mul ⟨s.a.sub t.a,s.b,s.d⟩ ⟨s.a.sub t.a,s.b,s.d⟩=m2,NS.plain ((t.b.mul t.b).mul t.d).neg s.d=m3 at*;clear u;have m:fJ ⟨s.a.sub t.a,s.b,s.d⟩=.st 125 [eF (s.a.sub t.a),eF s.b,eF s.d]:=rfl;rw[m]at k2 k5;clear m;generalize s.a.sub t.a=n1,((t.b.mul t.b).mul t.d).neg=n2,(t.b.mul t.b).mul t.d=v,t.b.mul t.b=n4 at*;refine gA_ nf func186 mix ?_;simp[f186,ad,-aW];rw[aW];simp[-aW,ad];rw[aW];simp[-aW,ad];refine e2 k1 ?_;simp[ad,-aW];refine⟨r_,?_⟩;rw[aW];simp[ad,-aW];refine e1 k2 ?_;simp[ad,-aW];refine e1 k3 ?_;simp[ad,-aW,w0];refine e1 k4 ?_;simp[ad,w0,w1];generalize -y1*y2=y at*;rw[gn]
 by_cases c2:x=0
 ·subst c2;simp[ad]
 by_cases c:0<=x*y
 ·rw[if_pos c,if_neg c2];simp[c,c2,w2,ad]
 ·rw[if_neg c];simp(maxDischargeDepth:=99) [c,c2,w2,ad,w3,e2 k5,e2 k6,e2 k7,e1 k8,e2 k9,e2 vY,e1 Cl]
structure oY(t b:ai)(aU:List Nat)(i:Nat):Prop where
 kM:iw t=0
 tl:t.cs.length<=1000000
 L:tV b
 FZ:∀s∈b.ar,bd 30 (vP s.pt)
 ci:hasB b aU i
 ap:∀k,k<b.ar.length->k≠i->¬fu t.aI (vP (b.sp k).pt) (vP (b.sp i).pt)<0
 nn:∀k,k<b.ar.length->(b.sp k).name≠[]
theorem oY.at{t b:ai}{aU:List Nat}{i:Nat}(h:oY t b aU i){k:Nat}(hk:k<b.ar.length):eV (vP (b.sp k).pt)=dA (b.sp k).pt/\bd 30 (vP (b.sp k).pt):=by
 have m:=a9 (ai.eM hk);exact⟨(wP (h.L.sp _ m).2).1,h.FZ _ m⟩
theorem oY.name{t b:ai}{aU:List Nat}{i k:Nat}(h:oY t b aU i)(hk:k<b.ar.length):(b.sp k).name=aU↔k=i:=by
 obtain⟨_,d,f⟩:=h.ci;have j:=CY h.L hk;have c:(b.sp i).name=aU:=by
  have:=List.find?_some (by rw[fO]at f;exact f);simpa using this
 constructor
 ·intro e;rcases er k i with g|g|g
  ·have:=h.L.ne i d;rw[fO,c6]at this;have a:=this (b.sp k) (a9 (i:=k) (by rw[bw,if_pos g];exact ai.eM hk));simp[e,c]at a
  ·exact g
  ·have:=h.L.ne k hk;rw[fO,c6]at this;have a:=this (b.sp i) (a9 (i:=i) (by rw[bw,if_pos g];exact ai.eM d));simp[e,c]at a
 ·intro e;rw[e];exact c
def bA(b:ai)(i k:Nat):V2:=(vP (b.sp k).pt).sub (vP (b.sp i).pt)
def fS(t b:ai)(i:Nat)(d:V2)(k:Nat):S3:=xe t.aI (bA b i k) d
def iQ(t b:ai)(i:Nat)(d:V2)(e:Rat)(k:Nat):Bool:=decide (k≠i)&&(mE t.aI (bA b i k) d&&decide (dS (fS t b i d k) ⟨e,0,0⟩<0))
def wQ(t b:ai)(i:Nat)(d:V2)(e:Rat)(o:Option Nat)(k:Nat):Option Nat:=
 if iQ t b i d e k then(match o with
  |none=>some k
  |some j=>if dS (fS t b i d k) (fS t b i d j)<0 then some k else some j)else o
def fZ(t b:ai)(i:Nat)(d:V2)(e:Rat)(m:Nat):Option Nat:=(cc m).foldl (wQ t b i d e) none
theorem C4(t b:ai)(i:Nat)(d:V2)(e:Rat)(m:Nat):fZ t b i d e (m+1)=wQ t b i d e (fZ t b i d e m) m:=by
 rw[fZ,dg,ec];rfl
theorem qC(t b:ai)(i:Nat)(d:V2)(e:Rat):∀m j,fZ t b i d e m=some j->j<m/\iQ t b i d e j=true
 |0,j,h=>by simp[fZ]at h
 |m+1,j,h=>by
  rw[C4,wQ.eq_def]at h;have c:=qC t b i d e m
  by_cases hc:iQ t b i d e m=true
  ·rw[if_pos hc]at h;cases a:fZ t b i d e m with
   |none=>rw[a]at h;simp only[e8]at h;subst h;exact⟨o_,hc⟩
   |some f=>
    rw[a]at h;have:=c f a;dsimp only at h
    split at h
    ·simp only[e8]at h;subst h;exact⟨o_,hc⟩
    ·simp only[e8]at h;subst h;exact⟨o_,this.2⟩
  ·rw[if_neg hc]at h;have:=c j h;exact⟨o_,this.2⟩
def bN(t b:ai)(i:Nat)(d:bS)(k:Nat):NM:=.of (.width t.aI) (.from (b.sp i).pt) (.from d) (.from (b.sp k).pt)
theorem uv(t b:ai)(i:Nat)(d:bS)(k:Nat):(bN t b i d k).far.q=fS t b i (vP d) k:=by
 have a:((NV.from (b.sp k).pt).sub (.from (b.sp i).pt)).q=bA b i k:=by rw[NV.dW];rfl
 rw[NM.far,NS.q,fS,xe];show S3.mk ((((NV.from (b.sp k).pt).sub (.from (b.sp i).pt)).dot (.from d)).q/((NV.from d).dot (.from d)).q) (-(((NV.from d).dot (.from d)).q)⁻¹) (NM.of (.width t.aI) (.from (b.sp i).pt) (.from d) (.from (b.sp k).pt)).root.q=_;rw[NV.lQ,NV.lQ,a,NM.of];congr 1;dsimp only;rw[NF.dW];show((((NV.from (b.sp k).pt).sub (.from (b.sp i).pt)).dot (.from d)).q*(((NV.from (b.sp k).pt).sub (.from (b.sp i).pt)).dot (.from d)).q)-(((NV.from d).dot (.from d)).q*(NF.sub (((NV.from (b.sp k).pt).sub (.from (b.sp i).pt)).dot ((NV.from (b.sp k).pt).sub (.from (b.sp i).pt))) (.width t.aI)).q)=_;rw[NF.dW,NV.lQ,NV.lQ,NV.lQ,a];rfl
theorem Uk{t b:ai}{aU:List Nat}{i k:Nat}{d:bS}(h:oY t b aU i)(hk:k<b.ar.length)(f:k≠i):yC (.width t.aI) (.from (b.sp i).pt) (.from d) (.from (b.sp k).pt)=mE t.aI (bA b i k) (vP d):=by
 have a:((NV.from (b.sp k).pt).sub (.from (b.sp i).pt)).q=bA b i k:=by rw[NV.dW];rfl
 have c:=h.ap k hk f;have g:(NM.of (.width t.aI) (.from (b.sp i).pt) (.from d) (.from (b.sp k).pt)).root.q=dC t.aI (bA b i k) (vP d):=by
  have:=uv t b i d k;rw[NS.q,fS,xe]at this;injection this
 rw[yC,g,NV.lQ,NV.lQ,a,mE];have:0<=cT ((bA b i k).dot (bA b i k)) (NF.width t.aI).q:=by
  have e:fu t.aI (vP (b.sp k).pt) (vP (b.sp i).pt)=cT ((bA b i k).dot (bA b i k)) (bR t.aI):=rfl;rw[e]at c;rw[aH8];omega
 rw[decide_eq_true this,am];rfl
def GQ:PV:=.st 115 [.st 113 [.int .i64 0,.aK],.st 113 [.int .i64 0,.aK]]
def SK:PV:=.st 119 [GQ,GQ]
def zM:PV:=.st 121 [SK,SK,GQ]
@[simp] theorem aGt:aL zM=.agg 121:=rfl
@[simp high] theorem qt:cG prog 122=some zM:=k_
def kt(b:ai):Option Nat->List Nat
 |none=>[]
 |some j=>(b.sp j).name
noncomputable def lj(t b:ai)(i:Nat)(d:bS):Option Nat->PV
 |none=>zM
 |some j=>jB (bN t b i d j)
@[simp] theorem aGo(t b:ai)(i:Nat)(d:bS)(o:Option Nat):aL (lj t b i d o)=.agg 121:=by
 cases o
 ·exact aGt
 ·exact Dc _
structure R4(t b:ai)(i:Nat)(d:bS)(x:XD)(e:Rat):Prop where
 ex:∃m0 l,t.fL (.from (b.sp i).pt) (ph d) t.cs.length=m0::l/\jk m0 l=x
 nz:x.s.norm.q=0->x.s.a.q≠0
 ok:nM x
 far:(x.s.under x.g).q=⟨e,0,0⟩
 sz:aQ 600 e
theorem zA{s:NS}{a b c:Rat}(h:s.q=⟨a,b,c⟩)(g:aQ 600 a)(i:aQ 600 b)(hc:aQ 1200 c):Cr s:=by
 rw[NS.q]at h;injection h with d e f
 exact⟨by rw[d];exact g,by rw[e];exact i,by rw[f];exact hc⟩
theorem lF{k:Nat}(h:1<=k):aQ k (0:Rat):=(show aQ 1 (0:Rat)from⟨d_,d_⟩).mono h
theorem wT{t b:ai}{aU:List Nat}{i k:Nat}{d:bS}(h:oY t b aU i)(hk:k<b.ar.length)(c:bd 30 (vP d))(hz:(vP d).dot (vP d)≠0):aQ 600 (fS t b i (vP d) k).a/\aQ 600 (fS t b i (vP d) k).b/\aQ 1200 (fS t b i (vP d) k).d:=by
 obtain⟨r0,r1⟩:=uu h.kM;have e:bd 61 (bA b i k):=gY (h.at hk).2 (h.at h.ci.2.1).2;have f:=fe e c;have g:=fe c c;have j:=fe e e;have l:=qP (r:=t.aI) o_ o_;exact⟨(iK f g).mono d_,(kU (uX g)).mono d_,(fA (bC f f) (bC g (fA j l))).mono d_⟩
theorem abw(t b:ai)(aU:List Nat)(i:Nat)(d:bS)(x:XD)(e:Rat)(h:oY t b aU i)(v:bd 30 (vP d))(hz:(vP d).dot (vP d)≠0)(u:R4 t b i d x e):
 aq prog 114 [po t b,.str aU,cM (.from d)] (.aD [.str (kt b (fZ t b i (vP d) e b.ar.length)),lj t b i d (fZ t b i (vP d) e b.ar.length),.bool (fZ t b i (vP d) e b.ar.length).isSome]):=by
 obtain⟨r0,r1⟩:=uu h.kM;obtain⟨_,_,hn,_⟩:=wF h.kM;have ac:=h.L.sl;have K:=(h.at h.ci.2.1).2;have R:=h.ci.2.2;obtain⟨m0,l,Y,Z⟩:=u.ex;have k1:=Tm (.from d);have k2:=Z9 t (.from (b.sp i).pt) (ph d) h.tl hn (by rw[gH];exact K.mono d_) ⟨by show bd 900 (NV.from d).q;rw[gH];exact v.mono d_,⟨lF d_,lF d_⟩,lF d_⟩ m0 l Y;rw[Z]at k2;have k3:=aiy x u.ok u.nz;have M:Cr (x.s.under x.g):=zA u.far u.sz (lF d_) (lF d_);have N:=u.far;have kd:ph d=⟨.from d,⟨.int 0,.int 0⟩,.int 0⟩:=rfl;rw[<-kd]at k1;have a:=fun k(hk:k<b.ar.length)=>afO (.width t.aI) (.from (b.sp i).pt) (.from d) (.from (b.sp k).pt) ((qP o_ o_).mono d_) (by rw[gH];exact K.mono d_) (by rw[gH];exact v.mono d_) (by rw[gH];exact(h.at hk).2.mono d_);have kf:=fun k(hk:k<b.ar.length)=>F3 (bN t b i d k) (by
  have ab:bd 61 (bA b i k):=gY (h.at hk).2 K;have Q:(bN t b i d k).w.q=bA b i k:=by show((NV.from (b.sp k).pt).sub (.from (b.sp i).pt)).q=_;rw[NV.dW];rfl
  rw[Q];exact ab.mono d_) (by show bd 500 (NV.from d).q;rw[gH];exact v.mono d_) hz
 have J:=fun k(hk:k<b.ar.length)=>zA (s:=(bN t b i d k).far) (uv t b i d k) (wT h hk v hz).1 (wT h hk v hz).2.1 (wT h hk v hz).2.2;have n:=fun k(hk:k<b.ar.length)=>Is (bN t b i d k).far (x.s.under x.g) (J k hk) M;have E:=fun k j(hk:k<b.ar.length)(H:j<b.ar.length)=>Is (bN t b i d k).far (bN t b i d j).far (J k hk) (J j H);simp only[uv,N]at n E;have T:=fun k(hk:k<b.ar.length)(U:k≠i)=>Uk (d:=d) h hk U;have W:∀k,NM.of (.width t.aI) (.from (b.sp i).pt) (.from d) (.from (b.sp k).pt)=bN t b i d k:=fun _=>rfl;simp only[W]at a;clear M N kd;generalize x.s.under x.g=aa,ph d=ag at*;refine gA_ nf func114 mix ?_;simp[f114,R,ad];refine e1_ k1 ?_;simp[ad];refine e3_ k2 ?_;simp[ad];refine⟨r_,?_⟩;refine c1_ k3 ?_;simp[ad];refine lp (α:=Nat) (fun m=>⟨[(33,.p (.int .i64 m)),(32,.p (.int .i64 b.ar.length)),(31,.p (.seq (b.ar.map bG))),(13,.ptr 6 []),(12,.p (.str (kt b (fZ t b i (vP d) e m)))),(11,.ptr 5 []),(9,.ptr 3 []),(7,.ptr 2 []),(5,.ptr 1 []),(3,.ptr 0 []),(1,.p (.str aU))],
  [.box false (.p (po t b)),.box false (.p (cM (.from d))),.box false (.p zM),.box false (.p (cM (.from (b.sp i).pt))),.hole,.box false (.p (fJ aa)),.box false (.p (lj t b i d (fZ t b i (vP d) e m)))]⟩) (fun m=>m<=b.ar.length) (fun m=>b.ar.length-m) 0 s_ ?_ (he:=by simp[fZ,kt]) (hh:=by simp[fZ,lj])
 rintro m m1
 by_cases hm:m<b.ar.length
 case neg=>
  have:m=b.ar.length:=o_
  subst this;have V:∀j,fZ t b i (vP d) e b.ar.length=some j->(b.sp j).name≠[]:=fun j H=>h.nn j (qC _ _ _ _ _ _ _ H).1;generalize fZ t b i (vP d) e b.ar.length=o at*;cases o with
  |none=>simp[kt,ad]
  |some j=>
   have:=V j rfl;simp[kt,this,ad]
 have r:=ai.eM hm;have A:=cH (i:=m) o_;have hs:=C4 t b i (vP d) e m;have S:=qC t b i (vP d) e m;have y:=CY h.L hm;have O:=h.name hm;have a:=a m hm;have B:=kf m hm;have n:=n m hm;rw[wQ.eq_def]at hs
 by_cases hi:m=i
 ·have hc:iQ t b i (vP d) e m=false:=by rw[iQ,decide_eq_false (by simpa using hi)];rfl
  rw[hc,if_neg d_]at hs;have f:(b.sp m).name=aU:=O.2 hi;generalize yC (.width t.aI) (.from (b.sp i).pt) (.from d) (.from (b.sp m).pt)=af at*;simp[hm,r,y,ad];refine c4_ a ?_;simp[f,A,ad];exact rd (m+1) hm (he:=by simp[hs]) (hh:=by simp[hs])
 have f:¬(b.sp m).name=aU:=fun h=>hi (O.1 h);rw[T m hm hi]at a;cases C:mE t.aI (bA b i m) (vP d)
 ·have hc:iQ t b i (vP d) e m=false:=by rw[iQ,C];simp
  rw[hc,if_neg d_]at hs;rw[C]at a;simp[hm,r,y,ad];refine c4_ a ?_;simp[f,A,ad];exact rd (m+1) hm (he:=by simp[hs]) (hh:=by simp[hs])
 rw[C]at a
 by_cases X:dS (fS t b i (vP d) m) ⟨e,0,0⟩<0
 case neg=>
  have hc:iQ t b i (vP d) e m=false:=by rw[iQ,C];simp;intro _;omega
  have D:0<=dS (fS t b i (vP d) m) ⟨e,0,0⟩:=o_
  rw[hc,if_neg d_]at hs;generalize dS (fS t b i (vP d) m) ⟨e,0,0⟩=z at*;simp[hm,r,y,ad];refine c4_ a ?_;simp[f,ad];refine e1_ B ?_;simp[ad];refine e2_ n ?_;simp[D,A,ad];exact rd (m+1) hm (he:=by simp[hs]) (hh:=by simp[hs])
 have hc:iQ t b i (vP d) e m=true:=by rw[iQ,C,decide_eq_true X];simp[hi]
 have D:¬0<=dS (fS t b i (vP d) m) ⟨e,0,0⟩:=o_
 rw[hc,if_pos rfl]at hs;cases G:fZ t b i (vP d) e m with
 |none=>
  rw[G]at hs;dsimp only at hs;generalize dS (fS t b i (vP d) m) ⟨e,0,0⟩=z at*;simp[hm,r,y,kt,ad];refine c4_ a ?_;simp[f,ad];refine e1_ B ?_;simp[ad];refine e2_ n ?_;simp[D,A,ad];exact rd (m+1) hm (he:=by simp[hs,kt]) (hh:=by simp[hs,lj])
 |some j=>
  obtain⟨ae,_⟩:=S j G;have I:j<b.ar.length:=o_
  have c:=h.nn j I;have P:=kf j I;have E:=E m j hm I;rw[G]at hs;dsimp only at hs;generalize dS (fS t b i (vP d) m) ⟨e,0,0⟩=z at*
  by_cases F:dS (fS t b i (vP d) m) (fS t b i (vP d) j)<0
  ·rw[if_pos F]at hs;generalize dS (fS t b i (vP d) m) (fS t b i (vP d) j)=z2 at*;simp[hm,r,y,kt,lj,ad];refine c4_ a ?_;simp[f,ad];refine e1_ B ?_;simp[ad];refine e2_ n ?_;simp[D,c,ad];refine e1_ B ?_;simp[c,ad];refine e1_ P ?_;simp[c,ad];refine e2_ E ?_;simp[F,c,A,ad];exact rd (m+1) hm (he:=by simp[hs,kt]) (hh:=by simp[hs,lj])
  ·rw[if_neg F]at hs;generalize dS (fS t b i (vP d) m) (fS t b i (vP d) j)=z2 at*;simp[hm,r,y,kt,lj,ad];refine c4_ a ?_;simp[f,ad];refine e1_ B ?_;simp[ad];refine e2_ n ?_;simp[D,c,ad];refine e1_ B ?_;simp[c,ad];refine e1_ P ?_;simp[c,ad];refine e2_ E ?_;simp[F,c,A,ad];exact rd (m+1) hm (he:=by simp[hs,kt]) (hh:=by simp[hs,lj])
def pc(t b:ai)(aU:List Nat)(d:bS):Int:=if iA t b≠0 then iA t b else if fO b.ar aU=none then 10 else lV d
theorem zz{t b:ai}{aU:List Nat}{d:bS}(h:pc t b aU d=0):iA t b=0/\fO b.ar aU≠none/\lV d=0:=by
 rw[pc]at h
 by_cases a:iA t b=0
 case neg=>rw[if_pos a]at h;exact absurd h a
 rw[if_neg (by simp[a])]at h
 by_cases c:fO b.ar aU=none
 ·rw[if_pos c]at h;omega
 rw[if_neg c]at h;exact⟨a,c,h⟩
structure tL(t b:ai)(aU:List Nat)(d:bS)(i:Nat)(x:XD)(e:Rat):Prop where
 C:oY t b aU i
 dk:bd 30 (vP d)
 nz:(vP d).dot (vP d)≠0
 E:R4 t b i d x e
 ef:∃k:Int,t.ld (vP (b.sp i).pt) (vP d) t.cs.length=(k,e)
theorem UA(r:Int)(a b:V2):fu r a b=fu r b a:=by rw[fu,fu,Jt]
theorem aAx{t b:ai}{aU:List Nat}(u:jJ t)(n:jK b)(h:iA t b=0)(hf:fO b.ar aU≠none)(o:∀s∈b.ar,bd 30 (vP s.pt)):∃i,oY t b aU i:=by
 obtain⟨c,m,_⟩:=aAy n h;rcases zn b aU with⟨i,hi⟩|⟨_,e⟩
 case inr=>exact absurd e hf
 rw[iA,if_neg (by simp[c]),sd]at h
 by_cases d:24<b.ar.length
 ·rw[if_pos d]at h;omega
 rw[if_neg d]at h;have f:=qu.1 h;have l:∀i,i<b.ar.length->il t (b.ar.take i) (b.sp i)=0:=fun i hi=>by
  have:=f i hi
  rwa [ij,ai.eM hi]at this
 have a:∀k,k<b.ar.length->(b.sp k).name≠[]/\∀j,j<k->¬fu t.aI (vP (b.sp j).pt) (vP (b.sp k).pt)<0:=fun k hk=>by
  have:=l k hk;rw[il]at this
  split at this
  ·omega
  rename_i g1
  split at this
  ·omega
  split at this
  ·contradiction
  split at this
  ·omega
  split at this
  ·omega
  rename_i g2;refine⟨fun e=>g1 (by rw[e];rfl),fun j p q=>g2 (b0.2 ⟨b.sp j,?_,decide_eq_true q⟩)⟩;exact a9 (i:=j) (by rw[bw,if_pos p];exact ai.eM o_)
 refine⟨i,c,u.cl,m,o,hi,fun k hk r=>?_,fun k hk=>(a k hk).1⟩;rcases Nat.lt_or_gt_of_ne r with g|g
 ·exact(a i hi.2.1).2 k g
 ·rw[UA];exact(a k hk).2 i g
theorem T8(t:ai)(p:bS)(d:NV)(i:Nat)(h:t.dY (d.q) i≠0):((t.ct (.from p) (cV d) i).s.under (t.ct (.from p) (cV d) i).g).q=⟨t.jj (vP p) (d.q) i,0,0⟩:=by
 have a:=an3 t p d i h;have hn:=C1 t p d i;have c:¬(t.ct (.from p) (cV d) i).s.norm.q=0:=by
  rw[hn];intro e;rcases e9.1 e with e|e<;>exact h e
 have hs:(t.ct (.from p) (cV d) i).s.b.q=0:=congrArg S3.b (uw t d i);have f:(t.ct (.from p) (cV d) i).s.d.q=0:=congrArg S3.d (uw t d i);generalize t.ct (.from p) (cV d) i=x at*;rw[NS.under,if_neg c]at a⊢;rw[NS.q];dsimp only at a⊢;rw[a,f];congr 1;show -(x.g.q*x.s.b.q)/x.s.norm.q=0;rw[hs,Rat.mul_zero,fv,fb,fp]
theorem Us(t:ai)(p d:bS)(i:Nat)(h:t.dY (vP d) i≠0):((t.ct (.from p) (ph d) i).s.under (t.ct (.from p) (ph d) i).g).q=⟨t.jj (vP p) (vP d) i,0,0⟩:=T8 t p (.from d) i h
theorem ZK{t b:ai}{aU:List Nat}{d:bS}(g:jJ t)(u:jK b)(h:pc t b aU d=0)(w:∀s∈b.ar,bd 30 (vP s.pt))(f:bd 30 (vP d)):∃i x e,tL t b aU d i x e:=by
 obtain⟨o,p,r⟩:=zz h;obtain⟨i,c⟩:=aAx g u o p w;obtain⟨n1,n2,hn,hc⟩:=wF c.kM;have hz:=alx r;have v:¬((vP d).x=0/\(vP d).y=0):=fun⟨a,b⟩=>hz (by rw[V2.dot,a,b];decide+kernel);obtain⟨j,l,m,z,A⟩:=am2 t (b.sp i).pt d n1 hc v;have k:t.dY (vP d) j≠0:=fun e=>by rw[e]at m;exact absurd m d_
 have n:=(c.at c.ci.2.1).2;have B:=(aAD hn (n.mono (show 30<=90 by decide)) (f.mono (show 30<=90 by decide)) l).2.2;refine⟨i,_,t.jj (vP (b.sp i).pt) (vP d) j,c,f,hz,⟨z,fun e=>?_,?_,Us t _ d j k,B.mono d_⟩,⟨j,A⟩⟩
 ·rw[aAs]at e;rcases e9.1 e with e|e<;>exact absurd e k
 ·exact zf g.cl hn (by rw[gH];exact n.mono d_) ⟨by show bd 900 (NV.from d).q;rw[gH];exact f.mono d_,⟨lF d_,lF d_⟩,lF d_⟩ l
def vZ(o:Option Nat):Int:=bh (!o.isSome) 7
theorem zt{d:bS}(h:lV d=0):bZ d.x=0/\bZ d.y=0:=jO (D6 h).1
theorem zE(t b:ai)(aU:List Nat)(d:bS)(i:Nat)(x:XD)(e:Rat)(p:jJ t)(m:jK b)(c:jF d)(j:pc t b aU d=0)(h:tL t b aU d i x e)(o:Option Nat)(n:o=fZ t b i (vP d) e b.ar.length):
 aq prog 51 [b7 t,.seq (b.ar.map bG),.str aU,dA d] (.aD [po t b,.str (kt b o),lj t b i d o,.int .i64 (vZ o)]):=by
 obtain⟨k,q,a⟩:=zz j;obtain⟨r0,r1⟩:=uu h.C.kM;have l:=h.C.ci.2.2;have k1:=TX t b p m;have k2:=TY t b o_ o_ h.C.L;have k3:=Dr false 10;have k4:=UU d c;have k5:=DA [0,0] s_;have k6:=FJ d (zt a).1 (zt a).2 c;have k7:=abw t b aU i d x e h.C h.dk h.nz h.E;have k8:=Dr (!o.isSome) 7;rw[k]at k1;rw[a]at k4;rw[<-n]at k7;have w0:bh false 10=0:=rfl;have g:bJ [0,0]=0:=d_
 rw[w0]at k3;rw[g]at k5;simp only[bi,b4]at k5;rw[vZ];generalize bh (!o.isSome) 7=w,kt b o=u at*;have f:=aGo t b i d o;generalize lj t b i d o=r,o.isSome=s at*;refine gA_ nf func51 mix ?_;simp[f51,-qt,ad];refine c2_ k1 ?_;simp[-qt,ad];refine c2_ k2 ?_;simp[l,-qt,ad];refine e2_ k3 ?_;simp[-qt,ad];refine e1_ k4 ?_;simp[-qt,ad];refine ep k5 t_ t_ ?_;simp[-qt,ad];refine⟨r_,?_⟩;refine e1_ k6 ?_;simp[-qt,ad];refine e3_ k7 ?_;simp[f,-qt,ad];refine⟨r_,?_⟩;refine e2_ k8 ?_;simp[f,-qt,ad]
@[simp] theorem aNZ:aL tF=.agg 44:=rfl
def nJ(p d:V2)(s:S3):P4:=⟨⟨p.x+s.a*d.x,s.b*d.x,s.d⟩,⟨p.y+s.a*d.y,s.b*d.y,s.d⟩⟩
theorem UP(t b:ai)(aU:List Nat)(d:bS)(i j:Nat)(x:XD)(e:Rat)(o:jJ t)(l:jK b)(m:jF d)(g:pc t b aU d=0)(h:tL t b aU d i x e)(c:some j=fZ t b i (vP d) e b.ar.length):
 aq prog 10 [b7 t,.seq (b.ar.map bG),.str aU,dA d] (.aD [.str (b.sp j).name,eS (fS t b i (vP d) j),.int .i64 0]):=by
 have a:=(qC _ _ _ _ _ _ _ c.symm).1;have k1:=zE t b aU d i x e o l m g h _ c;have p:bd 61 (bA b i j):=gY (h.C.at a).2 (h.C.at h.C.ci.2.1).2;have k2:=F3 (bN t b i d j) (by
  have k:(bN t b i d j).w.q=bA b i j:=by show((NV.from (b.sp j).pt).sub (.from (b.sp i).pt)).q=_;rw[NV.dW];rfl
  rw[k];exact p.mono d_) (by show bd 500 (NV.from d).q;rw[gH];exact h.dk.mono d_) h.nz
 obtain⟨f1,f2,f3⟩:=wT h.C a h.dk h.nz;have hq:=uv t b i d j;have f:fV kB (bN t b i d j).far:=by
  have:=zA (s:=(bN t b i d j).far) hq f1 f2 f3;exact⟨this.1.mono d_,this.2.1.mono d_,this.2.2.mono d_⟩
 have k3:=FN _ f;have k4:=FU _ f;rw[hq]at k3 k4;have n:lg (fS t b i (vP d) j)=false:=by
  rw[lg,jz (f1.mono d_),jz (f2.mono d_),jz (f3.mono d_)];rfl
 rw[n]at k3;rw[show vZ (some j)=0 from rfl,kt,lj]at k1;generalize (bN t b i d j).far=s at*;refine gA_ nf func10 mix ?_;simp(maxDischargeDepth:=99) [f10,ad,c4_ k1,c1_ k2,c1_ k3,c1_ k4]
theorem UM(t b:ai)(aU:List Nat)(d:bS)(j:List Nat)(c e:PV)(a:Int)(f:aL c= .agg 117)(i:aL e= .agg 121)(h:aq prog 51 [b7 t,.seq (b.ar.map bG),.str aU,dA d] (.aD [c,.str j,e,.int .i64 a]))(g:¬a=0):
 aq prog 10 [b7 t,.seq (b.ar.map bG),.str aU,dA d] (.aD [.str [],tF,.int .i64 a]):=by
 refine gA_ nf func10 mix ?_;rw[tF];simp[f10,ad,f,i,g,c4_ h]
theorem Z4(t b:ai)(aU:List Nat)(d:bS)(i j:Nat)(x:XD)(e:Rat)(E:jJ t)(A:jK b)(m:jF d)(g:pc t b aU d=0)(h:tL t b aU d i x e)(p:some j=fZ t b i (vP d) e b.ar.length):
 aq prog 11 [b7 t,.seq (b.ar.map bG),.str aU,dA d] (.aD [nI (nJ (vP (b.sp i).pt) (vP d) (fS t b i (vP d) j)),.int .i64 0]):=by
 obtain⟨k,I,l⟩:=zz g;have n:=(qC _ _ _ _ _ _ _ p.symm).1;have z:=h.C.ci.2.2;have f:=(h.C.at h.C.ci.2.1).2;have od:=h.dk;have k1:=zE t b aU d i x e E A m g h _ p;have F:bd 61 (bA b i j):=gY (h.C.at n).2 f;have k2:=F3 (bN t b i d j) (by
  have k:(bN t b i d j).w.q=bA b i j:=by show((NV.from (b.sp j).pt).sub (.from (b.sp i).pt)).q=_;rw[NV.dW];rfl
  rw[k];exact F.mono d_) (by show bd 500 (NV.from d).q;rw[gH];exact od.mono d_) h.nz
 obtain⟨f1,f2,f3⟩:=wT h.C n h.dk h.nz;have hq:=uv t b i d j;have c:=zA (s:=(bN t b i d j).far) hq f1 f2 f3;have k3:=FJ d (zt l).1 (zt l).2 m;have k4:=vN (.from d) (bN t b i d j).far.a (by rw[gH];exact od.mono d_) (c.1.mono d_);have r:bd 630 ((NV.from d).times (bN t b i d j).far.a).q:=by rw[NV.wK,gH];exact CI od c.1
 have k5:=aif (.from (b.sp i).pt) ((NV.from d).times (bN t b i d j).far.a) (by rw[gH];exact f.mono d_) (r.mono d_);have k6:=vN (.from d) (bN t b i d j).far.b (by rw[gH];exact od.mono d_) (c.2.1.mono d_);have G:bd 630 ((NV.from d).times (bN t b i d j).far.b).q:=by rw[NV.wK,gH];exact CI od c.2.1
 have H:bd 661 ((NV.from (b.sp i).pt).add ((NV.from d).times (bN t b i d j).far.a)).q:=by rw[NV.Kb,gH];exact aAE f r
 have hn:(NB.mk ((NV.from (b.sp i).pt).add ((NV.from d).times (bN t b i d j).far.a)) ((NV.from d).times (bN t b i d j).far.b) (bN t b i d j).root).q=nJ (vP (b.sp i).pt) (vP d) (fS t b i (vP d) j):=by
  rw[<-hq];show P4.mk (S3.mk (_+_*_) (_*_) _) (S3.mk (_+_*_) (_*_) _)=P4.mk (S3.mk (_+_*_) (_*_) _) (S3.mk (_+_*_) (_*_) _);congr 2<;>rw[gb]<;>rfl
 have k7:=FW (NB.mk ((NV.from (b.sp i).pt).add ((NV.from d).times (bN t b i d j).far.a)) ((NV.from d).times (bN t b i d j).far.b) (bN t b i d j).root) ⟨H.mono d_,G.mono d_,c.2.2.mono d_⟩;rw[hn]at k7;have o:rI (nJ (vP (b.sp i).pt) (vP d) (fS t b i (vP d) j))=false:=by
  have g1:=kl f.1 (bC f1 od.1);have g2:=bC f2 od.1;have g3:=kl f.2 (bC f1 od.2);have y:=bC f2 od.2;rw[rI,lg,lg,nJ];dsimp only;rw[jz (g1.mono d_),jz (g2.mono d_),jz (g3.mono d_),jz (y.mono d_),jz (f3.mono d_)];rfl
 rw[if_neg (by rw[o];decide)]at k7;rw[show vZ (some j)=0 from rfl,kt,lj]at k1;clear hn o hq;generalize nJ (vP (b.sp i).pt) (vP d) (fS t b i (vP d) j)=P at*;have J:jB (bN t b i d j)=.st 121 [cM (bN t b i d j).w,cM (bN t b i d j).d,eF (bN t b i d j).root]:=rfl;have hs:fJ (bN t b i d j).far=.st 125 [eF (bN t b i d j).far.a,eF (bN t b i d j).far.b,eF (bN t b i d j).far.d]:=rfl;rw[hs]at k2;generalize (bN t b i d j).far.a=u,(bN t b i d j).far.b=v,(bN t b i d j).far.d=fd at*;rw[tH]at k7;have B:aL (jB (bN t b i d j))=.agg 121:=Dc _;have D:bW (jB (bN t b i d j))=[cM (bN t b i d j).w,cM (bN t b i d j).d,eF (bN t b i d j).root]:=rfl;generalize jB (bN t b i d j)=M,(bN t b i d j).root=rt,(NV.from d).times v=v2 at*;generalize (NV.from d).times u=v1 at*;generalize (NV.from (b.sp i).pt).add v1=v3 at*;refine gA_ nf func11 mix ?_;simp+decide (maxDischargeDepth:=99) [f11,ad,B,z,D,c4_ k1,e1_ k2,e1_ k3,e2_ k4,e2_ k5,e2_ k6,e1_ k7]
end Go.az
