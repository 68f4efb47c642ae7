import Derived.Test.YtdjojlnnobkliaaGreatDoorTPG
import Derived.Test.YtdjojlnnobkliaaGreatDoorTPF
/- Parts of a proof. -/
set_option maxRecDepth 100000
set_option maxHeartbeats 4000000
set_option linter.unusedSimpArgs false
set_option linter.unusedVariables false
set_option linter.unusedSectionVars false
open Go.Proofs.Tryz
open And renaming intro->aT
open Bool renaming and_eq_true->a1, or_eq_true->a6
open Go.IntKind renaming i64->a7
open Int renaming mul_zero->a8, neg_mul->bb, mul_one->be, zero_mul->bf
open List renaming mem_of_getElem?->bi, find?_cons->bl, mem_singleton->bo, foldl_append->bv, all_eq_true->bw, map_cons->b0
open Nat renaming mod_eq_of_lt->b1, lt_or_ge->b2, mod_self->b3, add_mod_right->b4, eq_zero_or_pos->b5, not_lt_zero->cb, le_refl->cc
open Option.some renaming injEq->cd
open Rat renaming div_def->ce, mul_inv_cancel->ck, mul_eq_zero->cx, sub_eq_add_neg->cy, add_zero->c6, intCast_sub->c9, div_mul_cancel->da, zero_mul->db, le_of_lt->dd, intCast_inj->dg, neg_neg->dl, neg_sub->dp, mul_zero->dq, mul_comm->dx, not_lt->dy, intCast_mul->dz, sub_self->ea, add_comm->eb, mul_one->ec
namespace Go.ag
open Go.ag renaming c1->c1_, c2->c2_, c3->c3_, c4->c4_, c5->c5_, e1->e1_, e2->e2_, e3->e3_, e4->e4_
open Go.Proofs
def iF:Option Nat->Int
 |none=>-1
 |some j=>j
def pI(t b:aj)(i:Nat)(d:V2):Option Nat->PV
 |none=>lg
 |some j=>eS (fS t b i d j)
@[simp] theorem aQK(t b:aj)(i:Nat)(d:V2)(o:Option Nat):aK (pI t b i d o)=.agg 58:=by
 cases o<;>rfl
@[simp] theorem aVz:aK lg=.agg 58:=rfl
theorem zf(a:Rat):aq prog 83 [.str (aR a)] (eS ⟨a,0,0⟩):=by
 refine gA_ nf func83 mix ?_;simp[f83,ky,o8,aa]
theorem aGo{t b:aj}{aP:List Nat}{i k:Nat}{d:V2}(h:mU t b aP i)(hk:k<b.an.length)(a:bc 30 d)(hz:d.dot d≠0):yF (fS t b i d k):=by
 obtain⟨r0,r1⟩:=qH h.jz;have c:bc 61 (bk b i k):=gD (h.at hk).2 (h.at h.ci.2.1).2;have e:=dh c a;have f:=dh a a;have g:=dh c c;have j:=mG (r:=t.aD) o_ o_;exact⟨(gQ e f).mono d_,(jQ (lH f)).mono d_,(fK (bh e e) (bh f (fK g j))).mono d_⟩
theorem FA(t b:aj)(aP:List Nat)(i:Nat)(d:V2)(O:Int)(e:Rat)(h:mU t b aP i)(v:bc 30 d)(hz:d.dot d≠0)(hx:t.gF (vP (b.sp i).pt) d t.cs.length=(O,e))(I:aJ 600 e):
 aq prog 24 [cw t,.seq (b.an.map bE),.int .i64 i,eV d] (.aC [.int .i64 (iF (fG t b i d e b.an.length)),pI t b i d (fG t b i d e b.an.length)]):=by
 obtain⟨r0,r1⟩:=qH h.jz;obtain⟨_,_,hn,_⟩:=rU h.jz;have P:=h.L.sl;have hi:=h.ci.2.1;have l:=aj.eK hi;obtain⟨E,D⟩:=h.at hi;have k1:=aDP t (vP (b.sp i).pt) d h.tl hn (D.mono d_) (v.mono d_);rw[hx,E]at k1;have c:=fun k(hk:k<b.an.length)=>po (vP (b.sp k).pt) (vP (b.sp i).pt) ((h.at hk).2.mono d_) (D.mono d_);have H:∀k,(vP (b.sp k).pt).sub (vP (b.sp i).pt)=bk b i k:=fun _=>rfl;simp only[H]at c;have F:∀k,k<b.an.length->bc 61 (bk b i k):=fun k hk=>gD (h.at hk).2 D;have f:=fun k(hk:k<b.an.length)=>aDR t.aD (bk b i k) d o_ o_ ((F k hk).mono d_) (v.mono d_);have g:=fun k(hk:k<b.an.length)=>ZY t.aD (bk b i k) d o_ o_ ((F k hk).mono d_) (v.mono d_) hz;have G:∀k,uM t.aD (bk b i k) d=fS t b i d k:=fun _=>rfl;simp only[G]at g;have kE:=zf e;have C:=fun k(hk:k<b.an.length)=>aGo h hk v hz;have r:=fun k(hk:k<b.an.length)=>EJ (fS t b i d k) ⟨e,0,0⟩ (C k hk) ⟨I.mono d_,kT d_,kT d_⟩;have y:=fun k j(hk:k<b.an.length)(J:j<b.an.length)=>EJ (fS t b i d k) (fS t b i d j) (C k hk) (C j J);refine gA_ nf func24 mix ?_;simp[f24,hi,l,aa];refine e3 k1 ?_;simp[aa];refine lp (α:=Nat) (fun m=>⟨[(14,.p (.int .i64 m)),(13,.ptr 3 []),(12,.p (.int .i64 (iF (fG t b i d e m)))),(11,.p (.str (aR e))),(9,.ptr 2 []),(7,.ptr 1 []),(4,.ptr 0 []),(2,.p (.int .i64 i)),(1,.p (.seq (b.an.map bE)))],
  [.box false (.p (cw t)),.box false (.p (eV d)),.box false (.p lg),.box false (.p (pI t b i d (fG t b i d e m)))]⟩) (fun m=>m<=b.an.length) (fun m=>b.an.length-m) 0 s_ ?_ (he:=by simp[fG,iF]) (hh:=by simp[fG,pI,lg])
 rintro m m1
 by_cases hm:m<b.an.length
 case neg=>
  have:m=b.an.length:=o_
  subst this;generalize fG t b i d e b.an.length=o at*;simp[aa]
 have n:=aj.eK hm;obtain⟨em,R⟩:=h.at hm;have q:=cE (i:=m) o_;have hs:=Fl t b i d e m;have M:=wP t b i d e m;have c:=c m hm;have f:=f m hm;have g:=g m hm;have r:=r m hm;rw[em,E]at c;rw[zk.eq_def]at hs
 by_cases B:m=i
 ·have hc:jA t b i d e m=false:=by rw[jA,decide_eq_false (by simpa using B)];rfl
  rw[hc,if_neg d_]at hs;subst B;generalize bk b m m=W at*;simp[hm,n,aa];refine e2 c ?_;simp[aa];refine⟨r_,?_⟩;simp[q,aa];exact rd (m+1) hm (he:=by simp[hs]) (hh:=by simp[hs])
 have a:¬(m:Int)=i:=o_
 cases s:tA t.aD (bk b i m) d
 ·have hc:jA t b i d e m=false:=by rw[jA,s];simp
  rw[hc,if_neg d_]at hs;rw[s]at f;simp[hm,n,hi,l,aa];refine e2 c ?_;simp[a,aa];refine⟨r_,?_⟩;refine c3_ f ?_;simp[a,q,aa];exact rd (m+1) hm (he:=by simp[hs]) (hh:=by simp[hs])
 rw[s]at f
 by_cases N:dY (fS t b i d m) ⟨e,0,0⟩<0
 case neg=>
  have hc:jA t b i d e m=false:=by rw[jA,s];simp;intro _;omega
  have u:0<=dY (fS t b i d m) ⟨e,0,0⟩:=o_
  rw[hc,if_neg d_]at hs;generalize dY (fS t b i d m) ⟨e,0,0⟩=z at*;simp[hm,n,hi,l,aa];refine e2 c ?_;simp[a,aa];refine⟨r_,?_⟩;refine c3_ f ?_;simp[a,aa];refine c3_ g ?_;simp[aa];refine e1_ kE ?_;simp[aa];refine e2_ r ?_;simp[u,q,aa];exact rd (m+1) hm (he:=by simp[hs]) (hh:=by simp[hs])
 have hc:jA t b i d e m=true:=by rw[jA,s,decide_eq_true N];simp[B]
 have u:¬0<=dY (fS t b i d m) ⟨e,0,0⟩:=o_
 rw[hc,if_pos rfl]at hs;cases A:fG t b i d e m with
 |none=>
  rw[A]at hs;dsimp only at hs;generalize dY (fS t b i d m) ⟨e,0,0⟩=z at*;simp[hm,n,hi,l,iF,aa];refine e2 c ?_;simp[a,aa];refine⟨r_,?_⟩;refine c3_ f ?_;simp[a,aa];refine c3_ g ?_;simp[aa];refine e1_ kE ?_;simp[aa];refine e2_ r ?_;simp[u,q,aa];exact rd (m+1) hm (he:=by simp[hs,iF]) (hh:=by simp[hs,pI])
 |some j=>
  obtain⟨Q,_⟩:=M j A;have K:j<b.an.length:=o_
  have w:¬(j:Int)<0:=o_
  have y:=y m j hm K;rw[A]at hs;dsimp only at hs;generalize dY (fS t b i d m) ⟨e,0,0⟩=z at*
  by_cases x:dY (fS t b i d m) (fS t b i d j)<0
  ·rw[if_pos x]at hs;generalize dY (fS t b i d m) (fS t b i d j)=z2 at*;simp[hm,n,hi,l,iF,pI,aa];refine e2 c ?_;simp[a,aa];refine⟨r_,?_⟩;refine c3_ f ?_;simp[a,aa];refine c3_ g ?_;simp[aa];refine e1_ kE ?_;simp[aa];refine e2_ r ?_;simp[u,w,aa];refine c2_ y ?_;simp[x,w,q,aa];exact rd (m+1) hm (he:=by simp[hs,iF]) (hh:=by simp[hs,pI])
  ·rw[if_neg x]at hs;generalize dY (fS t b i d m) (fS t b i d j)=z2 at*;simp[hm,n,hi,l,iF,pI,aa];refine e2 c ?_;simp[a,aa];refine⟨r_,?_⟩;refine c3_ f ?_;simp[a,aa];refine c3_ g ?_;simp[aa];refine e1_ kE ?_;simp[aa];refine e2_ r ?_;simp[u,w,aa];refine c2_ y ?_;simp[x,w,q,aa];exact rd (m+1) hm (he:=by simp[hs,iF]) (hh:=by simp[hs,pI])
theorem WM(t b:aj)(aP:List Nat)(d:bM)(i:Nat)(x:XD)(e:Rat)(q:iu t)(c:jZ b)(m:jx d)(k:lQ t b aP d=0)(h:rK t b aP d i x e)(o:Option Nat)(p:o=fG t b i (vP d) e b.an.length):
 aq prog 23 [cw t,.seq (b.an.map bE),.str aP,cW d] (.int .i64 (tO o)):=by
 obtain⟨l,s,a⟩:=zd k;obtain⟨r,hx⟩:=h.ef;have k1:=BG t b q c;have k2:=BI b aP c.sl;have k3:=ML d m;have k4:=FA t b aP i (vP d) r e h.C h.dk h.nz hx h.E.sz;rw[l]at k1;rw[h.C.ci.1]at k2;rw[a]at k3;rw[<-p,<-UR (Ag a).1]at k4;have f:¬(i:Int)<0:=o_
 refine gA_ nf func23 mix ?_;have g:=aQK t b i (vP d) o;generalize pI t b i (vP d) o=u at*;cases o with
 |none=>
  simp only[iF]at k4;rw[show tO none=7 from rfl];simp[f23,aa];refine c2_ k1 ?_;simp[aa];refine c2_ k2 ?_;simp[f,aa];refine c1_ k3 ?_;simp[aa];refine e2_ k2 ?_;simp[aa];refine e4_ k4 ?_;simp[g,aa];rfl
 |some j=>
  have n:¬(j:Int)<0:=o_
  simp only[iF]at k4;rw[show tO (some j)=0 from rfl];simp[f23,aa];refine c2_ k1 ?_;simp[aa];refine c2_ k2 ?_;simp[f,aa];refine c1_ k3 ?_;simp[aa];refine e2_ k2 ?_;simp[aa];refine e4_ k4 ?_;simp[g,n,aa];rfl
theorem WL(t b:aj)(aP:List Nat)(d:bM)(j:iu t)(f:jZ b)(g:jx d)(a:¬lQ t b aP d=0):
 aq prog 23 [cw t,.seq (b.an.map bE),.str aP,cW d] (.int .i64 (lQ t b aP d)):=by
 have k1:=BG t b j f;have k2:=BI b aP f.sl;have k3:=ML d g;refine gA_ nf func23 mix ?_;rw[lQ]at a⊢
 by_cases c:iN t b=0
 case neg=>
  rw[if_pos c];generalize iN t b=e at*;simp[f23,aa,c,c2_ k1]
 rw[if_neg (by simp[c])]at a⊢;rw[c]at k1;rcases KP b aP with⟨i,i1,i2,i3⟩|⟨i1,i3⟩
 ·rw[i1]at k2;have h:¬(i:Int)<0:=by omega
  rw[if_neg (by rw[i3];simp)]at a⊢;generalize jR d=e at*;simp(maxDischargeDepth:=99) [f23,aa,h,a,c2_ k1,c2_ k2,c1_ k3]
 ·rw[i1]at k2;rw[if_pos i3];simp[f23,aa,c2_ k1,c2_ k2]
theorem W6{t b:aj}{aP cg:List Nat}{n:Nat}(hs:uf t b aP cg n=true)(h:iN t b=0):∀s∈b.an,bc 30 (vP s.pt):=by
 rw[uf,h]at hs;simp only[a1,a6,decide_eq_true_eq]at hs;obtain⟨_,_,_,_,hs⟩:=hs;have hf:tK t b n 9=true:=by
  rcases hs with hs|hs
  ·exact absurd rfl hs
  ·exact hs
 rw[tK]at hf;simp only[a1,bw]at hf;obtain⟨_,_,_,_,_,_,_,hf⟩:=hf;intro s h;have:=hf s h;rw[rN,a1]at this;exact⟨yo this.1,yo this.2⟩
theorem W5(t b:aj)(aP cg:List Nat)(i:Nat)(h:mU t b aP i):aq prog 28 [uh t b aP cg] (eV (vP (b.sp i).pt)):=by
 obtain⟨d,a,_⟩:=h.ci;have e:=h.L.sl;have k:=BI b aP o_;have c:=aj.eK a;rw[d]at k;rw[(h.at a).1];refine gA_ nf func28 mix ?_;simp[f28,aa,a,c,e2_ k]
theorem aQP:prog.stoodInHeld 61=false:=k_
@[simp] theorem aS1:qp prog 61=true:=k_
@[simp] theorem aS5{a b c d e f a' b' c' d' e' g:List Nat}:gE prog 9 61 (.st 60 [.st 58 [.str a,.str b,.str c],.st 58 [.str d,.str e,.str f]]) (.st 60 [.st 58 [.str a',.str b',.str c'],.st 58 [.str d',.str e',.str g]])=some (jo a b c a' b' c'&&jo d e f d' e' g):=by
 have j:=underlying61;have h:=D8 (n:=6) (a:=a) (b:=b) (c:=c) (d:=a') (e:=b') (f:=c');have i:=D8 (n:=6) (a:=d) (b:=e) (c:=f) (d:=d') (e:=e') (f:=g);rw[show(6+2:Nat)=8 from rfl]at h i;rw[gE]
 case heq=>exact j
 simp[aQP,ju,h,i,aK]
theorem iZ{a b:Rat}(h:0<=a)(k:0<=b):0<=a*b:=Rat.mul_nonneg h k
theorem pP{a b:Rat}(h:0<a)(k:0<b):0<a*b:=Rat.mul_pos h k
theorem U5{x y:Rat}(h:0<=y)(k:y<x):y*y<x*x:=by
 have:=pP (a:=x-y) (b:=x+y) (by grind) (by grind)
 grind
theorem FE{x y:Rat}(b:0<=y)(h:x*x<=y*y):x<=y/\-y<=x:=by
 constructor
 ·by_cases a:x<=y
  ·exact a
  ·have:=U5 b (by grind:y<x);grind
 ·by_cases a:-y<=x
  ·exact a
  ·have:=U5 b (by grind:y< -x);grind
theorem zi{p q r s:Rat}(c:0<=p)(d:p<=q)(e:0<=r)(f:r<=s):p*r<=q*s:=by
 have a:=iZ (a:=q-p) (b:=s) (by grind) (by grind);have b:=iZ (a:=p) (b:=s-r) c (by grind)
 grind
theorem BT{x y k:Rat}(hk:0<k)(h:x*k<=y*k):x<=y:=by
 by_cases c:x<=y
 ·exact c
 ·have:=pP (a:=x-y) (b:=k) (by grind) hk;grind
def Pd(d a b:Rat):Prop:=(0<=a/\b*b*d<=a*a)\/(0<=b/\a*a<=b*b*d)
theorem To{d a b a' b':Rat}(c:0<d)(e:0<=a)(f:b*b*d<=a*a)(g:0<=a')(h:b'*b'*d<=a'*a'):b*b'*d<=a*a'/\-(a*a')<=b*b'*d:=by
 have i:=iZ (sq_nonneg b) (dd c);have j:=iZ (sq_nonneg b') (dd c);have:=zi i f j h;exact FE (iZ e g) (by grind)
theorem Mv{d a b a' b':Rat}(h:0<d)(c:0<=b)(e:a*a<=b*b*d)(f:0<=b')(g:a'*a'<=b'*b'*d):a*a'<=b*b'*d/\-(b*b'*d)<=a*a':=by
 have:=zi (sq_nonneg a) e (sq_nonneg a') g;exact FE (iZ (iZ c f) (dd h)) (by grind)
theorem Mw{d a b a' b':Rat}(c:0<d)(e:0<=a)(f:b*b*d<=a*a)(g:0<=b')(h:a'*a'<=b'*b'*d):a'*b<=a*b'/\-(a*b')<=a'*b:=by
 have i:=iZ (sq_nonneg b) (dd c);have:=zi (sq_nonneg a') h i f;exact FE (iZ e g) (BT c (by grind))
theorem Pd.Mx{d a b a' b':Rat}(h:0<d)(e:0<=a)(l:b*b*d<=a*a)(f:0<=b')(m:a'*a'<=b'*b'*d):Pd d (a+a') (b+b'):=by
 obtain⟨c1,c2⟩:=Mw h e l f m
 by_cases g:0<=a+a'
 ·by_cases n:0<=b+b'
  ·by_cases o:(b+b')*(b+b')*d<=(a+a')*(a+a')
   ·exact .inl ⟨g,o⟩
   ·exact .inr ⟨n,by grind⟩
  ·refine .inl ⟨g,?_⟩;have g1:a*(-b-b')<=(a+a')* -b:=by grind
   have g2:0<=a*(-b-b'):=iZ e (by grind);have g3:=zi g2 g1 g2 g1;have i:=iZ (a:=a*a-b*b*d) (b:=(-b-b')*(-b-b')) (by grind) (sq_nonneg _);exact BT (k:=b*b) (by have:=pP (a:=-b) (b:=-b) (by grind) (by grind);grind) (by grind)
 ·have g1:b'*(-a'-a)<=(b+b')* -a':=by grind
  have g2:0<=b'*(-a'-a):=iZ f (by grind);have g3:=zi g2 g1 g2 g1;have c:0< -a':=by grind
  have j:0<=b+b':=BT c (by grind);refine .inr ⟨j,?_⟩;have i:=iZ (a:=b'*b'*d-a'*a') (b:=(-a'-a)*(-a'-a)) (by grind) (sq_nonneg _);have p:=iZ (a:=((b+b')* -a')*((b+b')* -a')-(b'*(-a'-a))*(b'*(-a'-a))) (b:=d) (by grind) (dd h);exact BT (k:=a'*a') (by have:=pP c c;grind) (by grind)
theorem Pd.add{d a b a' b':Rat}(i:0<d)(h:Pd d a b)(j:Pd d a' b'):Pd d (a+a') (b+b'):=by
 rcases h with⟨c,e⟩|⟨c,e⟩<;>rcases j with⟨f,g⟩|⟨f,g⟩
 ·have:=To i c e f g;exact .inl ⟨by grind,by grind⟩
 ·exact Pd.Mx i c e f g
 ·have:=Pd.Mx i f g c e;rw[eb a,eb b];exact this
 ·have:=Mv i c e f g;exact .inr ⟨by grind,by grind⟩
theorem Pd.Uw{d a b a' b':Rat}(h:0<d)(c:0<=a)(e:b*b*d<=a*a)(f:0<=b')(g:a'*a'<=b'*b'*d):Pd d (a*a'+b*b'*d) (a*b'+a'*b):=by
 have:=Mw h c e f g;have:=iZ (a:=a*a-b*b*d) (b:=b'*b'*d-a'*a') (by grind) (by grind);exact .inr ⟨by grind,by grind⟩
theorem Pd.mul{d a b a' b':Rat}(i:0<d)(h:Pd d a b)(j:Pd d a' b'):Pd d (a*a'+b*b'*d) (a*b'+a'*b):=by
 rcases h with⟨c,e⟩|⟨c,e⟩<;>rcases j with⟨f,g⟩|⟨f,g⟩
 ·have:=To i c e f g;have:=iZ (a:=a*a-b*b*d) (b:=a'*a'-b'*b'*d) (by grind) (by grind);exact .inl ⟨by grind,by grind⟩
 ·exact Pd.Uw i c e f g
 ·have:=Pd.Uw i f g c e
  rwa [show a'*a+b'*b*d=a*a'+b*b'*d by grind,show a'*b+a*b'=a*b'+a'*b by grind]at this
 ·have:=Mv i c e f g;have:=iZ (a:=b*b*d-a*a) (b:=b'*b'*d-a'*a') (by grind) (by grind);exact .inl ⟨by grind,by grind⟩
theorem Pd.total(d a b:Rat):Pd d a b\/Pd d (-a) (-b):=by
 by_cases h:b*b*d<=a*a
 ·by_cases c:0<=a
  ·exact .inl (.inl ⟨c,h⟩)
  ·exact .inr (.inl ⟨by grind,by grind⟩)
 ·by_cases e:0<=b
  ·exact .inl (.inr ⟨e,by grind⟩)
  ·exact .inr (.inr ⟨by grind,by grind⟩)
theorem Pd.zero(d:Rat):Pd d 0 0:=.inl ⟨d_,by grind⟩
theorem BQ(a:Rat):bP (-a)= -bP a:=by
 by_cases h:a<0
 ·rw[qC h,pq (by grind)];rfl
 ·by_cases b:a=0
  ·subst b;decide
  ·rw[pq (by grind:0<a),qC (by grind)]
theorem Mh(a b d:Rat):bR ⟨-a,-b,d⟩= -bR ⟨a,b,d⟩:=by
 rw[bR,bR];dsimp only;rw[BQ,BQ,show -a* -a=a*a by grind,show -b* -b=b*b by grind];generalize bP a=x;generalize bP b=y;generalize bP d=z;generalize c8 (a*a) (b*b*d)=o;rw[jJ,jJ,show -x*(-y*z)=x*(y*z)by grind]
 by_cases h:0<=x*(y*z)
 ·rw[if_pos h,if_pos h]
  by_cases hx:x=0
  ·subst hx;simp[bb]
  ·rw[if_neg hx,if_neg o_]
 ·rw[if_neg h,if_neg h,bb]
theorem Fs{x y:Rat}:0<=c8 x y↔y<=x:=by
 rw[c8]
 split
 ·constructor
  ·intro h;omega
  ·intro h;grind
 ·split
  ·constructor
   ·intro _;grind
   ·intro _;omega
  ·constructor
   ·intro _;grind
   ·intro _;omega
theorem Fq{x y:Rat}:c8 x y<=0↔x<=y:=by
 rw[c8]
 split
 ·constructor
  ·intro _;grind
  ·intro _;omega
 ·split
  ·constructor
   ·intro _;grind
   ·intro _;omega
  ·constructor
   ·intro h;omega
   ·intro h;grind
theorem uj{a b d:Rat}(g:0<d):0<=bR ⟨a,b,d⟩↔Pd d a b:=by
 rw[bR];dsimp only;rw[pq g,be,jJ,Pd];have f:b≠0->0<b*b*d:=fun h=>by
  have j:=sq_nonneg b;have l:b*b≠0:=fun e=>by rcases cx.1 e with e|e<;>exact h e
  exact pP (by grind) g
 have c:a≠0->0<a*a:=fun h=>by
  have:=sq_nonneg a;have:a*a≠0:=fun e=>by rcases cx.1 e with e|e<;>exact h e
  grind
 rcases(by grind:a<0\/a=0\/0<a)with h|h|h<;>rcases(by grind:b<0\/b=0\/0<b)with k|k|k
 ·rw[qC h,qC k,if_pos d_,if_neg d_];exact⟨fun e=>absurd e d_,fun e=>by grind⟩
 ·subst k;rw[qC h,qK,if_pos d_,if_neg d_];exact⟨fun e=>absurd e d_,fun e=>by have:=c (by grind);grind⟩
 ·rw[qC h,pq k,if_neg d_];constructor
  ·intro e;exact .inr ⟨by grind,Fq.1 o_⟩
  ·intro e;have:=(Fq (x:=a*a) (y:=b*b*d)).2 (by grind);omega
 ·subst h;rw[qK,qC k,if_pos d_,if_pos rfl];exact⟨fun e=>absurd e d_,fun e=>by have:=f (by grind);grind⟩
 ·subst h;subst k;rw[qK,if_pos d_,if_pos rfl];exact⟨fun _=>.inl ⟨d_,by grind⟩,fun _=>by decide⟩
 ·subst h;rw[qK,pq k,if_pos d_,if_pos rfl];exact⟨fun _=>.inr ⟨by grind,by have:=f (by grind);grind⟩,fun _=>by decide⟩
 ·rw[pq h,qC k,if_neg d_];constructor
  ·intro e;exact .inl ⟨by grind,Fs.1 o_⟩
  ·intro e;have:=(Fs (x:=a*a) (y:=b*b*d)).2 (by grind);omega
 ·subst k;rw[pq h,qK,if_pos d_,if_neg d_];exact⟨fun _=>.inl ⟨by grind,by have:=c (by grind);grind⟩,fun _=>by decide⟩
 ·rw[pq h,pq k,if_pos d_,if_neg d_];refine⟨fun _=>?_,fun _=>by decide⟩
  by_cases i:b*b*d<=a*a
  ·exact .inl ⟨by grind,i⟩
  ·exact .inr ⟨by grind,by grind⟩
theorem aQC{a b d:Rat}(c:0<d):bR ⟨a,b,d⟩<0↔¬Pd d a b:=by rw[<-uj c];omega
theorem ui{a b d:Rat}(c:0<d):bR ⟨a,b,d⟩<=0↔Pd d (-a) (-b):=by rw[<-uj c,Mh];omega
theorem zj{a b d:Rat}(c:0<d):0<bR ⟨a,b,d⟩↔¬Pd d (-a) (-b):=by rw[<-ui c];omega
def Nl(d a b:Rat):Prop:=Pd d a b/\Pd d (-a) (-b)
theorem Nl.zero(d:Rat):Nl d 0 0:=⟨Pd.zero d,by have:=Pd.zero d;simpa using this⟩
theorem Nl.mul{d a b:Rat}(e:0<d)(h:Nl d a b)(p q:Rat):Nl d (p*a+q*b*d) (p*b+a*q):=by
 rcases Pd.total d p q with c|c
 ·refine⟨Pd.mul e c h.1,?_⟩;have:=Pd.mul e c h.2;rw[show p* -a+q* -b*d= -(p*a+q*b*d)by grind,show p* -b+-a*q= -(p*b+a*q)by grind]at this;exact this
 ·constructor
  ·have:=Pd.mul e c h.2;rw[show -p* -a+-q* -b*d=p*a+q*b*d by grind,show -p* -b+-a* -q=p*b+a*q by grind]at this;exact this
  ·have:=Pd.mul e c h.1;rw[show -p*a+-q*b*d= -(p*a+q*b*d)by grind,show -p*b+a* -q= -(p*b+a*q)by grind]at this;exact this
theorem Nl.neg{d a b:Rat}(h:Nl d a b):Nl d (-a) (-b):=⟨h.2,by rw[dl,dl];exact h.1⟩
theorem Nl.add{d a b a' b':Rat}(e:0<d)(h:Nl d a b)(c:Nl d a' b'):Nl d (a+a') (b+b'):=
 ⟨Pd.add e h.1 c.1,by have:=Pd.add e h.2 c.2;rw[show -(a+a')= -a+-a' by grind,show -(b+b')= -b+-b' by grind];exact this⟩
theorem Pd.nl{d a b a' b':Rat}(c:0<d)(h:Nl d (a'-a) (b'-b)):Pd d a b↔Pd d a' b':=by
 constructor
 ·intro k;have:=Pd.add c k h.1
  rwa [show a+(a'-a)=a' by grind,show b+(b'-b)=b' by grind]at this
 ·intro k;have:=Pd.add c k h.2
  rwa [show a'+-(a'-a)=a by grind,show b'+-(b'-b)=b by grind]at this
def fR(g:Rat)(x:S3):S3:=if x.a*x.a-x.b*x.b*x.d=0 then⟨g/(2*x.a),0,x.d⟩else⟨g*x.a/(x.a*x.a-x.b*x.b*x.d),-(g*x.b/(x.a*x.a-x.b*x.b*x.d)),x.d⟩
theorem zh{d p q:Rat}(hx:¬Pd d (-p) (-q))(hn:p*p-q*q*d=0):0<p/\0<q:=by
 constructor
 ·by_cases h:0<p
  ·exact h
  ·exact absurd (.inl ⟨by grind,by grind⟩) hx
 ·by_cases h:0<q
  ·exact h
  ·exact absurd (.inr ⟨by grind,by grind⟩) hx
theorem Fo{d p q:Rat}(hx:¬Pd d (-p) (-q))(f:0<d)(g:Rat):Nl d (p*(fR g ⟨p,q,d⟩).a+q*(fR g ⟨p,q,d⟩).b*d-g) (p*(fR g ⟨p,q,d⟩).b+(fR g ⟨p,q,d⟩).a*q):=by
 rw[fR];dsimp only
 by_cases hn:p*p-q*q*d=0
 ·rw[if_pos hn];obtain⟨j,hq⟩:=zh hx hn;have e:Nl d (-p) q:=⟨.inr ⟨by grind,by grind⟩,.inl ⟨by grind,by grind⟩⟩
  have c:=Nl.mul f e (g/(2*p)) 0;dsimp only;have h:g/(2*p)*(2*p)=g:=da (by grind);generalize g/(2*p)=u at*
  rwa [show u* -p+0*q*d=p*u+q*0*d-g by grind,show u*q+-p*0=p*0+u*q by grind]at c
 ·rw[if_neg hn];dsimp only;have hi:=ck _ hn;rw[ce,ce];generalize (p*p-q*q*d)⁻¹=i at*;have c:=Nl.zero d;refine cast ?_ c;congr 1<;>grind
theorem aPG{d p q:Rat}(hx:¬Pd d (-p) (-q)):Pd d (fR 1 ⟨p,q,d⟩).a (fR 1 ⟨p,q,d⟩).b:=by
 rw[fR];dsimp only
 by_cases hn:p*p-q*q*d=0
 ·rw[if_pos hn];obtain⟨c,hq⟩:=zh hx hn;dsimp only;have j:1/(2*p)*(2*p)=1:=da (by grind);generalize 1/(2*p)=u at*;have:0<=u:=by
   by_cases h:0<=u
   ·exact h
   ·have:=pP (a:=-u) (b:=p) (by grind) c;grind
  exact .inl ⟨this,by have:=sq_nonneg u;grind⟩
 ·rw[if_neg hn];dsimp only;have hi:=ck _ hn;rw[ce,ce];generalize (p*p-q*q*d)⁻¹=i at*;have f:=sq_nonneg i
  by_cases g:0<=p*p-q*q*d
  ·have c:0<=p:=by
    by_cases h:0<=p
    ·exact h
    ·exact absurd (.inl ⟨by grind,by grind⟩) hx
   have e:0<=i:=by
    by_cases h:0<=i
    ·exact h
    ·have:=pP (a:=p*p-q*q*d) (b:=-i) (by grind) (by grind);grind
   have:=iZ g f;have:=iZ c e;exact .inl ⟨by grind,by grind⟩
  ·have hq:0<=q:=by
    by_cases h:0<=q
    ·exact h
    ·exact absurd (.inr ⟨by grind,by grind⟩) hx
   have e:i<=0:=by
    by_cases h:i<=0
    ·exact h
    ·have:=pP (a:=-(p*p-q*q*d)) (b:=i) (by grind) (by grind);grind
   have:=iZ (a:=-(p*p-q*q*d)) (b:=i*i) (by grind) f;have:=iZ (a:=q) (b:=-i) hq (by grind);exact .inr ⟨by grind,by grind⟩
theorem Pd.BS{d p q:Rat}(f:0<d)(hx:¬Pd d (-p) (-q))(w v:Rat):Pd d w v↔Pd d (p*w+q*v*d) (p*v+w*q):=by
 have l:Pd d p q:=(Pd.total d p q).resolve_right hx;constructor
 ·intro h;exact Pd.mul f l h
 ·intro h;have g:=Pd.mul f (aPG hx) h;have i:=Fo hx f 1;generalize (fR 1 ⟨p,q,d⟩).a=c,(fR 1 ⟨p,q,d⟩).b=e at*;have j:=Nl.mul f i w v;refine(Pd.nl f ?_).1 g;have k:=j.neg
  rwa [show -(w*(p*c+q*e*d-1)+v*(p*e+c*q)*d)=w-(c*(p*w+q*v*d)+e*(p*v+w*q)*d)by grind,
   show -(w*(p*e+c*q)+(p*c+q*e*d-1)*v)=v-(c*(p*v+w*q)+(p*w+q*v*d)*e)by grind]at k
theorem WU{d p q e f:Rat}(c:0<d)(hx:¬Pd d (-p) (-q))(i:¬Pd d (-e) (-f))(g h:Rat):
 Pd d ((fR g ⟨p,q,d⟩).a-(fR h ⟨e,f,d⟩).a) ((fR g ⟨p,q,d⟩).b-(fR h ⟨e,f,d⟩).b)↔Pd d (e*g-p*h) (f*g-q*h):=by
 have k:=Fo hx c g;have l:=Fo i c h;generalize (fR g ⟨p,q,d⟩).a=m,(fR g ⟨p,q,d⟩).b=n,(fR h ⟨e,f,d⟩).a=o,(fR h ⟨e,f,d⟩).b=r at*;rw[Pd.BS c hx,Pd.BS c i];refine Pd.nl c ?_;have j:=(Nl.add c (Nl.mul c k e f) (Nl.neg (Nl.mul c l p q))).neg;refine cast ?_ j;congr 1<;>grind
theorem aPF{d a b a' b':Rat}(c:0<d):dY ⟨a,b,d⟩ ⟨a',b',d⟩<0↔¬Pd d (a-a') (b-b'):=by
 rw[dY];dsimp only;rw[pq c,be];have hY:-bP b'=bR ⟨0,-b',d⟩:=by
  rw[bR];dsimp only;rw[qK,pq c,BQ,jJ,bf,if_pos d_,if_pos rfl,be]
 rw[hY];generalize a-a'=e;have o:=yp ⟨e,b,d⟩;have y0:=yp ⟨0,-b',d⟩;have f:=uj (a:=e) (b:=b) c;have i:=ui (a:=e) (b:=b) c;have y1:=uj (a:=0) (b:=-b') c;have y2:=ui (a:=0) (b:=-b') c;have l:=uj (a:=e*e+b*b*d-b'*b'*d) (b:=2*(e*b)) c;have m:=ui (a:=e*e+b*b*d-b'*b'*d) (b:=2*(e*b)) c;rw[Rat.neg_zero,dl]at y2;generalize bR ⟨e,b,d⟩=X,bR ⟨0,-b',d⟩=Y,bR ⟨e*e+b*b*d-b'*b'*d,2*(e*b),d⟩=O at*;have sum:Pd d e b->Pd d 0 (-b')->Pd d e (b-b'):=fun h k=>by
  have:=Pd.add c h k
  rwa [c6,<-cy]at this
 have g:Pd d e (b-b')->Pd d 0 b'->Pd d e b:=fun h k=>by
  have:=Pd.add c h k
  rwa [c6,Rat.sub_add_cancel]at this
 have n:Pd d e (b-b')->Pd d (-e) (-b)->Pd d 0 (-b'):=fun h k=>by
  have:=Pd.add c h k
  rwa [show e+-e=0 by grind,show b-b'+-b= -b' by grind]at this
 have up:X=1->Y= -1->(Pd d e (b-b')↔0<=O):=fun j hY=>by
  have hs:¬Pd d (-e) (-(b+b')):=fun h=>by
   have:=Pd.add c h (y2.1 o_);rw[show -e+0= -e by grind,show -(b+b')+b'= -b by grind]at this;have:=i.2 this;omega
  rw[Pd.BS c hs,l,show e*e+(b+b')*(b-b')*d=e*e+b*b*d-b'*b'*d by grind,show e*(b-b')+e*(b+b')=2*(e*b)by grind]
 have dn:X= -1->Y=1->(Pd d e (b-b')↔O<=0):=fun j hY=>by
  have hs:¬Pd d (- -e) (- -(b+b')):=fun h=>by
   rw[dl,dl]at h;have:=Pd.add c h (y1.1 o_);rw[show e+0=e by grind,show b+b'+-b'=b by grind]at this;have:=f.2 this;omega
  rw[Pd.BS c hs,m,show -e*e+-(b+b')*(b-b')*d= -(e*e+b*b*d-b'*b'*d)by grind,show -e*(b-b')+e* -(b+b')= -(2*(e*b))by grind]
 rw[jJ];rcases o with rfl|rfl|rfl<;>rcases y0 with rfl|rfl|rfl
 ·rw[if_pos d_,if_neg d_];exact⟨fun _ h=>by have:=f.2 (g h (y2.1 d_));omega,fun _=>by decide⟩
 ·rw[if_pos d_,if_neg d_];exact⟨fun _ h=>by have:=f.2 (g h (y2.1 d_));omega,fun _=>by decide⟩
 ·rw[if_neg d_,dn rfl rfl];omega
 ·rw[if_pos d_,if_pos rfl];exact⟨fun _ h=>by have:=y1.2 (n h (i.1 d_));omega,fun _=>by decide⟩
 ·rw[if_pos d_,if_pos rfl];exact⟨fun h=>absurd h d_,fun h=>absurd (sum (f.1 d_) (y1.1 d_)) h⟩
 ·rw[if_pos d_,if_pos rfl];exact⟨fun h=>absurd h d_,fun h=>absurd (sum (f.1 d_) (y1.1 d_)) h⟩
 ·rw[if_neg d_,up rfl rfl];omega
 ·rw[if_pos d_,if_neg d_];exact⟨fun h=>absurd h d_,fun h=>absurd (sum (f.1 d_) (y1.1 d_)) h⟩
 ·rw[if_pos d_,if_neg d_];exact⟨fun h=>absurd h d_,fun h=>absurd (sum (f.1 d_) (y1.1 d_)) h⟩
def eh(t:aj)(A B:V2)(d:Rat)(i:Nat):S3:=⟨A.bg (t.bI i),B.bg (t.bI i),d⟩
def mP(t:aj)(p:V2)(i:Nat):Rat:=(t.bI i).bg (p.sub (dQ (t.at i)))
def eC(t:aj)(p A B:V2)(d:Rat)(i:Nat):S3:=fR (mP t p i) (eh t A B d i)
def zl(t:aj)(p A B:V2)(d:Rat)(o:Option Nat)(k:Nat):Option Nat:=
 if bR (eh t A B d k)<=0 then o else match o with
  |none=>some k
  |some j=>if dY (eC t p A B d k) (eC t p A B d j)<0 then some k else some j
def jT(t:aj)(p A B:V2)(d:Rat)(m:Nat):Option Nat:=(List.range m).foldl (zl t p A B d) none
theorem Fw(t:aj)(p A B:V2)(d:Rat)(m:Nat):jT t p A B d (m+1)=zl t p A B d (jT t p A B d m) m:=by
 rw[jT,List.range_succ,bv];rfl
theorem LU(v w:V2):-(v.bg w)=w.bg v:=by simp only[V2.bg];grind
theorem BK(t:aj)(n:NB)(i:Nat):((n.bg (t.cG i)).neg).q=eh t n.a.q n.b.q n.d.q i:=by
 have c:((n.bg (t.cG i)).neg).a.q=n.a.q.bg (t.bI i):=by
  show -((t.cG i).bg n.a).q=_;rw[NV.mq,aj.rW,LU]
 have e:((n.bg (t.cG i)).neg).b.q=n.b.q.bg (t.bI i):=by
  show -((t.cG i).bg n.b).q=_;rw[NV.mq,aj.rW,LU]
 rw[NS.q,c,e];rfl
theorem FB(t:aj)(p:NV)(n:NB)(i:Nat):(t.bV p n i).g.q=mP t p.q i:=by
 show((t.cG i).bg (p.sub (dA (t.at i)))).q=_;rw[NV.mq,NV.eH,aj.rW];rfl
theorem aRz(s:NS)(k:NF):(s.under k).q=fR k.q s.q:=by
 have hn:s.norm.q=s.q.a*s.q.a-s.q.b*s.q.b*s.q.d:=NF.eH _ _;rw[NS.under,fR,<-hn]
 by_cases h:s.norm.q=0
 ·rw[if_pos h,if_pos h];show S3.mk (k.q/(s.a.q+s.a.q)) ((0:Int):Rat) s.d.q=S3.mk (k.q/(2*s.a.q)) 0 s.d.q;rw[show s.a.q+s.a.q=2*s.a.q by grind];rfl
 ·rw[if_neg h,if_neg h];show S3.mk (k.q*s.a.q/s.norm.q) (-(k.q*s.b.q)/s.norm.q) s.d.q=S3.mk (k.q*s.a.q/s.norm.q) (-(k.q*s.b.q/s.norm.q)) s.d.q;rw[ce (-(k.q*s.b.q)),Rat.neg_mul,<-ce]
theorem LP(t:aj)(n:NB)(i:Nat):t.pos n i=decide (0<bR (eh t n.a.q n.b.q n.d.q i)):=by
 rw[aj.pos,BK]
theorem aFh(t:aj)(p:NV)(n:NB){i j:Nat}(c:0<n.d.q)(B:j<i)(hi:0<bR (eh t n.a.q n.b.q n.d.q i))(u:0<bR (eh t n.a.q n.b.q n.d.q j)):
 tI (t.bV p n i) (t.bV p n j)<0↔dY (eC t p.q n.a.q n.b.q n.d.q i) (eC t p.q n.a.q n.b.q n.d.q j)<0:=by
 have m:=FB t p n i;have o:=FB t p n j;have A:(t.bV p n i).s.q=eh t n.a.q n.b.q n.d.q i:=BK t n i;have l:(t.bV p n j).s.q=eh t n.a.q n.b.q n.d.q j:=BK t n j;have hc:(((t.bV p n j).s.times (t.bV p n i).g).add ((t.bV p n i).s.times (t.bV p n j).g).neg).q=⟨(eh t n.a.q n.b.q n.d.q j).a*mP t p.q i-(eh t n.a.q n.b.q n.d.q i).a*mP t p.q j,(eh t n.a.q n.b.q n.d.q j).b*mP t p.q i-(eh t n.a.q n.b.q n.d.q i).b*mP t p.q j,n.d.q⟩:=by
  rw[<-m,<-o,<-A,<-l];generalize t.bV p n i=x,hy:t.bV p n j=y at*;have c:y.s.d.q=n.d.q:=congrArg S3.d l;show S3.mk (y.s.a.q*x.g.q+-(x.s.a.q*y.g.q)) (y.s.b.q*x.g.q+-(x.s.b.q*y.g.q)) y.s.d.q=S3.mk (y.s.a.q*x.g.q-x.s.a.q*y.g.q) (y.s.b.q*x.g.q-x.s.b.q*y.g.q) n.d.q;rw[c,cy,cy]
 have w:=(zj c).1 (show 0<bR ⟨(eh t n.a.q n.b.q n.d.q i).a,(eh t n.a.q n.b.q n.d.q i).b,n.d.q⟩from hi);have z:=(zj c).1 (show 0<bR ⟨(eh t n.a.q n.b.q n.d.q j).a,(eh t n.a.q n.b.q n.d.q j).b,n.d.q⟩from u);have v:=WU c w z (mP t p.q i) (mP t p.q j);have k:∀g e f,fR g ⟨e,f,n.d.q⟩=⟨(fR g ⟨e,f,n.d.q⟩).a,(fR g ⟨e,f,n.d.q⟩).b,n.d.q⟩:=fun g e f=>by
  rw[fR];split<;>rfl
 have e1:eC t p.q n.a.q n.b.q n.d.q i=⟨(eC t p.q n.a.q n.b.q n.d.q i).a,(eC t p.q n.a.q n.b.q n.d.q i).b,n.d.q⟩:=k _ _ _;have e2:eC t p.q n.a.q n.b.q n.d.q j=⟨(eC t p.q n.a.q n.b.q n.d.q j).a,(eC t p.q n.a.q n.b.q n.d.q j).b,n.d.q⟩:=k _ _ _;rw[e1,e2,aPF c];have e3:Pd n.d.q ((eC t p.q n.a.q n.b.q n.d.q i).a-(eC t p.q n.a.q n.b.q n.d.q j).a) ((eC t p.q n.a.q n.b.q n.d.q i).b-(eC t p.q n.a.q n.b.q n.d.q j).b)↔_:=v;rw[e3,<-aQC c,tI,hc];show(if _=0 then(i:Int)-(j:Int)else _)<0↔_;generalize bR _=r
 by_cases h:r=0
 ·rw[if_pos h];omega
 ·rw[if_neg h]
theorem LQ(t:aj)(p:NV)(n:NB)(r:0<n.d.q):∀m:Nat,match t.fM p n m with
  |[]=>jT t p.q n.a.q n.b.q n.d.q m=none
  |m0::l=>∃j,j<m/\0<bR (eh t n.a.q n.b.q n.d.q j)/\iV m0 l=t.bV p n j/\jT t p.q n.a.q n.b.q n.d.q m=some j
 |0=>rfl
 |m+1=>by
  have f:=LQ t p n r m;rw[aj.ET,LP,Fw,zl.eq_def]
  by_cases e:0<bR (eh t n.a.q n.b.q n.d.q m)
  ·rw[decide_eq_true e,if_pos rfl,if_neg o_];generalize u:t.fM p n m=L at*;cases L with
   |nil=>
    dsimp only at f;rw[f];exact⟨m,o_,e,EL _,rfl⟩
   |cons m0 l=>
    obtain⟨j,o,g,i,k⟩:=f;rw[List.cons_append];dsimp only;have s:iV m0 (l++[t.bV p n m])=wu (iV m0 l) (t.bV p n m):=by
     rw[iV,bv];rfl
    have hc:=aFh t p n r o e g;rw[s,i,k,wu];dsimp only
    by_cases c:dY (eC t p.q n.a.q n.b.q n.d.q m) (eC t p.q n.a.q n.b.q n.d.q j)<0
    ·rw[if_pos (hc.2 c),if_pos c];exact⟨m,o_,e,rfl,rfl⟩
    ·rw[if_neg (fun h=>c (hc.1 h)),if_neg c];exact⟨j,o_,g,rfl,rfl⟩
  ·rw[decide_eq_false e,if_neg d_,if_pos o_];generalize t.fM p n m=L at*;cases L with
   |nil=>exact f
   |cons m0 l=>
    obtain⟨j,o,g,i,k⟩:=f;exact⟨j,o_,g,i,k⟩
theorem Mm{d a b a' b':Rat}(c:0<d)(h:Nl d a b)(e:Nl d a' b')(p q:Rat):Nl d (p*a+q*a') (p*b+q*b'):=by
 have f:=Nl.mul c h p 0;have g:=Nl.mul c e q 0;have:=Nl.add c f g
 rwa [show p*a+0*b*d+(q*a'+0*b'*d)=p*a+q*a' by grind,show p*b+a*0+(q*b'+a'*0)=p*b+q*b' by grind]at this
theorem WX(t:aj)(A B:V2){d W:Rat}(b:0<d)(ak:3<=t.cs.length)(hc:t.gh=true)(aa:0<W)(n:A.dot A+B.dot B*d=W)(R:A.dot B=0):∃i,i<t.cs.length/\0<bR (eh t A B d i):=by
 refine Decidable.by_contra fun ac=>?_;have ab:∀i,i<t.cs.length->Pd d (-(A.bg (t.bI i))) (-(B.bg (t.bI i))):=fun i hi=>by
  refine(ui b).1 ?_
  by_cases h:0<bR (eh t A B d i)
  ·exact(ac ⟨i,hi,h⟩).elim
  ·exact Int.not_lt.1 h
 obtain⟨f,hf⟩:∃f:Nat->Rat,f=fun i=>A.bg (dQ (t.at i)):=⟨_,rfl⟩
 obtain⟨g,I⟩:∃g:Nat->Rat,g=fun i=>B.bg (dQ (t.at i)):=⟨_,rfl⟩
 have step:∀i,i<t.cs.length->Pd d (f i-f (t.nx i)) (g i-g (t.nx i)):=fun i hi=>by
  have:=ab i hi;have X:-(A.bg (t.bI i))=f i-f (t.nx i):=by rw[hf];simp only[aj.bI,V2.bg,V2.sub];grind
  have Y:-(B.bg (t.bI i))=g i-g (t.nx i):=by rw[I];simp only[aj.bI,V2.bg,V2.sub];grind
  rwa [X,Y]at this
 have q:∀i,i+1<t.cs.length->t.nx i=i+1:=fun i hi=>b1 hi;have ae:t.nx (t.cs.length-1)=0:=by
  rw[aj.nx,Nat.sub_add_cancel o_];exact b3 _
 have trans:∀{x y z r s u:Rat},Pd d (x-y) (r-s)->Pd d (y-z) (s-u)->Pd d (x-z) (r-u):=fun{x y z r s u} h k=>by
  have:=Pd.add b h k
  rwa [show x-y+(y-z)=x-z by grind,show r-s+(s-u)=r-u by grind]at this
 have V:∀k,2+k<t.cs.length->Pd d (f 2-f (2+k)) (g 2-g (2+k)):=fun k=>by
  induction k with
  |zero=>
   intro _;rw[Nat.add_zero,ea,ea];exact Pd.zero d
  |succ k ad=>
   intro h;have n:=step (2+k) o_;rw[q _ o_]at n;exact trans (ad o_) n
 have F:=step 0 o_;have G:=step 1 o_;have O:=V (t.cs.length-3) o_;have P:=step (t.cs.length-1) o_;rw[q 0 o_]at F;rw[q 1 o_]at G;rw[ae]at P;rw[show 2+(t.cs.length-3)=t.cs.length-1 by omega]at O;have Q:=trans O P;have o:Nl d (f 1-f 0) (g 1-g 0):=⟨trans G Q,by rw[dp,dp];exact F⟩
 have p:Nl d (f 2-f 0) (g 2-g 0):=⟨Q,by rw[dp,dp];exact trans F G⟩
 rw[aj.gh,decide_eq_true_eq]at hc;have hx:=hc 0 o_ 2 o_ d_ (by rw[q 0 o_];decide);rw[q 0 o_,mr]at hx;rw[hf,I]at o p;dsimp only at o p;rw[Nat.zero_add]at hx;generalize t.at 0=a,t.at 1=v,t.at 2=w at*;obtain⟨c,J⟩:∃c:Rat,c=(v.x:Rat)-a.x:=⟨_,rfl⟩
 obtain⟨j,L⟩:∃j:Rat,j=(v.y:Rat)-a.y:=⟨_,rfl⟩
 obtain⟨l,M⟩:∃l:Rat,l=(w.x:Rat)-a.x:=⟨_,rfl⟩
 obtain⟨m,N⟩:∃m:Rat,m=(w.y:Rat)-a.y:=⟨_,rfl⟩
 have hq:¬c*m-j*l=0:=by
  intro e;have e2:(((v.x-a.x)*(w.y-a.y)-(v.y-a.y)*(w.x-a.x):Int):Rat)=((0:Int):Rat):=by
   rw[c9,dz,dz,c9,c9,c9,c9];rw[J,L,M,N]at e;exact e
  have:=dg.1 e2;omega
 obtain⟨C,D⟩:=A;obtain⟨bx,E⟩:=B;simp only[V2.bg,V2.dot,dQ]at o p n R;have T:Nl d (C*j-D*c) (bx*j-E*c):=by
  rw[J,L];refine cast ?_ o;congr 1<;>grind
 have U:Nl d (C*m-D*l) (bx*m-E*l):=by
  rw[M,N];refine cast ?_ p;congr 1<;>grind
 clear o p J L M N hf I;have ah:=Mm b U T c (-l);have y1:=Mm b U T j (-m);obtain⟨K,H⟩:∃K:Rat,K=c*m-j*l:=⟨_,rfl⟩
 have ai:Nl d (C*K) (bx*K):=by
  rw[H];refine cast ?_ ah;congr 1<;>grind
 have y2:Nl d (D*K) (E*K):=by
  rw[H];refine cast ?_ y1;congr 1<;>grind
 have af:=Nl.add b (Nl.mul b ai (C*K) (bx*K)) (Nl.mul b y2 (D*K) (E*K));have ag:Nl d (W*(K*K)) 0:=by
  refine cast ?_ af;congr 1<;>grind
 rw[<-H]at hq;have Z:0<K*K:=by
  have n:=sq_nonneg K;have R:K*K≠0:=fun e=>by rcases cx.1 e with e|e<;>exact hq e
  grind
 have S:=pP aa Z;rcases ag.2 with⟨h,_⟩|⟨_,h⟩
 ·grind
 ·have:=pP S S
  grind
def b8(w d:V2):V2:=⟨w.x-w.dot d*d.x/d.dot d,w.y-w.dot d*d.y/d.dot d⟩
def b9(d:V2):V2:=⟨d.x/d.dot d,d.y/d.dot d⟩
theorem BV{x y z:Rat}(a:y≠0)(h:x=z*y):x/y=z:=by
 rw[h,ce,Rat.mul_assoc,ck _ a,ec]
theorem WT(w d e:V2)(hz:d.dot d≠0):(b8 w d).bg e=w.bg d*d.dot e*(d.dot d)⁻¹:=by
 have hi:=ck _ hz;simp only[b8,V2.bg,ce];generalize (d.dot d)⁻¹=i at*;simp only[V2.dot]at*;have k:(w.x-(w.x*d.x+w.y*d.y)*d.x*i)*e.y-(w.y-(w.x*d.x+w.y*d.y)*d.y*i)*e.x=(w.x*e.y-w.y*e.x)*(1-(d.x*d.x+d.y*d.y)*i)+(w.x*d.y-w.y*d.x)*(d.x*e.x+d.y*e.y)*i:=by grind
 rw[k,hi];grind
theorem WS(d e:V2):(b9 d).bg e=d.bg e*(d.dot d)⁻¹:=by
 simp only[b9,V2.bg,ce]
 grind
theorem aPI(w d e:V2)(hz:d.dot d≠0):(b8 w d).dot e= -(w.bg d*d.bg e)*(d.dot d)⁻¹:=by
 have hi:=ck _ hz;simp only[b8,V2.bg,ce];generalize (d.dot d)⁻¹=i at*;simp only[V2.dot]at*;have k:(w.x-(w.x*d.x+w.y*d.y)*d.x*i)*e.x+(w.y-(w.x*d.x+w.y*d.y)*d.y*i)*e.y=(w.x*e.x+w.y*e.y)*(1-(d.x*d.x+d.y*d.y)*i)+-((w.x*d.y-w.y*d.x)*(d.x*e.y-d.y*e.x))*i:=by grind
 rw[k,hi];grind
theorem aPJ(d e:V2):(b9 d).dot e=d.dot e*(d.dot d)⁻¹:=by
 simp only[b9,V2.dot,ce]
 grind
theorem Ut(d e:V2):d.dot e*d.dot e+d.bg e*d.bg e=d.dot d*e.dot e:=by
 simp only[V2.dot,V2.bg];grind
def jw(c Q E F:Rat):Rat:=c*c*E-F*(Q*Q)
theorem Mr{c P Q D E F i:Rat}(a:P*P+Q*Q=D*E)(hi:D*i=1):c*P*i*(c*P*i)-Q*i*(Q*i)*(F*D-c*c)=jw c Q E F*i:=by
 have k:c*P*i*(c*P*i)-Q*i*(Q*i)*(F*D-c*c)=(D*i)*(i*(c*c*E-F*(Q*Q)))+i*i*c*c*(P*P+Q*Q-D*E):=by grind
 rw[k,hi,a,jw];grind
theorem Mq{c P Q D E F i:Rat}(g:Rat)(e:P*P+Q*Q=D*E)(hi:D*i=1):
 fR g ⟨c*P*i,Q*i,F*D-c*c⟩=if jw c Q E F=0 then⟨g/(2*(c*P*i)),0,F*D-c*c⟩else⟨g/jw c Q E F*(c*P),-(g/jw c Q E F*Q),F*D-c*c⟩:=by
 have f:i≠0:=fun h=>by rw[h,dq]at hi;exact absurd hi d_
 rw[fR];dsimp only;rw[Mr e hi]
 by_cases a:jw c Q E F=0
 ·rw[if_pos a,if_pos (by rw[a,db])]
 ·have b:jw c Q E F*i≠0:=fun h=>(cx.1 h).elim a f;have d:g/jw c Q E F*jw c Q E F=g:=da a;rw[if_neg a,if_neg b,BV b (x:=g*(c*P*i)) (z:=g/jw c Q E F*(c*P)),BV b (x:=g*(Q*i)) (z:=g/jw c Q E F*Q)]
  ·generalize g/jw c Q E F=h at*;rw[<-d];grind
  ·generalize g/jw c Q E F=h at*;rw[<-d];grind
theorem aFe{c P Q D E F i:Rat}(g:Rat)(b:P*P+Q*Q=D*E)(hi:D*i=1)(d:jw c Q E F=0->c≠0/\P≠0):
 (fR g ⟨c*P*i,Q*i,F*D-c*c⟩).mul ⟨-(c*Q)*i,P*i,F*D-c*c⟩=if jw c Q E F=0 then⟨-(g/(2*P)*Q),g/(2*c),F*D-c*c⟩else⟨-(F*(g/jw c Q E F)*(P*Q)),g/jw c Q E F*c*E,F*D-c*c⟩:=by
 have n:i≠0:=fun h=>by rw[h,dq]at hi;exact absurd hi d_
 rw[Mq g b hi]
 by_cases a:jw c Q E F=0
 ·obtain⟨hc,m⟩:=d a;have f:2*P≠0:=by grind
  have j:2*c≠0:=by grind
  have l:2*(c*P*i)≠0:=fun e=>(cx.1 e).elim (fun e=>absurd e d_) fun e=>(cx.1 e).elim (fun e=>(cx.1 e).elim hc m) n;have k3:g/(2*(c*P*i))*(2*(c*P*i))=g:=da l;rw[if_pos a,if_pos a,BV f (x:=g) (z:=g/(2*(c*P*i))*(c*i)) (by generalize g/(2*(c*P*i))=k at*;rw[<-k3];grind),BV j (x:=g) (z:=g/(2*(c*P*i))*(P*i)) (by generalize g/(2*(c*P*i))=k at*;rw[<-k3];grind)];generalize g/(2*(c*P*i))=k;rw[S3.mul];congr 1<;>grind
 ·rw[if_neg a,if_neg a];generalize g/jw c Q E F=h;rw[S3.mul];dsimp only;congr 1
  ·have k:h*(c*P)*(-(c*Q)*i)+-(h*Q)*(P*i)*(F*D-c*c)= -(F*h*(P*Q))*(D*i):=by grind
   rw[k,hi];grind
  ·have k:h*(c*P)*(P*i)+-(c*Q)*i* -(h*Q)=h*c*i*(P*P+Q*Q):=by grind
   rw[k,b];have k2:h*c*i*(D*E)=h*c*E*(D*i):=by grind
   rw[k2,hi];grind
theorem BZ(r:Int)(w d:V2):bO r w d=bK r*d.dot d-w.bg d*w.bg d:=by
 rw[bO];generalize bK r=F;simp only[V2.dot,V2.bg];grind
theorem BU{w d:V2}(t:aj)(r:Int)(i:Nat)(hz:d.dot d≠0):eh t (b8 w d) (b9 d) (bO r w d) i=⟨w.bg d*d.dot (t.bI i)*(d.dot d)⁻¹,d.bg (t.bI i)*(d.dot d)⁻¹,bK r*d.dot d-w.bg d*w.bg d⟩:=by
 rw[eh,WT _ _ _ hz,WS,BZ]
theorem UG(w d:V2)(hz:d.dot d≠0):(b8 w d).x=w.bg d*d.y*(d.dot d)⁻¹:=by
 have hi:=ck _ hz;simp only[b8,V2.bg,ce];generalize (d.dot d)⁻¹=i at*;simp only[V2.dot]at*;have k:w.x-(w.x*d.x+w.y*d.y)*d.x*i=w.x*(1-(d.x*d.x+d.y*d.y)*i)+(w.x*d.y-w.y*d.x)*d.y*i:=by grind
 rw[k,hi];grind
theorem UH(w d:V2)(hz:d.dot d≠0):(b8 w d).y= -(w.bg d*d.x*(d.dot d)⁻¹):=by
 have hi:=ck _ hz;simp only[b8,V2.bg,ce];generalize (d.dot d)⁻¹=i at*;simp only[V2.dot]at*;have k:w.y-(w.x*d.x+w.y*d.y)*d.y*i=w.y*(1-(d.x*d.x+d.y*d.y)*i)+-((w.x*d.y-w.y*d.x)*d.x*i):=by grind
 rw[k,hi];grind
theorem WO(r:Int)(w d:V2)(hz:d.dot d≠0):(b8 w d).dot (b8 w d)+(b9 d).dot (b9 d)*bO r w d=bK r:=by
 rw[BZ,V2.dot,V2.dot,UG w d hz,UH w d hz];have hi:=ck _ hz;simp only[b9,ce];generalize bK r=F;generalize w.bg d=c;have a:d.x*d.x+d.y*d.y=d.dot d:=rfl;generalize (d.dot d)⁻¹=i at*;generalize d.dot d=D at*;have k:c*d.y*i*(c*d.y*i)+-(c*d.x*i)* -(c*d.x*i)+(d.x*i*(d.x*i)+d.y*i*(d.y*i))*(F*D-c*c)=(d.x*d.x+d.y*d.y)*i*(F*(D*i)):=by grind
 rw[k,a,hi];grind
theorem WQ(w d:V2)(hz:d.dot d≠0):(b8 w d).dot (b9 d)=0:=by
 rw[V2.dot,UG w d hz,UH w d hz];simp only[b9,ce]
 grind
structure Sz(t:aj)(r:Int)(w d p:V2):Prop where
 hn:∀c∈t.cs,eX c
 r0:0<=r
 r1:r<=1000000
 ow:bc 61 w
 od:bc 30 d
 op:bc 30 p
 hz:d.dot d≠0
theorem um{r:Int}{w d:V2}(r0:0<=r)(r1:r<=1000000)(ow:bc 61 w)(od:bc 30 d):aJ 776 (bO r w d):=
 (fK (bh (dh ow od) (dh ow od)) (bh (dh od od) (fK (dh ow ow) (mG r0 r1)))).mono d_
theorem wV{w d:V2}(ow:bc 61 w)(od:bc 30 d):bc 396 (b8 w d):=
 ⟨(fK ow.1 (gQ (bh (dh ow od) od.1) (dh od od))).mono d_,(fK ow.2 (gQ (bh (dh ow od) od.2) (dh od od))).mono d_⟩
theorem wU{d:V2}(od:bc 30 d):bc 151 (b9 d):=⟨(gQ od.1 (dh od od)).mono d_,(gQ od.2 (dh od od)).mono d_⟩
theorem Sz.parts{t:aj}{r:Int}{w d p:V2}(h:Sz t r w d p){i:Nat}(hi:i<t.cs.length):
 aJ 183 (w.bg d)/\aJ 119 (d.dot (t.bI i))/\aJ 119 (d.bg (t.bI i))/\aJ 121 (d.dot d)/\aJ 117 ((t.bI i).dot (t.bI i))/\aJ 42 (bK r)/\aJ 149 (mP t p i)/\aJ 149 ((p.sub (dQ (t.at i))).dot (t.bI i))/\aJ 764 (jw (w.bg d) (d.bg (t.bI i)) ((t.bI i).dot (t.bI i)) (bK r))/\aJ 530 (bK r*d.dot d-w.bg d*w.bg d):=by
 have a:=aj.okW h.hn hi;have b:=gD h.op (ic (aj.fc h.hn hi));have f:=mG h.r0 h.r1;have c:=nQ h.ow h.od;have P:=dh h.od a;have Q:=nQ h.od a;have D:=dh h.od h.od;have E:=dh a a;exact⟨c.mono d_,P.mono d_,Q.mono d_,D.mono d_,E.mono d_,f,(nQ a b).mono d_,(dh b a).mono d_,(fK (bh (bh c c) E) (bh f (bh Q Q))).mono d_,(fK (bh f D) (bh c c)).mono d_⟩
theorem wQ{t:aj}{r:Int}{w d p:V2}(h:Sz t r w d p){i:Nat}(hi:i<t.cs.length):yF (eC t p (b8 w d) (b9 d) (bO r w d) i):=by
 obtain⟨f,c,j,g,oE,k,a,l,b,e⟩:=h.parts hi;rw[eC,BU t r i h.hz,Mq _ (Ut d (t.bI i)) (ck _ h.hz)]
 split
 ·exact⟨(gQ a (bh qJ (bh (bh f c) (lH g)))).mono d_,kT d_,e.mono d_⟩
 ·exact⟨(bh (gQ a b) (bh f c)).mono d_,(jQ (bh (gQ a b) j)).mono d_,e.mono d_⟩
def mY(t:aj)(p A B:V2)(d:Rat)(i:Nat):S3:=
 S3.times ((t.bI i).dot (t.bI i))⁻¹ ⟨((eC t p A B d i).mul ⟨A.dot (t.bI i),B.dot (t.bI i),d⟩).a+(p.sub (dQ (t.at i))).dot (t.bI i),((eC t p A B d i).mul ⟨A.dot (t.bI i),B.dot (t.bI i),d⟩).b,((eC t p A B d i).mul ⟨A.dot (t.bI i),B.dot (t.bI i),d⟩).d⟩
theorem Fm{t:aj}{r:Int}{w d p:V2}(h:Sz t r w d p){i:Nat}(hi:i<t.cs.length)(k:0<bO r w d)(v:(t.bI i).dot (t.bI i)≠0)(hs:0<bR (eh t (b8 w d) (b9 d) (bO r w d) i)):
 gV 1800 (mY t p (b8 w d) (b9 d) (bO r w d) i):=by
 obtain⟨s,n,o,B,oE,A,b,l,m,q⟩:=h.parts hi;have g:=ck _ h.hz;have f:=Ut d (t.bI i);have u:jw (w.bg d) (d.bg (t.bI i)) ((t.bI i).dot (t.bI i)) (bK r)=0->w.bg d≠0/\d.dot (t.bI i)≠0:=fun y=>by
  rw[BU t r i h.hz]at hs;rw[BZ]at k;have hn:=Mr (c:=w.bg d) (F:=bK r) f g;rw[y,db]at hn;have a:=(zh ((zj k).1 hs) hn).1;constructor
  ·intro e;rw[e,db,db]at a;exact absurd a d_
  ·intro e;rw[e,dq,db]at a;exact absurd a d_
 have z:=aFe (mP t p i) f g u;rw[mY,eC,BU t r i h.hz,aPI w d _ h.hz,aPJ,BZ,z]
 split
 ·exact⟨(bh (lH oE) (ku (jQ (bh (gQ b (bh qJ n)) o)) l)).mono d_,(bh (lH oE) (gQ b (bh qJ s))).mono d_,q.mono d_⟩
 ·refine⟨(bh (lH oE) (ku (jQ (bh (bh A (gQ b m)) (bh n o))) l)).mono d_,?_,q.mono d_⟩;show aJ 1800 (((t.bI i).dot (t.bI i))⁻¹*(_*(t.bI i).dot (t.bI i)));have hx:=ck _ v;have e:∀x:Rat,((t.bI i).dot (t.bI i))⁻¹*(x*(t.bI i).dot (t.bI i))=x:=fun x=>by
   generalize ((t.bI i).dot (t.bI i))⁻¹=j at*;generalize (t.bI i).dot (t.bI i)=E at*;have:j*(x*E)=x*(E*j):=by grind
   rw[this,hx,ec]
  rw[e];exact(bh (gQ b m) s).mono d_
def NM.cg(m:NM):NB:=⟨m.w.sub (m.d.times ((m.w.dot m.d).div (m.d.dot m.d))),m.d.times (m.d.dot m.d).inv,m.root⟩
def NM.aP(m:NM)(width:NF):NB:=⟨m.d.sub (m.cg.b.times (m.root.div width)),m.cg.a.times width.inv.neg,m.root⟩
def NB.dot(n:NB)(w:NV):NS:=⟨n.a.dot w,n.b.dot w,n.d⟩
theorem WZ(w d:NV)(root:NF)(c:bc 200 w.q)(a:bc 100 d.q)(hz:(d.dot d).q≠0):aq prog 72 [jH ⟨w,d,root⟩] (jG (NM.cg ⟨w,d,root⟩)):=by
 have f:aJ 601 (w.dot d).q:=by rw[NV.jq];exact dh c a
 have b:aJ 401 (d.dot d).q:=by rw[NV.jq];exact dh a a
 have e:aJ 1002 ((w.dot d).div (d.dot d)).q:=B2 f b;have n:bc 1102 (d.times ((w.dot d).div (d.dot d))).q:=⟨dO a.1 e,dO a.2 e⟩
 have g:=xJ d (a.mono d_);have h:=vQ w d (c.mono d_) (a.mono d_);have i:=vT (w.dot d) (d.dot d) (f.mono d_) (b.mono d_) hz;have j:=D2 d ((w.dot d).div (d.dot d)) (a.mono d_) (e.mono d_);have k:=vR w (d.times ((w.dot d).div (d.dot d))) (c.mono d_) (n.mono d_);have l:=yc (d.dot d) (b.mono d_) hz;have m:=D2 d (d.dot d).inv (a.mono d_) ((sj b).mono d_);refine gA_ nf func72 mix ?_;rw[NM.cg,yr];dsimp only;rw[D4];simp(maxDischargeDepth:=99) [f72,aa,c1 g,e2 h,e2 i,e2 j,e2 k,e1 l,e2 m]
theorem Ms(m:NM)(b:bc 200 m.w.q)(a:bc 100 m.d.q)(hz:(m.d.dot m.d).q≠0):aq prog 72 [jH m] (jG m.cg):=WZ m.w m.d m.root b a hz
theorem aEv(w d:NV)(root width:NF)(e:bc 200 w.q)(c:bc 100 d.q)(hz:(d.dot d).q≠0)(i:aJ 2000 root.q)(hf:aJ 42 width.q)(h:width.q≠0):aq prog 74 [jH ⟨w,d,root⟩,eF width] (jG (NM.aP ⟨w,d,root⟩ width)):=by
 have x:aJ 601 (w.dot d).q:=by rw[NV.jq];exact dh e c
 have g:aJ 401 (d.dot d).q:=by rw[NV.jq];exact dh c c
 have j:aJ 1002 ((w.dot d).div (d.dot d)).q:=B2 x g;have v:bc 1102 (d.times ((w.dot d).div (d.dot d))).q:=⟨dO c.1 j,dO c.2 j⟩
 have t:bc 1303 (NM.cg ⟨w,d,root⟩).a.q:=by rw[NM.cg];dsimp only;rw[NV.eH];exact gD e v
 have f:bc 501 (NM.cg ⟨w,d,root⟩).b.q:=⟨dO c.1 (sj g),dO c.2 (sj g)⟩
 have wy:aJ 2042 (root.div width).q:=B2 i hf;have u:bc 2543 ((NM.cg ⟨w,d,root⟩).b.times (root.div width)).q:=⟨dO f.1 wy,dO f.2 wy⟩
 have k:=Ms ⟨w,d,root⟩ e c hz;have l:=vT root width (i.mono d_) (hf.mono d_) h;have m:=D2 (NM.cg ⟨w,d,root⟩).b (root.div width) (f.mono d_) (wy.mono d_);have o:=vR d ((NM.cg ⟨w,d,root⟩).b.times (root.div width)) (c.mono d_) (u.mono d_);have p:=yc width (hf.mono d_) h;have r:=ph width.inv ((sj hf).mono d_);have s:=D2 (NM.cg ⟨w,d,root⟩).a width.inv.neg (t.mono d_) ((nS (sj hf)).mono d_);refine gA_ nf func74 mix ?_;rw[NM.aP,yr];generalize NM.cg ⟨w,d,root⟩=n at*;dsimp only at*;rw[D4];simp[f74,aa];refine c1 k ?_;simp[aa];refine e2 l ?_;simp[aa];refine e2 m ?_;simp[aa];refine e2 o ?_;simp[aa];refine e1 p ?_;simp[aa];refine e1 r ?_;simp[aa];refine e2 s ?_;simp[aa]
theorem aEu(m:NM)(width:NF)(e:bc 200 m.w.q)(a:bc 100 m.d.q)(hz:(m.d.dot m.d).q≠0)(c:aJ 2000 m.root.q)(hf:aJ 42 width.q)(b:width.q≠0):aq prog 74 [jH m,eF width] (jG (m.aP width)):=aEv m.w m.d m.root width e a hz c hf b
theorem L4(n:NB)(e:NV)(hn:okB 8000 n)(c:bc 8000 e.q):aq prog 158 [jG n,cV e] (cj (n.dot e)):=by
 have d:=vQ n.a e (hn.1.mono d_) (c.mono d_);have f:=vQ n.b e (hn.2.1.mono d_) (c.mono d_);refine gA_ nf func158 mix ?_;rw[NB.dot,qj];simp(maxDischargeDepth:=99) [f158,aa,e2 d,e2 f]
noncomputable def XD.share(x:XD)(b:NV)(n:NB):NS:=(((x.s.under x.g).mul (n.dot x.w)).add (.plain ((b.sub x.a).dot x.w) ((x.s.under x.g).mul (n.dot x.w)).d)).times (x.w.dot x.w).inv
theorem Ft{k l:Nat}{s t:NS}(hs:dC k s)(a:dC l t):dC (k+l+(k+l+k)+1) (s.mul t):=
 ⟨(qG (dO hs.1 a.1) (dO (dO hs.2.1 a.2.1) hs.2.2)).mono o_,(qG (dO hs.1 a.2.1) (dO a.1 hs.2.1)).mono o_,hs.2.2.mono o_⟩
theorem aEL(x:XD)(b:NV)(n:NB)(hx:lN x)(j:x.s.norm.q=0->x.s.a.q≠0)(hf:dC 1300 (x.s.under x.g))(c:bc 29 x.w.q)(e:bc 14 x.a.q)(f:bc 60 b.q)(hn:okB 900 n)(k:(x.w.dot x.w).q≠0):aq prog 76 [gS x,cV b,jG n] (cj (x.share b n)):=by
 have oE:aJ 117 (x.w.dot x.w).q:=by rw[NV.jq];exact dh c c
 have i:bc 75 (b.sub x.a).q:=by rw[NV.eH];exact gD f e
 have B:aJ 209 ((b.sub x.a).dot x.w).q:=by rw[NV.jq];exact dh i c
 have od:dC 1859 (n.dot x.w):=⟨by rw[NB.dot];dsimp only;rw[NV.jq];exact(dh hn.1 c).mono d_,by rw[NB.dot];dsimp only;rw[NV.jq];exact(dh hn.2.1 c).mono d_,hn.2.2.mono d_⟩
 have h:=Ft hf od;have op:dC 1859 (.plain ((b.sub x.a).dot x.w) ((x.s.under x.g).mul (n.dot x.w)).d):=⟨B.mono d_,(pg d_ d_:aJ 20 (NF.int 0).q).mono d_,hf.2.2.mono d_⟩
 have m:=xJ x.w (c.mono d_);have p:=yc (x.w.dot x.w) (oE.mono d_) k;have r:=FC x hx j;have t:=L4 n x.w (hn.mono d_) (c.mono d_);have u:=BX (x.s.under x.g) (n.dot x.w) (hf.mono d_) (od.mono d_);have v:=vR b x.a (f.mono d_) (e.mono d_);have y:=vQ (b.sub x.a) x.w (i.mono d_) (c.mono d_);have z:=so ((b.sub x.a).dot x.w) ((x.s.under x.g).mul (n.dot x.w)).d;have A:=sr ((x.s.under x.g).mul (n.dot x.w)) (.plain ((b.sub x.a).dot x.w) ((x.s.under x.g).mul (n.dot x.w)).d) (h.mono d_) (op.mono d_);have o:=BA (((x.s.under x.g).mul (n.dot x.w)).add (.plain ((b.sub x.a).dot x.w) ((x.s.under x.g).mul (n.dot x.w)).d)) (x.w.dot x.w).inv ((zb h op).mono d_) ((sj oE).mono d_);refine gA_ nf func76 mix ?_;rw[XD.share];clear oE h op od i hf k j hx c e f hn;generalize l:NS.add ((x.s.under x.g).mul (n.dot x.w)) (.plain ((b.sub x.a).dot x.w) ((x.s.under x.g).mul (n.dot x.w)).d)=v1 at*;clear l;generalize NS.plain ((b.sub x.a).dot x.w) ((x.s.under x.g).mul (n.dot x.w)).d=v2,(x.s.under x.g).mul (n.dot x.w)=v3,n.dot x.w=v4,x.s.under x.g=v5 at*;obtain⟨E,C,F,D,xs⟩:=x;dsimp only at*;simp+decide (maxDischargeDepth:=99) [f76,aa,c1 m,c1 p,e1 r,e2 t,e2 u,e2 v,e2 y,e2 z,e2 A,e2 o]
theorem e6{f:FuncId}{L:aZ->Prop}{H:al}{a b c d e g v:PV}(h:aq prog f [a,b,c,d,e,g] v)(hk:L {v:=.p v}):oX prog f L [.p a,.p b,.p c,.p d,.p e,.p g] H:=
 .inl ⟨[a,b,c,d,e,g],v,rfl,h,hk⟩
theorem Fu{r:Int}(h:1<=r):bK r≠0:=by
 intro e;rw[bK]at e;have a:(4*r*r:Int)=0:=by
  have:((4*r*r:Int):Rat)=((0:Int):Rat):=e;exact dg.1 this
 have b:0<4*r*r:=Int.mul_pos o_ o_;omega
def wS(w d wd a u:Rat):S3:=⟨w-wd*d/a,d/a,u⟩
def pT(w d wd a u F:Rat):S3:=⟨d-d*u/(F*a),-((w-wd*d/a)/F),u⟩
def ja(r:Int)(w d:V2):P4:=⟨⟨(b8 w d).x,(b9 d).x,bO r w d⟩,⟨(b8 w d).y,(b9 d).y,bO r w d⟩⟩
def qL(r:Int)(w d:V2):P4:=⟨pT w.x d.x (w.dot d) (d.dot d) (bO r w d) (bK r),pT w.y d.y (w.dot d) (d.dot d) (bO r w d) (bK r)⟩
theorem LI(w d wd a u:Rat)(f:aJ 61 w)(b:aJ 30 d)(e:aJ 183 wd)(c:aJ 121 a)(hz:a≠0):aq prog 88 [.str (aR w),.str (aR d),.str (aR wd),.str (aR a),.str (aR u)] (eS (wS w d wd a u)):=by
 have g:=ft wd d (e.mono d_) (b.mono d_);have h:=pQ (wd*d) a ((bh e b).mono d_) (c.mono d_) hz;have i:=lY w ((wd*d)/a) (f.mono d_) ((gQ (bh e b) c).mono d_);have j:=pQ d a (b.mono d_) (c.mono d_) hz;have k:=AZ (aR (w-((wd*d)/a))) (aR (d/a)) (aR u);refine gA_ nf func88 mix ?_;rw[wS,ky];simp(maxDischargeDepth:=99) [f88,aa,c2 g,c2 h,c2 i,c2 j,c3 k]
theorem LZ(w d wd a u F:Rat)(i:aJ 61 w)(b:aJ 30 d)(g:aJ 183 wd)(c:aJ 121 a)(h:aJ 776 u)(f:aJ 42 F)(hz:a≠0)(j:F≠0):aq prog 89 [.str (aR w),.str (aR d),.str (aR wd),.str (aR a),.str (aR u),.str (aR F)] (eS (pT w d wd a u F)):=by
 have k:F*a≠0:=fun e=>(cx.1 e).elim j hz;have l:=ft d u (b.mono d_) (h.mono d_);have n:=ft F a (f.mono d_) (c.mono d_);have o:=pQ (d*u) (F*a) ((bh b h).mono d_) ((bh f c).mono d_) k;have p:=lY d ((d*u)/(F*a)) (b.mono d_) ((gQ (bh b h) (bh f c)).mono d_);have q:=ft wd d (g.mono d_) (b.mono d_);have r:=pQ (wd*d) a ((bh g b).mono d_) (c.mono d_) hz;have s:=lY w ((wd*d)/a) (i.mono d_) ((gQ (bh g b) c).mono d_);have t:=pQ (w-((wd*d)/a)) F ((fK i (gQ (bh g b) c)).mono d_) (f.mono d_) j;have v:=yn ((w-((wd*d)/a))/F) ((gQ (fK i (gQ (bh g b) c)) f).mono d_);have m:=AZ (aR (d-((d*u)/(F*a)))) (aR (-((w-((wd*d)/a))/F))) (aR u);refine gA_ nf func89 mix ?_;rw[pT,ky];simp(maxDischargeDepth:=99) [f89,aa,c2 l,c2 n,c2 o,c2 p,c2 q,c2 r,c2 s,c2 t,c1 v,c3 m]
theorem LL(r:Int)(w d:V2)(r0:1<=r)(r1:r<=1000000)(b:bc 61 w)(a:bc 30 d)(hz:d.dot d≠0):aq prog 26 [.int .i64 r,eV w,eV d] (.aC [gY (ja r w d),gY (qL r w d)]):=by
 have e:aJ 183 (w.dot d):=dh b a;have c:aJ 121 (d.dot d):=dh a a;have h:aJ 776 (bO r w d):=um o_ r1 b a;have g:aJ 42 (bK r):=mG o_ r1;have f:bK r≠0:=Fu o_;have i:=x9 w d (b.mono d_) (a.mono d_);have j:=uV d (a.mono d_);have k:=HK r w d o_ r1 (b.mono d_) (a.mono d_);have l:=Ih r o_ r1;have m:=LI w.x d.x (w.dot d) (d.dot d) (bO r w d) b.1 a.1 e c hz;have n:=LI w.y d.y (w.dot d) (d.dot d) (bO r w d) b.2 a.2 e c hz;have o:=LZ w.x d.x (w.dot d) (d.dot d) (bO r w d) (bK r) b.1 a.1 e c h g hz f;have p:=LZ w.y d.y (w.dot d) (d.dot d) (bO r w d) (bK r) b.2 a.2 e c h g hz f;refine gA_ nf func26 mix ?_;rw[show ja r w d=⟨wS w.x d.x (w.dot d) (d.dot d) (bO r w d),wS w.y d.y (w.dot d) (d.dot d) (bO r w d)⟩from rfl,qL];generalize wS w.x d.x (w.dot d) (d.dot d) (bO r w d)=s1,wS w.y d.y (w.dot d) (d.dot d) (bO r w d)=s2,pT w.x d.x (w.dot d) (d.dot d) (bO r w d) (bK r)=q,pT w.y d.y (w.dot d) (d.dot d) (bO r w d) (bK r)=s,bO r w d=u,bK r=F at*;rw[gY,gY];dsimp only;simp+decide (maxDischargeDepth:=99) [f26,aa,e2 i,e1 j,e3 k,e1 l,e5 m,e5 n,e6 o,e6 p]
def BW(p:P4)(e:V2):S3:=(S3.times e.y p.x).add (S3.times (-e.x) p.y)
theorem W0(p:P4)(e:V2)(b:wv 776 p)(a:bc 29 e):aq prog 172 [gY p,eV e] (eS (BW p e)):=by
 have c:=vS e.y p.x (a.2.mono d_) (b.1.mono d_);have d:=yn e.x (a.1.mono d_);have f:=vS (-e.x) p.y ((jQ a.1).mono d_) (b.2.mono d_);have g:=D6 (S3.times e.y p.x) (S3.times (-e.x) p.y) ((AY a.2 b.1).mono d_) ((AY (jQ a.1) b.2).mono d_);refine gA_ nf func172 mix ?_;rw[BW];generalize (S3.times e.y p.x).add (S3.times (-e.x) p.y)=v1,S3.times (-e.x) p.y=v2,S3.times e.y p.x=v3 at*;obtain⟨i,j⟩:=p;obtain⟨ex,h⟩:=e;dsimp only at*;rw[gY];dsimp only;simp(maxDischargeDepth:=99) [f172,aa,e2 c,e1 d,e2 f,e2 g]
theorem WJ{t:aj}{r:Int}{w d:V2}(i:Nat):BW (ja r w d) (t.bI i)=eh t (b8 w d) (b9 d) (bO r w d) i:=by
 rw[BW,ja,eh];simp only[S3.times,S3.add,V2.bg];congr 1<;>grind
theorem Fx(r:Int)(w d e:V2):P4.dot e (ja r w d)=⟨(b8 w d).dot e,(b9 d).dot e,bO r w d⟩:=by
 rw[P4.dot,ja];simp only[S3.times,S3.add,V2.dot];congr 1<;>grind
theorem Fy{r:Int}{w d:V2}(r0:0<=r)(r1:r<=1000000)(e:bc 61 w)(c:bc 30 d):wv 776 (ja r w d):=by
 have a:=wV e c;have b:=wU c;have u:=um r0 r1 e c;exact⟨⟨a.1.mono d_,b.1.mono d_,u⟩,⟨a.2.mono d_,b.2.mono d_,u⟩⟩
theorem aDX(g:Rat)(s:S3)(f:aJ 149 g)(hs:gV 900 s)(h:s.a*s.a-s.b*s.b*s.d=0->s.a≠0):aq prog 173 [.str (aR g),eS s] (eS (fR g s)):=by
 have k1:=ft s.a s.a (hs.1.mono d_) (hs.1.mono d_);have k2:=ft s.b s.b (hs.2.1.mono d_) (hs.2.1.mono d_);have k3:=ft (s.b*s.b) s.d ((bh hs.2.1 hs.2.1).mono d_) (hs.2.2.mono d_);have k4:=lY (s.a*s.a) ((s.b*s.b)*s.d) ((bh hs.1 hs.1).mono d_) ((bh (bh hs.2.1 hs.2.1) hs.2.2).mono d_);have hz:aR (s.a*s.a-s.b*s.b*s.d)=[48]↔(s.a*s.a-s.b*s.b*s.d)=0:=Gp _;refine gA_ nf func173 mix ?_;rw[fR]
 by_cases c:(s.a*s.a-s.b*s.b*s.d)=0
 ·have k5:=ft 2 s.a (qJ.mono d_) (hs.1.mono d_);have k6:=pQ g (2*s.a) (f.mono d_) ((bh qJ hs.1).mono d_) (by have:=h c;grind);rw[Va]at k5;have k7:=AZ (aR (g/(2*s.a))) [48] (aR s.d);have c':=hz.2 c;rw[if_pos c,ky,o8];generalize aR (s.a*s.a-s.b*s.b*s.d)=z at*;subst c';clear h hz f;obtain⟨o,p,q⟩:=s;dsimp only at*;simp(maxDischargeDepth:=99) [f173,aa,e2 k1,e2 k2,e2 k3,e2 k4,e2 k5,e2 k6,e3 k7]
 ·have i:=ft g s.a (f.mono d_) (hs.1.mono d_);have j:=pQ (g*s.a) (s.a*s.a-s.b*s.b*s.d) ((bh f hs.1).mono d_) ((fK (bh hs.1 hs.1) (bh (bh hs.2.1 hs.2.1) hs.2.2)).mono d_) c;have k:=ft g s.b (f.mono d_) (hs.2.1.mono d_);have l:=pQ (g*s.b) (s.a*s.a-s.b*s.b*s.d) ((bh f hs.2.1).mono d_) ((fK (bh hs.1 hs.1) (bh (bh hs.2.1 hs.2.1) hs.2.2)).mono d_) c;have m:=yn ((g*s.b)/(s.a*s.a-s.b*s.b*s.d)) ((gQ (bh f hs.2.1) (fK (bh hs.1 hs.1) (bh (bh hs.2.1 hs.2.1) hs.2.2))).mono d_);have n:=AZ (aR ((g*s.a)/(s.a*s.a-s.b*s.b*s.d))) (aR (-((g*s.b)/(s.a*s.a-s.b*s.b*s.d)))) (aR s.d);have c':¬aR (s.a*s.a-s.b*s.b*s.d)=[48]:=fun e=>c (hz.1 e);rw[if_neg c,ky];generalize aR (s.a*s.a-s.b*s.b*s.d)=z at*;clear h hz f;generalize aR (g*s.a/(s.a*s.a-s.b*s.b*s.d))=z1,aR (-(g*s.b/(s.a*s.a-s.b*s.b*s.d)))=z2,aR (g*s.b/(s.a*s.a-s.b*s.b*s.d))=z3 at*;obtain⟨o,p,q⟩:=s;dsimp only at*;simp(maxDischargeDepth:=99) [f173,aa,c',e2 k1,e2 k2,e2 k3,e2 k4,e2 i,e2 j,e2 k,e2 l,e1 m,e3 n]
def pH(t:aj)(p A B:V2)(u:Rat):Option Nat->PV
 |none=>lg
 |some j=>eS (eC t p A B u j)
@[simp] theorem aVu(t:aj)(p A B:V2)(u:Rat)(o:Option Nat):aK (pH t p A B u o)=.agg 58:=by
 cases o<;>rfl
theorem Mo{t:aj}{r:Int}{w d p:V2}(h:Sz t r w d p){i:Nat}(hi:i<t.cs.length):gV 530 (eh t (b8 w d) (b9 d) (bO r w d) i):=by
 obtain⟨f,b,c,a,oE,g,j,k,l,e⟩:=h.parts hi;rw[BU t r i h.hz];exact⟨(bh (bh f b) (lH a)).mono d_,(bh c (lH a)).mono d_,e⟩
theorem Mp(t:aj)(p A B:V2)(u:Rat):∀m j,jT t p A B u m=some j->j<m/\0<bR (eh t A B u j)
 |0,j,h=>by simp[jT]at h
 |m+1,j,h=>by
  rw[Fw,zl.eq_def]at h;have b:=Mp t p A B u m
  by_cases hc:bR (eh t A B u m)<=0
  ·rw[if_pos hc]at h;have:=b j h;exact⟨o_,this.2⟩
  ·rw[if_neg hc]at h;cases a:jT t p A B u m with
   |none=>rw[a]at h;simp only[cd]at h;subst h;exact⟨o_,o_⟩
   |some c=>
    rw[a]at h;have:=b c a;dsimp only at h
    split at h
    ·simp only[cd]at h;subst h;exact⟨o_,o_⟩
    ·simp only[cd]at h;subst h;exact⟨o_,this.2⟩
theorem L5(t:aj)(r:Int)(w d p:V2)(h:Sz t r w d p)(F:t.cs.length<=1000000)(C:0<bO r w d):
 aq prog 91 [cw t,eV p,gY (ja r w d)] (.aC [.int .i64 (iF (jT t p (b8 w d) (b9 d) (bO r w d) t.cs.length)),pH t p (b8 w d) (b9 d) (bO r w d) (jT t p (b8 w d) (b9 d) (bO r w d) t.cs.length)]):=by
 have hn:=h.hn;have D:=Fy h.r0 h.r1 h.ow h.od;have kE:=fun i(hi:i<t.cs.length)=>Fv t i hi F hn;have c:=fun i(hi:i<t.cs.length)=>W0 (ja r w d) (t.bI i) D (aj.okW hn hi);simp only[WJ]at c;have kS:=fun i(hi:i<t.cs.length)=>D5 (eh t (b8 w d) (b9 d) (bO r w d) i) ((Mo h hi).mono d_);have g:=fun i(hi:i<t.cs.length)=>po p (dQ (t.at i)) (h.op.mono d_) ((ic (aj.fc hn hi)).mono d_);have f:=fun i(hi:i<t.cs.length)=>Bn (t.bI i) (p.sub (dQ (t.at i))) ((aj.okW hn hi).mono d_) ((gD h.op (ic (aj.fc hn hi))).mono d_);have b:=fun i(hi:i<t.cs.length)(hs:0<bR (eh t (b8 w d) (b9 d) (bO r w d) i))=>aDX (mP t p i) (eh t (b8 w d) (b9 d) (bO r w d) i) (h.parts hi).2.2.2.2.2.2.1 ((Mo h hi).mono d_) (fun hz=>by
  have z:0<(eh t (b8 w d) (b9 d) (bO r w d) i).a:=(zh ((zj C).1 hs) hz).1;intro e;rw[e]at z;exact absurd z d_)
 have q:=fun i j(hi:i<t.cs.length)(E:j<t.cs.length)=>EJ (eC t p (b8 w d) (b9 d) (bO r w d) i) (eC t p (b8 w d) (b9 d) (bO r w d) j) (wQ h hi) (wQ h E);have x:∀i,(t.bI i).bg (p.sub (dQ (t.at i)))=mP t p i:=fun _=>rfl;have y:∀i,fR (mP t p i) (eh t (b8 w d) (b9 d) (bO r w d) i)=eC t p (b8 w d) (b9 d) (bO r w d) i:=fun _=>rfl;simp only[x]at f;simp only[y]at b;clear D x y;have v:=Mp t p (b8 w d) (b9 d) (bO r w d);have G:=Fw t p (b8 w d) (b9 d) (bO r w d);clear h C;generalize b8 w d=A,b9 d=B,bO r w d=u,ja r w d=P at*;refine gA_ nf func91 mix ?_;simp[f91,aa];refine lp (α:=Nat) (fun m=>⟨[(10,.p (.int .i64 m)),(9,.ptr 4 []),(8,.p (.int .i64 (iF (jT t p A B u m)))),(7,.ptr 3 []),(5,.ptr 2 []),(4,.ptr 1 []),(3,.ptr 0 [])],
  [.box false (.p (cw t)),.box false (.p (eV p)),.box false (.p (gY P)),.box false (.p lg),.box false (.p (pH t p A B u (jT t p A B u m)))]⟩) (fun m=>m<=t.cs.length) (fun m=>t.cs.length-m) 0 s_ ?_ (he:=by simp[jT,iF]) (hh:=by simp[jT,pH,lg])
 rintro m m1
 by_cases hm:m<t.cs.length
 case neg=>
  have:m=t.cs.length:=o_
  subst this;generalize jT t p A B u t.cs.length=o at*;simp[aa]
 have n:=cE (i:=m) o_;have hs:=G m;have v:=v m;have kE:=kE m hm;have c:=c m hm;have kS:=kS m hm;have g:=g m hm;have f:=f m hm;have b:=b m hm;rw[zl.eq_def]at hs
 by_cases hc:bR (eh t A B u m)<=0
 ·rw[if_pos hc]at hs;generalize eh t A B u m=X at*;simp[hm,aa];refine c2 kE ?_;simp[aa];refine c2 c ?_;simp[aa];refine c1_ kS ?_;simp[hc,n,aa];exact rd (m+1) hm (he:=by simp[hs]) (hh:=by simp[hs])
 have b:=b o_;rw[if_neg hc]at hs;generalize eh t A B u m=X at*;cases s:jT t p A B u m with
 |none=>
  rw[s]at hs;dsimp only at hs;simp[hm,iF,aa];refine c2 kE ?_;simp[aa];refine c2 c ?_;simp[aa];refine c1_ kS ?_;simp[hc,aa];refine e2_ g ?_;simp[aa];refine e2_ f ?_;simp[aa];refine e2_ b ?_;simp[aa];refine⟨r_,?_⟩;simp[n,aa];exact rd (m+1) hm (he:=by simp[hs,iF]) (hh:=by simp[hs,pH])
 |some j=>
  obtain⟨H,_⟩:=v j s;have k:¬(j:Int)<0:=o_
  have q:=q m j hm o_;rw[s]at hs;dsimp only at hs
  by_cases l:dY (eC t p A B u m) (eC t p A B u j)<0
  ·rw[if_pos l]at hs;generalize dY (eC t p A B u m) (eC t p A B u j)=z2 at*;simp[hm,iF,pH,aa];refine c2 kE ?_;simp[aa];refine c2 c ?_;simp[aa];refine c1_ kS ?_;simp[hc,aa];refine e2_ g ?_;simp[aa];refine e2_ f ?_;simp[aa];refine e2_ b ?_;simp[k,aa];refine⟨r_,?_⟩;refine c2_ q ?_;simp[l,k,n,aa];exact rd (m+1) hm (he:=by simp[hs,iF]) (hh:=by simp[hs,pH])
  ·rw[if_neg l]at hs;generalize dY (eC t p A B u m) (eC t p A B u j)=z2 at*;simp[hm,iF,pH,aa];refine c2 kE ?_;simp[aa];refine c2 c ?_;simp[aa];refine c1_ kS ?_;simp[hc,aa];refine e2_ g ?_;simp[aa];refine e2_ f ?_;simp[aa];refine e2_ b ?_;simp[k,aa];refine⟨r_,?_⟩;refine c2_ q ?_;simp[l,k,n,aa];exact rd (m+1) hm (he:=by simp[hs,iF]) (hh:=by simp[hs,pH])
theorem LK(t:aj)(r:Int)(w d p:V2)(h:Sz t r w d p)(n:t.cs.length<=1000000)(o:0<bO r w d)(k:Nat)(hk:k<t.cs.length)(l:(t.bI k).dot (t.bI k)≠0)(m:jT t p (b8 w d) (b9 d) (bO r w d) t.cs.length=some k):
 aq prog 29 [cw t,eV p,gY (ja r w d)] (.aC [.int .i64 k,eS (mY t p (b8 w d) (b9 d) (bO r w d) k)]):=by
 have hn:=h.hn;have g:=Fy h.r0 h.r1 h.ow h.od;have f:=aj.okW hn hk;have q:=gD h.op (ic (aj.fc hn hk));have c:=wQ h hk;have k1:=L5 t r w d p h n o;rw[m]at k1;have k2:=Fv t k hk n hn;have k3:=Jv (t.bI k) (ja r w d) (f.mono d_) ⟨g.1.mono d_,g.2.mono d_⟩;rw[Fx]at k3;have i:gV 1000 ⟨(b8 w d).dot (t.bI k),(b9 d).dot (t.bI k),bO r w d⟩:=
  ⟨(dh (wV h.ow h.od) f).mono d_,(dh (wU h.od) f).mono d_,(um h.r0 h.r1 h.ow h.od).mono d_⟩
 have e:=aPn (k:=1300) ⟨c.1,c.2.1,c.2.2⟩ i;have k4:=Iq (eC t p (b8 w d) (b9 d) (bO r w d) k) ⟨(b8 w d).dot (t.bI k),(b9 d).dot (t.bI k),bO r w d⟩ ⟨c.1.mono d_,c.2.1.mono d_,c.2.2.mono d_⟩ (i.mono d_);have k5:=po p (dQ (t.at k)) (h.op.mono d_) ((ic (aj.fc hn hk)).mono d_);have k6:=x9 (p.sub (dQ (t.at k))) (t.bI k) (q.mono d_) (f.mono d_);have j:=(h.parts hk).2.2.2.2.2.2.2.1;have oE:=(h.parts hk).2.2.2.2.1;rw[mY];generalize s:(eC t p (b8 w d) (b9 d) (bO r w d) k).mul ⟨(b8 w d).dot (t.bI k),(b9 d).dot (t.bI k),bO r w d⟩=M at*;have k7:=tF M.a ((p.sub (dQ (t.at k))).dot (t.bI k)) (e.1.mono d_) (j.mono d_);have k8:=uV (t.bI k) (f.mono d_);have k9:=FZ ((t.bI k).dot (t.bI k)) (oE.mono d_) l;have nK:=vS ((t.bI k).dot (t.bI k))⁻¹ ⟨M.a+(p.sub (dQ (t.at k))).dot (t.bI k),M.b,M.d⟩ ((lH oE).mono d_) ⟨(ku e.1 j).mono d_,e.2.1.mono d_,e.2.2.mono d_⟩;rw[ky]at nK;rw[show eS M=.st 58 [.str (aR M.a),.str (aR M.b),.str (aR M.d)]from rfl]at k4;rw[iF,pH]at k1;clear s e j oE i c q g l m h o;generalize S3.times ((t.bI k).dot (t.bI k))⁻¹ ⟨M.a+(p.sub (dQ (t.at k))).dot (t.bI k),M.b,M.d⟩=R,aR (M.a+(p.sub (dQ (t.at k))).dot (t.bI k))=u,(⟨(b8 w d).dot (t.bI k),(b9 d).dot (t.bI k),bO r w d⟩:S3)=D,eC t p (b8 w d) (b9 d) (bO r w d) k=X,ja r w d=P at*;refine gA_ nf func29 mix ?_;simp+decide (maxDischargeDepth:=99) [f29,aa,c3_ k1,c2_ k2,e2_ k3,e2_ k4,e2_ k5,e2_ k6,e2_ k7,e1_ k8,e1_ k9,e2_ nK]
def cK(t b:aj)(i:Nat)(d:bM)(j:Nat):NB:=(di t b i d j).cg
theorem B5(t b:aj)(i:Nat)(d:bM)(j:Nat):(di t b i d j).w.q=bk b i j:=by
 show((NV.from (b.sp j).pt).sub (.from (b.sp i).pt)).q=_;rw[NV.eH];rfl
theorem ze(t b:aj)(i:Nat)(d:bM)(j:Nat):(di t b i d j).root.q=bO t.aD (bk b i j) (vP d):=by
 have:=B3 t b i d j;rw[NS.q,fS,uM]at this;injection this
theorem Mu(m:NM):m.cg.a.q=b8 m.w.q m.d.q:=by
 rw[NM.cg];dsimp only;rw[NV.eH,NV.EV];show V2.sub m.w.q (V2.mul m.d.q (m.w.q.dot m.d.q/m.d.q.dot m.d.q))=_;rw[V2.sub,V2.mul,b8];dsimp only;rw[ce,ce,ce];congr 1<;>grind
theorem L6(m:NM):m.cg.b.q=b9 m.d.q:=rfl
theorem nU(t b:aj)(i:Nat)(d:bM)(j:Nat):(cK t b i d j).a.q=b8 (bk b i j) (vP d):=by
 rw[cK,Mu,B5];rfl
theorem pS(t b:aj)(i:Nat)(d:bM)(j:Nat):(cK t b i d j).b.q=b9 (vP d):=rfl
theorem pR(t b:aj)(i:Nat)(d:bM)(j:Nat):(cK t b i d j).d.q=bO t.aD (bk b i j) (vP d):=ze t b i d j
theorem aPh(t b:aj)(i:Nat)(d:bM)(j:Nat):(cK t b i d j).q=ja t.aD (bk b i j) (vP d):=by
 have a:=nU t b i d j;have c:=pS t b i d j;have e:=pR t b i d j;rw[NB.q,ja,<-a,<-c,<-e];rfl
structure jP(t b:aj)(i:Nat)(d:bM)(j:Nat):Prop where
 S:Sz t t.aD (bk b i j) (vP d) (vP (b.sp j).pt)
 u:0<bO t.aD (bk b i j) (vP d)
 rp:1<=t.aD
 jl:j<b.an.length
 three:3<=t.cs.length
 cl:t.cs.length<=1000000
 cv:t.gh=true
theorem zg{t b:aj}{aP:List Nat}{d:bM}{i j:Nat}{x:XD}{e:Rat}(h:rK t b aP d i x e)(g:some j=fG t b i (vP d) e b.an.length):jP t b i d j:=by
 obtain⟨c,hc⟩:=wP _ _ _ _ _ _ _ g.symm;obtain⟨r0,r1⟩:=qH h.C.jz;obtain⟨l,m,hn,f⟩:=rU h.C.jz;rw[jA,a1,a1,tA,a1,decide_eq_true_eq,decide_eq_true_eq]at hc;have a:=hc.2.1.2;have k:0<bO t.aD (bk b i j) (vP d):=by
  rw[bP]at a;generalize bO t.aD (bk b i j) (vP d)=u at*
  split at a
  ·exact absurd a d_
  ·split at a
   ·exact absurd a d_
   ·grind
 exact⟨⟨hn,o_,o_,gD (h.C.at c).2 (h.C.at h.C.ci.2.1).2,h.dk,(h.C.at c).2,h.nz⟩,k,r0,c,l,h.C.tl,f⟩
theorem jP.okB{t b:aj}{i j:Nat}{d:bM}(h:jP t b i d j):okB 900 (cK t b i d j):=
 ⟨by rw[nU];exact(wV h.S.ow h.S.od).mono d_,by rw[pS];exact(wU h.S.od).mono d_,by rw[pR];exact(um h.S.r0 h.S.r1 h.S.ow h.S.od).mono d_⟩
theorem jP.end{t b:aj}{i j:Nat}{d:bM}(h:jP t b i d j):∃k c l,k<t.cs.length/\0<bR (eh t (b8 (bk b i j) (vP d)) (b9 (vP d)) (bO t.aD (bk b i j) (vP d)) k)/\
 t.fM (.from (b.sp j).pt) (cK t b i d j) t.cs.length=c::l/\iV c l=t.bV (.from (b.sp j).pt) (cK t b i d j) k/\
 jT t (vP (b.sp j).pt) (b8 (bk b i j) (vP d)) (b9 (vP d)) (bO t.aD (bk b i j) (vP d)) t.cs.length=some k:=by
 have g:0<(cK t b i d j).d.q:=by rw[pR];exact h.u
 have f:=LQ t (.from (b.sp j).pt) (cK t b i d j) g t.cs.length;have n:(0:Rat)<bK t.aD:=by
  have s:=Fu h.rp;have v:(0:Rat)<=bK t.aD:=by
   rw[bK];have:=(xZ h.S.r0 h.S.r1).1;exact Rat.intCast_nonneg.2 this
  grind
 obtain⟨i0,p,r⟩:=WX t (cK t b i d j).a.q (cK t b i d j).b.q g h.three h.cv n (by rw[nU,pS,pR];exact WO t.aD _ _ h.S.hz) (by rw[nU,pS];exact WQ _ _ h.S.hz);have o:t.fM (.from (b.sp j).pt) (cK t b i d j) t.cs.length≠[]:=by
  intro e;rw[aj.fM,List.map_eq_nil_iff,List.filter_eq_nil_iff]at e;exact e i0 (List.mem_range.2 p) (by rw[LP];exact decide_eq_true r)
 rw[nU,pS,pR,iD]at f;generalize t.fM (.from (b.sp j).pt) (cK t b i d j) t.cs.length=L at*;cases L with
 |nil=>exact absurd rfl o
 |cons c l=>
  obtain⟨k,m,a2,a3,a4⟩:=f;exact⟨k,c,l,m,a2,rfl,a3,a4⟩
theorem Fz{t b:aj}{i j:Nat}{d:bM}(h:jP t b i d j):aq prog 72 [jH (di t b i d j)] (jG (cK t b i d j)):=
 Ms (di t b i d j) (by rw[B5];exact h.S.ow.mono d_) (by show bc 100 (NV.from d).q;rw[iD];exact h.S.od.mono d_) h.S.hz
theorem LY(t:aj)(p:NV)(n:NB)(k:Nat):(t.bV p n k).s.q=eh t n.a.q n.b.q n.d.q k:=BK t n k
theorem jP.far{t b:aj}{i j k:Nat}{d:bM}(h:jP t b i d j)(_hk:k<t.cs.length):
 ((t.bV (.from (b.sp j).pt) (cK t b i d j) k).s.under (t.bV (.from (b.sp j).pt) (cK t b i d j) k).g).q=eC t (vP (b.sp j).pt) (b8 (bk b i j) (vP d)) (b9 (vP d)) (bO t.aD (bk b i j) (vP d)) k:=by
 rw[aRz,FB,LY,nU,pS,pR,iD,eC]
theorem jP.norm{t b:aj}{i j k:Nat}{d:bM}(h:jP t b i d j)(hs:0<bR (eh t (b8 (bk b i j) (vP d)) (b9 (vP d)) (bO t.aD (bk b i j) (vP d)) k)):
 (t.bV (.from (b.sp j).pt) (cK t b i d j) k).s.norm.q=0->(t.bV (.from (b.sp j).pt) (cK t b i d j) k).s.a.q≠0:=by
 have hq:(t.bV (.from (b.sp j).pt) (cK t b i d j) k).s.q=eh t (b8 (bk b i j) (vP d)) (b9 (vP d)) (bO t.aD (bk b i j) (vP d)) k:=by rw[LY,nU,pS,pR]
 rw[<-hq]at hs;have g:0<(t.bV (.from (b.sp j).pt) (cK t b i d j) k).s.q.d:=by rw[hq];exact h.u
 generalize (t.bV (.from (b.sp j).pt) (cK t b i d j) k).s=s at*;intro hn;have f:s.q.a*s.q.a-s.q.b*s.q.b*s.q.d=0:=hn▸(show s.q.a*s.q.a-s.q.b*s.q.b*s.q.d=s.norm.q from(NF.eH (s.a.mul s.a) ((s.b.mul s.b).mul s.d)).symm);have c:0<s.a.q:=(zh ((zj g).1 hs) f).1;intro e;rw[e]at c;exact absurd c d_
theorem jP.aGr{t b:aj}{i j k:Nat}{d:bM}(h:jP t b i d j)(hk:k<t.cs.length):dC 1300 ((t.bV (.from (b.sp j).pt) (cK t b i d j) k).s.under (t.bV (.from (b.sp j).pt) (cK t b i d j) k).g):=by
 have c:=h.far hk;have a:=wQ h.S hk;rw[<-c]at a;exact a
theorem jP.lN{t b:aj}{i j k:Nat}{d:bM}(h:jP t b i d j)(hk:k<t.cs.length):lN (t.bV (.from (b.sp j).pt) (cK t b i d j) k):=
 Bu h.cl h.S.hn (by rw[iD];exact h.S.op.mono d_) h.okB hk
theorem wT{t:aj}(d:3<=t.cs.length)(hc:t.gh=true){k:Nat}(hk:k<t.cs.length):(t.bI k).dot (t.bI k)≠0:=by
 intro e;obtain⟨b,c⟩:=Mf e;have f:t.at k≠t.at (t.nx k):=fun h=>by
  have a:=JZ d hk (t.lA o_ k) (by
   rw[aj.nx];rcases b2 (k+1) t.cs.length with h|h
   ·rw[b1 h];omega
   ·rw[show k+1=t.cs.length by omega,b3];omega) h
  rw[hc]at a;exact absurd a d_
 have e1:=Tn (show((t.at (t.nx k)).x:Rat)-((t.at k).x:Rat)=0 from b);have e2:=Tn (show((t.at (t.nx k)).y:Rat)-((t.at k).y:Rat)=0 from c);have g:=dg.1 e1;have i:=dg.1 e2;apply f;generalize t.at k=P,t.at (t.nx k)=Q at*;cases P;cases Q;simp_all
theorem L3{t b:aj}{i j k:Nat}{d:bM}{a:XD}{l:List XD}(h:jP t b i d j)(c:t.fM (.from (b.sp j).pt) (cK t b i d j) t.cs.length=a::l)(e:iV a l=t.bV (.from (b.sp j).pt) (cK t b i d j) k):
 aq prog 75 [bW t,cV (.from (b.sp j).pt),jG (cK t b i d j)] (gS (t.bV (.from (b.sp j).pt) (cK t b i d j) k)):=by
 have:=Tz t (.from (b.sp j).pt) (cK t b i d j) h.cl h.S.hn (by rw[iD];exact h.S.op.mono d_) h.okB a l c
 rwa [e]at this
noncomputable def tU(t b:aj)(i:Nat)(d:bM)(j k:Nat):NS:=(t.bV (.from (b.sp j).pt) (cK t b i d j) k).share (.from (b.sp j).pt) (cK t b i d j)
theorem Jf{t b:aj}{i j k:Nat}{d:bM}(h:jP t b i d j)(hk:k<t.cs.length):(tU t b i d j k).q=mY t (vP (b.sp j).pt) (b8 (bk b i j) (vP d)) (b9 (vP d)) (bO t.aD (bk b i j) (vP d)) k:=by
 have hf:=h.far hk;have e:(t.bV (.from (b.sp j).pt) (cK t b i d j) k).w.q=t.bI k:=aj.rW t k;have c:(t.bV (.from (b.sp j).pt) (cK t b i d j) k).a.q=dQ (t.at k):=rfl;have l:=nU t b i d j;have m:=pS t b i d j;have o:=pR t b i d j;rw[tU,XD.share,mY,<-hf,<-e,<-c,<-l,<-m,<-o,<-iD];generalize (t.bV (.from (b.sp j).pt) (cK t b i d j) k).s.under (t.bV (.from (b.sp j).pt) (cK t b i d j) k).g=f;generalize (t.bV (.from (b.sp j).pt) (cK t b i d j) k).w=w;generalize (t.bV (.from (b.sp j).pt) (cK t b i d j) k).a=a;generalize cK t b i d j=n;generalize NV.from (b.sp j).pt=p;have hs:((p.sub a).dot w).q=(p.q.sub a.q).dot w.q:=by rw[NV.jq,NV.eH]
 rw[<-hs];show S3.mk ((f.a.q*(n.a.q.dot w.q)+f.b.q*(n.b.q.dot w.q)*f.d.q+((p.sub a).dot w).q)*(w.q.dot w.q)⁻¹) ((f.a.q*(n.b.q.dot w.q)+(n.a.q.dot w.q)*f.b.q+((0:Int):Rat))*(w.q.dot w.q)⁻¹) f.d.q=S3.mk ((w.q.dot w.q)⁻¹*(f.a.q*(n.a.q.dot w.q)+f.b.q*(n.b.q.dot w.q)*f.d.q+((p.sub a).dot w).q)) ((w.q.dot w.q)⁻¹*(f.a.q*(n.b.q.dot w.q)+(n.a.q.dot w.q)*f.b.q)) f.d.q;rw[show((0:Int):Rat)=0 from rfl];congr 1<;>grind
theorem LR{t b:aj}{i j k:Nat}{d:bM}(h:jP t b i d j)(hk:k<t.cs.length)(hs:0<bR (eh t (b8 (bk b i j) (vP d)) (b9 (vP d)) (bO t.aD (bk b i j) (vP d)) k)):
 aq prog 76 [gS (t.bV (.from (b.sp j).pt) (cK t b i d j) k),cV (.from (b.sp j).pt),jG (cK t b i d j)] (cj (tU t b i d j k)):=by
 have a:(t.bV (.from (b.sp j).pt) (cK t b i d j) k).w.q=t.bI k:=aj.rW t k;refine aEL _ (.from (b.sp j).pt) (cK t b i d j) (h.lN hk) (h.norm hs) (h.aGr hk) (by rw[a];exact aj.okW h.S.hn hk) (ic (aj.fc h.S.hn hk)) (by rw[iD];exact h.S.op.mono d_) h.okB ?_;rw[NV.jq,a];exact wT h.three h.cv hk
theorem L9{t b:aj}{i j k:Nat}{d:bM}(h:jP t b i d j)(hk:k<t.cs.length)(hs:0<bR (eh t (b8 (bk b i j) (vP d)) (b9 (vP d)) (bO t.aD (bk b i j) (vP d)) k)):dC 1800 (tU t b i d j k):=by
 have a:=Fm h.S hk h.u (wT h.three h.cv hk) hs;rw[<-Jf h hk]at a;exact a
theorem aOX(t b:aj)(i:Nat)(d:bM)(j:Nat):((di t b i d j).aP (.width t.aD)).q=qL t.aD (bk b i j) (vP d):=by
 have g:=ze t b i d j;have e:=nU t b i d j;rw[cK]at e;rw[NM.aP,qL,pT,pT,<-g];have k:∀c:NV,(V2.mk c.x.q c.y.q)=c.q:=fun _=>rfl;have hx:(di t b i d j).cg.a.x.q=(bk b i j).x-(bk b i j).dot (vP d)*(vP d).x/(vP d).dot (vP d):=congrArg V2.x e;have h:(di t b i d j).cg.a.y.q=(bk b i j).y-(bk b i j).dot (vP d)*(vP d).y/(vP d).dot (vP d):=congrArg V2.y e;rw[<-hx,<-h,NB.q];dsimp only;have e1:(((di t b i d j).d.sub ((di t b i d j).cg.b.times ((di t b i d j).root.div (.width t.aD)))).q)=(vP d).sub ((b9 (vP d)).mul ((di t b i d j).root.q/bK t.aD)):=by
  rw[NV.eH,NV.EV,L6];rfl
 have ex:=congrArg V2.x e1;have f:=congrArg V2.y e1;have inv:((bK t.aD)*(vP d).dot (vP d))⁻¹=(bK t.aD)⁻¹*((vP d).dot (vP d))⁻¹:=by
  rw[Rat.inv_mul_rev,dx]
 show P4.mk (S3.mk ((((di t b i d j).d.sub ((di t b i d j).cg.b.times ((di t b i d j).root.div (.width t.aD)))).q).x) ((di t b i d j).cg.a.x.q* -(bK t.aD)⁻¹) (di t b i d j).root.q) (S3.mk ((((di t b i d j).d.sub ((di t b i d j).cg.b.times ((di t b i d j).root.div (.width t.aD)))).q).y) ((di t b i d j).cg.a.y.q* -(bK t.aD)⁻¹) (di t b i d j).root.q)=_;rw[ex,f];simp only[V2.sub,V2.mul,b9,ce,inv];congr 2<;>grind
theorem LN(t b:aj)(aP:List Nat)(d:bM)(j:List Nat)(c e:PV)(a:Int)(f:aK c= .agg 125)(i:aK e= .agg 148)(h:aq prog 71 [bW t,.seq (b.an.map bE),.str aP,cW d] (.aC [c,.str j,e,.int .i64 a]))(g:¬a=0):
 aq prog 20 [bW t,.seq (b.an.map bE),.str aP,cW d] (.aC [tE,tE,.int .i64 a]):=by
 refine gA_ nf func20 mix ?_;rw[tE,lg];simp[f20,aa,f,i,g,c4_ h]
theorem LM(t b:aj)(aP:List Nat)(d:bM)(j:List Nat)(c e:PV)(a:Int)(f:aK c= .agg 125)(i:aK e= .agg 148)(h:aq prog 71 [bW t,.seq (b.an.map bE),.str aP,cW d] (.aC [c,.str j,e,.int .i64 a]))(g:¬a=0):
 aq prog 21 [bW t,.seq (b.an.map bE),.str aP,cW d] (.aC [.int .i64 0,lg,.int .i64 a]):=by
 refine gA_ nf func21 mix ?_;rw[lg];simp[f21,aa,f,i,g,c4_ h]
theorem LJ(t b:aj)(aP:List Nat)(d:bM)(j:List Nat)(c e:PV)(a:Int)(f:aK c= .agg 125)(i:aK e= .agg 148)(h:aq prog 71 [bW t,.seq (b.an.map bE),.str aP,cW d] (.aC [c,.str j,e,.int .i64 a]))(g:¬a=0):
 aq prog 22 [bW t,.seq (b.an.map bE),.str aP,cW d] (.aC [.str [],.str [],.int .i64 a]):=by
 refine gA_ nf func22 mix ?_;simp[f22,aa,f,i,g,c4_ h]
theorem W3(t b:aj)(aP:List Nat)(d:bM)(i j:Nat)(x:XD)(e:Rat)(H:iu t)(F:jZ b)(G:jx d)(B:lQ t b aP d=0)(h:rK t b aP d i x e)(v:some j=fG t b i (vP d) e b.an.length):
 aq prog 20 [bW t,.seq (b.an.map bE),.str aP,cW d] (.aC [gY (ja t.aD (bk b i j) (vP d)),gY (qL t.aD (bk b i j) (vP d)),.int .i64 0]):=by
 have c:=zg h v;have k1:=B4 t b aP d i x e H F G B h _ v;have k2:=Fz c;have f:=mG c.S.r0 c.S.r1;have ow:=c.S.ow;have od:=c.S.od;have I:=dh ow od;have o:=dh od od;have g:=um c.S.r0 c.S.r1 ow od;have l:=wV ow od;have m:=wU od;have k4:=aEu (di t b i d j) (.width t.aD) (by rw[B5];exact ow.mono d_) (by show bc 100 (NV.from d).q;rw[iD];exact od.mono d_) c.S.hz (by rw[ze];exact g.mono d_) f (Fu c.rp);have q4:=aOX t b i d j;have z:okB kB ((di t b i d j).aP (.width t.aD)):=by
  refine⟨?_,?_,?_⟩
  ·show bc kB ((di t b i d j).d.sub ((di t b i d j).cg.b.times ((di t b i d j).root.div (.width t.aD)))).q;rw[NV.eH,NV.EV,L6];have D:aJ 776 (di t b i d j).root.q:=by rw[ze];exact g
   have E:aJ 818 ((di t b i d j).root.div (.width t.aD)).q:=B2 (y:=.width t.aD) D f;exact(gD (show bc 30 (di t b i d j).d.q from od) (aPr (show bc 151 (b9 (di t b i d j).d.q)from m) E)).mono d_
  ·show bc kB ((di t b i d j).cg.a.times (NF.width t.aD).inv.neg).q;have r:bc 396 (di t b i d j).cg.a.q:=by rw[Mu,B5];exact l
   exact(show bc 438 _ from⟨dO r.1 (nS (sj (x:=.width t.aD) f)),dO r.2 (nS (sj (x:=.width t.aD) f))⟩).mono d_
  ·show aJ kB (di t b i d j).root.q;rw[ze];exact g.mono d_
 have k3:=Td (cK t b i d j) (c.okB.mono d_);have k5:=Td ((di t b i d j).aP (.width t.aD)) z;have A:=aPh t b i d j;rw[A]at k3;rw[q4]at k5;have s:yC (ja t.aD (bk b i j) (vP d))=false:=by
  rw[yC,nL,nL,ja];dsimp only;rw[mL (l.1.mono d_),mL (l.2.mono d_),mL (m.1.mono d_),mL (m.2.mono d_),mL (g.mono d_)];rfl
 have u:yC (qL t.aD (bk b i j) (vP d))=false:=by
  have g1:=fK od.1 (gQ (bh od.1 g) (bh f o));have g2:=fK od.2 (gQ (bh od.2 g) (bh f o));have g3:=jQ (gQ l.1 f);have p:=jQ (gQ l.2 f);simp only[b8]at g3 p;rw[yC,nL,nL,qL,pT,pT];dsimp only;rw[mL (g1.mono d_),mL (g2.mono d_),mL (g3.mono d_),mL (p.mono d_),mL (g.mono d_)];rfl
 rw[s,if_neg d_]at k3;rw[u,if_neg d_]at k5;have k6:=zC [0,0] s_;rw[show bN [0,0]=0 by decide]at k6;simp only[b0,List.map_nil]at k6;rw[show tO (some j)=0 from rfl,kD,lM]at k1;have k:aK (jH (di t b i d j))=.agg 148:=za _;have J:cm (jH (di t b i d j))=[cV (di t b i d j).w,cV (di t b i d j).d,eF (di t b i d j).root]:=rfl;clear s u A q4 z f ow od I o g l m c h;generalize ja t.aD (bk b i j) (vP d)=P,qL t.aD (bk b i j) (vP d)=Q,(di t b i d j).aP (.width t.aD)=C,cK t b i d j=n,jH (di t b i d j)=M at*;refine gA_ nf func20 mix ?_;simp[f20,aa];refine c4_ k1 ?_;simp[k,aa];refine c1_ k2 ?_;simp[k,aa];refine c1_ k3 ?_;simp[k,aa];refine c2_ k4 ?_;simp[k,aa];refine c1_ k5 ?_;simp[k,aa];refine cp k6 t_ ?_;simp[k,aa]
theorem W2(t b:aj)(aP:List Nat)(d:bM)(i j k:Nat)(x:XD)(e:Rat)(v:XD)(l:List XD)(D:iu t)(z:jZ b)(A:jx d)(w:lQ t b aP d=0)(h:rK t b aP d i x e)(r:some j=fG t b i (vP d) e b.an.length)
 (hk:k<t.cs.length)(hs:0<bR (eh t (b8 (bk b i j) (vP d)) (b9 (vP d)) (bO t.aD (bk b i j) (vP d)) k))(m:t.fM (.from (b.sp j).pt) (cK t b i d j) t.cs.length=v::l)(q:iV v l=t.bV (.from (b.sp j).pt) (cK t b i d j) k):
 aq prog 21 [bW t,.seq (b.an.map bE),.str aP,cW d] (.aC [.int .i64 k,eS (mY t (vP (b.sp j).pt) (b8 (bk b i j) (vP d)) (b9 (vP d)) (bO t.aD (bk b i j) (vP d)) k),.int .i64 0]):=by
 have a:=zg h r;have y:=wO h.C.L a.jl;have k1:=B4 t b aP d i x e D z A w h _ r;have k2:=Fz a;have k3:=L3 a m q;have k4:=LR a hk hs;have c:=L9 a hk hs;have f:dC kB (tU t b i d j k):=⟨c.1.mono d_,c.2.1.mono d_,c.2.2.mono d_⟩
 have k5:=Im _ f;have k6:=Ir _ f;rw[Jf a hk]at k5 k6;have g:=Fm a.S hk a.u (wT a.three a.cv hk) hs;have p:nL (mY t (vP (b.sp j).pt) (b8 (bk b i j) (vP d)) (b9 (vP d)) (bO t.aD (bk b i j) (vP d)) k)=false:=by
  rw[nL,mL g.1,mL g.2.1,mL g.2.2];rfl
 rw[p]at k5;rw[show tO (some j)=0 from rfl,kD,lM]at k1;have B:aK (jH (di t b i d j))=.agg 148:=za _;have o:gS (t.bV (.from (b.sp j).pt) (cK t b i d j) k)=.st 161 [vX k (dA (t.at k)) (t.cG k),eF (t.bV (.from (b.sp j).pt) (cK t b i d j) k).g,cj (t.bV (.from (b.sp j).pt) (cK t b i d j) k).s]:=rfl;rw[o]at k3 k4;clear p g c f hs q m a h o;generalize mY t (vP (b.sp j).pt) (b8 (bk b i j) (vP d)) (b9 (vP d)) (bO t.aD (bk b i j) (vP d)) k=S,tU t b i d j k=s,(t.bV (.from (b.sp j).pt) (cK t b i d j) k).g=E,(t.bV (.from (b.sp j).pt) (cK t b i d j) k).s=xs,cK t b i d j=n,jH (di t b i d j)=M at*;refine gA_ nf func21 mix ?_;simp+decide (maxDischargeDepth:=99) [f21,aa,B,y,c4_ k1,e1_ k2,e3_ k3,e3_ k4,c1_ k5,e1_ k6]
def fa(f:Nat->Bool):Nat->Nat
 |0=>0
 |n+1=>if fa f n<n then fa f n else if f n=true then n else n+1
theorem uk(f:Nat->Bool):∀n,fa f n<=n/\(∀i,i<fa f n->f i=false)/\(fa f n<n->f (fa f n)=true)
 |0=>⟨cc _,fun i h=>absurd h (cb _),fun h=>absurd h (cb _)⟩
 |n+1=>by
  obtain⟨g,a,b⟩:=uk f n;rw[fa]
  by_cases c:fa f n<n
  ·rw[if_pos c];exact⟨o_,a,fun _=>b c⟩
  ·rw[if_neg c];have e:fa f n=n:=by omega
   rw[e]at a
   by_cases d:f n=true
   ·rw[if_pos d];exact⟨o_,a,fun _=>d⟩
   ·rw[if_neg d];refine⟨cc _,fun i hi=>?_,fun h=>absurd h (Nat.lt_irrefl _)⟩
    by_cases e2:i=n
    ·rw[e2];simpa using d
    ·exact a i o_
theorem BP{f:Nat->Bool}{n i:Nat}(b:i<=fa f n)(c:i<n)(a:f i=true):fa f n=i:=by
 obtain⟨k1,k2,k3⟩:=uk f n;rcases b2 i (fa f n)with h|h
 ·rw[k2 i h]at a;cases a
 ·omega
theorem BO{f:Nat->Bool}{n i:Nat}(b:i<=fa f n)(c:i<n)(a:f i=false):i+1<=fa f n:=by
 obtain⟨k1,k2,k3⟩:=uk f n;rcases b2 i (fa f n)with h|h
 ·omega
 ·have e:fa f n=i:=by omega
  have:=k3 o_;rw[e,a]at this;cases this
theorem Lp{f g:Nat->Bool}:∀{n:Nat},(∀i,i<n->f i=g i)->fa f n=fa g n
 |0,_=>rfl
 |n+1,h=>by rw[fa,fa,Lp (fun i hi=>h i o_),h n o_]
def rQ(k n:Nat):Int:=if k<n then k else -1
def aj.shr(t:aj)(i:Nat)(v:V2):Rat:=((v.sub (dQ (t.at i))).dot (t.bI i))/((t.bI i).dot (t.bI i))
def aj.pv(t:aj)(i:Nat):Nat:=(i+t.cs.length-1)% t.cs.length
theorem B0{a n:Nat}:((a:Nat):Int).tmod (n:Int)=((a% n:Nat):Int):=by
 rw[Int.natCast_emod,Int.tmod_eq_emod_of_nonneg o_]
def ql(t:aj)(p:dT)(m:Nat):Bool:=(decide (p.cR=(m% t.cs.length:Nat))&&decide (p.a=[48]))||(decide (p.cR=((m+t.cs.length-1)% t.cs.length:Nat))&&decide (p.b=[49]))
theorem LO(t:aj)(p:dT)(m:Nat)(n:t.cs.length<=1000000)(j:0<t.cs.length)(o:m<=t.cs.length):aq prog 183 [cw t,fV p,.int .i64 m] (.bool (ql t p m)):=by
 have hn:¬t.cs.length=0:=o_
 have b:¬t.cs=[]:=by intro e;rw[e]at j;simp at j
 have c:a7.wrap ((m:Int)+(t.cs.length:Int))=(m:Int)+(t.cs.length:Int):=aU _ o_ o_;have d:a7.wrap ((m:Int)+(t.cs.length:Int)-1)=(m:Int)+(t.cs.length:Int)-1:=aU _ o_ o_;have e1:(m:Int).tmod (t.cs.length:Int)=((m% t.cs.length:Nat):Int):=B0;have e2:((m:Int)+(t.cs.length:Int)-1).tmod (t.cs.length:Int)=(((m+t.cs.length-1)% t.cs.length:Nat):Int):=by
  rw[<-B0,show((m:Int)+(t.cs.length:Int)-1)=((m+t.cs.length-1:Nat):Int)from by omega]
 rw[ql];generalize (m+t.cs.length-1)% t.cs.length=y1,m% t.cs.length=y2 at*;obtain⟨k,pe,i,g⟩:=p;rw[show fV ⟨k,pe,i,g⟩=.st 82 [.str k,.int .i64 pe,.str i,.str g]from rfl];refine gA_ nf func183 mix ?_
 by_cases r1:pe=y2
 ·by_cases h:i=[48]
  ·simp[f183,aa,hn,b,c,d,e1,e2,r1,h]
  ·by_cases a:y2=y1
   ·by_cases f:g=[49]
    ·simp[f183,aa,hn,b,c,d,e1,e2,r1,h,a,f]
    ·simp[f183,aa,hn,b,c,d,e1,e2,r1,h,a,f]
   ·have l:¬(y2:Int)=y1:=by omega
    simp[f183,aa,hn,b,c,d,e1,e2,r1,h,a,l]
 ·by_cases a:pe=y1
  ·rw[a]at r1
   by_cases f:g=[49]
   ·simp[f183,aa,hn,b,c,d,e1,e2,r1,a,f]
   ·simp[f183,aa,hn,b,c,d,e1,e2,r1,a,f]
  ·simp[f183,aa,hn,b,c,d,e1,e2,r1,a]
theorem Mc{t:aj}(h:gH t=0){j:Nat}(c:j<t.aV.length):ig t.cs.length (t.aV.take j) (t.pk j)=0:=by
 rw[ER]at h
 split at h
 case isFalse=>contradiction
 split at h
 case isFalse=>contradiction
 rename_i d b;rw[rZ,rk]at b;have a:=b (lT 12 (ig t.cs.length) t.aV) s_;rw[lT]at a
 split at a
 ·cases a
 have:=qE.1 a j c
 rwa [ir,aj.kI c]at this
theorem L8{q:Rat}(h:fQ q=0):0<=q/\q<=1:=by
 rw[fQ]at h
 split at h
 ·cases h
 rename_i c;have c1:¬bP q<0:=fun h=>c (.inl h);have c2:¬0<c8 q 1:=fun h=>c (.inr h);constructor
 ·apply dy.1;intro hq;rw[qC hq]at c1;exact c1 d_
 ·apply dy.1;intro hq;rw[Mk hq]at c2;exact c2 d_
theorem aP5{n:Nat}{d:List dT}{p:dT}(h:ig n d p=0):0<=aS p.a/\aS p.a<=aS p.b/\aS p.b<=1/\0<=p.cR/\p.cR<n:=by
 rw[ig]at h
 split at h
 ·cases h
 split at h
 ·cases h
 split at h
 ·cases h
 rename_i e1
 split at h
 ·contradiction
 split at h
 ·contradiction
 split at h
 ·contradiction
 rename_i e2
 split at h
 ·cases h
 rename_i e3;have c:fQ (aS p.a)=0/\fQ (aS p.b)=0:=by
  rcases Bp (aS p.a)with a|a<;>rcases Bp (aS p.b)with b|b<;>rw[a,b]at e2<;>first|exact⟨a,b⟩|(exfalso;exact e2 d_)
 refine⟨(L8 c.1).1,?_,(L8 c.2).2,o_,o_⟩;apply dy.1;intro hq;rw[Mk hq]at e3;exact e3 d_
theorem aRA:aS [48]=0:=by rw[<-o8,Dl]
theorem aRB:aS [49]=1:=by rw[<-Bg,Dl]
theorem Mb{t:aj}(c:iu t)(h:gH t=0):∀p∈t.aV,sc p:=by
 intro p b;obtain⟨j,a,rfl⟩:=List.mem_iff_getElem.1 b;have:=Bx (Mc h a);rw[aj.I9];exact⟨c.pk _ (bi (aj.kI a)),this.1,this.2⟩
def ek(s:S3)(x:Rat):Int:=bR ⟨s.a-x,s.b,s.d⟩
theorem Je(a o:Int):jJ a 0 o=a:=by
 rw[jJ,a8,if_pos d_]
 split
 ·rename_i h;exact h.symm
 ·rfl
theorem Fk(s:S3)(x:Rat):dY s ⟨x,0,0⟩=ek s x:=by
 rw[dY];dsimp only;rw[qK,a8,Int.neg_zero,Je];rfl
theorem Fp(u v:Rat):c8 u v=bP (u-v):=by
 rw[c8,bP]
 by_cases h:u<v
 ·rw[if_pos h,if_pos (show u-v<0 by grind)]
 ·rw[if_neg h,if_neg (show¬u-v<0 by grind)]
  by_cases a:u=v
  ·rw[if_pos a,if_pos (show u-v=0 by grind)]
  ·rw[if_neg a,if_neg (show¬u-v=0 by grind)]
theorem Ma(y b:Rat):bR ⟨y,b,0⟩=bP y:=by
 rw[bR];dsimp only;rw[qK,a8,Je]
theorem WV(s:S3)(x:Rat):dY ⟨x,0,0⟩ s= -ek s x:=by
 rw[ek,<-Mh,dY];dsimp only;rw[Ma,Ma,bR];dsimp only;rw[BQ s.b,bb,Fp];rw[show -(s.a-x)=x-s.a by grind,show(x-s.a)*(x-s.a)+0*0*0-s.b*s.b*s.d=(x-s.a)*(x-s.a)- -s.b* -s.b*s.d by grind]
def nt(t:aj)(p:dT)(i:Nat)(s:S3):Bool:=(decide (p.cR=i)&&(decide (dY ⟨aS p.a,0,0⟩ s<=0)&&decide (dY s ⟨aS p.b,0,0⟩<=0)))||((decide (dY s ⟨0,0,0⟩=0)&&ql t p i)||(decide (dY s ⟨1,0,0⟩=0)&&ql t p (i+1)))
def qq(p:dT)(s:S3):Bool:=decide (0<=ek s (aS p.a))&&decide (ek s (aS p.b)<=0)
def ma(t:aj)(p:dT)(i:Nat)(s:S3):Bool:=if p.cR=i then qq p s else if ek s 1=0 then(if p.cR=t.nx i then qq p ⟨0,0,s.d⟩else false)else if ek s 0=0 then(if p.cR=t.pv i then qq p ⟨1,0,s.d⟩else false)else false
theorem BR(c x d:Rat):ek ⟨c,0,d⟩ x=bP (c-x):=by
 rw[ek,bR];dsimp only;rw[qK,bf,Je]
theorem BL{s:S3}(c:0<s.d){x:Rat}(h:ek s x=0):Nl s.d (s.a-x) s.b:=
 ⟨(uj c).1 (by rw[<-ek.eq_def,h];decide),(ui c).1 (by rw[<-ek.eq_def,h];decide)⟩
theorem UP{d x:Rat}(h:0<=x):Pd d x 0:=.inl ⟨h,by have:=sq_nonneg x;grind⟩
theorem aQF{s:S3}(b:0<s.d){x y:Rat}(h:ek s x=0)(c:x<=y):ek s y<=0:=by
 refine(ui b).2 ?_;have:=Pd.add b (BL b h).2 (UP (x:=y-x) (by grind))
 rwa [show -(s.a-x)+(y-x)= -(s.a-y)by grind,c6]at this
theorem aQE{s:S3}(b:0<s.d){x y:Rat}(h:ek s x=0)(c:y<=x):0<=ek s y:=by
 refine(uj b).2 ?_;have:=Pd.add b (BL b h).1 (UP (x:=x-y) (by grind))
 rwa [show s.a-x+(x-y)=s.a-y by grind,c6]at this
theorem aQD{s:S3}(c:0<s.d)(e:ek s 0=0)(f:ek s 1=0):False:=by
 have:=(Pd.add c (BL c e).2 (BL c f).1)
 rw[show -(s.a-0)+(s.a-1)= -1 by grind,show -s.b+s.b=0 by grind]at this;rcases this with⟨h,_⟩|⟨_,h⟩
 ·exact absurd h d_
 ·grind
theorem Mj{x:Rat}:0<=bP x↔0<=x:=by
 have:=Fs (x:=x) (y:=0);rw[Fp]at this
 rwa [show x-0=x by grind]at this
theorem Mi{x:Rat}:bP x<=0↔x<=0:=by
 have:=Fq (x:=x) (y:=0);rw[Fp]at this
 rwa [show x-0=x by grind]at this
theorem WE{t:aj}{p:dT}{i n:Nat}{s:S3}{z:List dT}(m:ig n z p=0)(G:3<=t.cs.length)(hi:i<t.cs.length)(l:0<s.d):nt t p i s=ma t p i s:=by
 obtain⟨a0,x,y,e0,e1⟩:=aP5 m;obtain⟨z1,z2⟩:=Bx m;have j:p.a=[48]↔aS p.a=0:=⟨fun h=>by rw[h,aRA],fun h=>by rw[<-(iQ z1).1,h,o8]⟩
 have k:p.b=[49]↔aS p.b=1:=⟨fun h=>by rw[h,aRB],fun h=>by rw[<-(iQ z2).1,h,Bg]⟩
 have c0:ql t p i=((decide (p.cR=i)&&decide (aS p.a=0))||(decide (p.cR=(t.pv i:Nat))&&decide (aS p.b=1))):=by
  rw[ql,b1 hi,aj.pv];simp only[j,k]
 have c1:ql t p (i+1)=((decide (p.cR=(t.nx i:Nat))&&decide (aS p.a=0))||(decide (p.cR=i)&&decide (aS p.b=1))):=by
  rw[ql,show i+1+t.cs.length-1=i+t.cs.length by omega,b4,b1 hi,aj.nx];simp only[j,k]
 have H:t.nx i≠i:=by
  rw[aj.nx];rcases b2 (i+1) t.cs.length with h|h
  ·rw[b1 h];omega
  ·rw[show i+1=t.cs.length by omega,b3];omega
 have I:t.pv i≠i:=by
  rw[aj.pv];rcases b5 i with h|h
  ·subst h;rw[b1 o_];omega
  ·rw[show i+t.cs.length-1=i-1+t.cs.length by omega,b4,b1 o_];omega
 have r:qq p ⟨0,0,s.d⟩=decide (aS p.a=0):=by
  rw[qq,BR,BR];have f:0<=bP (0-aS p.a)↔aS p.a=0:=by rw[Mj];constructor<;>intro h<;>grind
  have g:bP (0-aS p.b)<=0:=Mi.2 (by grind);simp[f,g]
 have u:qq p ⟨1,0,s.d⟩=decide (aS p.b=1):=by
  rw[qq,BR,BR];have f:bP (1-aS p.b)<=0↔aS p.b=1:=by rw[Mi];constructor<;>intro h<;>grind
  have g:0<=bP (1-aS p.a):=Mj.2 (by grind);simp[f,g]
 rw[nt,ma,r,u,c0,c1,Fk,Fk,Fk,WV];have q:(-ek s (aS p.a)<=0)↔0<=ek s (aS p.a):=o_
 have C:ek s 0=0->ek s (aS p.b)<=0:=fun h=>aQF l h (by grind);have D:ek s 0=0->aS p.a=0->0<=ek s (aS p.a):=fun h e=>by rw[e,h];decide
 have g1:ek s 1=0->0<=ek s (aS p.a):=fun h=>aQE l h (by grind);have F:ek s 1=0->aS p.b=1->ek s (aS p.b)<=0:=fun h e=>by rw[e,h];decide
 have E:ek s 0=0->¬ek s 1=0:=fun h c=>aQD l h c;rw[qq];simp only[q];clear j k c0 c1 r u z1 z2 q m e0 e1 a0 x y;generalize ek s 0=v,ek s 1=w,ek s (aS p.a)=L,ek s (aS p.b)=M at*;have A:p.cR=(i:Int)->¬p.cR=(t.nx i:Nat):=fun h c=>by omega
 have B:p.cR=(i:Int)->¬p.cR=(t.pv i:Nat):=fun h c=>by omega
 by_cases o:p.cR=(i:Int)
 ·have g1:=A o;have g2:=B o
  by_cases q0:v=0<;>by_cases q1:w=0<;>by_cases J:aS p.a=0<;>by_cases K:aS p.b=1<;>simp_all
 ·by_cases q0:v=0<;>by_cases q1:w=0<;>simp_all
theorem WG{t:aj}(h:gH t=0){i:Nat}{s:S3}(hi:i<t.cs.length)(a:0<s.d):fa (fun j=>nt t (t.pk j) i s) t.aV.length=fa (fun j=>ma t (t.pk j) i s) t.aV.length:=
 Lp (fun j b=>WE (Mc h b) (rU h).1 hi a)
def lR(t:aj)(i:Nat)(s:NS):List (Int×NS):=(i,s)::if ek s.q 1=0 then[((t.nx i:Nat),.plain (.int 0) s.d)]else if ek s.q 0=0 then[((t.pv i:Nat),.plain (.int 1) s.d)]else[]
noncomputable def tX(l:List (Int×NS)):List (PV×PV):=l.map fun x=>(.int .i64 x.1,cj x.2)
def qy(l:List (Int×NS))(e:Int):Option NS:=(l.find? fun x=>x.1==e).map (·.2)
theorem aGi(T:TypeId)(a b:Int):pA prog T (.int .i64 a) (.int .i64 b)=some (decide (a=b)):=by
 simp[pA,kz];rw[Bool.eq_iff_iff];simp
@[simp] theorem Mn(T:TypeId)(e:Int):∀l:List (Int×NS),gp prog T (tX l) (.int .i64 e)=some ((qy l e).map cj)
 |[]=>rfl
 |(a,s)::r=>by
  have b:=Mn T e r;rw[tX]at b;rw[tX,b0,gp,qy,bl];dsimp only;rw[aGi]
  by_cases h:a=e
  ·subst h;simp
  ·have c:¬e=a:=fun x=>h x.symm;have d:(a==e)=false:=by simp[h]
   rw[qy]at b;simp only[c,decide_false,d];exact b
theorem aGP(t:aj)(p:dT){i:Nat}(s:NS)(a:t.nx i≠i)(b:t.pv i≠i):ma t p i s.q=match qy (lR t i s) p.cR with
  |none=>false
  |some v=>qq p v.q:=by
 rw[ma,lR,qy,bl]
 by_cases e0:p.cR=i
 ·have:((i:Int)==p.cR)=true:=by simp[e0]
  rw[if_pos e0,this];rfl
 ·have:((i:Int)==p.cR)=false:=by simp;omega
  rw[if_neg e0,this];dsimp only
  by_cases c1:ek s.q 1=0
  ·rw[if_pos c1,if_pos c1,bl]
   by_cases e1:p.cR=t.nx i
   ·have:(((t.nx i:Nat):Int)==p.cR)=true:=by simp[e1]
    rw[if_pos e1,this];rfl
   ·have:(((t.nx i:Nat):Int)==p.cR)=false:=by simp;omega
    rw[if_neg e1,this];rfl
  ·rw[if_neg c1,if_neg c1]
   by_cases c0:ek s.q 0=0
   ·rw[if_pos c0,if_pos c0,bl]
    by_cases e1:p.cR=t.pv i
    ·have:(((t.pv i:Nat):Int)==p.cR)=true:=by simp[e1]
     rw[if_pos e1,this];rfl
    ·have:(((t.pv i:Nat):Int)==p.cR)=false:=by simp;omega
     rw[if_neg e1,this];rfl
   ·rw[if_neg c0,if_neg c0];rfl
theorem aPp{t:aj}{i:Nat}{s:NS}(h:dC 1800 s):∀x∈lR t i s,dC 1800 x.2:=by
 have z:∀n:Int,n.natAbs<2^2->dC 1800 (.plain (.int n) s.d):=fun n hn=>⟨(pg hn d_:aJ 2 (NF.int n).q).mono d_,(pg d_ d_:aJ 2 (NF.int 0).q).mono d_,h.2.2⟩
 intro x hx;rw[lR]at hx;rcases List.mem_cons.1 hx with e|hx
 ·subst e;exact h
 ·split at hx
  ·rcases bo.1 hx with rfl;exact z 0 d_
  ·split at hx
   ·rcases bo.1 hx with rfl;exact z 1 d_
   ·exact absurd hx List.not_mem_nil
theorem aPq{t:aj}{i:Nat}{s:NS}(h:dC 1800 s){e:Int}{v:NS}(a:qy (lR t i s) e=some v):dC 1800 v:=by
 rw[qy,Option.map_eq_some_iff]at a;obtain⟨x,b,rfl⟩:=a;exact aPp h x (List.mem_of_find?_eq_some b)
theorem aQB(v:NS)(x:Rat):bR ((v.add (.plain (NF.neg ⟨x,false⟩) v.d)).q)=ek v.q x:=by
 show bR ⟨v.a.q+-x,v.b.q+((0:Int):Rat),v.d.q⟩=bR ⟨v.a.q-x,v.b.q,v.d.q⟩;rw[show((0:Int):Rat)=0 from rfl,c6,cy]
def Ja(t:aj)(i:Nat)(s:NS):List Nat:=if fa (fun j=>ma t (t.pk j) i s.q) t.aV.length<t.aV.length then(t.pk (fa (fun j=>ma t (t.pk j) i s.q) t.aV.length)).name else[]
theorem WY(t:aj)(i:Nat)(s:NS)(G:iu t)(J:gH t=0)(hi:i<t.cs.length)(hs:dC 1800 s):
 aq prog 137 [bW t,.int .i64 i,cj s] (.str (Ja t i s)):=by
 obtain⟨ax,ay,_,_⟩:=rU J;have av:=G.cl;have hn:¬t.cs.length=0:=o_
 have M:¬t.cs=[]:=by intro e;rw[e]at hi;simp at hi
 have w1:a7.wrap ((i:Int)+1)=(i:Int)+1:=aU _ o_ o_;have T:a7.wrap ((i:Int)+(t.cs.length:Int))=(i:Int)+(t.cs.length:Int):=aU _ o_ o_;have U:a7.wrap ((i:Int)+(t.cs.length:Int)-1)=(i:Int)+(t.cs.length:Int)-1:=aU _ o_ o_;have e1:((i:Int)+1).tmod (t.cs.length:Int)=((t.nx i:Nat):Int):=by
  rw[aj.nx,<-B0];rfl
 have e2:((i:Int)+(t.cs.length:Int)-1).tmod (t.cs.length:Int)=((t.pv i:Nat):Int):=by
  rw[aj.pv,<-B0,show((i:Int)+(t.cs.length:Int)-1)=((i+t.cs.length-1:Nat):Int)from by omega]
 have P:t.nx i≠i:=by
  rw[aj.nx];rcases b2 (i+1) t.cs.length with h|h
  ·rw[b1 h];omega
  ·rw[show i+1=t.cs.length by omega,b3];omega
 have R:t.pv i≠i:=by
  rw[aj.pv];rcases b5 i with h|h
  ·subst h;rw[b1 o_];omega
  ·rw[show i+t.cs.length-1=i-1+t.cs.length by omega,b4,b1 o_];omega
 have z:∀n:Int,n.natAbs<2^2->dC 1800 (.plain (.int n) s.d):=fun n hn=>⟨(pg hn d_:aJ 2 (NF.int n).q).mono d_,(pg d_ d_:aJ 2 (NF.int 0).q).mono d_,hs.2.2⟩
 have A:=lL (-1) d_ d_;have B:=so (.int (-1)) s.d;have C:=sr s (.plain (.int (-1)) s.d) (hs.mono d_) ((z (-1) d_).mono d_);have r:=nT (s.add (.plain (.int (-1)) s.d)) ((zb hs (z (-1) d_)).mono d_);have D:=nT s (hs.mono d_);have q1:bR (s.add (.plain (.int (-1)) s.d)).q=ek s.q 1:=by
  show bR ⟨s.a.q+((-1:Int):Rat),s.b.q+((0:Int):Rat),s.d.q⟩=bR ⟨s.a.q-1,s.b.q,s.d.q⟩;rw[show((0:Int):Rat)=0 from rfl,c6,cy];rfl
 have q0:bR s.q=ek s.q 0:=by
  show bR ⟨s.a.q,s.b.q,s.d.q⟩=bR ⟨s.a.q-0,s.b.q,s.d.q⟩;rw[show s.a.q-0=s.a.q by grind]
 rw[q1]at r;rw[q0]at D;have V:=lL 0 d_ d_;have W:=so (.int 0) s.d;have X:=lL 1 d_ d_;have Y:=so (.int 1) s.d;have c:=fun e=>aGP t e s P R;have F:∀(e:Int)(v:NS),qy (lR t i s) e=some v->dC 1800 v:=fun e v h=>aPq hs h;have ah:=Mb G J;have E:=fun m=>@BP (fun j=>ma t (t.pk j) i s.q) t.aV.length m;have l:=fun m=>@BO (fun j=>ma t (t.pk j) i s.q) t.aV.length m;have au:=(uk (fun j=>ma t (t.pk j) i s.q) t.aV.length).1;have aw:=G.pl;rw[Ja];generalize fa (fun j=>ma t (t.pk j) i s.q) t.aV.length=v at*;have L:∀(k:Nat)(v:NS),¬k=i->gI [(.int .i64 i,cj s)] (.int .i64 k) (cj v)=tX [((i:Int),s),((k:Int),v)]:=fun k v h=>by
  have:¬(k:Int)=i:=o_
  have:¬(i:Int)=k:=o_
  simp[gI,kz,tX, *]
 have ag:gp prog 3 [] (.int .i64 i)=some none:=rfl;have N:∀k:Int,gp prog 3 [(.int .i64 i,cj s)] (.int .i64 k)=some ((qy [((i:Int),s)] k).map cj):=fun k=>Mn 3 k [((i:Int),s)];have ak:gI [] (.int .i64 i) (cj s)=[(.int .i64 i,cj s)]:=rfl;refine gA_ nf func137 mix ?_;simp[f137,-aX];rw[aX];simp[-aX];rw[aX];simp[-aX];rw[aX];simp[ag,ak,-aX];refine join (fun st=>aQ st.env 8=.map 2/\aQ st.env 3=.ptr 0 []/\st.heap=[.box false (.p (bW t)),.box false (.p (cj s)),.map false (tX (lR t i s))]) ?_ ?_
 ·by_cases c1:ek s.q 1=0
  ·have o:lR t i s=[((i:Int),s),((t.nx i:Nat),.plain (.int 0) s.d)]:=by rw[lR,if_pos c1]
   simp(maxDischargeDepth:=99) [aa,c1,hn,M,w1,e1,N,L _ _ P,o,e1_ A,e2_ B,e2_ C,e1_ r,e1_ V,e2_ W]
  by_cases c0:ek s.q 0=0
  ·have o:lR t i s=[((i:Int),s),((t.pv i:Nat),.plain (.int 1) s.d)]:=by rw[lR,if_neg c1,if_pos c0]
   simp(maxDischargeDepth:=99) [aa,c1,c0,hn,M,T,U,e2,N,L _ _ R,o,e1_ A,e2_ B,e2_ C,e1_ r,c1_ D,e1_ X,e2_ Y]
  ·have o:lR t i s=[((i:Int),s)]:=by rw[lR,if_neg c1,if_neg c0]
   have ai:tX [((i:Int),s)]=[(.int .i64 i,cj s)]:=rfl;simp(maxDischargeDepth:=99) [aa,c1,c0,o,ai,e1_ A,e2_ B,e2_ C,e1_ r,c1_ D]
 ·rintro⟨ap,ar⟩ ⟨y8,y3,Q⟩;dsimp only at y8 y3 Q;subst Q;simp[y8,y3,aa];refine lp (α:=Nat) (fun m=>⟨[(56,.p (.int .i64 m)),(55,.p (.int .i64 t.aV.length)),(54,.p (.seq (t.aV.map gd))),(8,.map 2)],[.box false (.p (bW t)),.box false (.p (cj s)),.map false (tX (lR t i s))]⟩) (fun m=>m<=t.aV.length/\m<=v) (fun m=>t.aV.length-m) 0 s_ ?_ (he:=by simp[y8]);rintro m ⟨m1,m2⟩
  by_cases f:m<t.aV.length
  case neg=>
   have H:¬v<t.aV.length:=o_
   have:m=t.aV.length:=o_
   subst this;simp[H,aa]
  have w:=aj.kI f;have I:=cE (i:=m) o_;obtain⟨⟨az,al,am⟩,z1,z2⟩:=ah _ (bi w);have c:=c (t.pk m);have E:=E m m2 f;have l:=l m m2 f;have F:=F (t.pk m).cR;generalize K:qy (lR t i s) (t.pk m).cR=O at*;cases O with
  |none=>
   dsimp only at c;simp[f,w,K,I,aa];exact rd (m+1) ⟨f,l c⟩
  |some v'=>
   have y:=F v' rfl;dsimp only at c;rw[qq]at c
   have step:∀x:Rat,aJ 2000 x->aq prog 150 [eF ⟨x,false⟩] (eF (NF.neg ⟨x,false⟩))/\aq prog 160 [eF (NF.neg ⟨x,false⟩),eF v'.d] (cj (.plain (NF.neg ⟨x,false⟩) v'.d))/\
    aq prog 159 [cj v',cj (.plain (NF.neg ⟨x,false⟩) v'.d)] (cj (v'.add (.plain (NF.neg ⟨x,false⟩) v'.d)))/\aq prog 133 [cj (v'.add (.plain (NF.neg ⟨x,false⟩) v'.d))] (.int .i64 (ek v'.q x)):=fun x hx=>by
    have S:dC 2000 (.plain (NF.neg ⟨x,false⟩) v'.d):=⟨(nS (x:=⟨x,false⟩) hx).mono d_,(pg d_ d_:aJ 2 (NF.int 0).q).mono d_,y.2.2.mono d_⟩
    have g:=nT (v'.add (.plain (NF.neg ⟨x,false⟩) v'.d)) ((zb y S).mono d_);rw[aQB]at g;exact⟨ph ⟨x,false⟩ (hx.mono d_),so _ _,sr v' _ (y.mono d_) (S.mono d_),g⟩
   have Z:=lZ (t.pk m).a z1 al.1;have ab:=lZ (t.pk m).b z2 am.1;obtain⟨g1,g2,g3,g4⟩:=step _ ((ie z1).mono d_);obtain⟨ac,ad,ae,af⟩:=step _ ((ie z2).mono d_);generalize ek v'.q (aS (t.pk m).a)=an,ek v'.q (aS (t.pk m).b)=ao at*;clear step y;generalize v'.add (.plain (NF.neg ⟨aS (t.pk m).a,false⟩) v'.d)=u1,NS.plain (NF.neg ⟨aS (t.pk m).a,false⟩) v'.d=aA,NF.neg ⟨aS (t.pk m).a,false⟩=aB,(⟨aS (t.pk m).a,false⟩:NF)=aC,v'.add (.plain (NF.neg ⟨aS (t.pk m).b,false⟩) v'.d)=w1,NS.plain (NF.neg ⟨aS (t.pk m).b,false⟩) v'.d=T,NF.neg ⟨aS (t.pk m).b,false⟩=U,(⟨aS (t.pk m).b,false⟩:NF)=aD at*;simp[f,w,K,aa];refine e1_ Z ?_;simp[aa];refine e1_ g1 ?_;simp[aa];refine e2_ g2 ?_;simp[aa];refine e2_ g3 ?_;simp[aa];refine e1_ g4 ?_
   by_cases ca:0<=an
   case neg=>
    simp[ca,I,aa];exact rd (m+1) ⟨f,l (by simp[c,ca])⟩
   simp[ca,aa];refine e1_ ab ?_;simp[aa];refine e1_ ac ?_;simp[aa];refine e2_ ad ?_;simp[aa];refine e2_ ae ?_;simp[aa];refine e1_ af ?_
   by_cases u:ao<=0
   ·have H:=E (by simp[c,ca,u]);subst H;simp[u,f,w,aa]
   ·simp[u,I,aa];exact rd (m+1) ⟨f,l (by simp[c,u])⟩
def ki(F ww:Rat)(c:S3):S3:=⟨(c.mul c).a-F*(ww-F),(c.mul c).b,(c.mul c).d⟩
def gw(F:Rat)(a en:S3):S3:=a.add (S3.times (-F) en)
def B6(F ww:Rat)(a en:S3):S3:=((gw F a en).mul (gw F a en)).add (S3.times (-1) (ki F ww a))
def uo(F ww:Rat)(a en:S3):Bool:=if bR a<=0 then false else if bR (ki F ww a)<=0 then false else if bR (gw F a en)<0 then true else decide (bR (B6 F ww a en)<0)
theorem aRl:aR (-1)=[45,49]:=by
 rw[Il d_,show -(-1:Rat)=1 by decide,Bg]
theorem zm:aJ 2 (-1:Rat):=⟨d_,d_⟩
structure qu(F ww:Rat)(wn en:S3):Prop where
 F:aJ 42 F
 ww:aJ 245 ww
 wa:aJ 915 wn.a
 wb:aJ 425 wn.b
 wd:aJ 776 wn.d
 en:yF en
theorem qu.sq{F ww:Rat}{c en:S3}(h:qu F ww c en):aJ 3457 (c.mul c).a/\aJ 2681 (c.mul c).b:=
 ⟨(ku (bh h.wa h.wa) (bh (bh h.wb h.wb) h.wd)).mono d_,(ku (bh h.wa h.wb) (bh h.wa h.wb)).mono d_⟩
theorem qu.deep{F ww:Rat}{c en:S3}(h:qu F ww c en):aJ 3788 (ki F ww c).a/\aJ 2681 (ki F ww c).b/\aJ 776 (ki F ww c).d:=
 ⟨(fK h.sq.1 (bh h.F (fK h.ww h.F))).mono d_,h.sq.2,h.wd⟩
theorem qu.left{F ww:Rat}{c en:S3}(h:qu F ww c en):aJ 2258 (gw F c en).a/\aJ 1768 (gw F c en).b/\aJ 776 (gw F c en).d:=
 ⟨(ku h.wa (bh (jQ h.F) h.en.1)).mono d_,(ku h.wb (bh (jQ h.F) h.en.2.1)).mono d_,h.wd⟩
theorem qu.lsq{F ww:Rat}{d en:S3}(h:qu F ww d en):aJ 8829 ((gw F d en).mul (gw F d en)).a/\aJ 8053 ((gw F d en).mul (gw F d en)).b:=by
 obtain⟨a,b,c⟩:=h.left;exact⟨(ku (bh a a) (bh (bh b b) c)).mono d_,(ku (bh a b) (bh a b)).mono d_⟩
theorem WI(t:aj)(w:V2)(P:P4)(en:S3)(r0:0<=t.aD)(r1:t.aD<=1000000)(i:bc 61 w)(g:wv 776 P)(h:qu (bK t.aD) (w.dot w) (P4.dot w P) en):
 aq prog 98 [cw t,eV w,gY P,eS en] (.bool (uo (bK t.aD) (w.dot w) (P4.dot w P) en)):=by
 obtain⟨s1,s2⟩:=h.sq;obtain⟨d1,d2,d3⟩:=h.deep;obtain⟨e,f,c⟩:=h.left;obtain⟨q1,l⟩:=h.lsq;have k0:=Ih t.aD r0 r1;have k1:=Jv w P (i.mono d_) ⟨g.1.mono d_,g.2.mono d_⟩;have k2:=D5 (P4.dot w P) ⟨h.wa.mono d_,h.wb.mono d_,h.wd.mono d_⟩;have k3:=Iq (P4.dot w P) (P4.dot w P) ⟨h.wa.mono d_,h.wb.mono d_,h.wd.mono d_⟩ ⟨h.wa.mono d_,h.wb.mono d_,h.wd.mono d_⟩;have k4:=uV w (i.mono d_);have k5:=lY (w.dot w) (bK t.aD) (h.ww.mono d_) (h.F.mono d_);have j:=fK h.ww h.F;have k6:=ft (bK t.aD) (w.dot w-bK t.aD) (h.F.mono d_) (j.mono d_);have k7:=lY ((P4.dot w P).mul (P4.dot w P)).a (bK t.aD*(w.dot w-bK t.aD)) (s1.mono d_) ((bh h.F j).mono d_);have k8:=D5 (ki (bK t.aD) (w.dot w) (P4.dot w P)) ⟨d1.mono d_,d2.mono d_,d3.mono d_⟩;have k9:=yn (bK t.aD) (h.F.mono d_);have k:gV 1300 en:=⟨h.en.1,h.en.2.1,h.en.2.2⟩
 have nK:=vS (-bK t.aD) en ((jQ h.F).mono d_) (k.mono d_);have tM:=D6 (P4.dot w P) (S3.times (-bK t.aD) en) ⟨h.wa.mono d_,h.wb.mono d_,h.wd.mono d_⟩ ((AY (jQ h.F) k).mono d_);rw[show(P4.dot w P).add (S3.times (-bK t.aD) en)=gw (bK t.aD) (P4.dot w P) en from rfl]at tM;have Em:=D5 (gw (bK t.aD) (P4.dot w P) en) ⟨e.mono d_,f.mono d_,c.mono d_⟩;have IU:=Iq (gw (bK t.aD) (P4.dot w P) en) (gw (bK t.aD) (P4.dot w P) en) ⟨e.mono d_,f.mono d_,c.mono d_⟩ ⟨e.mono d_,f.mono d_,c.mono d_⟩;have A7:=vS (-1) (ki (bK t.aD) (w.dot w) (P4.dot w P)) (zm.mono d_) ⟨d1.mono d_,d2.mono d_,d3.mono d_⟩;rw[aRl]at A7;have IV:=D6 ((gw (bK t.aD) (P4.dot w P) en).mul (gw (bK t.aD) (P4.dot w P) en)) (S3.times (-1) (ki (bK t.aD) (w.dot w) (P4.dot w P))) ⟨q1.mono d_,l.mono d_,c.mono d_⟩ ⟨(bh zm d1).mono d_,(bh zm d2).mono d_,d3.mono d_⟩;have z1:=ku q1 (bh zm d1);have z2:=ku l (bh zm d2);have IW:=BN (((gw (bK t.aD) (P4.dot w P) en).mul (gw (bK t.aD) (P4.dot w P) en)).add (S3.times (-1) (ki (bK t.aD) (w.dot w) (P4.dot w P)))) (z1.mono d_) (z2.mono d_) (c.mono d_) ((bh (bh z2 z2) c).mono d_);have m:eS (ki (bK t.aD) (w.dot w) (P4.dot w P))=.st 58 [.str (aR (((P4.dot w P).mul (P4.dot w P)).a-bK t.aD*(w.dot w-bK t.aD))),.str (aR ((P4.dot w P).mul (P4.dot w P)).b),.str (aR ((P4.dot w P).mul (P4.dot w P)).d)]:=rfl;have n:eS ((P4.dot w P).mul (P4.dot w P))=.st 58 [.str (aR ((P4.dot w P).mul (P4.dot w P)).a),.str (aR ((P4.dot w P).mul (P4.dot w P)).b),.str (aR ((P4.dot w P).mul (P4.dot w P)).d)]:=rfl;rw[uo,B6];clear s1 s2 d1 d2 d3 e f c q1 l j k z1 z2 h g i;generalize bR (((gw (bK t.aD) (P4.dot w P) en).mul (gw (bK t.aD) (P4.dot w P) en)).add (S3.times (-1) (ki (bK t.aD) (w.dot w) (P4.dot w P))))=g4 at*;generalize ((gw (bK t.aD) (P4.dot w P) en).mul (gw (bK t.aD) (P4.dot w P) en)).add (S3.times (-1) (ki (bK t.aD) (w.dot w) (P4.dot w P)))=v1 at*;generalize S3.times (-1) (ki (bK t.aD) (w.dot w) (P4.dot w P))=v2,(gw (bK t.aD) (P4.dot w P) en).mul (gw (bK t.aD) (P4.dot w P) en)=v3,bR (gw (bK t.aD) (P4.dot w P) en)=g3 at*;generalize gw (bK t.aD) (P4.dot w P) en=v4,S3.times (-bK t.aD) en=v5 at*;rw[m]at k8 A7;rw[n]at k3;generalize bR (ki (bK t.aD) (w.dot w) (P4.dot w P))=g2,aR (((P4.dot w P).mul (P4.dot w P)).a-bK t.aD*(w.dot w-bK t.aD))=o,aR ((P4.dot w P).mul (P4.dot w P)).a=p,aR ((P4.dot w P).mul (P4.dot w P)).b=q,aR ((P4.dot w P).mul (P4.dot w P)).d=r,aR (bK t.aD*(w.dot w-bK t.aD))=s,aR (w.dot w-bK t.aD)=u,bR (P4.dot w P)=g1 at*;generalize P4.dot w P=v6,aR (-bK t.aD)=v,aR (bK t.aD)=x at*;clear m n;refine gA_ nf func98 mix ?_
 by_cases c1:g1<=0
 ·rw[if_pos c1];simp(maxDischargeDepth:=99) [f98,c1,aa,c1_ k0,c2_ k1,c1_ k2]
 rw[if_neg c1]
 by_cases c2:g2<=0
 ·rw[if_pos c2];simp+decide (maxDischargeDepth:=99) [f98,c1,c2,aa,c1_ k0,c2_ k1,c1_ k2,c2_ k3,e1_ k4,e2_ k5,e2_ k6,e2_ k7,c1_ k8]
 rw[if_neg c2]
 by_cases c3:g3<0
 ·rw[if_pos c3];simp+decide (maxDischargeDepth:=99) [f98,c1,c2,c3,aa,c1_ k0,c2_ k1,c1_ k2,c2_ k3,e1_ k4,e2_ k5,e2_ k6,e2_ k7,c1_ k8,e1_ k9,e2_ nK,e2_ tM,c1_ Em]
 rw[if_neg c3];simp+decide (maxDischargeDepth:=99) [f98,c1,c2,c3,aa,c1_ k0,c2_ k1,c1_ k2,c2_ k3,e1_ k4,e2_ k5,e2_ k6,e2_ k7,c1_ k8,e1_ k9,e2_ nK,e2_ tM,c1_ Em,c2_ IU,e2_ A7,e2_ IV,e1_ IW]
def mv(F ww:NF)(far:NS):NS:=(far.mul far).add (.plain (F.mul (ww.sub F)).neg far.d)
def jU(F:NF)(far en:NS):NS:=far.add (en.times F.neg)
theorem aFZ(F ww:NF)(far:NS):(mv F ww far).q=ki F.q ww.q far.q:=by
 have h:(ww.sub F).q=ww.q-F.q:=NF.eH _ _;show S3.mk (far.a.q*far.a.q+far.b.q*far.b.q*far.d.q+-(F.q*(ww.sub F).q)) (far.a.q*far.b.q+far.a.q*far.b.q+((0:Int):Rat)) far.d.q=S3.mk (far.a.q*far.a.q+far.b.q*far.b.q*far.d.q-F.q*(ww.q-F.q)) (far.a.q*far.b.q+far.a.q*far.b.q) far.d.q;rw[h,show((0:Int):Rat)=0 from rfl,c6];congr 1
 grind
theorem aGK(F:NF)(far en:NS):(jU F far en).q=gw F.q far.q en.q:=by
 show S3.mk (far.a.q+en.a.q* -F.q) (far.b.q+en.b.q* -F.q) far.d.q=S3.mk (far.a.q+-F.q*en.a.q) (far.b.q+-F.q*en.b.q) far.d.q;rw[dx en.a.q,dx en.b.q]
theorem aO1(g r:NS):((g.mul g).add r.neg).q=(g.q.mul g.q).add (S3.times (-1) r.q):=by
 show S3.mk (_+-r.a.q) (_+-r.b.q) _=S3.mk (_+-1*r.a.q) (_+-1*r.b.q) _;rw[show -1*r.a.q= -r.a.q by grind,show -1*r.b.q= -r.b.q by grind];rfl
theorem aQR{b:aj}(d:yE b){k i:Nat}(hk:k<b.an.length)(hi:i<b.an.length):(b.sp k).name=(b.sp i).name↔k=i:=by
 constructor
 ·intro e;have a:∀{k i:Nat},k<i->i<b.an.length->(b.sp k).name=(b.sp i).name->False:=fun{k i} g hi e=>by
   have:=d.ne i hi;rw[gW,List.find?_eq_none]at this;have c:=this (b.sp k) (bi (i:=k) (by rw[List.getElem?_take,if_pos g];exact aj.eK o_));simp[e]at c
  rcases Nat.lt_trichotomy k i with g|g|g
  ·exact(a g hi e).elim
  ·exact g
  ·exact(a g hk e.symm).elim
 ·intro e;rw[e]
def rT(F:Rat)(b:aj)(i j:Nat)(A B:V2)(u:Rat)(en:S3)(m:Nat):Bool:=decide (m≠i)&&(decide (m≠j)&&uo F ((bk b j m).dot (bk b j m)) ⟨A.dot (bk b j m),B.dot (bk b j m),u⟩ en)
theorem I2{k:Nat}{s:NS}{q:S3}(h:s.q=q)(c:aJ k q.a)(e:aJ k q.b)(f:aJ k q.d):dC k s:=by
 subst h;exact⟨c,e,f⟩
theorem atS(F:NF)(n:NB)(en:NS)(w:NV)(hn:okB 776 n)(ow:bc 61 w.q){ww:Rat}{b:S3}(k:w.q.dot w.q=ww)(hq:(n.dot w).q=b)(h:qu F.q ww b en.q):
 aq prog 158 [jG n,cV w] (cj (n.dot w))/\aq prog 157 [cj (n.dot w),cj (n.dot w)] (cj ((n.dot w).mul (n.dot w)))/\
  aq prog 119 [cV w] (eF (w.dot w))/\aq prog 194 [eF (w.dot w),eF F] (eF ((w.dot w).sub F))/\aq prog 195 [eF F,eF ((w.dot w).sub F)] (eF (F.mul ((w.dot w).sub F)))/\
  aq prog 150 [eF (F.mul ((w.dot w).sub F))] (eF (F.mul ((w.dot w).sub F)).neg)/\aq prog 160 [eF (F.mul ((w.dot w).sub F)).neg,eF (n.dot w).d] (cj (.plain (F.mul ((w.dot w).sub F)).neg (n.dot w).d))/\
  aq prog 159 [cj ((n.dot w).mul (n.dot w)),cj (.plain (F.mul ((w.dot w).sub F)).neg (n.dot w).d)] (cj (mv F (w.dot w) (n.dot w)))/\
  aq prog 133 [cj (n.dot w)] (.int .i64 (bR b))/\aq prog 133 [cj (mv F (w.dot w) (n.dot w))] (.int .i64 (bR (ki F.q ww b)))/\
  aq prog 159 [cj (n.dot w),cj (en.times F.neg)] (cj (jU F (n.dot w) en))/\aq prog 133 [cj (jU F (n.dot w) en)] (.int .i64 (bR (gw F.q b en.q)))/\
  aq prog 157 [cj (jU F (n.dot w) en),cj (jU F (n.dot w) en)] (cj ((jU F (n.dot w) en).mul (jU F (n.dot w) en)))/\aq prog 153 [cj (mv F (w.dot w) (n.dot w))] (cj (mv F (w.dot w) (n.dot w)).neg)/\
  aq prog 159 [cj ((jU F (n.dot w) en).mul (jU F (n.dot w) en)),cj (mv F (w.dot w) (n.dot w)).neg] (cj (((jU F (n.dot w) en).mul (jU F (n.dot w) en)).add (mv F (w.dot w) (n.dot w)).neg))/\
  aq prog 133 [cj (((jU F (n.dot w) en).mul (jU F (n.dot w) en)).add (mv F (w.dot w) (n.dot w)).neg)] (.int .i64 (bR (B6 F.q ww b en.q))):=by
 obtain⟨d1,d2,d3⟩:=h.deep;obtain⟨s,t,u⟩:=h.left;have r:=L4 n w (hn.mono d_) (ow.mono d_);have of:dC 915 (n.dot w):=I2 hq h.wa (h.wb.mono d_) (h.wd.mono d_);have p:aJ 245 (w.dot w).q:=by rw[NV.jq,k];exact h.ww
 have o:aJ 288 ((w.dot w).sub F).q:=Bw p h.F;have m:aJ 330 (F.mul ((w.dot w).sub F)).q:=dO h.F o;have x:dC 1000 (.plain (F.mul ((w.dot w).sub F)).neg (n.dot w).d):=⟨(nS m).mono d_,(pg d_ d_:aJ 2 (NF.int 0).q).mono d_,of.2.2.mono d_⟩
 have f:=aFZ F (w.dot w) (n.dot w);rw[NV.jq,k,hq]at f;have e:=aGK F (n.dot w) en;rw[hq]at e;have j:=aO1 (jU F (n.dot w) en) (mv F (w.dot w) (n.dot w));rw[e,f]at j;have g:dC 3788 (mv F (w.dot w) (n.dot w)):=I2 f d1 (d2.mono d_) (d3.mono d_);have c:dC 2258 (jU F (n.dot w) en):=I2 e s (t.mono d_) (u.mono d_);have l:=Ft c c;have v:dC 1342 (en.times F.neg):=wJ (a:=1300) ⟨h.en.1,h.en.2.1,h.en.2.2⟩ (nS h.F);have g1:=nT (n.dot w) (of.mono d_);have g2:=nT (mv F (w.dot w) (n.dot w)) (g.mono d_);have g3:=nT (jU F (n.dot w) en) (c.mono d_);have i:=nT (((jU F (n.dot w) en).mul (jU F (n.dot w) en)).add (mv F (w.dot w) (n.dot w)).neg) ((zb l (Bv g)).mono d_);rw[hq]at g1;rw[f]at g2;rw[e]at g3;rw[j]at i;exact⟨r,BX _ _ (of.mono d_) (of.mono d_),xJ w (ow.mono d_),nG _ _ (p.mono d_) (h.F.mono d_),fU _ _ (h.F.mono d_) (o.mono d_),ph _ (m.mono d_),so _ _,sr _ _ ((Ft of of).mono d_) (x.mono d_),g1,g2,
  sr _ _ (of.mono d_) (v.mono d_),g3,BX _ _ (c.mono d_) (c.mono d_),E8 _ (g.mono d_),sr _ _ (l.mono d_) ((Bv g).mono d_),i⟩
theorem W7(t b:aj)(aP:List Nat)(i j:Nat)(n:NB)(x:XD)(z:mU t b aP i)(W:j<b.an.length)(T:bc 396 n.a.q)(U:bc 151 n.b.q)(V:aJ 776 n.d.q)(r0:0<=t.aD)(r1:t.aD<=1000000)(hx:lN x)(af:x.s.norm.q=0->x.s.a.q≠0)(I:yF (x.s.under x.g).q):
 aq prog 139 [nr t b,.str (b.sp j).name,.str aP,jG n,gS x] (.bool (decide (fa (rT (bK t.aD) b i j n.a.q n.b.q n.d.q (x.s.under x.g).q) b.an.length<b.an.length))):=by
 have H:=z.L;have am:=H.sl;have c:=wO H W;obtain⟨_,Y⟩:=z.at W;have S:=mG r0 r1;have ae:dC 1300 (x.s.under x.g):=⟨I.1,I.2.1,I.2.2⟩
 have k1:=FC x hx af;have k2:=ph (.width t.aD) (by rw[Fg];exact S.mono d_);have k3:=BA (x.s.under x.g) (NF.width t.aD).neg (ae.mono d_) ((nS (x:=.width t.aD) S).mono d_);have o:∀m,rT (bK t.aD) b i j n.a.q n.b.q n.d.q (x.s.under x.g).q m=(decide (m≠i)&&(decide (m≠j)&&uo (bK t.aD) ((bk b j m).dot (bk b j m)) ⟨n.a.q.dot (bk b j m),n.b.q.dot (bk b j m),n.d.q⟩ (x.s.under x.g).q)):=fun _=>rfl;simp only[uo]at o;have u:=fun m=>@BO (rT (bK t.aD) b i j n.a.q n.b.q n.d.q (x.s.under x.g).q) b.an.length m;have Q:=fun m=>@BP (rT (bK t.aD) b i j n.a.q n.b.q n.d.q (x.s.under x.g).q) b.an.length m;have al:=(uk (rT (bK t.aD) b i j n.a.q n.b.q n.d.q (x.s.under x.g).q) b.an.length).1;generalize rT (bK t.aD) b i j n.a.q n.b.q n.d.q (x.s.under x.g).q=f,l:b.an.length=N at*;generalize an:fa f N=v,ac:(x.s.under x.g).times (NF.width t.aD).neg=ah at*;refine gA_ nf func139 mix ?_;simp[f139,c,l,aa];refine e1_ k1 ?_;simp[aa];refine e1_ k2 ?_;simp[aa];refine e2_ k3 ?_;simp[l,aa];refine⟨r_,?_⟩;refine lp (α:=Nat) (fun m=>⟨[(33,.p (.int .i64 m)),(32,.p (.int .i64 N)),(31,.p (.seq (b.an.map bE))),(12,.ptr 4 []),(11,.ptr 3 []),(8,.ptr 1 []),(5,.ptr 0 []),(2,.p (.str aP)),(1,.p (.str (b.sp j).name))],
  [.box false (.p (nr t b)),.box false (.p (jG n)),.box false (.p (gS x)),.box false (.p (cV (.from (b.sp j).pt))),.box false (.p (cj ah))]⟩) (fun m=>m<=N/\m<=v) (fun m=>N-m) 0 s_ ?_
 rintro m ⟨m1,m2⟩
 by_cases k:m<N
 case neg=>
  have ag:¬v<N:=o_
  have:m=N:=o_
  subst this;simp[ag,aa]
 have B:m<b.an.length:=o_
 have r:=aj.eK B;have K:=cE (i:=m) o_;have ad:=aQR H B (l▸W:j<b.an.length);have X:=z.name B;have h:=wO H B;have o:=o m;have u:=u m m2 k;have Q:=Q m m2 k;have C:bc 61 (bk b j m):=gD (z.at B).2 Y;have D:=vR (.from (b.sp m).pt) (.from (b.sp j).pt) (by rw[iD];exact(z.at B).2.mono d_) (by rw[iD];exact Y.mono d_);have R:((NV.from (b.sp m).pt).sub (.from (b.sp j).pt)).q=bk b j m:=by rw[NV.eH];rfl
 obtain⟨a2,a3,a4,a5,E,F,G,a9,g1,g2,O,g3,Z,a12,ab,g4⟩:=atS (.width t.aD) n (x.s.under x.g) ((NV.from (b.sp m).pt).sub (.from (b.sp j).pt)) ⟨T.mono d_,U.mono d_,V⟩ (by rw[R];exact C) (by rw[R]) (show _=(⟨n.a.q.dot (bk b j m),n.b.q.dot (bk b j m),n.d.q⟩:S3)by rw[<-R];rfl)
  ⟨S,dh C C,dh T C,dh U C,V,I⟩
 rw[ac]at O;rw[Fg]at g2 g3 g4;clear R C ac I ae S T U V Y z H;generalize (NV.from (b.sp m).pt).sub (.from (b.sp j).pt)=w,(⟨n.a.q.dot (bk b j m),n.b.q.dot (bk b j m),n.d.q⟩:S3)=wn at*;generalize jU (.width t.aD) (n.dot w) (x.s.under x.g)=P,mv (.width t.aD) (w.dot w) (n.dot w)=root,bR (B6 (bK t.aD) ((bk b j m).dot (bk b j m)) wn (x.s.under x.g).q)=ak,bR (gw (bK t.aD) wn (x.s.under x.g).q)=ai,bR (ki (bK t.aD) ((bk b j m).dot (bk b j m)) wn)=s2,bR wn=s1 at*;generalize (P.mul P).add root.neg=v1 at*;generalize P.mul P=v2,root.neg=v3,NS.plain ((NF.width t.aD).mul ((w.dot w).sub (.width t.aD))).neg (n.dot w).d=v4 at*;generalize ((NF.width t.aD).mul ((w.dot w).sub (.width t.aD))).neg=v5 at*;generalize (NF.width t.aD).mul ((w.dot w).sub (.width t.aD))=v6 at*;generalize (w.dot w).sub (.width t.aD)=ao at*;generalize w.dot w=ap,(n.dot w).mul (n.dot w)=v9 at*;generalize n.dot w=far at*
 by_cases J:m=j
 ·have hf:=u (by rw[o];simp[J]);simp[k,l,r,ad.2 J,K,aa];exact rd (m+1) ⟨k,hf⟩
 have y:¬(b.sp m).name=(b.sp j).name:=fun e=>J (ad.1 e)
 by_cases A:m=i
 ·have hf:=u (by rw[o];simp[A]);have hc:¬aP=(b.sp j).name:=fun e=>y ((X.2 A).trans e);simp[k,l,r,y,hc,X.2 A,K,aa];exact rd (m+1) ⟨k,hf⟩
 have M:¬(b.sp m).name=aP:=fun e=>A (X.1 e)
 by_cases c1:s1<=0
 ·have hf:=u (by rw[o];simp[c1]);simp[k,l,r,y,M,h,c,c1,aa];refine c2_ D ?_;simp[h,c,c1,aa];refine c2_ a2 ?_;simp[h,c,c1,aa];refine e2_ a3 ?_;simp[h,c,c1,aa];refine e1_ a4 ?_;simp[h,c,c1,aa];refine e2_ a5 ?_;simp[h,c,c1,aa];refine e2_ E ?_;simp[h,c,c1,aa];refine e1_ F ?_;simp[h,c,c1,aa];refine e2_ G ?_;simp[h,c,c1,aa];refine e2_ a9 ?_;simp[h,c,c1,aa];refine⟨r_,?_⟩;refine c1_ g1 ?_;simp[h,c,c1,K,aa];exact rd (m+1) ⟨k,hf⟩
 by_cases c2:s2<=0
 ·have hf:=u (by rw[o];simp[c1,c2]);simp[k,l,r,y,M,h,c,c1,c2,aa];refine c2_ D ?_;simp[h,c,c1,c2,aa];refine c2_ a2 ?_;simp[h,c,c1,c2,aa];refine e2_ a3 ?_;simp[h,c,c1,c2,aa];refine e1_ a4 ?_;simp[h,c,c1,c2,aa];refine e2_ a5 ?_;simp[h,c,c1,c2,aa];refine e2_ E ?_;simp[h,c,c1,c2,aa];refine e1_ F ?_;simp[h,c,c1,c2,aa];refine e2_ G ?_;simp[h,c,c1,c2,aa];refine e2_ a9 ?_;simp[h,c,c1,c2,aa];refine⟨r_,?_⟩;refine c1_ g1 ?_;simp[h,c,c1,c2,aa];refine c1_ g2 ?_;simp[h,c,c1,c2,K,aa];exact rd (m+1) ⟨k,hf⟩
 by_cases c3:ai<0
 ·have hf:=Q (by rw[o];simp[c1,c2,c3,A,J]);simp+decide (maxDischargeDepth:=99) [k,l,r,y,M,h,c,c1,c2,c3,aa,hf,c2_ D,c2_ a2,e2_ a3,e1_ a4,e2_ a5,e2_ E,e1_ F,e2_ G,e2_ a9,c1_ g1,c1_ g2,c2_ O,e1_ g3]
 by_cases c4:ak<0
 ·have hf:=Q (by rw[o];simp[c1,c2,c3,c4,A,J]);simp+decide (maxDischargeDepth:=99) [k,l,r,y,M,h,c,c1,c2,c3,c4,aa,hf,c2_ D,c2_ a2,e2_ a3,e1_ a4,e2_ a5,e2_ E,e1_ F,e2_ G,e2_ a9,c1_ g1,c1_ g2,c2_ O,e1_ g3,e2_ Z,e1_ a12,e2_ ab,e1_ g4]
 have hf:=u (by rw[o];simp[c1,c2,c3,c4]);simp[k,l,r,y,M,h,c,c1,c2,c3,c4,aa];refine c2_ D ?_;simp[h,c,c1,c2,c3,c4,aa];refine c2_ a2 ?_;simp[h,c,c1,c2,c3,c4,aa];refine e2_ a3 ?_;simp[h,c,c1,c2,c3,c4,aa];refine e1_ a4 ?_;simp[h,c,c1,c2,c3,c4,aa];refine e2_ a5 ?_;simp[h,c,c1,c2,c3,c4,aa];refine e2_ E ?_;simp[h,c,c1,c2,c3,c4,aa];refine e1_ F ?_;simp[h,c,c1,c2,c3,c4,aa];refine e2_ G ?_;simp[h,c,c1,c2,c3,c4,aa];refine e2_ a9 ?_;simp[h,c,c1,c2,c3,c4,aa];refine⟨r_,?_⟩;refine c1_ g1 ?_;simp[h,c,c1,c2,c3,c4,aa];refine c1_ g2 ?_;simp[h,c,c1,c2,c3,c4,aa];refine c2_ O ?_;simp[h,c,c1,c2,c3,c4,aa];refine e1_ g3 ?_;simp[h,c,c1,c2,c3,c4,aa];refine e2_ Z ?_;simp[h,c,c1,c2,c3,c4,aa];refine e1_ a12 ?_;simp[h,c,c1,c2,c3,c4,aa];refine e2_ ab ?_;simp[h,c,c1,c2,c3,c4,aa];refine e1_ g4 ?_;simp[h,c,c1,c2,c3,c4,K,aa];exact rd (m+1) ⟨k,hf⟩
theorem FD(s:S3)(x:Rat)(hs:gV 1800 s)(hx:aJ 30 x):aq prog 82 [eS s,eS ⟨x,0,0⟩] (.int .i64 (dY s ⟨x,0,0⟩)):=
 Fj s ⟨x,0,0⟩ hs ⟨hx.mono d_,kT d_,kT d_⟩ ((fK hs.1 hx).mono d_)
theorem aED(s:S3)(x:Rat)(hs:gV 1800 s)(hx:aJ 30 x):aq prog 82 [eS ⟨x,0,0⟩,eS s] (.int .i64 (dY ⟨x,0,0⟩ s)):=
 Fj ⟨x,0,0⟩ s ⟨hx.mono d_,kT d_,kT d_⟩ hs ((fK hx hs.1).mono d_)
theorem W8(t:aj)(i:Nat)(s:S3)(C:iu t)(M:gH t=0)(hi:i<t.cs.length)(hs:gV 1800 s)(N:∀p∈t.aV,aJ 30 (aS p.a)/\aJ 30 (aS p.b)):
 aq prog 99 [cw t,.int .i64 i,eS s] (.int .i64 (rQ (fa (fun j=>nt t (t.pk j) i s) t.aV.length) t.aV.length)):=by
 have G:=C.cl;have Y:=C.pl;have O:=Mb C M;have w1:a7.wrap ((i:Int)+1)=(i:Int)+1:=aU _ o_ o_;have r:=zf 0;have x:=zf 1;have y0:=FD s 0 hs (kT d_);have y1:=FD s 1 hs ((show aJ 2 (1:Rat)from⟨d_,d_⟩).mono d_);rw[o8]at r;rw[Bg]at x;have o:=fun m=>@BP (fun j=>nt t (t.pk j) i s) t.aV.length m;have q:=fun m=>@BO (fun j=>nt t (t.pk j) i s) t.aV.length m;have X:=(uk (fun j=>nt t (t.pk j) i s) t.aV.length).1;generalize fa (fun j=>nt t (t.pk j) i s) t.aV.length=v at*;refine gA_ nf func99 mix ?_;simp[f99,aa];refine lp (α:=Nat) (fun m=>⟨[(7,.p (.int .i64 m)),(5,.ptr 1 []),(3,.ptr 0 []),(1,.p (.int .i64 i))],[.box false (.p (cw t)),.box false (.p (eS s))]⟩) (fun m=>m<=t.aV.length/\m<=v) (fun m=>t.aV.length-m) 0 s_ ?_;rintro m ⟨m1,m2⟩
 by_cases u:m<t.aV.length
 case neg=>
  have P:rQ v t.aV.length= -1:=by rw[rQ,if_neg o_]
  have:m=t.aV.length:=o_
  subst this;simp[P,aa]
 have B:=aj.kI u;have y:=cE (i:=m) o_;obtain⟨_,z1,z2⟩:=O _ (bi B);obtain⟨R,S⟩:=N _ (bi B);have A:=zf (aS (t.pk m).a);have E:=zf (aS (t.pk m).b);rw[(iQ z1).1]at A;rw[(iQ z2).1]at E;have F:=aED s _ hs R;have L:=FD s _ hs S;have q0:=LO t (t.pk m) i G o_ o_;have q1:=LO t (t.pk m) (i+1) G o_ o_;rw[show((i+1:Nat):Int)=(i:Int)+1 from rfl]at q1;have o:nt t (t.pk m) i s=true->rQ v t.aV.length=(m:Int):=fun h=>by rw[o m m2 u h,rQ,if_pos u]
 have q:=fun h=>(⟨u,q m m2 u h⟩:m+1<=t.aV.length/\m+1<=v)
 rw[nt]at o q;generalize rQ v t.aV.length=T,ql t (t.pk m) i=k0,ql t (t.pk m) (i+1)=k1,dY ⟨aS (t.pk m).a,0,0⟩ s=J,dY s ⟨aS (t.pk m).b,0,0⟩=K,dY s ⟨0,0,0⟩=Q,dY s ⟨1,0,0⟩=I at*;have V:eS s=.st 58 [.str (aR s.a),.str (aR s.b),.str (aR s.d)]:=rfl;rw[aX,aX];simp[u,aa,-aX];rw[aX];simp[-aX];rw[aX];simp[u,B,aa,-aX];refine join (fun st=>(decide ((t.pk m).cR=i)&&(decide (J<=0)&&decide (K<=0)))=false/\aQ st.env 1=.p (.int .i64 i)/\aQ st.env 3=.ptr 0 []/\aQ st.env 5=.ptr 1 []/\aQ st.env 7=.p (.int .i64 m)/\aQ st.env 8=.ptr 2 []/\st.heap=[.box false (.p (cw t)),.box false (.p (eS s)),.box false (.p (fV (t.pk m)))]) ?_ ?_
 ·by_cases r1:(t.pk m).cR=i
  case neg=>
   simp[r1,aa]
  by_cases z:J<=0
  case neg=>
   simp(maxDischargeDepth:=99) [r1,aa,z,e1_ A,e2_ F]
  by_cases D:K<=0
  case neg=>
   simp(maxDischargeDepth:=99) [r1,aa,z,D,e1_ A,e2_ F,e1_ E,e2_ L]
  have w:=o (by simp[r1,z,D]);simp(maxDischargeDepth:=99) [r1,aa,z,D,w,e1_ A,e2_ F,e1_ E,e2_ L]
 rintro⟨U,W⟩ ⟨hx,c,e,f,g,k,H⟩;dsimp only at c e f g k H;subst H;rw[hx,Bool.false_or]at o q;clear hx
 by_cases s0:Q=0
 case neg=>
  by_cases s1:I=0
  case neg=>
   simp[s0,s1,c,e,f,g,k,w1,aa];refine e1_ r ?_;simp[s0,s1,c,e,f,g,k,w1,aa];refine e2_ y0 ?_;simp[s0,s1,c,e,f,g,k,w1,aa];refine e1_ x ?_;simp[s0,s1,c,e,f,g,k,w1,aa];refine e2_ y1 ?_;simp[s0,s1,c,e,f,g,k,w1,y,aa];exact rd (m+1) (q (by simp[s0,s1])) (he:=by simp[c,e,f])
  rcases l:k1 with _|_
  ·rw[l]at q1;simp[s0,s1,l,c,e,f,g,k,w1,aa];refine e1_ r ?_;simp[s0,s1,l,c,e,f,g,k,w1,aa];refine e2_ y0 ?_;simp[s0,s1,l,c,e,f,g,k,w1,aa];refine e1_ x ?_;simp[s0,s1,l,c,e,f,g,k,w1,aa];refine e2_ y1 ?_;simp[s0,s1,l,c,e,f,g,k,w1,aa];refine e3_ q1 ?_;simp[s0,s1,l,c,e,f,g,k,w1,y,aa];exact rd (m+1) (q (by simp[s0,s1,l])) (he:=by simp[c,e,f])
  ·rw[l]at q1;have w:=o (by simp[s0,s1,l]);simp(maxDischargeDepth:=99) [s0,s1,l,c,e,f,g,k,w1,aa,w,e1_ r,e2_ y0,e1_ x,e2_ y1,e3_ q1]
 rcases n:k0 with _|_
 ·rw[n]at q0
  by_cases s1:I=0
  case neg=>
   simp[s0,n,s1,c,e,f,g,k,w1,aa];refine e1_ r ?_;simp[s0,n,s1,c,e,f,g,k,w1,aa];refine e2_ y0 ?_;simp[s0,n,s1,c,e,f,g,k,w1,aa];refine e3_ q0 ?_;simp[s0,n,s1,c,e,f,g,k,w1,aa];refine e1_ x ?_;simp[s0,n,s1,c,e,f,g,k,w1,aa];refine e2_ y1 ?_;simp[s0,n,s1,c,e,f,g,k,w1,y,aa];exact rd (m+1) (q (by simp[s0,n,s1])) (he:=by simp[c,e,f])
  rcases l:k1 with _|_
  ·rw[l]at q1;simp[s0,n,s1,l,c,e,f,g,k,w1,aa];refine e1_ r ?_;simp[s0,n,s1,l,c,e,f,g,k,w1,aa];refine e2_ y0 ?_;simp[s0,n,s1,l,c,e,f,g,k,w1,aa];refine e3_ q0 ?_;simp[s0,n,s1,l,c,e,f,g,k,w1,aa];refine e1_ x ?_;simp[s0,n,s1,l,c,e,f,g,k,w1,aa];refine e2_ y1 ?_;simp[s0,n,s1,l,c,e,f,g,k,w1,aa];refine e3_ q1 ?_;simp[s0,n,s1,l,c,e,f,g,k,w1,y,aa];exact rd (m+1) (q (by simp[s0,n,s1,l])) (he:=by simp[c,e,f])
  ·rw[l]at q1;have w:=o (by simp[s0,n,s1,l]);simp(maxDischargeDepth:=99) [s0,n,s1,l,c,e,f,g,k,w1,aa,w,e1_ r,e2_ y0,e3_ q0,e1_ x,e2_ y1,e3_ q1]
 ·rw[n]at q0;have w:=o (by simp[s0,n]);simp(maxDischargeDepth:=99) [s0,n,c,e,f,g,k,w1,aa,w,e1_ r,e2_ y0,e3_ q0]
def A2(t b:aj)(i:Nat)(d:bM)(j k:Nat):S3:=eC t (vP (b.sp j).pt) (b8 (bk b i j) (vP d)) (b9 (vP d)) (bO t.aD (bk b i j) (vP d)) k
def tV(t b:aj)(i:Nat)(d:bM)(j k:Nat):S3:=mY t (vP (b.sp j).pt) (b8 (bk b i j) (vP d)) (b9 (vP d)) (bO t.aD (bk b i j) (vP d)) k
def yM(t b:aj)(i:Nat)(d:bM)(j k:Nat):Nat->Bool:=rT (bK t.aD) b i j (b8 (bk b i j) (vP d)) (b9 (vP d)) (bO t.aD (bk b i j) (vP d)) (A2 t b i d j k)
def wR(t b:aj)(i:Nat)(d:bM)(j k:Nat):Bool:=decide (fa (yM t b i d j k) b.an.length<b.an.length)
def yG(t b:aj)(i:Nat)(d:bM)(j k:Nat):Nat:=fa (fun m=>ma t (t.pk m) k (tV t b i d j k)) t.aV.length
def Jb(t:aj)(m:Nat):List Nat:=if m<t.aV.length then(t.pk m).name else[]
def yH(t b:aj)(i:Nat)(d:bM)(j k:Nat):List PV:=if wR t b i d j k=true then[.str [],.str [],.int .i64 30]else[.str (b.sp j).name,.str (Jb t (yG t b i d j k)),.int .i64 0]
theorem aEF(t b:aj)(aP:List Nat)(d:bM)(i j k:Nat)(x:XD)(e:Rat)(u:XD)(l:List XD)(v:iu t)(h:rK t b aP d i x e)(c:some j=fG t b i (vP d) e b.an.length)
 (hk:k<t.cs.length)(hs:0<bR (eh t (b8 (bk b i j) (vP d)) (b9 (vP d)) (bO t.aD (bk b i j) (vP d)) k))(o:t.fM (.from (b.sp j).pt) (cK t b i d j) t.cs.length=u::l)(q:iV u l=t.bV (.from (b.sp j).pt) (cK t b i d j) k):
 aq prog 66 [nr t b,.str aP,cV (.from d)] (.aC (yH t b i d j k)):=by
 have a:=zg h c;have f:=wO h.C.L a.jl;have k1:=Mt t b aP i d x e h.C h.dk h.nz h.E;rw[<-c,kD,lM]at k1;have k2:=Fz a;have k3:=L3 a o q;have k4:=W7 t b aP i j (cK t b i d j) (t.bV (.from (b.sp j).pt) (cK t b i d j) k) h.C a.jl (by rw[nU];exact wV a.S.ow a.S.od) (by rw[pS];exact wU a.S.od) (by rw[pR];exact um a.S.r0 a.S.r1 a.S.ow a.S.od) a.S.r0 a.S.r1 (a.lN hk) (a.norm hs) (by rw[a.far hk];exact wQ a.S hk);rw[a.far hk,nU,pS,pR]at k4;have k5:=LR a hk hs;have k6:=WY t k (tU t b i d j k) v h.C.jz hk (L9 a hk hs);rw[Ja,Jf a hk]at k6;have p:gS (t.bV (.from (b.sp j).pt) (cK t b i d j) k)=.st 161 [vX k (dA (t.at k)) (t.cG k),eF (t.bV (.from (b.sp j).pt) (cK t b i d j) k).g,cj (t.bV (.from (b.sp j).pt) (cK t b i d j) k).s]:=rfl;rw[p]at k3 k4 k5;have r:aK (jH (di t b i d j))=.agg 148:=za _;rw[yH,wR,Jb,yG];show aq _ _ _ (.aC (if decide (fa (rT (bK t.aD) b i j (b8 (bk b i j) (vP d)) (b9 (vP d)) (bO t.aD (bk b i j) (vP d)) (eC t (vP (b.sp j).pt) (b8 (bk b i j) (vP d)) (b9 (vP d)) (bO t.aD (bk b i j) (vP d)) k)) b.an.length<b.an.length)=true then _ else _));rw[tV];clear p hs q o a h c;generalize decide (fa (rT (bK t.aD) b i j (b8 (bk b i j) (vP d)) (b9 (vP d)) (bO t.aD (bk b i j) (vP d)) (eC t (vP (b.sp j).pt) (b8 (bk b i j) (vP d)) (b9 (vP d)) (bO t.aD (bk b i j) (vP d)) k)) b.an.length<b.an.length)=st,(if fa (fun m=>ma t (t.pk m) k (mY t (vP (b.sp j).pt) (b8 (bk b i j) (vP d)) (b9 (vP d)) (bO t.aD (bk b i j) (vP d)) k)) t.aV.length<t.aV.length then(t.pk (fa (fun m=>ma t (t.pk m) k (mY t (vP (b.sp j).pt) (b8 (bk b i j) (vP d)) (b9 (vP d)) (bO t.aD (bk b i j) (vP d)) k)) t.aV.length)).name else[])=w,tU t b i d j k=s,(t.bV (.from (b.sp j).pt) (cK t b i d j) k).g=y,(t.bV (.from (b.sp j).pt) (cK t b i d j) k).s=xs,cK t b i d j=n,jH (di t b i d j)=M at*;refine gA_ nf func66 mix ?_;cases st
 ·simp(maxDischargeDepth:=99) [f66,aa,r,f,c3_ k1,c1_ k2,c3_ k3,c5_ k4,e3_ k5,e3_ k6]
 ·simp(maxDischargeDepth:=99) [f66,aa,r,f,c3_ k1,c1_ k2,c3_ k3,c5_ k4]
theorem aEh(t b:aj)(aP:List Nat)(d:bM)(i j k:Nat)(x:XD)(e:Rat)(a:XD)(l:List XD)(o:iu t)(q:jZ b)(g:jx d)(c:lQ t b aP d=0)(h:rK t b aP d i x e)(n:some j=fG t b i (vP d) e b.an.length)
 (hk:k<t.cs.length)(hs:0<bR (eh t (b8 (bk b i j) (vP d)) (b9 (vP d)) (bO t.aD (bk b i j) (vP d)) k))(p:t.fM (.from (b.sp j).pt) (cK t b i d j) t.cs.length=a::l)(r:iV a l=t.bV (.from (b.sp j).pt) (cK t b i d j) k):
 aq prog 22 [bW t,.seq (b.an.map bE),.str aP,cW d] (.aC (yH t b i d j k)):=by
 obtain⟨_,_,f⟩:=zd c;have k1:=B4 t b aP d i x e o q g c h _ n;have k2:=Ig d (BM f).1 (BM f).2 g;have k3:=aEF t b aP d i j k x e a l o h n hk hs p r;rw[show tO (some j)=0 from rfl,kD,lM]at k1;have m:aK (jH (di t b i d j))=.agg 148:=za _;generalize jH (di t b i d j)=M at*;rw[yH]at k3⊢;refine gA_ nf func22 mix ?_;cases aO:wR t b i d j k<;>rw[aO]at k3
 ·simp(maxDischargeDepth:=99) [f22,aa,m,c4_ k1,e1_ k2,e3_ k3]
 ·simp(maxDischargeDepth:=99) [f22,aa,m,c4_ k1,e1_ k2,e3_ k3]
def UQ(t b:aj)(i:Nat)(d:bM)(j k:Nat):Nat:=fa (fun m=>nt t (t.pk m) k (tV t b i d j k)) t.aV.length
theorem aP4{t b:aj}{i j k:Nat}{d:bM}(h:gH t=0)(a:jP t b i d j)(hk:k<t.cs.length):UQ t b i d j k=yG t b i d j k:=by
 have c:(tV t b i d j k).d=bO t.aD (bk b i j) (vP d):=by
  show(eC t (vP (b.sp j).pt) (b8 (bk b i j) (vP d)) (b9 (vP d)) (bO t.aD (bk b i j) (vP d)) k).d=_;rw[eC,fR]
  split<;>rfl
 exact WG h hk (by rw[c];exact a.u)
def Eu(t b:aj)(i:Nat)(d:bM)(j k:Nat):List PV:=if wR t b i d j k=true then[.int .i64 j,.int .i64 (-1),.int .i64 30]else[.int .i64 j,.int .i64 (rQ (yG t b i d j k) t.aV.length),.int .i64 0]
theorem aDY(t b:aj)(aP:List Nat)(i j k:Nat)(d:bM)(x:XD)(e:Rat)(ag:iu t)(h:rK t b aP d i x e)(O:some j=fG t b i (vP d) e b.an.length)(ad:∀p∈t.aV,aJ 30 (aS p.a)/\aJ 30 (aS p.b))
 (hk:k<t.cs.length)(hs:0<bR (eh t (b8 (bk b i j) (vP d)) (b9 (vP d)) (bO t.aD (bk b i j) (vP d)) k))(G:jT t (vP (b.sp j).pt) (b8 (bk b i j) (vP d)) (b9 (vP d)) (bO t.aD (bk b i j) (vP d)) t.cs.length=some k):
 aq prog 30 [cw t,.seq (b.an.map bE),.int .i64 i,eV (vP d)] (.aC (Eu t b i d j k)):=by
 have c:=zg h O;have am:=h.C.L.sl;have hi:=h.C.ci.2.1;have l:=c.jl;have r:=aj.eK hi;have n:=aj.eK l;obtain⟨ac,Z⟩:=h.C.at hi;obtain⟨z,F⟩:=h.C.at l;obtain⟨ah,hx⟩:=h.ef;have U:=mG c.S.r0 c.S.r1;have k1:=FA t b aP i (vP d) ah e h.C h.dk h.nz hx h.E.sz;rw[<-O,iF,pI]at k1;have k2:=po (vP (b.sp j).pt) (vP (b.sp i).pt) (F.mono d_) (Z.mono d_);rw[show(vP (b.sp j).pt).sub (vP (b.sp i).pt)=bk b i j from rfl,ac,z]at k2;have k3:=LL t.aD (bk b i j) (vP d) c.rp c.S.r1 c.S.ow c.S.od c.S.hz;have k4:=L5 t t.aD (bk b i j) (vP d) (vP (b.sp j).pt) c.S c.cl c.u;rw[G,iF,pH,z]at k4;have k5:=LK t t.aD (bk b i j) (vP d) (vP (b.sp j).pt) c.S c.cl c.u k hk (wT c.three c.cv hk) G;rw[z]at k5;have W:=Fm c.S hk c.u (wT c.three c.cv hk) hs;have k6:=W8 t k (tV t b i d j k) ag h.C.jz hk W ad;rw[show fa (fun m=>nt t (t.pk m) k (tV t b i d j k)) t.aV.length=UQ t b i d j k from rfl,aP4 h.C.jz c hk]at k6;have Y:=wQ c.S hk;have V:=Fy c.S.r0 c.S.r1 c.S.ow c.S.od;have R:=wV c.S.ow c.S.od;have T:=wU c.S.od;have X:=um c.S.r0 c.S.r1 c.S.ow c.S.od;have q:=fun m(g:m<b.an.length)=>po (vP (b.sp m).pt) (vP (b.sp j).pt) ((h.C.at g).2.mono d_) (F.mono d_);have ab:=fun m(g:m<b.an.length)=>(h.C.at g).1;have kS:=fun m(g:m<b.an.length)=>by
  have y:bc 61 (bk b j m):=gD (h.C.at g).2 F;have:=WI t (bk b j m) (ja t.aD (bk b i j) (vP d)) (A2 t b i d j k) c.S.r0 c.S.r1 y V (by
   rw[Fx];exact⟨U,dh y y,dh R y,dh T y,X,Y⟩)
  rw[Fx]at this;exact this
 have K:∀m,(vP (b.sp m).pt).sub (vP (b.sp j).pt)=bk b j m:=fun _=>rfl;simp only[K]at q;have o:∀m,yM t b i d j k m=(decide (m≠i)&&(decide (m≠j)&&uo (bK t.aD) ((bk b j m).dot (bk b j m)) ⟨(b8 (bk b i j) (vP d)).dot (bk b j m),(b9 (vP d)).dot (bk b j m),bO t.aD (bk b i j) (vP d)⟩ (A2 t b i d j k))):=fun _=>rfl;have H:=fun m=>@BP (yM t b i d j k) b.an.length m;have s:=fun m=>@BO (yM t b i d j k) b.an.length m;have al:=(uk (yM t b i d j k) b.an.length).1;have af:=fun m(g:m<b.an.length)=>aj.eK g;rw[Eu,wR];rw[show eC t (vP (b.sp j).pt) (b8 (bk b i j) (vP d)) (b9 (vP d)) (bO t.aD (bk b i j) (vP d)) k=A2 t b i d j k from rfl]at k4;rw[show mY t (vP (b.sp j).pt) (b8 (bk b i j) (vP d)) (b9 (vP d)) (bO t.aD (bk b i j) (vP d)) k=tV t b i d j k from rfl]at k5;clear c U hx G hs W Y V R T X Z F K;generalize yM t b i d j k=f at*;generalize an:fa f b.an.length=v,rQ (yG t b i d j k) t.aV.length=pk,tV t b i d j k=S,ak:A2 t b i d j k=en,fS t b i (vP d) j=s0,ja t.aD (bk b i j) (vP d)=P,qL t.aD (bk b i j) (vP d)=Q at*;refine gA_ nf func30 mix ?_;simp[f30,hi,l,r,n,aa];refine c4_ k1 ?_;simp[hi,l,r,n,aa];refine e2_ k2 ?_;simp[hi,l,r,n,aa];refine e3_ k3 ?_;simp[hi,l,r,n,aa];refine⟨r_,?_⟩;refine e3_ k4 ?_;simp[hi,l,r,n,aa];refine⟨r_,?_⟩;refine lp (α:=Nat) (fun m=>⟨[(17,.p (.int .i64 m)),(16,.ptr 5 []),(13,.ptr 3 []),(11,.p (.int .i64 j)),(4,.ptr 0 []),(2,.p (.int .i64 i)),(1,.p (.seq (b.an.map bE)))],
  [.box false (.p (cw t)),.box false (.p (eV (vP d))),.box false (.p (eS s0)),.box false (.p (gY P)),.box false (.p (gY Q)),.box false (.p (eS en))]⟩) (fun m=>m<=b.an.length/\m<=v) (fun m=>b.an.length-m) 0 s_ ?_
 rintro m ⟨m1,m2⟩
 by_cases g:m<b.an.length
 case neg=>
  have I:¬v<b.an.length:=o_
  have:m=b.an.length:=o_
  subst this;simp+decide [l,n,I,aa,e3_ k5,c3_ k6]
 have A:=af m g;have J:=cE (i:=m) o_;have q:=q m g;rw[ab m g,z]at q;have kS:=kS m g;have o:=o m;have s:=fun ae=>(⟨g,s m m2 g ae⟩:m+1<=b.an.length/\m+1<=v)
 have H:=H m m2 g;generalize uo (bK t.aD) ((bk b j m).dot (bk b j m)) ⟨(b8 (bk b i j) (vP d)).dot (bk b j m),(b9 (vP d)).dot (bk b j m),bO t.aD (bk b i j) (vP d)⟩ en=ai at*
 by_cases M:m=i
 ·subst M;simp[g,A,J,aa];exact rd (m+1) (s (by rw[o];simp))
 have w:¬(m:Int)=i:=o_
 by_cases N:m=j
 ·subst N;simp[g,A,w,J,aa];exact rd (m+1) (s (by rw[o];simp))
 have D:¬(m:Int)=j:=o_
 rcases B:ai with _|_
 ·rw[B]at kS;simp[g,A,l,n,w,D,aa];refine e2_ q ?_;simp[w,D,aa];refine e4_ kS ?_;simp[w,D,J,aa];exact rd (m+1) (s (by rw[o];simp[B]))
 ·rw[B]at kS;have I:=H (by rw[o];simp[B,M,N]);subst I;simp[g,A,l,n,w,D,aa,e2_ q,e4_ kS]
theorem WN{t b:aj}{aP cg:List Nat}{n:Nat}(hs:uf t b aP cg n=true)(h:iN t b=0):∀p∈t.aV,aJ 30 (aS p.a)/\aJ 30 (aS p.b):=by
 rw[uf,h]at hs;simp only[a1,a6,decide_eq_true_eq]at hs;obtain⟨_,_,_,_,hs⟩:=hs;have hf:tK t b n 9=true:=by
  rcases hs with hs|hs
  ·exact absurd rfl hs
  ·exact hs
 rw[tK]at hf;simp only[a1,bw]at hf;obtain⟨_,_,_,_,_,hf,_⟩:=hf;intro p h;have:=hf p h;exact⟨yo this.1,yo this.2⟩
theorem WK(z:aq prog 8 [] (.bool true))(t b:aj)(aP cg:List Nat)(d:bM)(f:iu t)(h:jZ b)(p:jx d):
 aq prog 4 [uh t b aP cg,cW d] (.bool true):=by
 have s0:=W4 t b aP cg 6 f h d_;rw[show((6:Nat):Int)=6 from rfl]at s0;have v:=aEM d p;have q0:=Wc t f.cl f.pl f.sl;have q1:=Wj b h.sl;rcases B:uf t b aP cg 6 with _|_
 ·rw[B]at s0;refine gA_ nf func4 mix ?_;simp[f4,aa,c2_ s0,c0 z]
 rw[B]at s0;rcases O:Ad d with _|_
 ·rw[O]at v;refine gA_ nf func4 mix ?_;simp(maxDischargeDepth:=99) [f4,aa,c2_ s0,c1_ v,c0 z]
 rw[O]at v
 have au:(∃y:Int,¬y=0/\aq prog 20 [bW t,.seq (b.an.map bE),.str aP,cW d] (.aC [tE,tE,.int .i64 y])/\aq prog 21 [bW t,.seq (b.an.map bE),.str aP,cW d] (.aC [.int .i64 0,lg,.int .i64 y])/\
  aq prog 22 [bW t,.seq (b.an.map bE),.str aP,cW d] (.aC [.str [],.str [],.int .i64 y])/\aq prog 23 [cw t,.seq (b.an.map bE),.str aP,cW d] (.int .i64 y))\/
  (∃(i j k:Nat)(s0 S:S3)(P Q:P4)(W:V2),j<b.an.length/\jY b aP=i/\aq prog 20 [bW t,.seq (b.an.map bE),.str aP,cW d] (.aC [gY P,gY Q,.int .i64 0])/\aq prog 21 [bW t,.seq (b.an.map bE),.str aP,cW d] (.aC [.int .i64 k,eS S,.int .i64 0])/\
   aq prog 22 [bW t,.seq (b.an.map bE),.str aP,cW d] (.aC (yH t b i d j k))/\aq prog 23 [cw t,.seq (b.an.map bE),.str aP,cW d] (.int .i64 0)/\
   aq prog 24 [cw t,.seq (b.an.map bE),.int .i64 i,cW d] (.aC [.int .i64 j,eS s0])/\aq prog 28 [uh t b aP cg] (cW (b.sp i).pt)/\
   aq prog 27 [cW (b.sp j).pt,cW (b.sp i).pt] (eV W)/\aq prog 26 [.int .i64 t.aD,eV W,cW d] (.aC [gY P,gY Q])/\
   aq prog 29 [cw t,cW (b.sp j).pt,gY P] (.aC [.int .i64 k,eS S])/\aq prog 30 [cw t,.seq (b.an.map bE),.int .i64 i,cW d] (.aC (Eu t b i d j k))):=by
  by_cases c:lQ t b aP d=0
  case neg=>
   have r:=W1 t b aP d f h p c;exact .inl ⟨_,c,LN t b aP d _ _ _ _ rfl rfl r c,LM t b aP d _ _ _ _ rfl rfl r c,LJ t b aP d _ _ _ _ rfl rfl r c,WL t b aP d f h p c⟩
  obtain⟨V,ay,X⟩:=zd c;obtain⟨i,x,e,a⟩:=aCu f h c (W6 B V) (Xq O (Ag X).1);have r:=B4 t b aP d i x e f h p c a _ rfl;have D:=WM t b aP d i x e f h p c a _ rfl;cases q:fG t b i (vP d) e b.an.length with
  |none=>
   rw[q]at r D;exact .inl ⟨7,d_,LN t b aP d _ _ _ _ rfl rfl r d_,LM t b aP d _ _ _ _ rfl rfl r d_,LJ t b aP d _ _ _ _ rfl rfl r d_,D⟩
  |some j=>
   have s:=(wP _ _ _ _ _ _ _ q).1;have g:=zg a q.symm;obtain⟨k,m0,l,e1,e2,e3,e4,e5⟩:=g.end;obtain⟨ar,hx⟩:=a.ef;have hi:=a.C.ci.2.1;obtain⟨T,av⟩:=a.C.at hi;obtain⟨U,aw⟩:=a.C.at s;have R:=FA t b aP i (vP d) ar e a.C a.dk a.nz hx a.E.sz;have Z:=W5 t b aP cg i a.C;have ab:=po (vP (b.sp j).pt) (vP (b.sp i).pt) (aw.mono d_) (av.mono d_);have Y:=LL t.aD (bk b i j) (vP d) g.rp g.S.r1 g.S.ow g.S.od g.S.hz;have kE:=LK t t.aD (bk b i j) (vP d) (vP (b.sp j).pt) g.S g.cl g.u k e1 (wT g.three g.cv e1) e5;have ac:=aDY t b aP i j k d x e f a q.symm (WN B V) e1 e2 e5;have ax:=UR (Ag X).1;rw[q]at D R;rw[T]at Z;rw[T,U]at ab;rw[U]at kE;rw[<-ax]at R Y ac;exact .inr ⟨i,j,k,_,_,_,_,_,s,a.C.ci.1,W3 t b aP d i j x e f h p c a q.symm,W2 t b aP d i j k x e m0 l f h p c a q.symm e1 e2 e3 e4,aEh t b aP d i j k x e m0 l f h p c a q.symm e1 e2 e3 e4,D,R,Z,ab,Y,kE,ac⟩
 rcases au with⟨y,ap,o,a2,a3,a4⟩|⟨i,j,k,s2,S,P,Q,W,s,hi,o,a2,a3,a4,a5,G,H,w,a9,n⟩
 ·rw[lg]at a2;rw[tE,lg]at o;refine gA_ nf func4 mix ?_;simp+decide (maxDischargeDepth:=99) [f4,aa,ap,jo,c2_ s0,c1_ v,e1_ q0,e1_ q1,c4_ o,c4_ a2,c4_ a3,c4_ a4,c0 z]
 have N:=aj.eK s;have F:=BI b aP h.sl;have w0:a7.wrap 0=0:=rfl;rw[hi]at F;obtain⟨ak,al,am⟩:=S;obtain⟨⟨ad,ae,af⟩,⟨ag,ah,ai⟩⟩:=P;obtain⟨⟨z1,z2,z3⟩,⟨z4,z5,z6⟩⟩:=Q;simp only[aGa]at o w a9;rw[ky ak al am]at a2 a9;simp only[ky ad ae af,ky ag ah ai]at o w a9;simp only[ky z1 z2 z3,ky z4 z5 z6]at o w;generalize aR ak=u1,aR al=an,aR am=ao,aR ad=v1,aR ae=v2,aR af=v3,aR ag=v4,aR ah=v5,aR ai=v6,aR z1=y1,aR z2=y2,aR z3=y3,aR z4=y4,aR z5=y5,aR z6=y6 at*;have I:jo u1 an ao u1 an ao=true:=by simp[jo]
 have J:jo v1 v2 v3 v1 v2 v3=true:=by simp[jo]
 have K:jo v4 v5 v6 v4 v5 v6=true:=by simp[jo]
 have L:jo y1 y2 y3 y1 y2 y3=true:=by simp[jo]
 have M:jo y4 y5 y6 y4 y5 y6=true:=by simp[jo]
 rw[yH]at a3;rw[Eu]at n;cases aO:wR t b i d j k<;>rw[aO]at a3 n
 ·rw[if_neg d_]at a3 n;rw[Jb]at a3;rw[rQ]at n;generalize yG t b i d j k=m at*
  by_cases A:m<t.aV.length
  ·have gk:=aj.kI A;rw[if_pos A]at a3 n;refine gA_ nf func4 mix ?_;simp+decide (maxDischargeDepth:=99) [f4,aa,s,N,w0,I,J,K,L,M,A,gk,c2_ s0,c1_ v,e1_ q0,e1_ q1,c4_ o,c4_ a2,c4_ a3,c4_ a4,e2_ F,e4_ a5,e1_ G,e2_ H,e3_ w,e3_ a9,e4_ n,c0 z]
  ·rw[if_neg A]at a3 n;refine gA_ nf func4 mix ?_;simp+decide (maxDischargeDepth:=99) [f4,aa,s,N,w0,I,J,K,L,M,c2_ s0,c1_ v,e1_ q0,e1_ q1,c4_ o,c4_ a2,c4_ a3,c4_ a4,e2_ F,e4_ a5,e1_ G,e2_ H,e3_ w,e3_ a9,e4_ n,c0 z]
 ·rw[if_pos rfl]at a3 n;refine gA_ nf func4 mix ?_;simp+decide (maxDischargeDepth:=99) [f4,aa,s,N,w0,I,J,K,L,M,c2_ s0,c1_ v,e1_ q0,e1_ q1,c4_ o,c4_ a2,c4_ a3,c4_ a4,e2_ F,e4_ a5,e1_ G,e2_ H,e3_ w,e3_ a9,e4_ n,c0 z]
end Go.ag
