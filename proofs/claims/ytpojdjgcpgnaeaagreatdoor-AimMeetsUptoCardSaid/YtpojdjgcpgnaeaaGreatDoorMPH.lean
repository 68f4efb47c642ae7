import Derived.Test.YtpojdjgcpgnaeaaGreatDoorMPG
import Derived.Test.YtpojdjgcpgnaeaaGreatDoorMPF
/- Parts of a proof. -/
set_option maxRecDepth 100000
set_option maxHeartbeats 4000000
set_option linter.unusedSimpArgs false
set_option linter.unusedVariables false
set_option linter.unusedSectionVars false
open Go.Proofs.Tryz
open And renaming intro->a0
open Bool renaming and_eq_true->a6
open Int renaming not_lt->a7, le_of_lt->a8, mul_one->bb, zero_mul->be, mul_zero->bi, neg_mul->bl
open List renaming mem_of_getElem?->bo, foldl_append->bv, all_eq_true->bw
open Rat renaming mul_inv_cancel->b0, div_def->b1, le_of_lt->b2, mul_eq_zero->b3, intCast_sub->b4, div_mul_cancel->b5, neg_neg->ca, sub_eq_add_neg->cb, add_zero->cc, neg_sub->ck, mul_zero->cx, intCast_mul->cy, intCast_inj->c6, mul_assoc->c9, sub_self->da, mul_comm->db, le_total->dg, add_comm->dl, one_mul->dp
namespace Go.az
open Go.az renaming c0->c0_, c1->c1_, c2->c2_, c3->c3_, c4->c4_, e0->e0_, e1->e1_, e2->e2_
theorem fj{a b:Rat}(h:0<=a)(k:0<=b):0<=a*b:=Rat.mul_nonneg h k
theorem jZ{a b:Rat}(h:0<a)(k:0<b):0<a*b:=Rat.mul_pos h k
theorem Su{x y:Rat}(h:0<=y)(k:y<x):y*y<x*x:=by
 have:=jZ (a:=x-y) (b:=x+y) (by grind) (by grind)
 grind
theorem zB{x y:Rat}(b:0<=y)(h:x*x<=y*y):x<=y/\-y<=x:=by
 constructor
 ·by_cases a:x<=y
  ·exact a
  ·have:=Su b (by grind:y<x);grind
 ·by_cases a:-y<=x
  ·exact a
  ·have:=Su b (by grind:y< -x);grind
theorem qB{p q r s:Rat}(c:0<=p)(d:p<=q)(e:0<=r)(f:r<=s):p*r<=q*s:=by
 have a:=fj (a:=q-p) (b:=s) (by grind) (by grind);have b:=fj (a:=p) (b:=s-r) c (by grind)
 grind
theorem zy{x y k:Rat}(hk:0<k)(h:x*k<=y*k):x<=y:=by
 by_cases c:x<=y
 ·exact c
 ·have:=jZ (a:=x-y) (b:=k) (by grind) hk;grind
def Pd(d a b:Rat):Prop:=(0<=a/\b*b*d<=a*a)\/(0<=b/\a*a<=b*b*d)
theorem P5{d a b a' b':Rat}(c:0<d)(e:0<=a)(f:b*b*d<=a*a)(g:0<=a')(h:b'*b'*d<=a'*a'):b*b'*d<=a*a'/\-(a*a')<=b*b'*d:=by
 have n1:=fj (sq_nonneg b) (b2 c);have n2:=fj (sq_nonneg b') (b2 c);have:=qB n1 f n2 h;exact zB (fj e g) (by grind)
theorem J8{d a b a' b':Rat}(h:0<d)(c:0<=b)(e:a*a<=b*b*d)(f:0<=b')(g:a'*a'<=b'*b'*d):a*a'<=b*b'*d/\-(b*b'*d)<=a*a':=by
 have:=qB (sq_nonneg a) e (sq_nonneg a') g;exact zB (fj (fj c f) (b2 h)) (by grind)
theorem J9{d a b a' b':Rat}(c:0<d)(e:0<=a)(f:b*b*d<=a*a)(g:0<=b')(h:a'*a'<=b'*b'*d):a'*b<=a*b'/\-(a*b')<=a'*b:=by
 have n1:=fj (sq_nonneg b) (b2 c);have:=qB (sq_nonneg a') h n1 f;exact zB (fj e g) (zy c (by grind))
theorem Pd.Ka{d a b a' b':Rat}(h:0<d)(e:0<=a)(l:b*b*d<=a*a)(f:0<=b')(m:a'*a'<=b'*b'*d):Pd d (a+a') (b+b'):=by
 obtain⟨c1,c2⟩:=J9 h e l f m
 by_cases g:0<=a+a'
 ·by_cases n:0<=b+b'
  ·by_cases o:(b+b')*(b+b')*d<=(a+a')*(a+a')
   ·exact .inl ⟨g,o⟩
   ·exact .inr ⟨n,by grind⟩
  ·refine .inl ⟨g,?_⟩;have g1:a*(-b-b')<=(a+a')* -b:=by grind
   have g2:0<=a*(-b-b'):=fj e (by grind);have g3:=qB g2 g1 g2 g1;have i:=fj (a:=a*a-b*b*d) (b:=(-b-b')*(-b-b')) (by grind) (sq_nonneg _);exact zy (k:=b*b) (by have:=jZ (a:=-b) (b:=-b) (by grind) (by grind);grind) (by grind)
 ·have g1:b'*(-a'-a)<=(b+b')* -a':=by grind
  have g2:0<=b'*(-a'-a):=fj f (by grind);have g3:=qB g2 g1 g2 g1;have c:0< -a':=by grind
  have j:0<=b+b':=zy c (by grind);refine .inr ⟨j,?_⟩;have i:=fj (a:=b'*b'*d-a'*a') (b:=(-a'-a)*(-a'-a)) (by grind) (sq_nonneg _);have p:=fj (a:=((b+b')* -a')*((b+b')* -a')-(b'*(-a'-a))*(b'*(-a'-a))) (b:=d) (by grind) (b2 h);exact zy (k:=a'*a') (by have:=jZ c c;grind) (by grind)
theorem Pd.add{d a b a' b':Rat}(i:0<d)(h:Pd d a b)(j:Pd d a' b'):Pd d (a+a') (b+b'):=by
 rcases h with⟨c,e⟩|⟨c,e⟩<;>rcases j with⟨f,g⟩|⟨f,g⟩
 ·have:=P5 i c e f g;exact .inl ⟨by grind,by grind⟩
 ·exact Pd.Ka i c e f g
 ·have:=Pd.Ka i f g c e;rw[dl a,dl b];exact this
 ·have:=J8 i c e f g;exact .inr ⟨by grind,by grind⟩
theorem Pd.RX{d a b a' b':Rat}(h:0<d)(c:0<=a)(e:b*b*d<=a*a)(f:0<=b')(g:a'*a'<=b'*b'*d):Pd d (a*a'+b*b'*d) (a*b'+a'*b):=by
 have:=J9 h c e f g;have:=fj (a:=a*a-b*b*d) (b:=b'*b'*d-a'*a') (by grind) (by grind);exact .inr ⟨by grind,by grind⟩
theorem Pd.mul{d a b a' b':Rat}(i:0<d)(h:Pd d a b)(j:Pd d a' b'):Pd d (a*a'+b*b'*d) (a*b'+a'*b):=by
 rcases h with⟨c,e⟩|⟨c,e⟩<;>rcases j with⟨f,g⟩|⟨f,g⟩
 ·have:=P5 i c e f g;have:=fj (a:=a*a-b*b*d) (b:=a'*a'-b'*b'*d) (by grind) (by grind);exact .inl ⟨by grind,by grind⟩
 ·exact Pd.RX i c e f g
 ·have:=Pd.RX i f g c e
  rwa [show a'*a+b'*b*d=a*a'+b*b'*d by grind,show a'*b+a*b'=a*b'+a'*b by grind]at this
 ·have:=J8 i c e f g;have:=fj (a:=b*b*d-a*a) (b:=b'*b'*d-a'*a') (by grind) (by grind);exact .inl ⟨by grind,by grind⟩
theorem Pd.total(d a b:Rat):Pd d a b\/Pd d (-a) (-b):=by
 by_cases h:b*b*d<=a*a
 ·by_cases c:0<=a
  ·exact .inl (.inl ⟨c,h⟩)
  ·exact .inr (.inl ⟨by grind,by grind⟩)
 ·by_cases e:0<=b
  ·exact .inl (.inr ⟨e,by grind⟩)
  ·exact .inr (.inr ⟨by grind,by grind⟩)
theorem Pd.zero(d:Rat):Pd d 0 0:=.inl ⟨d_,by grind⟩
theorem C7(a:Rat):bL (-a)= -bL a:=by
 by_cases h:a<0
 ·rw[pj h,jA (by grind)];rfl
 ·by_cases b:a=0
  ·subst b;decide
  ·rw[jA (by grind:0<a),pj (by grind)]
theorem aF8(a b d:Rat):cJ ⟨-a,-b,d⟩= -cJ ⟨a,b,d⟩:=by
 rw[cJ,cJ];dsimp only;rw[C7,C7,show -a* -a=a*a by grind,show -b* -b=b*b by grind];generalize bL a=x;generalize bL b=y;generalize bL d=z;generalize cT (a*a) (b*b*d)=o;rw[gn,gn,show -x*(-y*z)=x*(y*z)by grind]
 by_cases h:0<=x*(y*z)
 ·rw[if_pos h,if_pos h]
  by_cases hx:x=0
  ·subst hx;simp[bl]
  ·rw[if_neg hx,if_neg o_]
 ·rw[if_neg h,if_neg h,bl]
theorem zw{x y:Rat}:0<=cT x y↔y<=x:=by
 rw[cT]
 split
 ·constructor
  ·intro h;omega
  ·intro h;grind
 ·split
  ·constructor
   ·intro _;grind
   ·intro _;omega
  ·constructor
   ·intro _;grind
   ·intro _;omega
theorem C5{x y:Rat}:cT x y<=0↔x<=y:=by
 rw[cT]
 split
 ·constructor
  ·intro _;grind
  ·intro _;omega
 ·split
  ·constructor
   ·intro _;grind
   ·intro _;omega
  ·constructor
   ·intro h;omega
   ·intro h;grind
theorem nV{a b d:Rat}(g:0<d):0<=cJ ⟨a,b,d⟩↔Pd d a b:=by
 rw[cJ];dsimp only;rw[jA g,bb,gn,Pd];have f:b≠0->0<b*b*d:=fun h=>by
  have j:=sq_nonneg b;have l:b*b≠0:=fun e=>by rcases b3.1 e with e|e<;>exact h e
  exact jZ (by grind) g
 have c:a≠0->0<a*a:=fun h=>by
  have:=sq_nonneg a;have:a*a≠0:=fun e=>by rcases b3.1 e with e|e<;>exact h e
  grind
 rcases(by grind:a<0\/a=0\/0<a)with h|h|h<;>rcases(by grind:b<0\/b=0\/0<b)with k|k|k
 ·rw[pj h,pj k,if_pos d_,if_neg d_];exact⟨fun e=>absurd e d_,fun e=>by grind⟩
 ·subst k;rw[pj h,mT,if_pos d_,if_neg d_];exact⟨fun e=>absurd e d_,fun e=>by have:=c (by grind);grind⟩
 ·rw[pj h,jA k,if_neg d_];constructor
  ·intro e;exact .inr ⟨by grind,C5.1 o_⟩
  ·intro e;have:=(C5 (x:=a*a) (y:=b*b*d)).2 (by grind);omega
 ·subst h;rw[mT,pj k,if_pos d_,if_pos rfl];exact⟨fun e=>absurd e d_,fun e=>by have:=f (by grind);grind⟩
 ·subst h;subst k;rw[mT,if_pos d_,if_pos rfl];exact⟨fun _=>.inl ⟨d_,by grind⟩,fun _=>by decide⟩
 ·subst h;rw[mT,jA k,if_pos d_,if_pos rfl];exact⟨fun _=>.inr ⟨by grind,by have:=f (by grind);grind⟩,fun _=>by decide⟩
 ·rw[jA h,pj k,if_neg d_];constructor
  ·intro e;exact .inl ⟨by grind,zw.1 o_⟩
  ·intro e;have:=(zw (x:=a*a) (y:=b*b*d)).2 (by grind);omega
 ·subst k;rw[jA h,mT,if_pos d_,if_neg d_];exact⟨fun _=>.inl ⟨by grind,by have:=c (by grind);grind⟩,fun _=>by decide⟩
 ·rw[jA h,jA k,if_pos d_,if_neg d_];refine⟨fun _=>?_,fun _=>by decide⟩
  by_cases i:b*b*d<=a*a
  ·exact .inl ⟨by grind,i⟩
  ·exact .inr ⟨by grind,by grind⟩
theorem aF7{a b d:Rat}(c:0<d):cJ ⟨a,b,d⟩<0↔¬Pd d a b:=by rw[<-nV c];omega
theorem qA{a b d:Rat}(c:0<d):cJ ⟨a,b,d⟩<=0↔Pd d (-a) (-b):=by rw[<-nV c,aF8];omega
theorem C8{a b d:Rat}(c:0<d):0<cJ ⟨a,b,d⟩↔¬Pd d (-a) (-b):=by rw[<-qA c];omega
def Nl(d a b:Rat):Prop:=Pd d a b/\Pd d (-a) (-b)
theorem Nl.zero(d:Rat):Nl d 0 0:=⟨Pd.zero d,by have:=Pd.zero d;simpa using this⟩
theorem Nl.mul{d a b:Rat}(e:0<d)(h:Nl d a b)(p q:Rat):Nl d (p*a+q*b*d) (p*b+a*q):=by
 rcases Pd.total d p q with c|c
 ·refine⟨Pd.mul e c h.1,?_⟩;have:=Pd.mul e c h.2;rw[show p* -a+q* -b*d= -(p*a+q*b*d)by grind,show p* -b+-a*q= -(p*b+a*q)by grind]at this;exact this
 ·constructor
  ·have:=Pd.mul e c h.2;rw[show -p* -a+-q* -b*d=p*a+q*b*d by grind,show -p* -b+-a* -q=p*b+a*q by grind]at this;exact this
  ·have:=Pd.mul e c h.1;rw[show -p*a+-q*b*d= -(p*a+q*b*d)by grind,show -p*b+a* -q= -(p*b+a*q)by grind]at this;exact this
theorem Nl.neg{d a b:Rat}(h:Nl d a b):Nl d (-a) (-b):=⟨h.2,by rw[ca,ca];exact h.1⟩
theorem Nl.add{d a b a' b':Rat}(e:0<d)(h:Nl d a b)(c:Nl d a' b'):Nl d (a+a') (b+b'):=
 ⟨Pd.add e h.1 c.1,by have:=Pd.add e h.2 c.2;rw[show -(a+a')= -a+-a' by grind,show -(b+b')= -b+-b' by grind];exact this⟩
theorem Pd.nl{d a b a' b':Rat}(c:0<d)(h:Nl d (a'-a) (b'-b)):Pd d a b↔Pd d a' b':=by
 constructor
 ·intro k;have:=Pd.add c k h.1
  rwa [show a+(a'-a)=a' by grind,show b+(b'-b)=b' by grind]at this
 ·intro k;have:=Pd.add c k h.2
  rwa [show a'+-(a'-a)=a by grind,show b'+-(b'-b)=b by grind]at this
def gp(g:Rat)(x:S3):S3:=if x.a*x.a-x.b*x.b*x.d=0 then⟨g/(2*x.a),0,x.d⟩else⟨g*x.a/(x.a*x.a-x.b*x.b*x.d),-(g*x.b/(x.a*x.a-x.b*x.b*x.d)),x.d⟩
theorem C2{d p q:Rat}(hx:¬Pd d (-p) (-q))(hn:p*p-q*q*d=0):0<p/\0<q:=by
 constructor
 ·by_cases h:0<p
  ·exact h
  ·exact absurd (.inl ⟨by grind,by grind⟩) hx
 ·by_cases h:0<q
  ·exact h
  ·exact absurd (.inr ⟨by grind,by grind⟩) hx
theorem zu{d p q:Rat}(hx:¬Pd d (-p) (-q))(f:0<d)(g:Rat):Nl d (p*(gp g ⟨p,q,d⟩).a+q*(gp g ⟨p,q,d⟩).b*d-g) (p*(gp g ⟨p,q,d⟩).b+(gp g ⟨p,q,d⟩).a*q):=by
 rw[gp];dsimp only
 by_cases hn:p*p-q*q*d=0
 ·rw[if_pos hn];obtain⟨j,hq⟩:=C2 hx hn;have e:Nl d (-p) q:=⟨.inr ⟨by grind,by grind⟩,.inl ⟨by grind,by grind⟩⟩
  have c:=Nl.mul f e (g/(2*p)) 0;dsimp only;have h:g/(2*p)*(2*p)=g:=b5 (by grind);generalize g/(2*p)=u at*
  rwa [show u* -p+0*q*d=p*u+q*0*d-g by grind,show u*q+-p*0=p*0+u*q by grind]at c
 ·rw[if_neg hn];dsimp only;have hi:=b0 _ hn;rw[b1,b1];generalize (p*p-q*q*d)⁻¹=i at*;have c:=Nl.zero d;refine cast ?_ c;congr 1<;>grind
theorem Jy{d p q:Rat}(hx:¬Pd d (-p) (-q)):Pd d (gp 1 ⟨p,q,d⟩).a (gp 1 ⟨p,q,d⟩).b:=by
 rw[gp];dsimp only
 by_cases hn:p*p-q*q*d=0
 ·rw[if_pos hn];obtain⟨c,hq⟩:=C2 hx hn;dsimp only;have j:1/(2*p)*(2*p)=1:=b5 (by grind);generalize 1/(2*p)=u at*;have:0<=u:=by
   by_cases h:0<=u
   ·exact h
   ·have:=jZ (a:=-u) (b:=p) (by grind) c;grind
  exact .inl ⟨this,by have:=sq_nonneg u;grind⟩
 ·rw[if_neg hn];dsimp only;have hi:=b0 _ hn;rw[b1,b1];generalize (p*p-q*q*d)⁻¹=i at*;have f:=sq_nonneg i
  by_cases g:0<=p*p-q*q*d
  ·have c:0<=p:=by
    by_cases h:0<=p
    ·exact h
    ·exact absurd (.inl ⟨by grind,by grind⟩) hx
   have e:0<=i:=by
    by_cases h:0<=i
    ·exact h
    ·have:=jZ (a:=p*p-q*q*d) (b:=-i) (by grind) (by grind);grind
   have:=fj g f;have:=fj c e;exact .inl ⟨by grind,by grind⟩
  ·have hq:0<=q:=by
    by_cases h:0<=q
    ·exact h
    ·exact absurd (.inr ⟨by grind,by grind⟩) hx
   have e:i<=0:=by
    by_cases h:i<=0
    ·exact h
    ·have:=jZ (a:=-(p*p-q*q*d)) (b:=i) (by grind) (by grind);grind
   have:=fj (a:=-(p*p-q*q*d)) (b:=i*i) (by grind) f;have:=fj (a:=q) (b:=-i) hq (by grind);exact .inr ⟨by grind,by grind⟩
theorem Pd.zx{d p q:Rat}(f:0<d)(hx:¬Pd d (-p) (-q))(w v:Rat):Pd d w v↔Pd d (p*w+q*v*d) (p*v+w*q):=by
 have l:Pd d p q:=(Pd.total d p q).resolve_right hx;constructor
 ·intro h;exact Pd.mul f l h
 ·intro h;have g:=Pd.mul f (Jy hx) h;have i:=zu hx f 1;generalize (gp 1 ⟨p,q,d⟩).a=c,(gp 1 ⟨p,q,d⟩).b=e at*;have j:=Nl.mul f i w v;refine(Pd.nl f ?_).1 g;have k:=j.neg
  rwa [show -(w*(p*c+q*e*d-1)+v*(p*e+c*q)*d)=w-(c*(p*w+q*v*d)+e*(p*v+w*q)*d)by grind,
   show -(w*(p*e+c*q)+(p*c+q*e*d-1)*v)=v-(c*(p*v+w*q)+(p*w+q*v*d)*e)by grind]at k
theorem Uq{d p q e f:Rat}(c:0<d)(hx:¬Pd d (-p) (-q))(i:¬Pd d (-e) (-f))(g h:Rat):
 Pd d ((gp g ⟨p,q,d⟩).a-(gp h ⟨e,f,d⟩).a) ((gp g ⟨p,q,d⟩).b-(gp h ⟨e,f,d⟩).b)↔Pd d (e*g-p*h) (f*g-q*h):=by
 have n1:=zu hx c g;have n2:=zu i c h;generalize (gp g ⟨p,q,d⟩).a=k,(gp g ⟨p,q,d⟩).b=l,(gp h ⟨e,f,d⟩).a=m,(gp h ⟨e,f,d⟩).b=n at*;rw[Pd.zx c hx,Pd.zx c i];refine Pd.nl c ?_;have j:=(Nl.add c (Nl.mul c n1 e f) (Nl.neg (Nl.mul c n2 p q))).neg;refine cast ?_ j;congr 1<;>grind
theorem aBP{d a b a' b':Rat}(c:0<d):dS ⟨a,b,d⟩ ⟨a',b',d⟩<0↔¬Pd d (a-a') (b-b'):=by
 rw[dS];dsimp only;rw[jA c,bb];have hY:-bL b'=cJ ⟨0,-b',d⟩:=by
  rw[cJ];dsimp only;rw[mT,jA c,C7,gn,be,if_pos d_,if_pos rfl,bb]
 rw[hY];generalize a-a'=e;have m:=rz ⟨e,b,d⟩;have y0:=rz ⟨0,-b',d⟩;have x1:=nV (a:=e) (b:=b) c;have x2:=qA (a:=e) (b:=b) c;have y1:=nV (a:=0) (b:=-b') c;have y2:=qA (a:=0) (b:=-b') c;have i:=nV (a:=e*e+b*b*d-b'*b'*d) (b:=2*(e*b)) c;have j:=qA (a:=e*e+b*b*d-b'*b'*d) (b:=2*(e*b)) c;rw[Rat.neg_zero,ca]at y2;generalize cJ ⟨e,b,d⟩=X,cJ ⟨0,-b',d⟩=Y,cJ ⟨e*e+b*b*d-b'*b'*d,2*(e*b),d⟩=O at*;have sum:Pd d e b->Pd d 0 (-b')->Pd d e (b-b'):=fun h k=>by
  have:=Pd.add c h k
  rwa [cc,<-cb]at this
 have f:Pd d e (b-b')->Pd d 0 b'->Pd d e b:=fun h k=>by
  have:=Pd.add c h k
  rwa [cc,Rat.sub_add_cancel]at this
 have l:Pd d e (b-b')->Pd d (-e) (-b)->Pd d 0 (-b'):=fun h k=>by
  have:=Pd.add c h k
  rwa [show e+-e=0 by grind,show b-b'+-b= -b' by grind]at this
 have up:X=1->Y= -1->(Pd d e (b-b')↔0<=O):=fun g hY=>by
  have hs:¬Pd d (-e) (-(b+b')):=fun h=>by
   have:=Pd.add c h (y2.1 o_);rw[show -e+0= -e by grind,show -(b+b')+b'= -b by grind]at this;have:=x2.2 this;omega
  rw[Pd.zx c hs,i,show e*e+(b+b')*(b-b')*d=e*e+b*b*d-b'*b'*d by grind,show e*(b-b')+e*(b+b')=2*(e*b)by grind]
 have dn:X= -1->Y=1->(Pd d e (b-b')↔O<=0):=fun g hY=>by
  have hs:¬Pd d (- -e) (- -(b+b')):=fun h=>by
   rw[ca,ca]at h;have:=Pd.add c h (y1.1 o_);rw[show e+0=e by grind,show b+b'+-b'=b by grind]at this;have:=x1.2 this;omega
  rw[Pd.zx c hs,j,show -e*e+-(b+b')*(b-b')*d= -(e*e+b*b*d-b'*b'*d)by grind,show -e*(b-b')+e* -(b+b')= -(2*(e*b))by grind]
 rw[gn];rcases m with rfl|rfl|rfl<;>rcases y0 with rfl|rfl|rfl
 ·rw[if_pos d_,if_neg d_];exact⟨fun _ h=>by have:=x1.2 (f h (y2.1 d_));omega,fun _=>by decide⟩
 ·rw[if_pos d_,if_neg d_];exact⟨fun _ h=>by have:=x1.2 (f h (y2.1 d_));omega,fun _=>by decide⟩
 ·rw[if_neg d_,dn rfl rfl];omega
 ·rw[if_pos d_,if_pos rfl];exact⟨fun _ h=>by have:=y1.2 (l h (x2.1 d_));omega,fun _=>by decide⟩
 ·rw[if_pos d_,if_pos rfl];exact⟨fun h=>absurd h d_,fun h=>absurd (sum (x1.1 d_) (y1.1 d_)) h⟩
 ·rw[if_pos d_,if_pos rfl];exact⟨fun h=>absurd h d_,fun h=>absurd (sum (x1.1 d_) (y1.1 d_)) h⟩
 ·rw[if_neg d_,up rfl rfl];omega
 ·rw[if_pos d_,if_neg d_];exact⟨fun h=>absurd h d_,fun h=>absurd (sum (x1.1 d_) (y1.1 d_)) h⟩
 ·rw[if_pos d_,if_neg d_];exact⟨fun h=>absurd h d_,fun h=>absurd (sum (x1.1 d_) (y1.1 d_)) h⟩
open Go.Proofs
def gO(t:ai)(A B:V2)(d:Rat)(i:Nat):S3:=⟨A.bu (t.dT i),B.bu (t.dT i),d⟩
def ql(t:ai)(p:V2)(i:Nat):Rat:=(t.dT i).bu (p.sub (fW (t.at i)))
def jD(t:ai)(p A B:V2)(d:Rat)(i:Nat):S3:=gp (ql t p i) (gO t A B d i)
def GG(t:ai)(p A B:V2)(d:Rat)(o:Option Nat)(k:Nat):Option Nat:=
 if cJ (gO t A B d k)<=0 then o else match o with
  |none=>some k
  |some j=>if dS (jD t p A B d k) (jD t p A B d j)<0 then some k else some j
def vT(t:ai)(p A B:V2)(d:Rat)(m:Nat):Option Nat:=(List.range m).foldl (GG t p A B d) none
theorem TW(t:ai)(p A B:V2)(d:Rat)(m:Nat):vT t p A B d (m+1)=GG t p A B d (vT t p A B d m) m:=by
 rw[vT,List.range_succ,bv];rfl
theorem II(v w:V2):-(v.bu w)=w.bu v:=by simp only[V2.bu];grind
theorem zm(t:ai)(n:NB)(i:Nat):((n.bu (t.cB i)).neg).q=gO t n.a.q n.b.q n.d.q i:=by
 have c:((n.bu (t.cB i)).neg).a.q=n.a.q.bu (t.dT i):=by
  show -((t.cB i).bu n.a).q=_;rw[NV.lC,ai.uq,II]
 have e:((n.bu (t.cB i)).neg).b.q=n.b.q.bu (t.dT i):=by
  show -((t.cB i).bu n.b).q=_;rw[NV.lC,ai.uq,II]
 rw[NS.q,c,e];rfl
theorem Da(t:ai)(p:NV)(n:NB)(i:Nat):(t.ct p n i).g.q=ql t p.q i:=by
 show((t.cB i).bu (p.sub (c7 (t.at i)))).q=_;rw[NV.lC,NV.dW,ai.uq];rfl
theorem aHK(s:NS)(k:NF):(s.under k).q=gp k.q s.q:=by
 have hn:s.norm.q=s.q.a*s.q.a-s.q.b*s.q.b*s.q.d:=NF.dW _ _;rw[NS.under,gp,<-hn]
 by_cases h:s.norm.q=0
 ·rw[if_pos h,if_pos h];show S3.mk (k.q/(s.a.q+s.a.q)) ((0:Int):Rat) s.d.q=S3.mk (k.q/(2*s.a.q)) 0 s.d.q;rw[show s.a.q+s.a.q=2*s.a.q by grind];rfl
 ·rw[if_neg h,if_neg h];show S3.mk (k.q*s.a.q/s.norm.q) (-(k.q*s.b.q)/s.norm.q) s.d.q=S3.mk (k.q*s.a.q/s.norm.q) (-(k.q*s.b.q/s.norm.q)) s.d.q;rw[b1 (-(k.q*s.b.q)),Rat.neg_mul,<-b1]
theorem Iz(t:ai)(n:NB)(i:Nat):t.pos n i=decide (0<cJ (gO t n.a.q n.b.q n.d.q i)):=by
 rw[ai.pos,zm]
theorem aja(t:ai)(p:NV)(n:NB){i j:Nat}(c:0<n.d.q)(B:j<i)(hi:0<cJ (gO t n.a.q n.b.q n.d.q i))(u:0<cJ (gO t n.a.q n.b.q n.d.q j)):
 rC (t.ct p n i) (t.ct p n j)<0↔dS (jD t p.q n.a.q n.b.q n.d.q i) (jD t p.q n.a.q n.b.q n.d.q j)<0:=by
 have m:=Da t p n i;have o:=Da t p n j;have A:(t.ct p n i).s.q=gO t n.a.q n.b.q n.d.q i:=zm t n i;have l:(t.ct p n j).s.q=gO t n.a.q n.b.q n.d.q j:=zm t n j;have hc:(((t.ct p n j).s.times (t.ct p n i).g).add ((t.ct p n i).s.times (t.ct p n j).g).neg).q=⟨(gO t n.a.q n.b.q n.d.q j).a*ql t p.q i-(gO t n.a.q n.b.q n.d.q i).a*ql t p.q j,(gO t n.a.q n.b.q n.d.q j).b*ql t p.q i-(gO t n.a.q n.b.q n.d.q i).b*ql t p.q j,n.d.q⟩:=by
  rw[<-m,<-o,<-A,<-l];generalize t.ct p n i=x,hy:t.ct p n j=y at*;have c:y.s.d.q=n.d.q:=congrArg S3.d l;show S3.mk (y.s.a.q*x.g.q+-(x.s.a.q*y.g.q)) (y.s.b.q*x.g.q+-(x.s.b.q*y.g.q)) y.s.d.q=S3.mk (y.s.a.q*x.g.q-x.s.a.q*y.g.q) (y.s.b.q*x.g.q-x.s.b.q*y.g.q) n.d.q;rw[c,cb,cb]
 have w:=(C8 c).1 (show 0<cJ ⟨(gO t n.a.q n.b.q n.d.q i).a,(gO t n.a.q n.b.q n.d.q i).b,n.d.q⟩from hi);have z:=(C8 c).1 (show 0<cJ ⟨(gO t n.a.q n.b.q n.d.q j).a,(gO t n.a.q n.b.q n.d.q j).b,n.d.q⟩from u);have v:=Uq c w z (ql t p.q i) (ql t p.q j);have k:∀g e f,gp g ⟨e,f,n.d.q⟩=⟨(gp g ⟨e,f,n.d.q⟩).a,(gp g ⟨e,f,n.d.q⟩).b,n.d.q⟩:=fun g e f=>by
  rw[gp];split<;>rfl
 have e1:jD t p.q n.a.q n.b.q n.d.q i=⟨(jD t p.q n.a.q n.b.q n.d.q i).a,(jD t p.q n.a.q n.b.q n.d.q i).b,n.d.q⟩:=k _ _ _;have e2:jD t p.q n.a.q n.b.q n.d.q j=⟨(jD t p.q n.a.q n.b.q n.d.q j).a,(jD t p.q n.a.q n.b.q n.d.q j).b,n.d.q⟩:=k _ _ _;rw[e1,e2,aBP c];have e3:Pd n.d.q ((jD t p.q n.a.q n.b.q n.d.q i).a-(jD t p.q n.a.q n.b.q n.d.q j).a) ((jD t p.q n.a.q n.b.q n.d.q i).b-(jD t p.q n.a.q n.b.q n.d.q j).b)↔_:=v;rw[e3,<-aF7 c,rC,hc];show(if _=0 then(i:Int)-(j:Int)else _)<0↔_;generalize cJ _=r
 by_cases h:r=0
 ·rw[if_pos h];omega
 ·rw[if_neg h]
theorem ID(t:ai)(p:NV)(n:NB)(r:0<n.d.q):∀m:Nat,match t.fL p n m with
  |[]=>vT t p.q n.a.q n.b.q n.d.q m=none
  |m0::l=>∃j,j<m/\0<cJ (gO t n.a.q n.b.q n.d.q j)/\jk m0 l=t.ct p n j/\vT t p.q n.a.q n.b.q n.d.q m=some j
 |0=>rfl
 |m+1=>by
  have f:=ID t p n r m;rw[ai.CQ,Iz,TW,GG.eq_def]
  by_cases e:0<cJ (gO t n.a.q n.b.q n.d.q m)
  ·rw[decide_eq_true e,if_pos rfl,if_neg o_];generalize u:t.fL p n m=L at*;cases L with
   |nil=>
    dsimp only at f;rw[f];exact⟨m,o_,e,CK _,rfl⟩
   |cons m0 l=>
    obtain⟨j,o,g,i,k⟩:=f;rw[List.cons_append];dsimp only;have s:jk m0 (l++[t.ct p n m])=tT (jk m0 l) (t.ct p n m):=by
     rw[jk,bv];rfl
    have hc:=aja t p n r o e g;rw[s,i,k,tT];dsimp only
    by_cases c:dS (jD t p.q n.a.q n.b.q n.d.q m) (jD t p.q n.a.q n.b.q n.d.q j)<0
    ·rw[if_pos (hc.2 c),if_pos c];exact⟨m,o_,e,rfl,rfl⟩
    ·rw[if_neg (fun h=>c (hc.1 h)),if_neg c];exact⟨j,o_,g,rfl,rfl⟩
  ·rw[decide_eq_false e,if_neg d_,if_pos o_];generalize t.fL p n m=L at*;cases L with
   |nil=>exact f
   |cons m0 l=>
    obtain⟨j,o,g,i,k⟩:=f;exact⟨j,o_,g,i,k⟩
theorem IL{d a b a' b':Rat}(c:0<d)(h:Nl d a b)(e:Nl d a' b')(p q:Rat):Nl d (p*a+q*a') (p*b+q*b'):=by
 have f:=Nl.mul c h p 0;have g:=Nl.mul c e q 0;have:=Nl.add c f g
 rwa [show p*a+0*b*d+(q*a'+0*b'*d)=p*a+q*a' by grind,show p*b+a*0+(q*b'+a'*0)=p*b+q*b' by grind]at this
theorem Ut(t:ai)(A B:V2){d W:Rat}(b:0<d)(ae:3<=t.cs.length)(hc:t.fF=true)(X:0<W)(n:A.dot A+B.dot B*d=W)(O:A.dot B=0):∃i,i<t.cs.length/\0<cJ (gO t A B d i):=by
 refine Decidable.by_contra fun Z=>?_;have Y:∀i,i<t.cs.length->Pd d (-(A.bu (t.dT i))) (-(B.bu (t.dT i))):=fun i hi=>by
  refine(qA b).1 ?_
  by_cases h:0<cJ (gO t A B d i)
  ·exact(Z ⟨i,hi,h⟩).elim
  ·exact a7.1 h
 obtain⟨f,hf⟩:∃f:Nat->Rat,f=fun i=>A.bu (fW (t.at i)):=⟨_,rfl⟩
 obtain⟨g,F⟩:∃g:Nat->Rat,g=fun i=>B.bu (fW (t.at i)):=⟨_,rfl⟩
 have step:∀i,i<t.cs.length->Pd d (f i-f (t.nx i)) (g i-g (t.nx i)):=fun i hi=>by
  have:=Y i hi;have T:-(A.bu (t.dT i))=f i-f (t.nx i):=by rw[hf];simp only[ai.dT,V2.bu,V2.sub];grind
  have U:-(B.bu (t.dT i))=g i-g (t.nx i):=by rw[F];simp only[ai.dT,V2.bu,V2.sub];grind
  rwa [T,U]at this
 have o:∀i,i+1<t.cs.length->t.nx i=i+1:=fun i hi=>Nat.mod_eq_of_lt hi;have ab:t.nx (t.cs.length-1)=0:=by
  rw[ai.nx,Nat.sub_add_cancel o_];exact Nat.mod_self _
 have trans:∀{x y z p q r:Rat},Pd d (x-y) (p-q)->Pd d (y-z) (q-r)->Pd d (x-z) (p-r):=fun{x y z p q r} h k=>by
  have:=Pd.add b h k
  rwa [show x-y+(y-z)=x-z by grind,show p-q+(q-r)=p-r by grind]at this
 have S:∀k,2+k<t.cs.length->Pd d (f 2-f (2+k)) (g 2-g (2+k)):=fun k=>by
  induction k with
  |zero=>
   intro _;rw[Nat.add_zero,da,da];exact Pd.zero d
  |succ k aa=>
   intro h;have n:=step (2+k) o_;rw[o _ o_]at n;exact trans (aa o_) n
 have a1:=step 0 o_;have D:=step 1 o_;have L:=S (t.cs.length-3) o_;have M:=step (t.cs.length-1) o_;rw[o 0 o_]at a1;rw[o 1 o_]at D;rw[ab]at M;rw[show 2+(t.cs.length-3)=t.cs.length-1 by omega]at L;have N:=trans L M;have n1:Nl d (f 1-f 0) (g 1-g 0):=⟨trans D N,by rw[ck,ck];exact a1⟩
 have n2:Nl d (f 2-f 0) (g 2-g 0):=⟨N,by rw[ck,ck];exact trans a1 D⟩
 rw[ai.fF,decide_eq_true_eq]at hc;have hx:=hc 0 o_ 2 o_ d_ (by rw[o 0 o_];decide);rw[o 0 o_,lD]at hx;rw[hf,F]at n1 n2;dsimp only at n1 n2;rw[Nat.zero_add]at hx;generalize t.at 0=a,t.at 1=s,t.at 2=u at*;obtain⟨c,G⟩:∃c:Rat,c=(s.x:Rat)-a.x:=⟨_,rfl⟩
 obtain⟨j,H⟩:∃j:Rat,j=(s.y:Rat)-a.y:=⟨_,rfl⟩
 obtain⟨l,I⟩:∃l:Rat,l=(u.x:Rat)-a.x:=⟨_,rfl⟩
 obtain⟨m,J⟩:∃m:Rat,m=(u.y:Rat)-a.y:=⟨_,rfl⟩
 have hq:¬c*m-j*l=0:=by
  intro e;have e2:(((s.x-a.x)*(u.y-a.y)-(s.y-a.y)*(u.x-a.x):Int):Rat)=((0:Int):Rat):=by
   rw[b4,cy,cy,b4,b4,b4,b4];rw[G,H,I,J]at e;exact e
  have:=c6.1 e2;omega
 obtain⟨v,w⟩:=A;obtain⟨bx,C⟩:=B;simp only[V2.bu,V2.dot,fW]at n1 n2 n O;have Q:Nl d (v*j-w*c) (bx*j-C*c):=by
  rw[G,H];refine cast ?_ n1;congr 1<;>grind
 have R:Nl d (v*m-w*l) (bx*m-C*l):=by
  rw[I,J];refine cast ?_ n2;congr 1<;>grind
 clear n1 n2 G H I J hf F;have x1:=IL b R Q c (-l);have y1:=IL b R Q j (-m);obtain⟨K,E⟩:∃K:Rat,K=c*m-j*l:=⟨_,rfl⟩
 have x2:Nl d (v*K) (bx*K):=by
  rw[E];refine cast ?_ x1;congr 1<;>grind
 have y2:Nl d (w*K) (C*K):=by
  rw[E];refine cast ?_ y1;congr 1<;>grind
 have ac:=Nl.add b (Nl.mul b x2 (v*K) (bx*K)) (Nl.mul b y2 (w*K) (C*K));have ad:Nl d (W*(K*K)) 0:=by
  refine cast ?_ ac;congr 1<;>grind
 rw[<-E]at hq;have V:0<K*K:=by
  have n:=sq_nonneg K;have O:K*K≠0:=fun e=>by rcases b3.1 e with e|e<;>exact hq e
  grind
 have P:=jZ X V;rcases ad.2 with⟨h,_⟩|⟨_,h⟩
 ·grind
 ·have:=jZ P P
  grind
def gG(w d:V2):V2:=⟨w.x-w.dot d*d.x/d.dot d,w.y-w.dot d*d.y/d.dot d⟩
def gL(d:V2):V2:=⟨d.x/d.dot d,d.y/d.dot d⟩
def aAu(c Q E F:Rat):Rat:=c*c*E-F*(Q*Q)
theorem aHI(r:Int)(w d:V2):dC r w d=bR r*d.dot d-w.bu d*w.bu d:=by
 rw[dC];generalize bR r=F;simp only[V2.dot,V2.bu];grind
theorem R9(w d:V2)(hz:d.dot d≠0):(gG w d).x=w.bu d*d.y*(d.dot d)⁻¹:=by
 have hi:=b0 _ hz;simp only[gG,V2.bu,b1];generalize (d.dot d)⁻¹=i at*;simp only[V2.dot]at*;have k:w.x-(w.x*d.x+w.y*d.y)*d.x*i=w.x*(1-(d.x*d.x+d.y*d.y)*i)+(w.x*d.y-w.y*d.x)*d.y*i:=by grind
 rw[k,hi];grind
theorem Sa(w d:V2)(hz:d.dot d≠0):(gG w d).y= -(w.bu d*d.x*(d.dot d)⁻¹):=by
 have hi:=b0 _ hz;simp only[gG,V2.bu,b1];generalize (d.dot d)⁻¹=i at*;simp only[V2.dot]at*;have k:w.y-(w.x*d.x+w.y*d.y)*d.y*i=w.y*(1-(d.x*d.x+d.y*d.y)*i)+-((w.x*d.y-w.y*d.x)*d.x*i):=by grind
 rw[k,hi];grind
theorem Uo(r:Int)(w d:V2)(hz:d.dot d≠0):(gG w d).dot (gG w d)+(gL d).dot (gL d)*dC r w d=bR r:=by
 rw[aHI,V2.dot,V2.dot,R9 w d hz,Sa w d hz];have hi:=b0 _ hz;simp only[gL,b1];generalize bR r=F;generalize w.bu d=c;have a:d.x*d.x+d.y*d.y=d.dot d:=rfl;generalize (d.dot d)⁻¹=i at*;generalize d.dot d=D at*;have k:c*d.y*i*(c*d.y*i)+-(c*d.x*i)* -(c*d.x*i)+(d.x*i*(d.x*i)+d.y*i*(d.y*i))*(F*D-c*c)=(d.x*d.x+d.y*d.y)*i*(F*(D*i)):=by grind
 rw[k,a,hi];grind
theorem Up(w d:V2)(hz:d.dot d≠0):(gG w d).dot (gL d)=0:=by
 rw[V2.dot,R9 w d hz,Sa w d hz];simp only[gL,b1]
 grind
structure Sz(t:ai)(r:Int)(w d p:V2):Prop where
 hn:∀c∈t.cs,et c
 r0:0<=r
 r1:r<=1000000
 ow:bd 61 w
 od:bd 30 d
 op:bd 30 p
 hz:d.dot d≠0
theorem Iv{r:Int}{w d:V2}(r0:0<=r)(r1:r<=1000000)(ow:bd 61 w)(od:bd 30 d):aQ 776 (dC r w d):=
 (fA (bC (fe ow od) (fe ow od)) (bC (fe od od) (fA (fe ow ow) (qP r0 r1)))).mono d_
theorem IH{w d:V2}(ow:bd 61 w)(od:bd 30 d):bd 396 (gG w d):=
 ⟨(fA ow.1 (iK (bC (fe ow od) od.1) (fe od od))).mono d_,(fA ow.2 (iK (bC (fe ow od) od.2) (fe od od))).mono d_⟩
theorem IG{d:V2}(od:bd 30 d):bd 151 (gL d):=⟨(iK od.1 (fe od od)).mono d_,(iK od.2 (fe od od)).mono d_⟩
theorem Sz.parts{t:ai}{r:Int}{w d p:V2}(h:Sz t r w d p){i:Nat}(hi:i<t.cs.length):
 aQ 183 (w.bu d)/\aQ 119 (d.dot (t.dT i))/\aQ 119 (d.bu (t.dT i))/\aQ 121 (d.dot d)/\aQ 117 ((t.dT i).dot (t.dT i))/\aQ 42 (bR r)/\aQ 149 (ql t p i)/\aQ 149 ((p.sub (fW (t.at i))).dot (t.dT i))/\aQ 764 (aAu (w.bu d) (d.bu (t.dT i)) ((t.dT i).dot (t.dT i)) (bR r))/\aQ 530 (bR r*d.dot d-w.bu d*w.bu d):=by
 have a:=ai.okW h.hn hi;have b:=gY h.op (jV (ai.gl h.hn hi));have f:=qP h.r0 h.r1;have c:=mS h.ow h.od;have P:=fe h.od a;have Q:=mS h.od a;have D:=fe h.od h.od;have E:=fe a a;exact⟨c.mono d_,P.mono d_,Q.mono d_,D.mono d_,E.mono d_,f,(mS a b).mono d_,(fe b a).mono d_,(fA (bC (bC c c) E) (bC f (bC Q Q))).mono d_,(fA (bC f D) (bC c c)).mono d_⟩
def NM.bI(m:NM):NB:=⟨m.w.sub (m.d.times ((m.w.dot m.d).div (m.d.dot m.d))),m.d.times (m.d.dot m.d).inv,m.root⟩
def NM.aU(m:NM)(width:NF):NB:=⟨m.d.sub (m.bI.b.times (m.root.div width)),m.bI.a.times width.inv.neg,m.root⟩
def NB.dot(n:NB)(w:NV):NS:=⟨n.a.dot w,n.b.dot w,n.d⟩
theorem Uy(w d:NV)(root:NF)(c:bd 200 w.q)(a:bd 100 d.q)(hz:(d.dot d).q≠0):aq prog 59 [jB ⟨w,d,root⟩] (lW (NM.bI ⟨w,d,root⟩)):=by
 have f:aQ 601 (w.dot d).q:=by rw[NV.lQ];exact fe c a
 have b:aQ 401 (d.dot d).q:=by rw[NV.lQ];exact fe a a
 have e:aQ 1002 ((w.dot d).div (d.dot d)).q:=zD f b;have n:bd 1102 (d.times ((w.dot d).div (d.dot d))).q:=⟨dJ a.1 e,dJ a.2 e⟩
 have g:=Ag d (a.mono d_);have h:=BM w d (c.mono d_) (a.mono d_);have i:=tI (w.dot d) (d.dot d) (f.mono d_) (b.mono d_) hz;have j:=vN d ((w.dot d).div (d.dot d)) (a.mono d_) (e.mono d_);have k:=yD w (d.times ((w.dot d).div (d.dot d))) (c.mono d_) (n.mono d_);have l:=yt (d.dot d) (b.mono d_) hz;have m:=vN d (d.dot d).inv (a.mono d_) ((se b).mono d_);refine gA_ nf func59 mix ?_;rw[NM.bI,tH];dsimp only;rw[B6];simp(maxDischargeDepth:=99) [f59,ad,c1 g,e2 h,e2 i,e2 j,e2 k,e1 l,e2 m]
theorem JA(m:NM)(b:bd 200 m.w.q)(a:bd 100 m.d.q)(hz:(m.d.dot m.d).q≠0):aq prog 59 [jB m] (lW m.bI):=Uy m.w m.d m.root b a hz
theorem aeW(w d:NV)(root width:NF)(e:bd 200 w.q)(c:bd 100 d.q)(hz:(d.dot d).q≠0)(i:aQ 2000 root.q)(hf:aQ 42 width.q)(h:width.q≠0):aq prog 60 [jB ⟨w,d,root⟩,eF width] (lW (NM.aU ⟨w,d,root⟩ width)):=by
 have x:aQ 601 (w.dot d).q:=by rw[NV.lQ];exact fe e c
 have g:aQ 401 (d.dot d).q:=by rw[NV.lQ];exact fe c c
 have j:aQ 1002 ((w.dot d).div (d.dot d)).q:=zD x g;have v:bd 1102 (d.times ((w.dot d).div (d.dot d))).q:=⟨dJ c.1 j,dJ c.2 j⟩
 have t:bd 1303 (NM.bI ⟨w,d,root⟩).a.q:=by rw[NM.bI];dsimp only;rw[NV.dW];exact gY e v
 have f:bd 501 (NM.bI ⟨w,d,root⟩).b.q:=⟨dJ c.1 (se g),dJ c.2 (se g)⟩
 have tX:aQ 2042 (root.div width).q:=zD i hf;have u:bd 2543 ((NM.bI ⟨w,d,root⟩).b.times (root.div width)).q:=⟨dJ f.1 tX,dJ f.2 tX⟩
 have k:=JA ⟨w,d,root⟩ e c hz;have l:=tI root width (i.mono d_) (hf.mono d_) h;have m:=vN (NM.bI ⟨w,d,root⟩).b (root.div width) (f.mono d_) (tX.mono d_);have o:=yD d ((NM.bI ⟨w,d,root⟩).b.times (root.div width)) (c.mono d_) (u.mono d_);have p:=yt width (hf.mono d_) h;have r:=ru width.inv ((se hf).mono d_);have s:=vN (NM.bI ⟨w,d,root⟩).a width.inv.neg (t.mono d_) ((rU (se hf)).mono d_);refine gA_ nf func60 mix ?_;rw[NM.aU,tH];generalize NM.bI ⟨w,d,root⟩=n at*;dsimp only at*;rw[B6];simp[f60,ad];refine c1 k ?_;simp[ad];refine e2 l ?_;simp[ad];refine e2 m ?_;simp[ad];refine e2 o ?_;simp[ad];refine e1 p ?_;simp[ad];refine e1 r ?_;simp[ad];refine e2 s ?_;simp[ad]
theorem aeP(m:NM)(width:NF)(e:bd 200 m.w.q)(a:bd 100 m.d.q)(hz:(m.d.dot m.d).q≠0)(c:aQ 2000 m.root.q)(hf:aQ 42 width.q)(b:width.q≠0):aq prog 60 [jB m,eF width] (lW (m.aU width)):=aeW m.w m.d m.root width e a hz c hf b
theorem e6{f:FuncId}{L:aY->Prop}{H:ah}{a b c d e g v:PV}(h:aq prog f [a,b,c,d,e,g] v)(hk:L {v:=.p v}):nv prog f L [.p a,.p b,.p c,.p d,.p e,.p g] H:=
 .inl ⟨[a,b,c,d,e,g],v,rfl,h,hk⟩
theorem Db{r:Int}(h:1<=r):bR r≠0:=by
 intro e;rw[bR]at e;have a:(4*r*r:Int)=0:=by
  have:((4*r*r:Int):Rat)=((0:Int):Rat):=e;exact c6.1 this
 have b:0<4*r*r:=Int.mul_pos o_ o_;omega
def nW(w d a dd u F:Rat):S3:=⟨d-d*u/(F*dd),-((w-a*d/dd)/F),u⟩
def ga(r:Int)(w d:V2):P4:=⟨⟨(gG w d).x,(gL d).x,dC r w d⟩,⟨(gG w d).y,(gL d).y,dC r w d⟩⟩
def jt(r:Int)(w d:V2):P4:=⟨nW w.x d.x (w.dot d) (d.dot d) (dC r w d) (bR r),nW w.y d.y (w.dot d) (d.dot d) (dC r w d) (bR r)⟩
def ai.shr(t:ai)(i:Nat)(v:V2):Rat:=((v.sub (fW (t.at i))).dot (t.dT i))/((t.dT i).dot (t.dT i))
def ai.pv(t:ai)(i:Nat):Nat:=(i+t.cs.length-1)% t.cs.length
def GF(s:S3)(x:Rat):Int:=cJ ⟨s.a-x,s.b,s.d⟩
theorem Sq(a o:Int):gn a 0 o=a:=by
 rw[gn,bi,if_pos d_]
 split
 ·rename_i h;exact h.symm
 ·rfl
theorem HU(s:S3)(x:Rat):dS s ⟨x,0,0⟩=GF s x:=by
 rw[dS];dsimp only;rw[mT,bi,Int.neg_zero,Sq];rfl
theorem aAV(u v:Rat):cT u v=bL (u-v):=by
 rw[cT,bL]
 by_cases h:u<v
 ·rw[if_pos h,if_pos (show u-v<0 by grind)]
 ·rw[if_neg h,if_neg (show¬u-v<0 by grind)]
  by_cases a:u=v
  ·rw[if_pos a,if_pos (show u-v=0 by grind)]
  ·rw[if_neg a,if_neg (show¬u-v=0 by grind)]
theorem qD{d x:Rat}(h:0<=x):Pd d x 0:=.inl ⟨h,by have:=sq_nonneg x;grind⟩
theorem aF3{x:Rat}:bL x<=0↔x<=0:=by
 have:=C5 (x:=x) (y:=0);rw[aAV]at this
 rwa [show x-0=x by grind]at this
theorem aAe(y:Rat):∃K:Nat,y<(K:Rat):=by
 have b:y<=((y.ceil:Int):Rat):=Rat.le_ceil;have c:((y.ceil:Int):Rat)<=(((y.ceil.toNat:Nat):Int):Rat):=Rat.intCast_le_intCast.2 o_;have d:(((y.ceil.toNat:Nat):Int):Rat)=((y.ceil.toNat:Nat):Rat):=rfl;have a:((y.ceil.toNat+1:Nat):Rat)=((y.ceil.toNat:Nat):Rat)+1:=by push_cast;rfl
 exact⟨y.ceil.toNat+1,by rw[a];grind⟩
theorem Jw{x B:Rat}(a:0<=B):∀K:Nat,B<((K:Rat)*x)*((K:Rat)*x)->∃k:Nat,((k:Rat)*x)*((k:Rat)*x)<=B/\B<((k:Rat)*x+x)*((k:Rat)*x+x)
 |0,h=>by
  have e:((0:Nat):Rat)=0:=rfl;rw[e]at h;grind
 |K+1,h=>by
  by_cases hk:((K:Rat)*x)*((K:Rat)*x)<=B
  ·refine⟨K,hk,?_⟩;have e:((K+1:Nat):Rat)=(K:Rat)+1:=by push_cast;rfl
   rw[e]at h
   rwa [show(K:Rat)*x+x=((K:Rat)+1)*x by grind]
  ·exact Jw a K (by grind)
theorem Df{A B:Rat}(g:0<=A)(h:A<B):∃q:Rat,0<=q/\A<q*q/\q*q<=B:=by
 have f:0<B:=by grind
 obtain⟨x,hx⟩:∃x:Rat,x=(B-A)/(2*B+4):=⟨_,rfl⟩
 have i:x*(2*B+4)=B-A:=by rw[hx];exact b5 (by grind)
 have d:0<x:=by
  by_cases c:0<x
  ·exact c
  ·have:=fj (a:=-x) (b:=2*B+4) (by grind) (by grind);grind
 have x1:x<=1:=by
  by_cases c:x<=1
  ·exact c
  ·have:=jZ (a:=x-1) (b:=2*B+4) (by grind) (by grind);grind
 obtain⟨K,o⟩:=aAe ((B+1)/x);have j:(B+1)/x*x=B+1:=b5 (by grind);have l:=jZ (a:=(K:Rat)-(B+1)/x) (b:=x) (by grind) d;have e:B<((K:Rat)*x)*((K:Rat)*x):=by
  have:=qB (p:=B+1) (q:=(K:Rat)*x) (r:=B+1) (s:=(K:Rat)*x) (by grind) (by grind) (by grind) (by grind);have:=fj (a:=B) (b:=B) (by grind) (by grind)
  grind
 obtain⟨k,k1,k2⟩:=Jw (b2 f) K e;have q0:(0:Rat)<=(k:Rat)*x:=fj (by exact_mod_cast Nat.zero_le k) (b2 d);generalize (k:Rat)*x=q at*;refine⟨q,q0,?_,k1⟩;have q1:q<=B+1:=(zB (x:=q) (y:=B+1) (by grind) (by have:=fj (a:=B) (b:=B) (by grind) (by grind);grind)).1;have m:=fj (a:=B+1-q) (b:=x) (by grind) (by grind);have n:=fj (a:=x) (b:=1-x) (by grind) (by grind)
 grind
theorem UH{d a b c:Rat}(h:¬Pd d (a-c) b):∃r:Rat,r<c/\Pd d (r-a) (-b):=by
 have n1:¬(0<=a-c/\b*b*d<=(a-c)*(a-c)):=fun x=>h (.inl x);have n2:¬(0<=b/\(a-c)*(a-c)<=b*b*d):=fun x=>h (.inr x)
 by_cases g:0<=b
 ·have e1:b*b*d<(a-c)*(a-c):=by
   by_cases e:b*b*d<(a-c)*(a-c)
   ·exact e
   ·exact absurd ⟨g,by grind⟩ n2
  have e2:a-c<0:=by
   by_cases e:a-c<0
   ·exact e
   ·exact absurd ⟨by grind,by grind⟩ n1
  by_cases f:0<=b*b*d
  ·obtain⟨w,w0,w1,w2⟩:=Df f (show b*b*d<(b*b*d+(a-c)*(a-c))/2 by grind);have w3:w<c-a:=by
    by_cases e:w<c-a
    ·exact e
    ·have:=qB (p:=c-a) (q:=w) (r:=c-a) (s:=w) (by grind) (by grind) (by grind) (by grind);grind
   exact⟨a+w,by grind,.inl ⟨by grind,by grind⟩⟩
  ·exact⟨a,by grind,.inl ⟨by grind,by grind⟩⟩
 ·by_cases i:a-c<0
  ·by_cases f:0<=d
   ·exact⟨a,by grind,.inr ⟨by grind,by have:=fj (sq_nonneg b) f;grind⟩⟩
   ·exact⟨a,by grind,.inl ⟨by grind,by have:=fj (sq_nonneg b) (show 0<=-d by grind);grind⟩⟩
  ·have e1:(a-c)*(a-c)<b*b*d:=by
    by_cases e:(a-c)*(a-c)<b*b*d
    ·exact e
    ·exact absurd ⟨by grind,by grind⟩ n1
   obtain⟨w,w0,w1,w2⟩:=Df (sq_nonneg _) e1;have w3:a-c<w:=by
    by_cases e:a-c<w
    ·exact e
    ·have:=qB (p:=w) (q:=a-c) (r:=w) (s:=a-c) w0 (by grind) w0 (by grind);grind
   exact⟨a-w,by grind,.inr ⟨by grind,by grind⟩⟩
theorem uD{d x:Rat}(h:Pd d x 0):0<=x:=by
 rcases h with⟨h,_⟩|⟨_,h⟩
 ·exact h
 ·by_cases hx:0<=x
  ·exact hx
  ·have:=jZ (a:=-x) (b:=-x) (by grind) (by grind);grind
theorem wV{d q:Rat}(h:q*q<=d):Pd d (-q) 1:=.inr ⟨d_,by grind⟩
theorem Sc{d a b:Rat}(c:0<d):Pd d (a*a+b*b*d) (2*(a*b)):=by
 rcases Pd.total d a b with h|h
 ·have:=Pd.mul c h h
  rwa [show a*b+a*b=2*(a*b)by grind]at this
 ·have:=Pd.mul c h h
  rwa [show -a* -a+-b* -b*d=a*a+b*b*d by grind,show -a* -b+-a* -b=2*(a*b)by grind]at this
theorem Dg{d a b q:Rat}(c:0<d)(hq:0<=q)(h:Pd d (a-q) b):Pd d (a*a+b*b*d-q*q) (2*(a*b)):=by
 have e:=Pd.add c h (qD (d:=d) (x:=2*q) (by grind));have:=Pd.mul c h e
 rwa [show(a-q)*(a-q+2*q)+b*(b+0)*d=a*a+b*b*d-q*q by grind,show(a-q)*(b+0)+(a-q+2*q)*b=2*(a*b)by grind]at this
def jI(m u a u':Rat):Prop:=∀q:Rat,0<=q->q*q<=u'->Pd u (a-m-q) 1
theorem jI.trans{c u1 a f b g:Rat}(j:0<u1)(m:0<f)(h:jI c u1 a f)(i:jI a f b g):jI c u1 b g:=by
 intro q q0 l;have k:=i q q0 l
 by_cases hc:0<=q+a-b
 ·have k2:(q+a-b)*(q+a-b)<=f:=by
   rcases k with⟨k1,_⟩|⟨_,k2⟩
   ·have e:q+a-b=0:=by grind
    rw[e];grind
   ·grind
  have:=h _ hc k2
  rwa [show a-c-(q+a-b)=b-c-q by grind]at this
 ·have:=Pd.add j (h 0 d_ (by grind)) (qD (d:=u1) (x:=b-a-q) (by grind))
  rwa [show a-c-0+(b-a-q)=b-c-q by grind,cc]at this
theorem jI.sq{m u b u':Rat}(d:0<u)(h:jI m u b u'):Pd u ((m-b)*(m-b)+u-u') (-2*(m-b)):=by
 generalize i:m-b=δ
 by_cases e:Pd u (δ*δ+u-u') (-2*δ)
 ·exact e
 exfalso;obtain⟨r,r1,f⟩:=UH (a:=δ*δ+u) (c:=u') e;have g:Pd u (-δ* -δ+1*1*u) (2*(-δ*1)):=Sc d;have r0:0<=r:=by
  have:=Pd.add d f g;rw[show r-(δ*δ+u)+(-δ* -δ+1*1*u)=r by grind,show-(-2*δ)+2*(-δ*1)=0 by grind]at this;exact uD this
 obtain⟨q,q0,q1,j⟩:=Df r0 r1;have k:=h q q0 j;rw[show b-m-q= -δ-q by rw[<-i];grind]at k;have k2:=Pd.add d f (Dg d q0 k);rw[show r-(δ*δ+u)+(-δ* -δ+1*1*u-q*q)=r-q*q by grind,show-(-2*δ)+2*(-δ*1)=0 by grind]at k2;have:=uD k2
 grind
theorem aDp{d a b q:Rat}(c:0<d)(hq:0<=q)(f:Pd d a b)(h:Pd d (a*a+b*b*d-q*q) (2*(a*b))):Pd d (a-q) b:=by
 by_cases e:Pd d (a-q) b
 ·exact e
 exfalso;have hi:=Jy (d:=d) (p:=q-a) (q:=-b) (by rwa [show -(q-a)=a-q by grind,show- -b=b by grind]);have hn:=zu (d:=d) (p:=q-a) (q:=-b) (by rwa [show -(q-a)=a-q by grind,show- -b=b by grind]) c 1;generalize (gp 1 ⟨q-a,-b,d⟩).a=x,(gp 1 ⟨q-a,-b,d⟩).b=y at*;have k:=Pd.mul c h hi;obtain⟨n1,n2⟩:=Nl.mul c hn (a+q) b;have k2:=Pd.add c (Pd.add c k n1) f;have e1:(a*a+b*b*d-q*q)*x+2*(a*b)*y*d+((a+q)*((q-a)*x+-b*y*d-1)+b*((q-a)*y+x* -b)*d)+a= -q:=by grind
 have e2:(a*a+b*b*d-q*q)*y+x*(2*(a*b))+((a+q)*((q-a)*y+x* -b)+((q-a)*x+-b*y*d-1)*b)+b=0:=by grind
 rw[e1,e2]at k2;have:=uD k2;obtain rfl:q=0:=by grind
 exact e (by rwa [show a-0=a by grind])
theorem GB{d k a b:Rat}(c:0<d)(hk:0<=k)(h:Pd d a b):Pd d (k*a) (k*b):=by
 have:=Pd.mul c (qD (d:=d) hk) h
 rwa [show k*a+0*b*d=k*a by grind,show k*b+a*0=k*b by grind]at this
theorem jI.refl(m u:Rat):jI m u m u:=fun q _ hq=>by rw[show m-m-q= -q by grind];exact wV hq
theorem aF0{a o:Int}(b:a= -1\/a=0\/a=1)(h:gn a 1 o<0):a<0/\0<o:=by
 rw[gn]at h;rcases b with rfl|rfl|rfl<;>simp at h<;>omega
theorem aFY{a o:Int}(b:a= -1\/a=0\/a=1)(h:¬gn a 1 o<0):0<=a\/o<=0:=by
 rw[gn]at h;rcases b with rfl|rfl|rfl<;>simp at h<;>omega
theorem JB{i m n u v:Rat}(hi:0<i)(a:0<v):dS ⟨m*i, -i,u⟩ ⟨n*i, -i,v⟩=
 gn (cJ ⟨i*(m-n),i* -1,u⟩) 1 (cJ ⟨i*i*((m-n)*(m-n)+u-v),i*i*(-2*(m-n)),u⟩):=by
 rw[dS];dsimp only;rw[pj (show -i<0 by grind),jA a];rw[show m*i-n*i=i*(m-n)by grind,show -i=i* -1 by grind];rw[show i*(m-n)*(i*(m-n))+i* -1*(i* -1)*u-i* -1*(i* -1)*v=i*i*((m-n)*(m-n)+u-v)by grind,show 2*(i*(m-n)*(i* -1))=i*i*(-2*(m-n))by grind];rfl
theorem uE{d k a b:Rat}(f:0<d)(hk:0<k)(h:Pd d (k*a) (k*b)):Pd d a b:=by
 have c:k⁻¹*k=1:=by rw[db];exact b0 _ (by grind)
 have e:0<=k⁻¹:=by
  by_cases g:0<=k⁻¹
  ·exact g
  ·have:=jZ (a:=-k⁻¹) (b:=k) (by grind) hk;grind
 have:=GB f e h
 rwa [show k⁻¹*(k*a)=a by rw[<-c9,c,dp],show k⁻¹*(k*b)=b by rw[<-c9,c,dp]]at this
theorem aCl{i m n u v:Rat}(hi:0<i)(a:0<u)(e:0<v)(h:dS ⟨m*i,-i,u⟩ ⟨n*i,-i,v⟩<0):jI m u n v:=by
 rw[JB hi e]at h;obtain⟨b,c⟩:=aF0 (rz _) h;have k1:=(qA a).1 (a8 b);rw[show -(i*(m-n))=i*(n-m)by grind,show -(i* -1)=i*1 by grind]at k1;have k1:=uE a hi k1;have k2:=uE a (jZ hi hi) ((nV a).1 (a8 c));intro q q0 f;refine aDp a q0 k1 ?_;have:=Pd.add a k2 (qD (d:=u) (x:=v-q*q) (by grind))
 rwa [show(m-n)*(m-n)+u-v+(v-q*q)=(n-m)*(n-m)+1*1*u-q*q by grind,show -2*(m-n)+0=2*((n-m)*1)by grind]at this
theorem aBV{i m n u v:Rat}(hi:0<i)(c:0<u)(f:0<v)(h:¬dS ⟨m*i,-i,u⟩ ⟨n*i,-i,v⟩<0):jI n v m u:=by
 rw[JB hi f]at h;intro q q0 j
 by_cases hc:0<=m-n-q
 ·have:=Pd.add f (qD (d:=v) hc) (wV (d:=v) (q:=0) (by grind))
  rwa [show m-n-q+-0=m-n-q by grind,Rat.zero_add]at this
 have g:Pd u (-q) 1:=wV j;rcases aFY (rz _) h with e|e
 ·have k1:=Pd.add c (uE c hi ((nV c).1 e)) g;rw[show(-1:Rat)+1=0 by grind]at k1;have:=uD k1
  grind
 ·have k1:=(qA c).1 e;rw[show -(i*i*((m-n)*(m-n)+u-v))=i*i*(v-((m-n)*(m-n)+u))by grind,show -(i*i*(-2*(m-n)))=i*i*(2*(m-n))by grind]at k1;have k1:=uE c (jZ hi hi) k1;have k2:=Dg (a:=-(m-n)) (b:=1) (q:=q-(m-n)) c (by grind) (by rw[show -(m-n)-(q-(m-n))= -q by grind];exact g);have k3:=Pd.add c k1 k2;rw[show v-((m-n)*(m-n)+u)+(-(m-n)* -(m-n)+1*1*u-(q-(m-n))*(q-(m-n)))=v-(q-(m-n))*(q-(m-n))by grind,show 2*(m-n)+2*(-(m-n)*1)=0 by grind]at k3;have:=uD k3;rw[show m-n-q= -(q-(m-n))by grind];exact wV (by grind)
theorem azZ{m u n v x:Rat}(c:0<u)(e:0<v)(a:Pd u (x-m) 1)(b:Pd v (n-x) (-1)):jI m u n v:=by
 intro q q0 f;have k:=Pd.add e b (wV f);rw[show(-1:Rat)+1=0 by grind]at k;have k:=uD k;have:=Pd.add c a (qD (d:=u) (x:=n-x-q) (by grind))
 rwa [show x-m+(n-x-q)=n-m-q by grind,cc]at this
def mK(b:ai)(i:Nat)(d:V2)(k:Nat):Rat:=(bA b i k).dot d
def uK(t b:ai)(i:Nat)(d:V2)(k:Nat):Rat:=dC t.aI (bA b i k) d
theorem mi(t b:ai)(i:Nat)(d:V2)(k:Nat):fS t b i d k=⟨mK b i d k*(d.dot d)⁻¹,-(d.dot d)⁻¹,uK t b i d k⟩:=by
 rw[fS,xe,b1];rfl
theorem inv_pos{k:Rat}(hk:0<k):0<k⁻¹/\k*k⁻¹=1:=by
 have c:k*k⁻¹=1:=b0 _ (by grind);refine⟨?_,c⟩
 by_cases d:0<k⁻¹
 ·exact d
 ·have:=fj (a:=k) (b:=-k⁻¹) (by grind) (by grind);grind
theorem uC{t b:ai}{i k:Nat}{d:V2}(h:mE t.aI (bA b i k) d=true):0<mK b i d k/\0<uK t b i d k:=by
 rw[mE,a6,decide_eq_true_eq,decide_eq_true_eq]at h;have pos:∀{x:Rat},0<bL x->0<x:=fun{x} h=>by
  by_cases a:0<x
  ·exact a
  ·have:=aF3.2 (show x<=0 by grind);omega
 exact⟨pos h.1,pos h.2⟩
theorem wU{t b:ai}{i k:Nat}{d:V2}{e:Rat}(h:iQ t b i d e k=true):k≠i/\mE t.aI (bA b i k) d=true/\dS (fS t b i d k) ⟨e,0,0⟩<0:=by
 simpa[iQ,and_assoc]using h
theorem Di{t b:ai}{i:Nat}{d:V2}{e:Rat}(hz:0<d.dot d):∀m,(fZ t b i d e m=none->∀k,k<m->iQ t b i d e k=false)/\
 (∀j,fZ t b i d e m=some j->iQ t b i d e j=true/\∀k,k<m->k≠i->mE t.aI (bA b i k) d=true->jI (mK b i d j) (uK t b i d j) (mK b i d k) (uK t b i d k))
 |0=>⟨fun _ k hk=>absurd hk o_,fun j h=>by simp[fZ]at h⟩
 |m+1=>by
  obtain⟨v,o⟩:=Di (t:=t) (b:=b) (i:=i) (d:=d) (e:=e) hz m;obtain⟨i0,i1⟩:=inv_pos hz;rw[C4,wQ.eq_def];have far:∀{j k:Nat},iQ t b i d e j=true->iQ t b i d e k=false->k≠i->mE t.aI (bA b i k) d=true->jI (mK b i d j) (uK t b i d j) (mK b i d k) (uK t b i d k):=by
   intro j k c hk f a;obtain⟨_,z,q⟩:=wU c;have n:=(uC z).2;have r:=(uC a).2;have k2:¬dS (fS t b i d k) ⟨e,0,0⟩<0:=by
    intro l;rw[iQ,a,decide_eq_true f,decide_eq_true l]at hk;cases hk
   rw[HU,mi,GF]at q k2;dsimp only at q k2;have a1:=(qA n).1 (a8 q);have y:=(nV r).1 (a7.1 k2);refine azZ (x:=e*d.dot d) n r (uE n i0 ?_) (uE r i0 ?_)
   ·rwa [show -(mK b i d j*(d.dot d)⁻¹ -e)=(d.dot d)⁻¹*(e*d.dot d-mK b i d j)by grind,show- -(d.dot d)⁻¹=(d.dot d)⁻¹*1 by grind]at a1
   ·rwa [show mK b i d k*(d.dot d)⁻¹ -e=(d.dot d)⁻¹*(mK b i d k-e*d.dot d)by grind,show -(d.dot d)⁻¹=(d.dot d)⁻¹* -1 by grind]at y
  by_cases hc:iQ t b i d e m=true
  ·rw[if_pos hc];obtain⟨_,m1,_⟩:=wU hc;cases u:fZ t b i d e m with
   |none=>
    refine⟨fun h=>(by cases h),fun j c=>?_⟩;obtain rfl:m=j:=by simpa using c
    refine⟨hc,fun k hk f a=>?_⟩
    by_cases g:k=m
    ·subst g;exact jI.refl _ _
    ·exact far hc (v u k o_) f a
   |some p=>
    dsimp only;obtain⟨q1,w⟩:=o p u;obtain⟨_,A,_⟩:=wU q1;have s:=(uC m1).2;have n:=(uC A).2
    by_cases l:dS (fS t b i d m) (fS t b i d p)<0
    ·rw[if_pos l];refine⟨fun h=>(by cases h),fun j c=>?_⟩;obtain rfl:m=j:=by simpa using c
     refine⟨hc,fun k hk f a=>?_⟩
     by_cases g:k=m
     ·subst g;exact jI.refl _ _
     ·rw[mi,mi]at l;exact jI.trans s n (aCl i0 s n l) (w k o_ f a)
    ·rw[if_neg l];refine⟨fun h=>(by cases h),fun j c=>?_⟩;obtain rfl:p=j:=by simpa using c
     refine⟨q1,fun k hk f a=>?_⟩
     by_cases g:k=m
     ·subst g;rw[mi,mi]at l;exact aBV i0 s n l
     ·exact w k o_ f a
  ·rw[if_neg hc];refine⟨fun h k hk=>?_,fun j c=>⟨(o j c).1,fun k hk f a=>?_⟩⟩
   ·by_cases g:k=m
    ·subst g;simpa using hc
    ·exact v h k o_
   ·by_cases g:k=m
    ·subst g;exact far (o j c).1 (by simpa using hc) f a
    ·exact(o j c).2 k o_ f a
def iO(b:ai)(i k:Nat)(d:V2)(s:S3):P4:=⟨⟨(vP (b.sp i).pt).x+s.a*d.x-(vP (b.sp k).pt).x,s.b*d.x,s.d⟩,⟨(vP (b.sp i).pt).y+s.a*d.y-(vP (b.sp k).pt).y,s.b*d.y,s.d⟩⟩
theorem J0(t b:ai)(i j k:Nat)(d:V2)(hz:0<d.dot d):(iO b i k d (fS t b i d j)).jf=
 ⟨bR t.aI+(d.dot d)⁻¹*((mK b i d j-mK b i d k)*(mK b i d j-mK b i d k)+uK t b i d j-uK t b i d k),(d.dot d)⁻¹*(-2*(mK b i d j-mK b i d k)),uK t b i d j⟩:=by
 obtain⟨i0,i1⟩:=inv_pos hz;have e1:uK t b i d k=mK b i d k*mK b i d k-d.dot d*((bA b i k).dot (bA b i k)-bR t.aI):=rfl;have e2:mK b i d k=(bA b i k).x*d.x+(bA b i k).y*d.y:=rfl;have e3:(bA b i k).dot (bA b i k)=(bA b i k).x*(bA b i k).x+(bA b i k).y*(bA b i k).y:=rfl;have e4:d.dot d=d.x*d.x+d.y*d.y:=rfl;have x1:(bA b i k).x=(vP (b.sp k).pt).x-(vP (b.sp i).pt).x:=rfl;have y1:(bA b i k).y=(vP (b.sp k).pt).y-(vP (b.sp i).pt).y:=rfl;rw[mi,P4.jf,iO];dsimp only[S3.mul,S3.add];generalize (d.dot d)⁻¹=q at*;generalize uK t b i d j=u,mK b i d j=m,bR t.aI=F,(bA b i k).dot (bA b i k)=ww,uK t b i d k=v,d.dot d=D,(bA b i k).x=a,(bA b i k).y=c,mK b i d k=n at*;rw[show(vP (b.sp i).pt).x+m*q*d.x-(vP (b.sp k).pt).x=m*q*d.x-a by grind,show(vP (b.sp i).pt).y+m*q*d.y-(vP (b.sp k).pt).y=m*q*d.y-c by grind];generalize d.x=e,d.y=f at*;congr 1
 ·subst e1 e2 e3 e4;grind
 ·subst e1 e2 e3 e4;grind
theorem UJ{t b:ai}{aU:List Nat}{i j k:Nat}{d:V2}{e:Rat}(h:oY t b aU i)(hz:0<d.dot d)(p:some j=fZ t b i d e b.ar.length)(hk:k<b.ar.length)(o:k≠i):
 0<=dS (iO b i k d (fS t b i d j)).jf ⟨bR t.aI,0,0⟩/\(k=j->dS (iO b i k d (fS t b i d j)).jf ⟨bR t.aI,0,0⟩=0):=by
 obtain⟨hc,s⟩:=(Di (t:=t) (b:=b) (i:=i) (d:=d) (e:=e) hz b.ar.length).2 j p.symm;obtain⟨y,A,_⟩:=wU hc;obtain⟨H,c⟩:=uC A;obtain⟨i0,i1⟩:=inv_pos hz;have r:=(qC _ _ _ _ _ _ _ p.symm).1;rw[J0 t b i j k d hz,HU,GF];dsimp only;rw[show∀x:Rat,bR t.aI+x-bR t.aI=x by intro x;grind];refine⟨(nV c).2 (GB c (b2 i0) ?_),fun e=>?_⟩
 case refine_2=>
  subst e;rw[show mK b i d k-mK b i d k=0 by grind,show(0:Rat)*0+uK t b i d k-uK t b i d k=0 by grind,cx,cx,cx];rw[cJ];dsimp only;rw[mT,be,Sq]
 have apart:∀{x:Nat},x<b.ar.length->x≠i->uK t b i d x<=mK b i d x*mK b i d x:=by
  intro x hx w;have f:=h.ap x hx w;have e1:fu t.aI (vP (b.sp x).pt) (vP (b.sp i).pt)=cT ((bA b i x).dot (bA b i x)) (bR t.aI):=rfl;rw[e1]at f;have D:=zw.1 (a7.1 f);have E:=fj (a:=d.dot d) (b:=(bA b i x).dot (bA b i x)-bR t.aI) (by grind) (by grind);have e2:uK t b i d x=mK b i d x*mK b i d x-d.dot d*((bA b i x).dot (bA b i x)-bR t.aI):=rfl;rw[e2];grind
 by_cases l:mE t.aI (bA b i k) d=true
 ·exact jI.sq c (s k hk o l)
 have G:=apart hk o;have F:=apart r y;have hn:mK b i d k<=0\/uK t b i d k<=0:=by
  rcases dg (a:=mK b i d k) (b:=0)with g|g
  ·exact .inl g
  rcases dg (a:=uK t b i d k) (b:=0)with g2|g2
  ·exact .inr g2
  by_cases z1:mK b i d k=0
  ·exact .inl (by grind)
  by_cases z2:uK t b i d k=0
  ·exact .inr (by grind)
  refine absurd ?_ l;rw[mE];have B:bL ((bA b i k).dot d)=1:=jA (show 0<mK b i d k by grind);have C:bL (dC t.aI (bA b i k) d)=1:=jA (show 0<uK t b i d k by grind);rw[B,C];rfl
 generalize mK b i d j=m,uK t b i d j=u,mK b i d k=n,uK t b i d k=v at*;rcases hn with hn|hn
 ·
  have y0:Pd u m (-1):=.inl ⟨by grind,by grind⟩;have z:=Dg (d:=u) (a:=m-n) (b:=-1) (q:=-n) c (by grind) (by rwa [show m-n- -n=m by grind]);have:=Pd.add c z (qD (d:=u) (x:=n*n-v) (by grind))
  rwa [show(m-n)*(m-n)+-1* -1*u- -n* -n+(n*n-v)=(m-n)*(m-n)+u-v by grind,show 2*((m-n)* -1)+0= -2*(m-n)by grind]at this
 ·have:=Pd.add c (Sc (d:=u) (a:=m-n) (b:=-1) c) (qD (d:=u) (x:=-v) (by grind))
  rwa [show(m-n)*(m-n)+-1* -1*u+-v=(m-n)*(m-n)+u-v by grind,show 2*((m-n)* -1)+0= -2*(m-n)by grind]at this
def gE(t b:ai)(i:Nat)(d:bS)(j:Nat):NB:=(bN t b i d j).bI
theorem zH(t b:ai)(i:Nat)(d:bS)(j:Nat):(bN t b i d j).w.q=bA b i j:=by
 show((NV.from (b.sp j).pt).sub (.from (b.sp i).pt)).q=_;rw[NV.dW];rfl
theorem wR(t b:ai)(i:Nat)(d:bS)(j:Nat):(bN t b i d j).root.q=dC t.aI (bA b i j) (vP d):=by
 have:=uv t b i d j;rw[NS.q,fS,xe]at this;injection this
theorem J5(m:NM):m.bI.a.q=gG m.w.q m.d.q:=by
 rw[NM.bI];dsimp only;rw[NV.dW,NV.wK];show V2.sub m.w.q (V2.mul m.d.q (m.w.q.dot m.d.q/m.d.q.dot m.d.q))=_;rw[V2.sub,V2.mul,gG];dsimp only;rw[b1,b1,b1];congr 1<;>grind
theorem J4(m:NM):m.bI.b.q=gL m.d.q:=rfl
theorem qz(t b:ai)(i:Nat)(d:bS)(j:Nat):(gE t b i d j).a.q=gG (bA b i j) (vP d):=by
 rw[gE,J5,zH];rfl
theorem sc(t b:ai)(i:Nat)(d:bS)(j:Nat):(gE t b i d j).b.q=gL (vP d):=rfl
theorem rZ(t b:ai)(i:Nat)(d:bS)(j:Nat):(gE t b i d j).d.q=dC t.aI (bA b i j) (vP d):=wR t b i d j
theorem aAf(t b:ai)(i:Nat)(d:bS)(j:Nat):(gE t b i d j).q=ga t.aI (bA b i j) (vP d):=by
 have a:=qz t b i d j;have c:=sc t b i d j;have e:=rZ t b i d j;rw[NB.q,ga,<-a,<-c,<-e];rfl
structure mv(t b:ai)(i:Nat)(d:bS)(j:Nat):Prop where
 S:Sz t t.aI (bA b i j) (vP d) (vP (b.sp j).pt)
 u:0<dC t.aI (bA b i j) (vP d)
 rp:1<=t.aI
 jl:j<b.ar.length
 three:3<=t.cs.length
 cl:t.cs.length<=1000000
 cv:t.fF=true
theorem IV{t b:ai}{aU:List Nat}{d:bS}{i j:Nat}{x:XD}{e:Rat}(h:tL t b aU d i x e)(g:some j=fZ t b i (vP d) e b.ar.length):mv t b i d j:=by
 obtain⟨c,hc⟩:=qC _ _ _ _ _ _ _ g.symm;obtain⟨r0,r1⟩:=uu h.C.kM;obtain⟨n1,n2,hn,f⟩:=wF h.C.kM;rw[iQ,a6,a6,mE,a6,decide_eq_true_eq,decide_eq_true_eq]at hc;have a:=hc.2.1.2;have k:0<dC t.aI (bA b i j) (vP d):=by
  rw[bL]at a;generalize dC t.aI (bA b i j) (vP d)=u at*
  split at a
  ·exact absurd a d_
  ·split at a
   ·exact absurd a d_
   ·grind
 exact⟨⟨hn,o_,o_,gY (h.C.at c).2 (h.C.at h.C.ci.2.1).2,h.dk,(h.C.at c).2,h.nz⟩,k,r0,c,n1,h.C.tl,f⟩
theorem mv.okB{t b:ai}{i j:Nat}{d:bS}(h:mv t b i d j):okB 900 (gE t b i d j):=
 ⟨by rw[qz];exact(IH h.S.ow h.S.od).mono d_,by rw[sc];exact(IG h.S.od).mono d_,by rw[rZ];exact(Iv h.S.r0 h.S.r1 h.S.ow h.S.od).mono d_⟩
theorem mv.end{t b:ai}{i j:Nat}{d:bS}(h:mv t b i d j):∃k c l,k<t.cs.length/\0<cJ (gO t (gG (bA b i j) (vP d)) (gL (vP d)) (dC t.aI (bA b i j) (vP d)) k)/\
 t.fL (.from (b.sp j).pt) (gE t b i d j) t.cs.length=c::l/\jk c l=t.ct (.from (b.sp j).pt) (gE t b i d j) k/\
 vT t (vP (b.sp j).pt) (gG (bA b i j) (vP d)) (gL (vP d)) (dC t.aI (bA b i j) (vP d)) t.cs.length=some k:=by
 have g:0<(gE t b i d j).d.q:=by rw[rZ];exact h.u
 have f:=ID t (.from (b.sp j).pt) (gE t b i d j) g t.cs.length;have m:(0:Rat)<bR t.aI:=by
  have r:=Db h.rp;have s:(0:Rat)<=bR t.aI:=by
   rw[bR];have:=(yc h.S.r0 h.S.r1).1;exact Rat.intCast_nonneg.2 this
  grind
 obtain⟨i0,o,p⟩:=Ut t (gE t b i d j).a.q (gE t b i d j).b.q g h.three h.cv m (by rw[qz,sc,rZ];exact Uo t.aI _ _ h.S.hz) (by rw[qz,sc];exact Up _ _ h.S.hz);have n:t.fL (.from (b.sp j).pt) (gE t b i d j) t.cs.length≠[]:=by
  intro e;rw[ai.fL,List.map_eq_nil_iff,List.filter_eq_nil_iff]at e;exact e i0 (List.mem_range.2 o) (by rw[Iz];exact decide_eq_true p)
 rw[qz,sc,rZ,gH]at f;generalize t.fL (.from (b.sp j).pt) (gE t b i d j) t.cs.length=L at*;cases L with
 |nil=>exact absurd rfl n
 |cons c l=>
  obtain⟨k,a1,a2,a3,a4⟩:=f;exact⟨k,c,l,a1,a2,rfl,a3,a4⟩
theorem Ux{t b:ai}{i j:Nat}{d:bS}(h:mv t b i d j):aq prog 59 [jB (bN t b i d j)] (lW (gE t b i d j)):=
 JA (bN t b i d j) (by rw[zH];exact h.S.ow.mono d_) (by show bd 100 (NV.from d).q;rw[gH];exact h.S.od.mono d_) h.S.hz
theorem JZ(t:ai)(p:NV)(n:NB)(k:Nat):(t.ct p n k).s.q=gO t n.a.q n.b.q n.d.q k:=zm t n k
theorem mv.far{t b:ai}{i j k:Nat}{d:bS}(h:mv t b i d j)(_hk:k<t.cs.length):
 ((t.ct (.from (b.sp j).pt) (gE t b i d j) k).s.under (t.ct (.from (b.sp j).pt) (gE t b i d j) k).g).q=jD t (vP (b.sp j).pt) (gG (bA b i j) (vP d)) (gL (vP d)) (dC t.aI (bA b i j) (vP d)) k:=by
 rw[aHK,Da,JZ,qz,sc,rZ,gH,jD]
theorem mv.norm{t b:ai}{i j k:Nat}{d:bS}(h:mv t b i d j)(hs:0<cJ (gO t (gG (bA b i j) (vP d)) (gL (vP d)) (dC t.aI (bA b i j) (vP d)) k)):
 (t.ct (.from (b.sp j).pt) (gE t b i d j) k).s.norm.q=0->(t.ct (.from (b.sp j).pt) (gE t b i d j) k).s.a.q≠0:=by
 have hq:(t.ct (.from (b.sp j).pt) (gE t b i d j) k).s.q=gO t (gG (bA b i j) (vP d)) (gL (vP d)) (dC t.aI (bA b i j) (vP d)) k:=by rw[JZ,qz,sc,rZ]
 rw[<-hq]at hs;have g:0<(t.ct (.from (b.sp j).pt) (gE t b i d j) k).s.q.d:=by rw[hq];exact h.u
 generalize (t.ct (.from (b.sp j).pt) (gE t b i d j) k).s=s at*;intro hn;have f:s.q.a*s.q.a-s.q.b*s.q.b*s.q.d=0:=hn▸(show s.q.a*s.q.a-s.q.b*s.q.b*s.q.d=s.norm.q from(NF.dW (s.a.mul s.a) ((s.b.mul s.b).mul s.d)).symm);have c:0<s.a.q:=(C2 ((C8 g).1 hs) f).1;intro e;rw[e]at c;exact absurd c d_
theorem mv.nM{t b:ai}{i j k:Nat}{d:bS}(h:mv t b i d j)(hk:k<t.cs.length):nM (t.ct (.from (b.sp j).pt) (gE t b i d j) k):=
 zf h.cl h.S.hn (by rw[gH];exact h.S.op.mono d_) h.okB hk
theorem azq(t b:ai)(i:Nat)(d:bS)(j:Nat):((bN t b i d j).aU (.width t.aI)).q=jt t.aI (bA b i j) (vP d):=by
 have g:=wR t b i d j;have e:=qz t b i d j;rw[gE]at e;rw[NM.aU,jt,nW,nW,<-g];have k:∀c:NV,(V2.mk c.x.q c.y.q)=c.q:=fun _=>rfl;have hx:(bN t b i d j).bI.a.x.q=(bA b i j).x-(bA b i j).dot (vP d)*(vP d).x/(vP d).dot (vP d):=congrArg V2.x e;have h:(bN t b i d j).bI.a.y.q=(bA b i j).y-(bA b i j).dot (vP d)*(vP d).y/(vP d).dot (vP d):=congrArg V2.y e;rw[<-hx,<-h,NB.q];dsimp only;have e1:(((bN t b i d j).d.sub ((bN t b i d j).bI.b.times ((bN t b i d j).root.div (.width t.aI)))).q)=(vP d).sub ((gL (vP d)).mul ((bN t b i d j).root.q/bR t.aI)):=by
  rw[NV.dW,NV.wK,J4];rfl
 have ex:=congrArg V2.x e1;have f:=congrArg V2.y e1;have inv:((bR t.aI)*(vP d).dot (vP d))⁻¹=(bR t.aI)⁻¹*((vP d).dot (vP d))⁻¹:=by
  rw[Rat.inv_mul_rev,db]
 show P4.mk (S3.mk ((((bN t b i d j).d.sub ((bN t b i d j).bI.b.times ((bN t b i d j).root.div (.width t.aI)))).q).x) ((bN t b i d j).bI.a.x.q* -(bR t.aI)⁻¹) (bN t b i d j).root.q) (S3.mk ((((bN t b i d j).d.sub ((bN t b i d j).bI.b.times ((bN t b i d j).root.div (.width t.aI)))).q).y) ((bN t b i d j).bI.a.y.q* -(bR t.aI)⁻¹) (bN t b i d j).root.q)=_;rw[ex,f];simp only[V2.sub,V2.mul,gL,b1,inv];congr 2<;>grind
theorem UQ(t b:ai)(aU:List Nat)(d:bS)(i j:Nat)(x:XD)(e:Rat)(H:jJ t)(F:jK b)(G:jF d)(B:pc t b aU d=0)(h:tL t b aU d i x e)(v:some j=fZ t b i (vP d) e b.ar.length):
 aq prog 12 [b7 t,.seq (b.ar.map bG),.str aU,dA d] (.aD [nI (ga t.aI (bA b i j) (vP d)),nI (jt t.aI (bA b i j) (vP d)),.int .i64 0]):=by
 have c:=IV h v;have k1:=zE t b aU d i x e H F G B h _ v;have k2:=Ux c;have f:=qP c.S.r0 c.S.r1;have ow:=c.S.ow;have od:=c.S.od;have I:=fe ow od;have o:=fe od od;have g:=Iv c.S.r0 c.S.r1 ow od;have l:=IH ow od;have m:=IG od;have k4:=aeP (bN t b i d j) (.width t.aI) (by rw[zH];exact ow.mono d_) (by show bd 100 (NV.from d).q;rw[gH];exact od.mono d_) c.S.hz (by rw[wR];exact g.mono d_) f (Db c.rp);have q4:=azq t b i d j;have z:okB kB ((bN t b i d j).aU (.width t.aI)):=by
  refine⟨?_,?_,?_⟩
  ·show bd kB ((bN t b i d j).d.sub ((bN t b i d j).bI.b.times ((bN t b i d j).root.div (.width t.aI)))).q;rw[NV.dW,NV.wK,J4];have D:aQ 776 (bN t b i d j).root.q:=by rw[wR];exact g
   have E:aQ 818 ((bN t b i d j).root.div (.width t.aI)).q:=zD (y:=.width t.aI) D f;exact(gY (show bd 30 (bN t b i d j).d.q from od) (CI (show bd 151 (gL (bN t b i d j).d.q)from m) E)).mono d_
  ·show bd kB ((bN t b i d j).bI.a.times (NF.width t.aI).inv.neg).q;have r:bd 396 (bN t b i d j).bI.a.q:=by rw[J5,zH];exact l
   exact(show bd 438 _ from⟨dJ r.1 (rU (se (x:=.width t.aI) f)),dJ r.2 (rU (se (x:=.width t.aI) f))⟩).mono d_
  ·show aQ kB (bN t b i d j).root.q;rw[wR];exact g.mono d_
 have k3:=FW (gE t b i d j) (c.okB.mono d_);have k5:=FW ((bN t b i d j).aU (.width t.aI)) z;have A:=aAf t b i d j;rw[A]at k3;rw[q4]at k5;have s:rI (ga t.aI (bA b i j) (vP d))=false:=by
  rw[rI,lg,lg,ga];dsimp only;rw[jz (l.1.mono d_),jz (l.2.mono d_),jz (m.1.mono d_),jz (m.2.mono d_),jz (g.mono d_)];rfl
 have u:rI (jt t.aI (bA b i j) (vP d))=false:=by
  have g1:=fA od.1 (iK (bC od.1 g) (bC f o));have g2:=fA od.2 (iK (bC od.2 g) (bC f o));have g3:=kU (iK l.1 f);have p:=kU (iK l.2 f);simp only[gG]at g3 p;rw[rI,lg,lg,jt,nW,nW];dsimp only;rw[jz (g1.mono d_),jz (g2.mono d_),jz (g3.mono d_),jz (p.mono d_),jz (g.mono d_)];rfl
 rw[s,if_neg d_]at k3;rw[u,if_neg d_]at k5;have k6:=DA [0,0] s_;rw[show bJ [0,0]=0 by decide]at k6;simp only[List.map_cons,List.map_nil]at k6;rw[show vZ (some j)=0 from rfl,kt,lj]at k1;have k:aL (jB (bN t b i d j))=.agg 121:=Dc _;have J:bW (jB (bN t b i d j))=[cM (bN t b i d j).w,cM (bN t b i d j).d,eF (bN t b i d j).root]:=rfl;clear s u A q4 z f ow od I o g l m c h;generalize ga t.aI (bA b i j) (vP d)=P,jt t.aI (bA b i j) (vP d)=Q,(bN t b i d j).aU (.width t.aI)=C,gE t b i d j=n,jB (bN t b i d j)=M at*;refine gA_ nf func12 mix ?_;simp[f12,ad];refine c4_ k1 ?_;simp[k,ad];refine c1_ k2 ?_;simp[k,ad];refine c1_ k3 ?_;simp[k,ad];refine c2_ k4 ?_;simp[k,ad];refine c1_ k5 ?_;simp[k,ad];refine cp k6 t_ ?_;simp[k,ad]
theorem S3.ext'{a b c a' b' c':Rat}(d:a=a')(e:b=b')(f:c=c'):(⟨a,b,c⟩:S3)=⟨a',b',c'⟩:=by rw[d,e,f]
theorem J7{r:Int}{w d:V2}(hz:d.dot d≠0):P4.dot d (ga r w d)=⟨0,1,dC r w d⟩:=by
 have hq:=b0 _ hz;have e1:w.dot d=w.x*d.x+w.y*d.y:=rfl;have e2:d.dot d=d.x*d.x+d.y*d.y:=rfl;rw[P4.dot,ga,gG,gL];dsimp only[S3.times,S3.add];simp only[b1];generalize (d.dot d)⁻¹=q at*;generalize d.dot d=dd,w.dot d=m,dC r w d=u at*;exact S3.ext' (by subst e1 e2;grind) (by subst e2;grind) rfl
theorem J6{r:Int}{w d:V2}(hz:d.dot d≠0):(ga r w d).jf=⟨bR r,0,dC r w d⟩:=by
 have hq:=b0 _ hz;have e1:w.dot d=w.x*d.x+w.y*d.y:=rfl;have e2:d.dot d=d.x*d.x+d.y*d.y:=rfl;have e3:dC r w d=w.dot d*w.dot d-d.dot d*(w.x*w.x+w.y*w.y-bR r):=rfl;rw[P4.jf,ga,gG,gL];dsimp only[S3.mul,S3.add];simp only[b1];generalize (d.dot d)⁻¹=q at*;generalize d.dot d=dd,w.dot d=m,dC r w d=u,bR r=F at*;refine S3.ext' ?_ ?_ rfl
 ·subst e3;have a:(w.x-m*d.x*q)*(w.x-m*d.x*q)+(w.y-m*d.y*q)*(w.y-m*d.y*q)=w.x*w.x+w.y*w.y-m*m*q:=by
   have:(d.x*d.x+d.y*d.y)*q=1:=by rw[<-e2];exact hq
   subst e1;grind
  have b:d.x*q*(d.x*q)+d.y*q*(d.y*q)=q:=by
   have:(d.x*d.x+d.y*d.y)*q=1:=by rw[<-e2];exact hq
   grind
  grind
 ·have:(d.x*d.x+d.y*d.y)*q=1:=by rw[<-e2];exact hq
  subst e1;grind
theorem UZ{r:Int}{w d:V2}(hz:d.dot d≠0)(b:bR r≠0):((ga r w d).x.mul (jt r w d).x).add ((ga r w d).y.mul (jt r w d).y)=⟨0,0,dC r w d⟩:=by
 have hn:=J6 (r:=r) (w:=w) hz;have a:=J7 (r:=r) (w:=w) hz;have hf:=b0 _ b;have hq:=b0 _ hz;have i:(bR r*d.dot d)⁻¹=(bR r)⁻¹*(d.dot d)⁻¹:=by
  have j:bR r*d.dot d≠0:=fun e=>(b3.1 e).elim b hz;have:=b0 _ j;generalize (bR r*d.dot d)⁻¹=g at*;generalize (bR r)⁻¹=f at*;generalize (d.dot d)⁻¹=q at*
  grind
 rw[P4.jf,ga,gG,gL]at hn;rw[P4.dot,ga,gG,gL]at a;rw[ga,gG,gL,jt,nW,nW];dsimp only[S3.mul,S3.add,S3.times]at hn a⊢;simp only[b1,i]at hn a⊢;injection hn with n1 n2 _
 injection a with d1 d2 _
 generalize (bR r)⁻¹=f at*;generalize (d.dot d)⁻¹=q at*;generalize w.dot d=m,dC r w d=u,bR r=F,d.dot d=dd at*;generalize w.x-m*d.x*q=c,w.y-m*d.y*q=h at*;refine S3.ext' ?_ ?_ rfl
 ·have k:c*(d.x*q)+h*(d.y*q)=0:=by grind
  grind
 ·grind
theorem U0{r:Int}{w d:V2}(hz:d.dot d≠0)(a:bR r≠0):
 (S3.times (bR r) (jt r w d).x).add ((ga r w d).x.mul ⟨0,1,dC r w d⟩)=⟨bR r*d.x,0,dC r w d⟩/\
 (S3.times (bR r) (jt r w d).y).add ((ga r w d).y.mul ⟨0,1,dC r w d⟩)=⟨bR r*d.y,0,dC r w d⟩:=by
 have hf:=b0 _ a;have b:(bR r*d.dot d)⁻¹=(bR r)⁻¹*(d.dot d)⁻¹:=by
  have c:bR r*d.dot d≠0:=fun e=>(b3.1 e).elim a hz;have:=b0 _ c;have hq:=b0 _ hz;generalize (bR r*d.dot d)⁻¹=g at*;generalize (bR r)⁻¹=f at*;generalize (d.dot d)⁻¹=q at*
  grind
 rw[ga,gG,gL,jt,nW,nW];dsimp only[S3.mul,S3.add,S3.times];simp only[b1,b];generalize (bR r)⁻¹=f at*;generalize (d.dot d)⁻¹=q at*;generalize w.dot d=m,dC r w d=u,bR r=F at*;generalize w.x-m*d.x*q=h,w.y-m*d.y*q=i at*;exact⟨S3.ext' (by grind) (by grind) rfl,S3.ext' (by grind) (by grind) rfl⟩
theorem zC{s:List Nat}{d D:Nat}(h:eH s d=true)(a:d<=D):eH s D=true:=by
 simp only[eH,a6,decide_eq_true_eq]at h⊢;omega
theorem UI{t b:ai}{n N d D:Nat}(h:mJ t b n d=true)(hn:n<=N)(a:d<=D):mJ t b N D=true:=by
 have e:∀p:bS,mL p d=true->mL p D=true:=fun p h=>by
  rw[mL,a6]at h⊢;exact⟨zC h.1 a,zC h.2 a⟩
 simp only[mJ,qp,a6,bw,decide_eq_true_eq,Bool.not_eq_true',Bool.or_eq_false_iff,Bool.and_eq_false_iff,decide_eq_false_iff_not]at h⊢;obtain⟨a1,⟨⟨a2,a3⟩,a4⟩,a5,i,j,c,a9,g⟩:=h;refine⟨a1,⟨⟨.inl o_,a3⟩,a4⟩,o_,i,j,fun p f=>?_,fun s hs=>e _ (a9 s hs),fun s hs=>e _ (g s hs)⟩;exact⟨zC (c p f).1 a,zC (c p f).2 a⟩
theorem UO{b:ai}{n:List Nat}{i:Nat}(h:hasB b n i):(b.sp i).name=n:=by
 have:=h.2.2;rw[fO]at this;simpa using List.find?_some this
def yL(t b:ai)(aU bI:List Nat)(n D:Nat):Bool:=decide (aU.length<=40)&&(decide (bI.length<=40)&&(mJ t b n D&&decide (rW t b aU bI=0)))
theorem ZX(t b:ai)(aU bI:List Nat)(n D:Nat)(i:jJ t)(h:jK b)(hn:n<=1000)(j:D<=1000):aq prog 4 [rY t b aU bI,.int .i64 n,.int .i64 D] (.bool (yL t b aU bI n D)):=by
 have d:=ZW t b n D i h hn j;have k:=Ua t b aU bI i h;refine gA_ nf func4 mix ?_;rw[yL];generalize rW t b aU bI=e at*
 by_cases a1:aU.length<=40
 case neg=>
  have a:¬(aU.length:Int)<=40:=o_
  simp[f4,a1,a,ad]
 have a:(aU.length:Int)<=40:=o_
 by_cases a2:bI.length<=40
 case neg=>
  have c:¬(bI.length:Int)<=40:=o_
  simp[f4,a2,a,c,ad]
 have c:(bI.length:Int)<=40:=o_
 cases f:mJ t b n D
 ·rw[f]at d;simp[f4,a,c,ad];refine c4_ d ?_;simp[ad]
 rw[f]at d;simp[f4,a,c,ad];refine c4_ d ?_;simp[ad];refine c1_ k ?_
 by_cases g:e=0
 ·simp[g,a1,a2]
 ·simp[g]
theorem UK{t b:ai}{aU bI:List Nat}{n D:Nat}(h:yL t b aU bI n D=true)(hn:n<=6)(i:D<=9):Iw t b aU bI 6=true/\rW t b aU bI=0/\mJ t b n D=true:=by
 rw[yL]at h;simp only[a6,decide_eq_true_eq]at h;obtain⟨e,f,c,g⟩:=h;have d:=UI c hn i;have a:=d;rw[mJ]at a;simp only[a6]at a;refine⟨?_,g,c⟩;rw[Iw,d,a.1,a.2.1];simp[e,f]
def Qn(p q:bS):PV:=.st 105 [dA p,dA q]
@[simp] theorem aNx(p q:bS):aL (Qn p q)=.agg 105:=rfl
@[simp] theorem aLW(p q:bS):bW (Qn p q)=[dA p,dA q]:=rfl
theorem Jz{s:List Nat}(h:eH s 4=true):aQ 14 (bm s)/\bZ s=0:=by
 simp only[eH,a6,decide_eq_true_eq]at h;have a:=BS h.1.2;have b:=BS h.2;exact⟨⟨Nat.lt_trans a d_,Nat.lt_trans b d_⟩,h.1.1.2⟩
theorem an4{t b:ai}{n:Nat}(h:mJ t b n 6=true):∀s∈b.ar,bd 20 (vP s.pt):=by
 rw[mJ]at h;simp only[a6,bw]at h;obtain⟨_,_,_,_,_,_,_,h⟩:=h;intro s hs;have:=h s hs;rw[mL,a6]at this;exact⟨(PN this.1).1,(PN this.2).1⟩
theorem UN{b:ai}(c:tV b){i k:Nat}(hi:i<b.ar.length)(hk:k<b.ar.length)(e:(b.sp i).name=(b.sp k).name):i=k:=by
 have no:∀{x y:Nat},x<y->y<b.ar.length->(b.sp x).name=(b.sp y).name->False:=by
  intro x y f h d;have:=c.ne y h;rw[fO,List.find?_eq_none]at this;have a:=this (b.sp x) (bo (i:=x) (by rw[List.getElem?_take,if_pos f];exact ai.eM o_));simp[d]at a
 rcases Nat.lt_trichotomy i k with g|g|g
 ·exact(no g hk e).elim
 ·exact g
 ·exact(no g hi e.symm).elim
theorem UG{b:ai}(a:tV b){k:Nat}(hk:k<b.ar.length):jr b (b.sp k).name=k:=by
 rcases zn b (b.sp k).name with⟨i,hi⟩|⟨_,e⟩
 ·have:=UN a hi.2.1 hk (UO hi);rw[hi.1,this]
 ·rw[CY a hk]at e;cases e
structure gP(t b:ai)(i j:Nat)(d:V2):Prop where
 r0:1<=t.aI
 r1:t.aI<=1000000
 pi:bd 20 (vP (b.sp i).pt)
 w:bd 41 (bA b i j)
 dk:bd 14 d
 nz:d.dot d≠0
theorem gP.dd{t b:ai}{i j:Nat}{d:V2}(h:gP t b i j d):aQ 57 (d.dot d):=fe h.dk h.dk
theorem gP.m{t b:ai}{i j:Nat}{d:V2}(h:gP t b i j d):aQ 111 ((bA b i j).dot d):=fe h.w h.dk
theorem gP.F{t b:ai}{i j:Nat}{d:V2}(h:gP t b i j d):aQ 42 (bR t.aI):=qP (by have:=h.r0;omega) h.r1
theorem gP.u{t b:ai}{i j:Nat}{d:V2}(h:gP t b i j d):aQ 488 (dC t.aI (bA b i j) d):=
 (fA (bC h.m h.m) (bC h.dd (fA (fe h.w h.w) h.F))).mono d_
theorem gP.i{t b:ai}{i j:Nat}{d:V2}(h:gP t b i j d):aQ 57 (d.dot d)⁻¹:=uX h.dd
theorem gP.f{t b:ai}{i j:Nat}{d:V2}(h:gP t b i j d):dN 490 (fS t b i d j):=by
 rw[mi];exact⟨(bC h.m h.i).mono d_,(kU h.i).mono d_,h.u.mono d_⟩
theorem gP.hit{t b:ai}{i j:Nat}{d:V2}(h:gP t b i j d):ku 490 (nJ (vP (b.sp i).pt) d (fS t b i d j)):=by
 have c:aQ 168 (fS t b i d j).a:=by rw[mi];exact bC h.m h.i
 have e:aQ 57 (fS t b i d j).b:=by rw[mi];exact kU h.i
 have g:aQ 490 (fS t b i d j).d:=h.f.2.2;exact⟨⟨(kl h.pi.1 (bC c h.dk.1)).mono d_,(bC e h.dk.1).mono d_,g⟩,⟨(kl h.pi.2 (bC c h.dk.2)).mono d_,(bC e h.dk.2).mono d_,g⟩⟩
theorem gP.dT{t b:ai}{i j k:Nat}{d:V2}(h:gP t b i j d)(hk:bd 20 (vP (b.sp k).pt)):ku 490 (iO b i k d (fS t b i d j)):=by
 have c:aQ 168 (fS t b i d j).a:=by rw[mi];exact bC h.m h.i
 have e:aQ 57 (fS t b i d j).b:=by rw[mi];exact kU h.i
 have g:aQ 490 (fS t b i d j).d:=h.f.2.2;exact⟨⟨(fA (kl h.pi.1 (bC c h.dk.1)) hk.1).mono d_,(bC e h.dk.1).mono d_,g⟩,⟨(fA (kl h.pi.2 (bC c h.dk.2)) hk.2).mono d_,(bC e h.dk.2).mono d_,g⟩⟩
theorem gP.sq{t b:ai}{i j k:Nat}{d:V2}(h:gP t b i j d)(hk:gP t b i k d)(hz:0<d.dot d):dN 1800 (iO b i k d (fS t b i d j)).jf/\aQ 2601 ((iO b i k d (fS t b i d j)).jf.a-bR t.aI):=by
 have e1:aQ 111 (mK b i d j):=h.m;have e2:aQ 111 (mK b i d k):=hk.m;have e3:aQ 488 (uK t b i d j):=h.u;have e4:aQ 488 (uK t b i d k):=hk.u;have c:=fA e1 e2;have f:=bC h.i (fA (kl (bC c c) e3) e4);rw[J0 t b i j k d hz];have e:=kl h.F f;exact⟨⟨e.mono d_,(bC h.i (bC (show aQ 2 (-2:Rat)from⟨d_,d_⟩) c)).mono d_,e3.mono d_⟩,(fA e h.F).mono d_⟩
theorem gP.push{t b:ai}{i j:Nat}{d:V2}(h:gP t b i j d):ku 490 (ga t.aI (bA b i j) d):=by
 have g1:=fA h.w.1 (iK (bC h.m h.dk.1) h.dd);have g2:=fA h.w.2 (iK (bC h.m h.dk.2) h.dd);exact⟨⟨g1.mono d_,(iK h.dk.1 h.dd).mono d_,h.u.mono d_⟩,⟨g2.mono d_,(iK h.dk.2 h.dd).mono d_,h.u.mono d_⟩⟩
theorem gP.kept{t b:ai}{i j:Nat}{d:V2}(h:gP t b i j d):ku 700 (jt t.aI (bA b i j) d):=by
 have g1:=kU (iK (fA h.w.1 (iK (bC h.m h.dk.1) h.dd)) h.F);have g2:=kU (iK (fA h.w.2 (iK (bC h.m h.dk.2) h.dd)) h.F);have g3:=fA h.dk.1 (iK (bC h.dk.1 h.u) (bC h.F h.dd));have a:=fA h.dk.2 (iK (bC h.dk.2 h.u) (bC h.F h.dd));exact⟨⟨g3.mono d_,g1.mono d_,h.u.mono d_⟩,⟨a.mono d_,g2.mono d_,h.u.mono d_⟩⟩
structure az4(t b:ai)(aU:List Nat)(d:bS)(j:Nat)(F f1 f2 u v1 v2 v4 v5 n1 n2 n4 n5 k1 k2 k4 k5 fx fy:List Nat)(sf:Int)(M1 M2 M3 M4 M5 M6:S3)(X Y:Nat->List Nat)(Q:Nat->S3)(o:Nat->Int):Prop where
 a1:aq prog 10 [b7 t,.seq (b.ar.map bG),.str aU,dA d] (.aD [.str (b.sp j).name,.st 44 [.str f1,.str f2,.str u],.int .i64 0])
 a2:aq prog 11 [b7 t,.seq (b.ar.map bG),.str aU,dA d] (.aD [.st 49 [.st 44 [.str v1,.str v2,.str u],.st 44 [.str v4,.str v5,.str u]],.int .i64 0])
 a3:aq prog 12 [b7 t,.seq (b.ar.map bG),.str aU,dA d] (.aD [.st 49 [.st 44 [.str n1,.str n2,.str u],.st 44 [.str n4,.str n5,.str u]],.st 49 [.st 44 [.str k1,.str k2,.str u],.st 44 [.str k4,.str k5,.str u]],.int .i64 0])
 jl:j<b.ar.length
 kf:aq prog 13 [.seq (b.ar.map bG),.str (b.sp j).name] (.int .i64 j)
 x1:aq prog 14 [.st 44 [.str f1,.str f2,.str u]] (.int .i64 0)
 x2:aq prog 15 [.st 44 [.str f1,.str f2,.str u]] (.int .i64 sf)
 x3:aq prog 16 [.st 49 [.st 44 [.str v1,.str v2,.str u],.st 44 [.str v4,.str v5,.str u]]] (.bool true)
 x4:aq prog 16 [.st 49 [.st 44 [.str n1,.str n2,.str u],.st 44 [.str n4,.str n5,.str u]]] (.bool true)
 x5:aq prog 16 [.st 49 [.st 44 [.str k1,.str k2,.str u],.st 44 [.str k4,.str k5,.str u]]] (.bool true)
 tw:aq prog 17 [de t] (.str F)
 QC:¬sf<0
 g:∀k,k<b.ar.length->(b.sp k).name≠aU->aq prog 18 [.str v1,.str (b.sp k).pt.x] (.str (X k))/\aq prog 18 [.str v4,.str (b.sp k).pt.y] (.str (Y k))/\
  aq prog 20 [.st 49 [.st 44 [.str (X k),.str v2,.str u],.st 44 [.str (Y k),.str v5,.str u]]] (eS (Q k))/\
  aq prog 19 [eS (Q k),.st 44 [.str F,.str [48],.str [48]]] (.int .i64 (o k))/\0<=o k/\(k=j->o k=0)
 y1:aq prog 21 [dA d,.st 49 [.st 44 [.str n1,.str n2,.str u],.st 44 [.str n4,.str n5,.str u]]] (.st 44 [.str [48],.str [49],.str u])
 y2:aq prog 23 [.st 44 [.str n1,.str n2,.str u],.st 44 [.str k1,.str k2,.str u]] (eS M1)
 y3:aq prog 23 [.st 44 [.str n4,.str n5,.str u],.st 44 [.str k4,.str k5,.str u]] (eS M2)
 y4:aq prog 22 [eS M1,eS M2] (.st 44 [.str [48],.str [48],.str u])
 y5:aq prog 15 [.st 44 [.str [48],.str [49],.str u]] (.int .i64 1)
 y6:aq prog 24 [.st 44 [.str [48],.str [48],.str u],.str [48]] (.bool true)
 y7:aq prog 20 [.st 49 [.st 44 [.str n1,.str n2,.str u],.st 44 [.str n4,.str n5,.str u]]] (.st 44 [.str F,.str [48],.str u])
 y8:aq prog 24 [.st 44 [.str F,.str [48],.str u],.str F] (.bool true)
 z1:aq prog 25 [.str F,.st 44 [.str k1,.str k2,.str u]] (eS M3)
 z2:aq prog 23 [.st 44 [.str n1,.str n2,.str u],.st 44 [.str [48],.str [49],.str u]] (eS M4)
 z3:aq prog 22 [eS M3,eS M4] (.st 44 [.str fx,.str [48],.str u])
 z4:aq prog 26 [.str F,.str d.x] (.str fx)
 z5:aq prog 24 [.st 44 [.str fx,.str [48],.str u],.str fx] (.bool true)
 w1:aq prog 25 [.str F,.st 44 [.str k4,.str k5,.str u]] (eS M5)
 w2:aq prog 23 [.st 44 [.str n4,.str n5,.str u],.st 44 [.str [48],.str [49],.str u]] (eS M6)
 w3:aq prog 22 [eS M5,eS M6] (.st 44 [.str fy,.str [48],.str u])
 w4:aq prog 26 [.str F,.str d.y] (.str fy)
 w5:aq prog 24 [.st 44 [.str fy,.str [48],.str u],.str fy] (.bool true)
theorem zG{x u:Rat}(hx:aQ 600 x)(a:aQ 490 u):aq prog 24 [eS ⟨x,0,u⟩,.str (bk x)] (.bool true):=by
 have:=adP ⟨x,0,u⟩ x ⟨hx.mono d_,lF d_,a.mono d_⟩ hx
 rwa [aBn rfl rfl,decide_eq_true rfl]at this
theorem aAa{t b:ai}{aU:List Nat}{d:bS}{i j:Nat}{x:XD}{e:Rat}(T:jJ t)(A:jK b)(R:jF d)(z:pc t b aU d=0)(h:tL t b aU d i x e)(m:some j=fZ t b i (vP d) e b.ar.length)
 (az:∀s∈b.ar,bd 20 (vP s.pt))(q:bd 14 (vP d)):
 ∃F ax f2 u aO aP aR aS n1 n2 n4 n5 k1 k2 k4 k5 fx fy sf M1 M2 M3 M4 M5 M6 X Y Q o,az4 t b aU d j F ax f2 u aO aP aR aS n1 n2 n4 n5 k1 k2 k4 k5 fx fy sf M1 M2 M3 M4 M5 M6 X Y Q o:=by
 obtain⟨aW,aX,ay⟩:=zz z;have P:=IV h m;have B:=(qC _ _ _ _ _ _ _ m.symm).1;have hi:=h.C.ci.2.1;have n:∀k,k<b.ar.length->bd 20 (vP (b.sp k).pt):=fun k hk=>az _ (bo (ai.eM hk));have ah:∀k,k<b.ar.length->gP t b i k (vP d):=fun k hk=>⟨P.rp,P.S.r1,n i hi,gY (n k hk) (n i hi),q,P.S.hz⟩
 have O:=ah j B;have hz:0<(vP d).dot (vP d):=by
  have aZ:0<=(vP d).dot (vP d):=by
   have a:=sq_nonneg (vP d).x;have c:=sq_nonneg (vP d).y;rw[V2.dot];grind
  have:=O.nz
  grind
 have ab:=Db O.r0;obtain⟨hc,_⟩:=(Di (t:=t) (b:=b) (i:=i) (d:=vP d) (e:=e) hz b.ar.length).2 j m.symm;obtain⟨aD,aE,_⟩:=wU hc;obtain⟨aY,V⟩:=uC aE;have W:0<dC t.aI (bA b i j) (vP d):=V;have aj:=aDy (D6 ay).1;have v:=O.u;have dn:=J7 (r:=t.aI) (w:=bA b i j) O.nz;have nn:=J6 (r:=t.aI) (w:=bA b i j) O.nz;have aF:=UZ (r:=t.aI) (w:=bA b i j) O.nz ab;have au:=U0 (r:=t.aI) (w:=bA b i j) O.nz ab;have g:=O.push;have l:=O.kept;have q1:=UP t b aU d i j x e T A R z h m;have aG:=Z4 t b aU d i j x e T A R z h m;have aH:=UQ t b aU d i j x e T A R z h m;have ak:=C9 b (b.sp j).name A.sl;rw[UG h.C.L B]at ak;have r1:=FR (fS t b i (vP d) j) (dN.mono O.f d_);rw[if_neg (by rw[show(fS t b i (vP d) j).d=dC t.aI (bA b i j) (vP d)from rfl,jA W];decide)]at r1;have aI:=PQ (fS t b i (vP d) j) (dN.mono O.f d_);have hs:¬cJ (fS t b i (vP d) j)<0:=by
  obtain⟨i0,i1⟩:=inv_pos hz;have ap:=h.C.ap j B aD;have e1:fu t.aI (vP (b.sp j).pt) (vP (b.sp i).pt)=cT ((bA b i j).dot (bA b i j)) (bR t.aI):=rfl;rw[e1]at ap;have aT:=zw.1 (a7.1 ap);have aV:=fj (a:=(vP d).dot (vP d)) (b:=(bA b i j).dot (bA b i j)-bR t.aI) (by grind) (by grind);have e2:uK t b i (vP d) j=mK b i (vP d) j*mK b i (vP d) j-(vP d).dot (vP d)*((bA b i j).dot (bA b i j)-bR t.aI):=rfl;rw[mi];have:=(nV V).2 (GB V (b2 i0) (show Pd (uK t b i (vP d) j) (mK b i (vP d) j) (-1)from .inl ⟨by grind,by rw[e2];grind⟩));rw[show((vP d).dot (vP d))⁻¹*mK b i (vP d) j=mK b i (vP d) j*((vP d).dot (vP d))⁻¹ by grind,show((vP d).dot (vP d))⁻¹* -1= -((vP d).dot (vP d))⁻¹ by grind]at this;omega
 have N:∀p:P4,p.x.d=dC t.aI (bA b i j) (vP d)->0<=bL p.x.d:=fun p D=>by rw[D,jA W];decide
 have aJ:=Dh (nJ (vP (b.sp i).pt) (vP d) (fS t b i (vP d) j)) (ku.mono O.hit d_) (N _ rfl) rfl;have aK:=Dh (ga t.aI (bA b i j) (vP d)) (ku.mono g d_) (N _ rfl) rfl;have aL:=Dh (jt t.aI (bA b i j) (vP d)) (ku.mono l d_) (N _ rfl) rfl;have aM:=IU t (by have:=O.r0;omega) O.r1;have H:=ZU (vP d) (ga t.aI (bA b i j) (vP d)) (q.mono d_) (ku.mono g d_);rw[dn,<-aj]at H;have av:=yE (ga t.aI (bA b i j) (vP d)).x (jt t.aI (bA b i j) (vP d)).x (dN.mono g.1 d_) (dN.mono l.1 d_);have aw:=yE (ga t.aI (bA b i j) (vP d)).y (jt t.aI (bA b i j) (vP d)).y (dN.mono g.2 d_) (dN.mono l.2 d_);have I:=B7 _ _ (dN.mono (wE g.1 l.1) d_) (dN.mono (wE g.2 l.2) d_);rw[aF]at I;have U:dN 490 ⟨0,1,dC t.aI (bA b i j) (vP d)⟩:=⟨lF d_,(show aQ 2 (1:Rat)from⟨d_,d_⟩).mono d_,v.mono d_⟩
 have J:=PQ ⟨0,1,dC t.aI (bA b i j) (vP d)⟩ (dN.mono U d_);have aN:cJ ⟨0,1,dC t.aI (bA b i j) (vP d)⟩=1:=by
  rw[cJ];dsimp only;rw[mT,jA W,jA (show(0:Rat)<1 by decide),gn];rfl
 rw[aN]at J;have Z:=zG (x:=0) (u:=dC t.aI (bA b i j) (vP d)) (lF d_) (v.mono d_);have K:=G1 (ga t.aI (bA b i j) (vP d)) (ku.mono g d_);rw[nn]at K;have aa:=zG (x:=bR t.aI) (u:=dC t.aI (bA b i j) (vP d)) (O.F.mono d_) (v.mono d_);have ar:=fun(s:S3)(hs:dN 700 s)=>ZH (bR t.aI) s (O.F.mono d_) (dN.mono hs d_);have am:=fun(s:S3)(hs:dN 490 s)=>yE s ⟨0,1,dC t.aI (bA b i j) (vP d)⟩ (dN.mono hs d_) (dN.mono U d_);have al:=fun(s r:S3)(hs:dN 490 s)(aC:dN 700 r)=>B7 _ _ (dN.mono (FX O.F aC) d_) (dN.mono (wE hs U) d_);have E:=al (ga t.aI (bA b i j) (vP d)).x (jt t.aI (bA b i j) (vP d)).x g.1 l.1;have G:=al (ga t.aI (bA b i j) (vP d)).y (jt t.aI (bA b i j) (vP d)).y g.2 l.2;rw[au.1]at E;rw[au.2]at G;have af:=gF (bR t.aI) (vP d).x (O.F.mono d_) (q.1.mono d_);have ag:=gF (bR t.aI) (vP d).y (O.F.mono d_) (q.2.mono d_);have ad:=zG (x:=bR t.aI*(vP d).x) (u:=dC t.aI (bA b i j) (vP d)) ((bC O.F q.1).mono d_) (v.mono d_);have ae:=zG (x:=bR t.aI*(vP d).y) (u:=dC t.aI (bA b i j) (vP d)) ((bC O.F q.2).mono d_) (v.mono d_);have ac:bk (vP d).x=d.x/\bk (vP d).y=d.y:=by
  have:=aj;rw[eV,dA,dA]at this;simp only[PV.st.injEq,List.cons.injEq,PV.str.injEq,and_true,true_and]at this;exact⟨this.1.symm,this.2.symm⟩
 rw[ac.1]at af;rw[ac.2]at ag
 have gk:∀k,k<b.ar.length->(b.sp k).name≠aU->aq prog 18 [.str (bk (nJ (vP (b.sp i).pt) (vP d) (fS t b i (vP d) j)).x.a),.str (b.sp k).pt.x] (.str (bk (iO b i k (vP d) (fS t b i (vP d) j)).x.a))/\
  aq prog 18 [.str (bk (nJ (vP (b.sp i).pt) (vP d) (fS t b i (vP d) j)).y.a),.str (b.sp k).pt.y] (.str (bk (iO b i k (vP d) (fS t b i (vP d) j)).y.a))/\
  aq prog 20 [nI (iO b i k (vP d) (fS t b i (vP d) j))] (eS (iO b i k (vP d) (fS t b i (vP d) j)).jf)/\
  aq prog 19 [eS (iO b i k (vP d) (fS t b i (vP d) j)).jf,.st 44 [.str (bk (bR t.aI)),.str [48],.str [48]]] (.int .i64 (dS (iO b i k (vP d) (fS t b i (vP d) j)).jf ⟨bR t.aI,0,0⟩))/\
  0<=dS (iO b i k (vP d) (fS t b i (vP d) j)).jf ⟨bR t.aI,0,0⟩/\(k=j->dS (iO b i k (vP d) (fS t b i (vP d) j)).jf ⟨bR t.aI,0,0⟩=0):=by
  intro k hk aB;have aA:k≠i:=fun e=>aB ((h.C.name hk).2 e);obtain⟨M,_⟩:=h.C.at hk;have D:bk (vP (b.sp k).pt).x=(b.sp k).pt.x/\bk (vP (b.sp k).pt).y=(b.sp k).pt.y:=by
   rw[eV,dA,dA]at M;simp only[PV.st.injEq,List.cons.injEq,PV.str.injEq,and_true,true_and]at M;exact M
  have e1:=rl (nJ (vP (b.sp i).pt) (vP d) (fS t b i (vP d) j)).x.a (vP (b.sp k).pt).x (O.hit.1.1.mono d_) ((n k hk).1.mono d_);have e2:=rl (nJ (vP (b.sp i).pt) (vP d) (fS t b i (vP d) j)).y.a (vP (b.sp k).pt).y (O.hit.2.1.mono d_) ((n k hk).2.mono d_);rw[D.1]at e1;rw[D.2]at e2;have e3:=G1 (iO b i k (vP d) (fS t b i (vP d) j)) (ku.mono (O.dT (n k hk)) d_);have os:=O.sq (ah k hk) hz;have e4:=Iu (iO b i k (vP d) (fS t b i (vP d) j)).jf ⟨bR t.aI,0,0⟩ os.1 ⟨O.F.mono d_,lF d_,lF d_⟩ os.2;rw[kY (bR t.aI) 0 0,lP]at e4;obtain⟨c1,c2⟩:=UJ h.C hz m hk aA;exact⟨e1,e2,e3,e4,c1,c2⟩
 rw[kY 0 1,lP,GL]at H J;rw[kY 0 0,lP]at I Z;rw[kY (bR t.aI) 0,lP]at K aa;have an:=am (ga t.aI (bA b i j) (vP d)).x g.1;have ao:=am (ga t.aI (bA b i j) (vP d)).y g.2;rw[kY 0 1,lP,GL]at an ao;rw[kY (bR t.aI*(vP d).x) 0,lP]at E ad;rw[kY (bR t.aI*(vP d).y) 0,lP]at G ae;exact⟨_,_,_,_,_,_,_,_,_,_,_,_,_,_,_,_,_,_,_,_,_,_,_,_,_,fun k=>bk (iO b i k (vP d) (fS t b i (vP d) j)).x.a,fun k=>bk (iO b i k (vP d) (fS t b i (vP d) j)).y.a,fun k=>(iO b i k (vP d) (fS t b i (vP d) j)).jf,fun k=>dS (iO b i k (vP d) (fS t b i (vP d) j)).jf ⟨bR t.aI,0,0⟩,
  q1,aG,aH,B,ak,r1,aI,aJ,aK,aL,aM,hs,gk,H,av,aw,I,J,Z,K,aa,ar _ l.1,an,E,af,ad,ar _ l.2,ao,G,ag,ae⟩
theorem UL(l:aq prog 7 [] (.bool true))(t b:ai)(aU bI:List Nat)(d:bS)(a:jJ t)(f:jK b)(n:jF d):
 aq prog 3 [rY t b aU bI,dA d] (.bool true):=by
 have s0:=ZX t b aU bI 6 6 a f d_ d_;have c:=Fc d 4 n d_;have v:=U1 d n;have q0:=TO t a.cl a.pl a.sl;have q1:=T3 b f.sl;rw[show((6:Nat):Int)=6 from rfl]at s0;rw[show((4:Nat):Int)=4 from rfl]at c;rcases r:yL t b aU bI 6 6 with _|_
 ·rw[r]at s0;refine gA_ nf func3 mix ?_;simp(maxDischargeDepth:=99) [f3,ad,c3_ s0,c0 l]
 rw[r]at s0;rcases k:(eH d.x 4&&eH d.y 4)with _|_
 ·rw[k]at c;refine gA_ nf func3 mix ?_;simp(maxDischargeDepth:=99) [f3,ad,c3_ s0,c2_ c,c0 l]
 rw[k]at c
 by_cases w:lV d=0
 case neg=>
  generalize lV d=T at*;refine gA_ nf func3 mix ?_;simp(maxDischargeDepth:=99) [f3,ad,w,c3_ s0,c2_ c,c1_ v,c0 l]
 obtain⟨hs,L,N⟩:=UK r d_ d_;obtain⟨P,M,V,U⟩:=T9 L;have q:pc t b aU d=0:=by rw[pc,if_neg (by simp[P]),if_neg M,w]
 have A:=an4 N;simp only[a6]at k;have G:bd 14 (vP d):=⟨(Jz k.1).1,(Jz k.2).1⟩
 obtain⟨i,x,e,z⟩:=ZK a f q (fun s h=>(A s h).mono d_) (G.mono d_);have D:=zE t b aU d i x e a f n q z _ rfl;rw[w]at v;cases I:fZ t b i (vP d) e b.ar.length with
 |none=>
  rw[I]at D;have a1:=UM t b aU d _ _ _ _ rfl rfl D d_;rw[tF,show vZ none=7 from rfl]at a1;refine gA_ nf func3 mix ?_;simp[f3,ad];refine c3_ s0 ?_;simp[ad];refine c2_ c ?_;simp[ad];refine c1_ v ?_;simp[ad];refine e1_ q0 ?_;simp[ad];refine e1_ q1 ?_;simp[ad];refine⟨r_,?_⟩;refine c4_ a1 ?_;simp[ad];refine c0_ l ?_;simp[ad]
 |some j=>
  obtain⟨F,f1,f2,u,v1,v2,v4,v5,n1,n2,n4,n5,k1,k2,k4,k5,fx,fy,sf,M1,M2,M3,M4,M5,M6,X,Y,Q,o,C⟩:=aAa a f n q z I.symm A G;obtain⟨a1,a2,a3,jl,kf,x1,x2,x3,x4,x5,tw,QC,g,y1,y2,y3,y4,y5,y6,y7,y8,z1,z2,z3,z4,z5,w1,w2,w3,w4,w5⟩:=C;have W:=f.sl;clear D z A hs r k q;have O:¬((j:Nat):Int)<0:=o_
  have S:IntKind.i64.wrap 0=0:=d_
  refine gA_ nf func3 mix ?_;simp[f3,ad];refine c3_ s0 ?_;simp[ad];refine c2_ c ?_;simp[ad];refine c1_ v ?_;simp[ad];refine e1_ q0 ?_;simp[ad];refine e1_ q1 ?_;simp[ad];refine⟨r_,?_⟩;refine c4_ a1 ?_;simp[ad];refine c4_ a2 ?_;simp[ad];refine c4_ a3 ?_;simp[ad];refine c2_ kf ?_;simp[O,S,ad];refine c1_ x1 ?_;simp[ad];refine c1_ x2 ?_;simp[QC,ad];refine c1_ x3 ?_;simp[ad];refine c1_ x4 ?_;simp[ad];refine c1_ x5 ?_;simp[ad];refine c1_ tw ?_;simp[ad];refine lp (α:=Nat) (fun m=>⟨[(142,.p (.int .i64 m)),(141,.p (.int .i64 b.ar.length)),(140,.p (.seq (b.ar.map bG))),(16,.p (.str F)),(15,.p (.int .i64 j)),(13,.ptr 6 []),(12,.ptr 5 []),(10,.ptr 4 []),(3,.ptr 1 []),(2,.ptr 0 [])],
   [.box false (.p (rY t b aU bI)),.box false (.p (dA d)),.box false (.p (b7 t)),.box false (.p (.st 44 [.str f1,.str f2,.str u])),.box false (.p (.st 49 [.st 44 [.str v1,.str v2,.str u],.st 44 [.str v4,.str v5,.str u]])),
   .box false (.p (.st 49 [.st 44 [.str n1,.str n2,.str u],.st 44 [.str n4,.str n5,.str u]])),.box false (.p (.st 49 [.st 44 [.str k1,.str k2,.str u],.st 44 [.str k4,.str k5,.str u]]))]⟩) (fun m=>m<=b.ar.length) (fun m=>b.ar.length-m) 0 s_ ?_
  rintro m m1
  by_cases hm:m<b.ar.length
  ·have B:=cH (i:=m) o_;have E:=ai.eM hm
   by_cases hn:(b.sp m).name=aU
   ·simp[hm,E,hn,B,ad];exact rd (m+1) hm
   obtain⟨g1,g2,g3,g4,g5,g6⟩:=g m hm hn;have J:¬o m<0:=o_
   simp[hm,E,hn,ad];refine e2_ g1 ?_;simp[ad];refine e2_ g2 ?_;simp[ad];refine⟨r_,?_⟩;refine c1_ g3 ?_;simp[ad];refine c2_ g4 ?_
   by_cases H:m=j
   ·have K:=g6 H;subst H;simp[K,B,ad];exact rd (m+1) hm
   ·have R:¬(m:Int)=j:=by omega
    simp[J,R,B,ad];exact rd (m+1) hm
  obtain rfl:m=b.ar.length:=o_
  simp[ad];refine c2_ y1 ?_;simp[ad];refine e2_ y2 ?_;simp[ad];refine e2_ y3 ?_;simp[ad];refine e2_ y4 ?_;simp[ad];refine⟨r_,?_⟩;refine c1_ y5 ?_;simp[ad];refine c2_ y6 ?_;simp[ad];refine c1_ y7 ?_;simp[ad];refine c2_ y8 ?_;simp[ad];refine e2_ z1 ?_;simp[ad];refine e2_ z2 ?_;simp[ad];refine e2_ z3 ?_;simp[ad];refine⟨r_,?_⟩;refine e2_ w1 ?_;simp[ad];refine e2_ w2 ?_;simp[ad];refine e2_ w3 ?_;simp[ad];refine⟨r_,?_⟩;refine e2_ z4 ?_;simp[ad];refine e2_ z5 ?_;simp[ad];refine e2_ w4 ?_;simp[ad];refine e2_ w5 ?_;simp[ad];refine e0_ l ?_;simp[ad]
  repeat' first|rfl|apply a0
end Go.az
