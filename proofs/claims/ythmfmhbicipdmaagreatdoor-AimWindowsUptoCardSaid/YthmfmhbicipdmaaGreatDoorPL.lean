import Derived.Test.YthmfmhbicipdmaaGreatDoorPK
import Derived.Test.YthmfmhbicipdmaaGreatDoorThE
/- Parts of a proof. -/
set_option linter.unusedSimpArgs false
set_option linter.unusedVariables false
set_option linter.unusedSectionVars false
open Go.Proofs.Tryz
open And renaming intro->am
open Go.IntKind renaming i64->ao
open Int renaming tmod_eq_emod_of_nonneg->ap, natCast_emod->av
open List renaming take_of_length_le->ax, take_length->ay, mem_of_getElem?->aT, length_eq_zero_iff->a4, drop_eq_getElem_cons->a5, take_add_one->a6, length_take->a7, range->a8, map_take->a9, getElem?_eq_none->bb, mem_iff_getElem->be, getElem?_range->bi, getElem?_take->bl, length_range->bo, getElem_take->bp, getElem?_map->bv, any_eq_true->bI, length_map->bV, map_cons->b2, mem_map->b3
namespace Go.ah
open Go.Proofs
set_option maxHeartbeats 4000000
set_option maxRecDepth 100000
def mT(l:List dT):List (PV×PV):=l.map (fun p=>(cF p,PV.bool true))
theorem GO{p q:dT}(h:¬p=q):¬(p.x=q.x/\p.y=q.y):=fun⟨a,b⟩=>h (by cases p;cases q;simp_all)
theorem azP(a b c d:Int):ja prog 9 202 (.st 201 [.int .i64 a,.int .i64 b]) (.st 201 [.int .i64 c,.int .i64 d])=some ((a==c)&&((b==d)&&true)):=by kernel_rfl
@[simp] theorem Br(p q:dT):ja prog 9 202 (cF p) (cF q)=some (decide (p=q)):=by
 rw[cF,cF,azP]
 by_cases h:p=q
 ·subst h;simp
 ·rw[decide_eq_false h];have:=GO h
  by_cases a:p.x=q.x
  ·have b:¬p.y=q.y:=fun b=>this ⟨a,b⟩;simp[a,b]
  ·simp[a]
theorem GN(p q:dT):jM (cF p) (cF q)=some (decide (p=q)):=by
 by_cases h:p=q
 ·subst h;simp[cF,jM,xt]
 ·rw[decide_eq_false h];have:=GO h
  by_cases a:p.x=q.x
  ·have b:¬p.y=q.y:=fun b=>this ⟨a,b⟩;simp[cF,jM,xt,a,beq_false_of_ne b]
  ·simp[cF,jM,xt,beq_false_of_ne a]
theorem azO(p q:dT):qq prog 202 (cF p) (cF q)=some (decide (p=q)):=by
 have e1:=Br p q;have e2:=GN p q;rw[cF]at e1 e2⊢;rw[qq,e1,e2];simp
@[simp] theorem Gf(q:dT):∀l:List dT,fP prog 202 (mT l) (cF q)=some (if q∈l then some (.bool true)else none)
 |[]=>rfl
 |p::r=>by
  rw[mT,b2,fP,azO]
  by_cases h:q=p
  ·simp[h]
  ·have:=Gf q r;rw[mT]at this;simp[h,this]
theorem Tf{q:dT}{l:List dT}(h:¬q∈l):mv prog 202 (mT l) (cF q)=some none:=by
 have:=Gf q l;rw[if_neg h]at this;rw[cF]at this⊢;rw[mv,this]
theorem Gg{q:dT}:∀{l:List dT},¬q∈l->fZ (mT l) (cF q) (.bool true)=mT (l++[q])
 |[],_=>rfl
 |p::r,h=>by
  have a:¬q=p:=fun e=>h (e▸List.mem_cons_self);have b:¬q∈r:=fun e=>h (List.mem_cons_of_mem _ e);have:=Gg b;rw[mT]at this⊢;rw[b2,fZ,GN,this];simp[a,mT]
theorem aJE:sF prog 202=true:=by kernel_rfl
@[simp high] theorem aMn(c:Bool)(H:an)(p q:dT):iu prog .neq 202 c H (.p (cF p)) (.p (cF q))=some (True,{v:=.p (.bool !(decide (p=q)))}):=by
 have e:=Br p q;rw[cF,cF]at*;simp[iu,e,aJE]
@[simp high] theorem aM6(q:dT):ga prog 202 (cF q)=true:=by
 have e1:=Br q q;rw[cF]at e1⊢;rw[ga];simp[e1]
theorem Tz(a c:dT):l7 a a c=0:=by simp[l7]
theorem Th(a b:dT):l7 a b a=0:=by simp[l7]
theorem Tu{t:aA}(e:3<=t.cs.length){j k:Nat}(c:j<t.cs.length)(hk:k<t.cs.length)(d:j≠k)(b:t.at j=t.at k):t.gq=false:=by
 rw[aA.gq,decide_eq_false_iff_not];intro h
 by_cases hx:k=t.nx j
 ·obtain⟨m,m1,m2,m3⟩:∃m,m<t.cs.length/\m≠j/\m≠k:=by
   rcases Nat.lt_trichotomy j k with a|a|a
   ·by_cases e0:j=0
    ·by_cases e1:k=1
     ·exact⟨2,by omega,by omega,by omega⟩
     ·exact⟨1,by omega,by omega,by omega⟩
    ·exact⟨0,by omega,by omega,by omega⟩
   ·exact(d a).elim
   ·by_cases e0:k=0
    ·by_cases e1:j=1
     ·exact⟨2,by omega,by omega,by omega⟩
     ·exact⟨1,by omega,by omega,by omega⟩
    ·exact⟨0,by omega,by omega,by omega⟩
  have:=h j c m m1 m2 (hx▸m3);rw[<-hx,<-b,Tz]at this;omega
 ·have:=h j c k hk (Ne.symm d) hx;rw[<-b,Th]at this;omega
theorem TD(t:aA)(ai:3<=t.cs.length)(aj:t.cs.length<=1000000)(F:∀p∈t.cs,dU p):ar prog 218 [cg t] (.bool t.gq):=by
 refine aI nf Io mix (by simp[f218]) ?_;generalize q:t.cs.length=n at*;simp[f218,aa,q];refine lp (α:=Nat) (fun i=>⟨[(16,.p (.int .i64 i)),(15,.p (.int .i64 n)),(14,.p (.seq (t.cs.map cF))),(3,.map 1),(1,.ptr 0 [])],[.box false (.p (cg t)),.map false (mT (t.cs.take i))]⟩) (fun i=>i<=n/\∀j k,j<k->k<i->t.at j≠t.at k) (fun i=>n-i) 0 (by simp) ?_ (hh:=by simp[mT]);rintro i ⟨ah,E⟩
 by_cases hi:i<n
 ·have H:=aA.get (t:=t) (i:=i) (by omega);have z:=bR (i:=i) (by omega);have W:t.cs.take (i+1)=t.cs.take i++[t.at i]:=by rw[a6,H];rfl
  simp[-ga,hi,q,H,aa]
  by_cases f:t.at i∈t.cs.take i
  ·obtain⟨j,s,r⟩:=be.1 f;rw[a7]at s;rw[bp,aA.aS (by omega)]at r;have Q:=Tu (by omega) (j:=j) (k:=i) (by omega) (by omega) (by omega) r;simp[f,Q]
  ·have hI:=Tf f;have I:=Gg f;rw[<-W]at I;simp[-ga,-mv,f,hI,I,z];exact rd (i+1) ⟨hi,fun j k w hk=>by
    by_cases T:k=i
    ·subst T;intro r;exact f (r▸aT (i:=j) (by rw[bl,if_pos w];exact aA.get (by omega)))
    ·exact E j k w (by omega)⟩
 have R:i=n:=by omega
 subst R;have inj:∀j k,j<i->k<i->t.at j=t.at k->j=k:=fun j k s hk r=>by
  rcases Nat.lt_trichotomy j k with h|h|h
  ·exact(E j k h hk r).elim
  ·exact h
  ·exact(E k j h s r.symm).elim
 simp[q,aa];refine lp (α:=Nat) (fun m=>⟨[(32,.p (.int .i64 m)),(31,.p (.int .i64 i)),(30,.p (.seq (t.cs.map cF))),(6,.p (.int .i64 i)),(1,.ptr 0 [])],[.box false (.p (cg t))]⟩) (fun m=>m<=i/\∀j,j<m->t.nL j i) (fun m=>i-m) 0 (by simp) ?_;rintro m ⟨g1,g2⟩;have U:¬i=0:=by omega
 by_cases f:m<i
 ·have M:=aA.get (t:=t) (i:=m) (by omega);have z:=bR (i:=m) (by omega);have V:t.nx m<i:=by rw[<-q];exact t.ku (by omega) m
  have N:=aA.get (t:=t) (i:=t.nx m) (by omega);have e1:((m:Int)+1).tmod (i:Int)=((t.nx m:Nat):Int):=by
   rw[aA.nx,q,av,ap (by omega)];rfl
  simp[f,q,M,N,z,e1,U,aa];refine⟨by repeat' first|rfl|apply am,?_⟩;refine lp (α:=Nat) (fun k=>⟨[(48,.p (.int .i64 k)),(47,.p (.int .i64 i)),(46,.p (.seq (t.cs.map cF))),(9,.ptr 2 []),(8,.ptr 1 []),(32,.p (.int .i64 m)),(31,.p (.int .i64 i)),(30,.p (.seq (t.cs.map cF))),(6,.p (.int .i64 i)),(1,.ptr 0 [])],[.box false (.p (cg t)),.box false (.p (cF (t.at m))),.box false (.p (cF (t.at (t.nx m))))]⟩) (fun k=>k<=i/\t.nL m k) (fun k=>i-k) 0 (by simp[aA.nL]) ?_;rintro k ⟨q1,D⟩
  by_cases hk:k<i
  ·have gk:=aA.get (t:=t) (i:=k) (by omega);have G:=bR (i:=k) (by omega)
   by_cases c1:t.at k=t.at m
   ·have:=inj _ _ hk f c1;subst this;simp[-iu,iu.eq_1,hk,gk,G,aa];exact rd (k+1) ⟨hk,fun j s=>by
     by_cases w:j=k
     ·intro h;exact(h w).elim
     ·exact D j (by omega)⟩
   ·by_cases c2:t.at k=t.at (t.nx m)
    ·have:=inj _ _ hk V c2;have c3:¬t.at (t.nx m)=t.at m:=by rw[<-c2];exact c1
     simp[-iu,iu.eq_1,hk,gk,G,c2,c3,aa];exact rd (k+1) ⟨hk,fun j s=>by
      by_cases w:j=k
      ·intro _ h;exact(h (by omega)).elim
      ·exact D j (by omega)⟩
    ·have L:k≠m:=fun e=>c1 (by rw[e]);have nx:k≠t.nx m:=fun e=>c2 (by rw[e]);have P:l7 (t.at m) (t.at (t.nx m)) (t.at k)=((t.at (t.nx m)).x-(t.at m).x)*((t.at k).y-(t.at m).y)-((t.at (t.nx m)).y-(t.at m).y)*((t.at k).x-(t.at m).x):=rfl;have X:=aA.eP F (i:=m) (by omega);have Y:=aA.eP F (i:=t.nx m) (by omega);have Z:=aA.eP F (i:=k) (by omega);have K:t.nL m (k+1)↔0<l7 (t.at m) (t.at (t.nx m)) (t.at k):=⟨fun h=>h k (by omega) L nx,fun h j s u v=>by
      by_cases w:j=k
      ·subst w;exact h
      ·exact D j (by omega) u v⟩
     have J:¬0<l7 (t.at m) (t.at (t.nx m)) (t.at k)->t.gq=false:=fun h=>by
      rw[aA.gq,decide_eq_false_iff_not];intro O;exact h (O m (by omega) k (by omega) L nx)
     rw[P]at K J;simp[-iu,iu.eq_1,hk,gk,G,c1,c2,aa];simp only[dU]at X Y Z;generalize t.at m=A at*;generalize t.at (t.nx m)=B at*;generalize t.at k=C at*;obtain⟨c,d⟩:=A;obtain⟨bx,g⟩:=B;obtain⟨l,o⟩:=C;dsimp only at*;have w1:ao.wrap (bx-c)=bx-c:=aQ _ (by omega) (by omega);have ab:ao.wrap (o-d)=o-d:=aQ _ (by omega) (by omega);have ac:ao.wrap (g-d)=g-d:=aQ _ (by omega) (by omega)
     have ad:ao.wrap (l-c)=l-c:=aQ _ (by omega) (by omega);have ak:=xP (a:=bx-c) (b:=o-d) (A:=20000) (B:=20000) (by omega) (by omega) (by omega) (by omega);have al:=xP (a:=g-d) (b:=l-c) (A:=20000) (B:=20000) (by omega) (by omega) (by omega) (by omega);have ae:ao.wrap ((bx-c)*(o-d))=(bx-c)*(o-d):=aQ _ (by omega) (by omega);have af:ao.wrap ((g-d)*(l-c))=(g-d)*(l-c):=aQ _ (by omega) (by omega);have ag:ao.wrap ((bx-c)*(o-d)-(g-d)*(l-c))=(bx-c)*(o-d)-(g-d)*(l-c):=aQ _ (by omega) (by omega);simp[w1,ab,ac,ad,ae,af,ag]
     by_cases hc:(bx-c)*(o-d)-(g-d)*(l-c)<=0
     ·have:=J (by omega);simp[hc,this]
     ·simp[hc];exact rd (k+1) ⟨hk,K.2 (by omega)⟩
  ·have:k=i:=by omega
   subst this;simp[z];exact rd (m+1) ⟨f,fun j s=>by
    by_cases S:j=m
    ·subst S;exact D
    ·exact g2 j (by omega)⟩
 ·have:m=i:=by omega
  subst this;have:t.gq=true:=by
   rw[aA.gq,decide_eq_true_eq,q];exact g2
  simp[this]
noncomputable def fy(v:NV):PV:=.st 288 [eF v.x,eF v.y]
@[simp] theorem aO1(v:NV):aL (fy v)=.agg 288:=rfl
@[simp] theorem aNr(v:NV):bY (fy v)=[eF v.x,eF v.y]:=rfl
@[simp] theorem aMA:prog.cellsOf 288=8:=by kernel_rfl
theorem Bs(x y:NF):fy ⟨x,y⟩=.st 288 [eF x,eF y]:=rfl
noncomputable def uC(a b:NV):PV:=.st 340 [fy a,fy b]
@[simp] theorem aOH(a b:NV):aL (uC a b)=.agg 340:=rfl
@[simp] theorem aM9(a b:NV):bY (uC a b)=[fy a,fy b]:=rfl
theorem Ew(p:gS)(c:b7 p.x=0)(d:b7 p.y=0)(a:o7 p):ar prog 232 [gf p] (fy (.from p)):=by
 have a1:=ka p.x c a.1.1;have b:=ka p.y d a.2.1;refine aI nf Qj mix (by simp[f232]) ?_;rw[NV.from,Bs];simp[f232,aa];refine e1 a1 ?_;simp[aa];refine e1 b ?_;simp[aa]
def cB(p:dT):NV:=⟨.int p.x,.int p.y⟩
theorem F2(p:dT)(h:dU p):ar prog 347 [cF p] (fy (cB p)):=by
 simp only[dU]at h;have a1:=ke p.x (by omega) (by omega);have a:=ke p.y (by omega) (by omega);refine aI nf Iu mix (by simp[f347]) ?_;rw[cB,Bs];simp[f347,aa];refine e1 a1 ?_;simp[aa];refine e1 a ?_;simp[aa]
theorem Bu(v w:NV)(a:bB kQ v.q)(b:bB kQ w.q):ar prog 288 [fy v,fy w] (fy (v.sub w)):=by
 have c:=qg v.x w.x (c7 a.1) (c7 b.1);have d:=qg v.y w.y (c7 a.2) (c7 b.2);refine aI nf IJ mix (by simp[f288]) ?_;rw[NV.sub,Bs];simp[f288,aa];refine e2 c ?_;simp[aa];refine e2 d ?_;simp[aa]
theorem Tv(v w:NV)(a:bB kQ v.q)(b:bB kQ w.q):ar prog 289 [fy v,fy w] (eF (v.c8 w)):=by
 have c:=jK v.x w.y (c7 a.1) (c7 b.2);have d:=jK v.y w.x (c7 a.2) (c7 b.1);have e:=qg (v.x.mul w.y) (v.y.mul w.x) ((fC a.1 b.2).mono (by decide)) ((fC a.2 b.1).mono (by decide));refine aI nf II mix (by simp[f289]) ?_;rw[NV.c8];simp[f289,aa];refine e2 c ?_;simp[aa];refine e2 d ?_;simp[aa];refine e2 e ?_;simp[aa]
theorem auo(t:aA)(i:Nat)(hi:i<t.cs.length)(j:t.cs.length<=1000000)(g:∀p∈t.cs,dU p):ar prog 324 [cg t,.int .i64 i] (uC (cB (t.at i)) (cB (t.at (t.nx i)))):=by
 have a:=t.ku (by omega) i;have a1:=F2 (t.at i) (aA.eP g hi);have h:=F2 (t.at (t.nx i)) (aA.eP g a);have w1:=bR (i:=i) (by omega);have e1:((i:Int)+1).tmod (t.cs.length:Int)=((t.nx i:Nat):Int):=by
  rw[aA.nx,av,ap (by omega)];rfl
 have f:¬t.cs.length=0:=by omega
 have d:¬t.cs=[]:=by intro e;rw[e]at hi;simp at hi
 have b:=aA.get hi;have c:=aA.get a;refine aI nf Iy mix (by simp[f324]) ?_;rw[uC];simp[f324,aa,w1,e1,f,d,b,c,hi,a];refine Go.ah.e1 a1 ?_;simp[aa,w1,e1,f,d,b,c,hi,a];refine Go.ah.e1 h ?_;simp[aa,w1,e1,f,d,b,c,hi,a]
theorem avK(t:aA):ar prog 287 [cg t] (.func 323 [] [.cq (cg t)]):=by
 refine aI nf IK mix (by simp[f287]) ?_;simp[f287];show gp [.box false (.p (cg t))] 7 (.p (cg t)) (cg t);rw[x9];exact Wk.refl _
noncomputable def xZ(t:aA)(i:Nat):List PV:=[.int .i64 i,uC (cB (t.at i)) (cB (t.at (t.nx i)))]
theorem Bm{t:aA}{i:Nat}(h:i<t.cs.length):((a8 t.cs.length).map (xZ t))[i]?=some (xZ t i):=by
 rw[bv,bi h];rfl
theorem aKA(t:aA)(g:t.cs.length<=1000000)(h:∀p∈t.cs,dU p):Stream prog 323 [] [.cq (cg t)] ((a8 t.cs.length).map (xZ t)):=by
 intro b k e H' hk a l d;rw[bV,bo]at hk d;refine fh nf Iz mix (by simp[f323]) ?_;simp[f323,aa];refine lp (α:=Nat) (fun i=>⟨[(7,.p (.int .i64 i)),(6,.p (.int .i64 t.cs.length)),(1,.p (.cq (cg t))),(0,.map b)],e i⟩) (fun i=>i<=k) (fun i=>k-i) 0 (by simp) ?_ (hr:=by simp;exact(a 0 (by omega)).2) (hr2:=(a 0 (by omega)).1);rintro i m
 by_cases hi:i<t.cs.length
 ·have f:=auo t i hi g h;have j:=bR (i:=i) (by omega);simp[hi];refine c2 f ?_;simp
  by_cases c:i<k
  ·refine⟨e (i+1),_,l i _ c (Bm hi),?_⟩;simp[j];exact rd (i+1) c (hr:=by simp;exact(a (i+1) c).2) (hr2:=(a (i+1) c).1)
  ·have:i=k:=by omega
   subst this;rcases d with⟨e1,_⟩|⟨y,e1,e2⟩
   ·omega
   ·rw[Bm hi]at e1;injection e1 with e1
    subst e1;refine⟨H',_,e2,?_⟩;simp
 ·have:i=t.cs.length:=by omega
  subst this;rcases d with⟨e1,e2⟩|⟨y,e1,e2⟩
  ·have:t.cs.length=k:=by omega
   subst this;simp[e2]
  ·rw[bb (by simp;omega)]at e1;cases e1
noncomputable def xC(t:aA)(v:NV)(L:dW)(i:Nat):an:=[.box false (.p (cg t)),.box false (.p (fy v)),.box false (.p (.int .i64 (t.mM v.q i))),.loop L]
theorem QN(t:aA)(v:NV)(l:t.cs.length<=1000000)(c:∀p∈t.cs,dU p)(g:bB 3000 v.q):ar prog 233 [cg t,fy v] (.int .i64 (t.on v.q)):=by
 refine aI nf Qi mix (by simp[f233]) ?_;simp[f233,aa];refine c1 (avK t) ?_;simp;refine rf (aKA t l c) rfl (by simp) (xC t v) t.cs.length (by simp) (fun L=>rfl) ?_ ?_ ?_
 ·intro L a i hi;refine⟨rfl,by simp[xC],fun _ hx=>?_⟩;simp[xC]at hx⊢;exact hx
 ·intro L a i x hi hx;rw[Bm hi]at hx;injection hx with hx
  subst hx;have b:=jn (aA.eP c hi);have h:=jn (aA.eP c (t.ku (by omega) i));have q1:bB 29 ((cB (t.at (t.nx i))).sub (cB (t.at i))).q:=by rw[NV.fQ];exact gL h b
  have m:bB 3015 (v.sub (cB (t.at i))).q:=by rw[NV.fQ];exact gL g b
  have a1:=Bu (cB (t.at (t.nx i))) (cB (t.at i)) (h.mono (by decide)) (b.mono (by decide));have j:=Bu v (cB (t.at i)) (g.mono (by decide)) (b.mono (by decide));have k:=Tv ((cB (t.at (t.nx i))).sub (cB (t.at i))) (v.sub (cB (t.at i))) (q1.mono (by decide)) (m.mono (by decide));have e:=ui (((cB (t.at (t.nx i))).sub (cB (t.at i))).c8 (v.sub (cB (t.at i))));have d:dK (((cB (t.at (t.nx i))).sub (cB (t.at i))).c8 (v.sub (cB (t.at i)))).q=t.side i v.q:=by
   rw[NV.sT,NV.fQ,NV.fQ];rfl
  rw[dK]at d;rw[d]at e;have hs:=aA.Bk t v.q i;rw[Gx]at hs;refine xS nf mix a rfl rfl (by kernel_rfl) ?_;have f:=congrArg dW.env a;dsimp only at f;clear a d;generalize (cB (t.at (t.nx i))).sub (cB (t.at i))=W at*;generalize v.sub (cB (t.at i))=U at*;generalize W.c8 U=C at*;simp[xC,xZ,uC,aa];refine e2 a1 ?_;simp[aa];refine e2 j ?_;simp[aa];refine e2 k ?_;simp[aa];refine e1 e ?_;simp[aa];refine⟨by repeat' first|rfl|apply am,?_⟩;rw[<-hs];refine cV.og (by simp) (by simp) (by simp) (by simp) ?_;simp;exact Ft f (by simp)
 ·intro L a;refine .inl ⟨by simp,?_⟩;simp[xC,aA.on]
theorem F5(s:List Nat)(hs:jc s)(g:b7 s=0):ar prog 280 [.str s] (.int .i64 (fA (aR s))):=by
 have o:=gH g;have a1:=ka s g hs.1;have c:=ui ⟨aR s,false⟩;have f:=ke 1 (by decide) (by decide);have d:=nC ⟨aR s,false⟩ (.int 1) (o.mono (by decide)) ((show bE 1 (NF.int 1).q from⟨by decide,by decide⟩).mono (by decide));have e2:(if(⟨aR s,false⟩:NF).q<0 then(-1:Int)else if(⟨aR s,false⟩:NF).q=0 then 0 else 1)=dK (aR s):=rfl;have e4:dC (⟨aR s,false⟩:NF).q (NF.int 1).q=dC (aR s) 1:=rfl;rw[e2]at c;rw[e4]at d;have e:=fun b=>iU b 3;refine aI nf GB mix (by simp[f280]) ?_;rw[fA];clear e2 e4 o;generalize dK (aR s)=x at*;generalize dC (aR s) 1=y at*;generalize (⟨aR s,false⟩:NF)=v at*
 by_cases a:x<0
 ·simp[f280,aa];refine c1 a1 ?_;simp[aa];refine Go.ah.e1 c ?_;simp[a,aa];refine Go.ah.e2 (e true) ?_;simp[aU];omega
 ·by_cases b:0<y
  ·simp[f280,aa];refine c1 a1 ?_;simp[aa];refine Go.ah.e1 c ?_;simp[a,aa];refine Go.ah.e1 f ?_;simp[a,aa];refine Go.ah.e2 d ?_;simp[a,b,aa];refine Go.ah.e2 (e true) ?_;simp[aU];omega
  ·simp[f280,aa];refine c1 a1 ?_;simp[aa];refine Go.ah.e1 c ?_;simp[a,aa];refine Go.ah.e1 f ?_;simp[a,aa];refine Go.ah.e2 d ?_;simp[a,b,aa];refine Go.ah.e2 (e false) ?_;simp[aU];omega
def qK(p:cX):Prop:=qx p/\b7 p.a=0/\b7 p.b=0
theorem auN(p o:cX)(q:qK p)(n:qK o):ar prog 279 [dQ p,dQ o] (.bool (gU o p)):=by
 obtain⟨⟨_,t,u⟩,k,l⟩:=q;obtain⟨⟨_,r,s⟩,i,j⟩:=n;have a1:=ka p.a k t.1;have d:=ka o.b j s.1;have c:=nC ⟨aR p.a,false⟩ ⟨aR o.b,false⟩ ((gH k).mono (by decide)) ((gH j).mono (by decide));have f:=ka o.a i r.1;have g:=ka p.b l u.1;have e:=nC ⟨aR o.a,false⟩ ⟨aR p.b,false⟩ ((gH i).mono (by decide)) ((gH l).mono (by decide));dsimp only at c e;refine aI nf GC mix (by simp[f279]) ?_;rw[gU];generalize dC (aR p.a) (aR o.b)=x at*;generalize dC (aR o.a) (aR p.b)=y at*;generalize (⟨aR p.a,false⟩:NF)=v1 at*;generalize (⟨aR p.b,false⟩:NF)=v2 at*;generalize (⟨aR o.a,false⟩:NF)=v3 at*;generalize (⟨aR o.b,false⟩:NF)=v4 at*
 by_cases c1:o.dP=p.dP
 case neg=>
  have m:¬p.dP=o.dP:=fun h=>c1 h.symm;simp[f279,aa,c1,m]
 by_cases c2:x<=0
 ·by_cases c3:y<=0
  ·simp[f279,aa,c1];refine Go.ah.e1 a1 ?_;simp[aa,c1];refine Go.ah.e1 d ?_;simp[aa,c1];refine Go.ah.e2 c ?_;simp[aa,c1,c2];refine Go.ah.e1 f ?_;simp[aa,c1,c2];refine Go.ah.e1 g ?_;simp[aa,c1,c2];refine Go.ah.e2 e ?_;simp[aa,c1,c2,c3]
  ·simp[f279,aa,c1];refine Go.ah.e1 a1 ?_;simp[aa,c1];refine Go.ah.e1 d ?_;simp[aa,c1];refine Go.ah.e2 c ?_;simp[aa,c1,c2];refine Go.ah.e1 f ?_;simp[aa,c1,c2];refine Go.ah.e1 g ?_;simp[aa,c1,c2];refine Go.ah.e2 e ?_;simp[aa,c1,c2,c3]
 ·simp[f279,aa,c1];refine Go.ah.e1 a1 ?_;simp[aa,c1];refine Go.ah.e1 d ?_;simp[aa,c1];refine Go.ah.e2 c ?_;simp[aa,c1,c2]
theorem Tt(p o:cX):cA prog 277 [.box false (.p (dQ p))] [.p (dQ o),.ptr 0 []] [.box false (.p (dQ p))] (.p (.bool (decide (o.name=p.name)))):=by
 refine fh nf GF mix (by simp[f277]) ?_
 by_cases h:o.name=p.name
 ·simp[f277,aa,h];exact cV.og (by simp) (by simp) (by simp) (by simp) (by simp)
 ·simp[f277,aa,h];exact cV.og (by simp) (by simp) (by simp) (by simp) (by simp)
theorem Ty(p:cX)(l:List cX)(h:l.length<=1000000):
 cA prog 164 [.box false (.p (dQ p))] [.p (.seq (l.map dQ)),.func 277 [] [.ptr 0 []]] [.box false (.p (dQ p))] (.p (.int .i64 (idxFrom (fun o=>decide (o.name=p.name)) l 0))):=by
 refine fh nf AB mix (by simp[f164]) ?_;simp[f164];refine lp (α:=Nat) (fun i=>⟨[(8,.p (.int .i64 i)),(7,.p (.int .i64 l.length)),(1,.func 277 [] [.ptr 0 []]),(0,.p (.seq (l.map dQ)))],[.box false (.p (dQ p))]⟩) (fun i=>i<=l.length/\idxFrom (fun o=>decide (o.name=p.name)) l 0=idxFrom (fun o=>decide (o.name=p.name)) (l.drop i) i) (fun i=>l.length-i) 0 (by simp) ?_;rintro i ⟨k1,k2⟩;have a:=bR (i:=i) (by omega)
 by_cases hi:i<l.length
 ·rw[a5 hi,idxFrom]at k2;simp[hi];refine cf (Tt p l[i]) [0] ?_
  by_cases hk:l[i].name=p.name
  ·simp[hk]at k2;simp[hk,k2,bf]
  ·simp[hk]at k2;simp[hk,a,bf];exact rd (i+1) ⟨hi,k2⟩
 ·have:i=l.length:=by omega
  subst this;simp[idxFrom]at k2;simp[k2]
theorem Tn(p:cX)(l:List cX)(h:l.length<=1000000):
 cA prog 276 [.box false (.p (dQ p))] [.p (.seq (l.map dQ)),.func 277 [] [.ptr 0 []]] [.box false (.p (dQ p))] (.p (.bool (l.any (fun o=>decide (o.name=p.name))))):=by
 refine fh nf BD mix (by simp[f276]) ?_;simp[f276];refine cf (Ty p l h) [0] ?_;have:=pf (fun o=>decide (o.name=p.name)) l 0;simp[bf,<-this]
theorem Tq(p o:cG):cA prog 282 [.box false (.p (gM p))] [.p (gM o),.ptr 0 []] [.box false (.p (gM p))] (.p (.bool (decide (o.name=p.name)))):=by
 refine fh nf He mix (by simp[f282]) ?_
 by_cases h:o.name=p.name
 ·simp[f282,aa,h];exact cV.og (by simp) (by simp) (by simp) (by simp) (by simp)
 ·simp[f282,aa,h];exact cV.og (by simp) (by simp) (by simp) (by simp) (by simp)
theorem Tc(p:cG)(l:List cG)(h:l.length<=1000000):
 cA prog 320 [.box false (.p (gM p))] [.p (.seq (l.map gM)),.func 282 [] [.ptr 0 []]] [.box false (.p (gM p))] (.p (.int .i64 (idxFrom (fun o=>decide (o.name=p.name)) l 0))):=by
 refine fh nf O7 mix (by simp[f320]) ?_;simp[f320];refine lp (α:=Nat) (fun i=>⟨[(8,.p (.int .i64 i)),(7,.p (.int .i64 l.length)),(1,.func 282 [] [.ptr 0 []]),(0,.p (.seq (l.map gM)))],[.box false (.p (gM p))]⟩) (fun i=>i<=l.length/\idxFrom (fun o=>decide (o.name=p.name)) l 0=idxFrom (fun o=>decide (o.name=p.name)) (l.drop i) i) (fun i=>l.length-i) 0 (by simp) ?_;rintro i ⟨k1,k2⟩;have a:=bR (i:=i) (by omega)
 by_cases hi:i<l.length
 ·rw[a5 hi,idxFrom]at k2;simp[hi];refine cf (Tq p l[i]) [0] ?_
  by_cases hk:l[i].name=p.name
  ·simp[hk]at k2;simp[hk,k2,bf]
  ·simp[hk]at k2;simp[hk,a,bf];exact rd (i+1) ⟨hi,k2⟩
 ·have:i=l.length:=by omega
  subst this;simp[idxFrom]at k2;simp[k2]
theorem Tm(p:cG)(l:List cG)(h:l.length<=1000000):
 cA prog 281 [.box false (.p (gM p))] [.p (.seq (l.map gM)),.func 282 [] [.ptr 0 []]] [.box false (.p (gM p))] (.p (.bool (l.any (fun o=>decide (o.name=p.name))))):=by
 refine fh nf Hf mix (by simp[f281]) ?_;simp[f281];refine cf (Tc p l h) [0] ?_;have:=pf (fun o=>decide (o.name=p.name)) l 0;simp[bf,<-this]
theorem Tp(p:cX)(c:qK p)(l:List cX)(h:l.length<=1000000)(b:∀o∈l,qK o):
 ar prog 164 [.seq (l.map dQ),.func 279 [dQ p] []] (.int .i64 (idxFrom (fun o=>gU o p) l 0)):=by
 refine aI nf AB mix (by simp[f164]) ?_;simp[f164];refine lp (α:=Nat) (fun i=>⟨[(8,.p (.int .i64 i)),(7,.p (.int .i64 l.length)),(1,.p (.func 279 [dQ p] [])),(0,.p (.seq (l.map dQ)))],[]⟩) (fun i=>i<=l.length/\idxFrom (fun o=>gU o p) l 0=idxFrom (fun o=>gU o p) (l.drop i) i) (fun i=>l.length-i) 0 (by simp) ?_;rintro i ⟨k1,k2⟩;have d:=bR (i:=i) (by omega)
 by_cases hi:i<l.length
 ·rw[a5 hi,idxFrom]at k2;have a:=auN p l[i] c (b _ (List.getElem_mem hi));simp[hi];refine c2 a ?_;cases hk:gU l[i] p
  ·simp[hk]at k2;simp[d];exact rd (i+1) ⟨hi,k2⟩
  ·simp[hk]at k2;simp[k2]
 ·have:i=l.length:=by omega
  subst this;simp[idxFrom]at k2;simp[k2]
theorem S8(p:cX)(b:qK p)(l:List cX)(h:l.length<=1000000)(a:∀o∈l,qK o):
 ar prog 276 [.seq (l.map dQ),.func 279 [dQ p] []] (.bool (l.any (fun o=>gU o p))):=by
 refine aI nf BD mix (by simp[f276]) ?_;simp[f276];refine c2 (Tp p b l h a) ?_;have:=pf (fun o=>gU o p) l 0;simp[<-this]
def ly(n:Nat)(c:List cX)(p:cX):Int:=bG [aU (!isName p.name) 8,aU (c.any fun o=>decide (o.name=p.name)) 9,aU (decide (p.dP<0\/(n:Int)<=p.dP)) 10,b7 p.a,b7 p.b]
def AZ(c:List cX)(p:cX):Int:=bG [fA (aR p.a),fA (aR p.b),aU (decide (0<dC (aR p.a) (aR p.b))) 11,aU (c.any fun o=>gU o p) 17]
theorem FX(q:Rat):fA q=0\/fA q=3:=by
 rw[fA];split
 ·exact .inr rfl
 ·exact .inl rfl
theorem Tl(n:Nat)(e:List cX)(p:cX):iC n e p=if ly n e p=0 then AZ e p else ly n e p:=by
 rw[iC,ly,AZ];generalize b7 p.a=ca;generalize b7 p.b=i;have j:=FX (aR p.a);have h:=FX (aR p.b);generalize fA (aR p.a)=r at*;generalize fA (aR p.b)=s at*;generalize dC (aR p.a) (aR p.b)=y;generalize (e.any fun o=>gU o p)=m;generalize (e.any fun o=>decide (o.name=p.name))=a;have k:max (0:Int) 3=3:=rfl;have l:max (3:Int) 0=3:=rfl;cases q:isName p.name
 ·simp[bG,aU]
 cases a
 case true=>simp[bG,aU]
 by_cases c:p.dP<0\/(n:Int)<=p.dP
 ·simp[bG,aU,c]
 by_cases d:ca=0
 case neg=>simp[bG,aU,c,d]
 by_cases f:i=0
 case neg=>simp[bG,aU,c,d,f]
 rcases j with rfl|rfl
 ·rcases h with rfl|rfl
  ·by_cases g:0<y
   ·simp[bG,aU,c,d,f,g]
   ·cases m<;>simp[bG,aU,c,d,f,g]
  ·simp[bG,aU,c,d,f,k]
 ·rcases h with rfl|rfl
  ·simp[bG,aU,c,d,f,l]
  ·simp[bG,aU,c,d,f]
theorem Te{n:Nat}{bef:List cX}{p:cX}(h:ly n bef p=0):b7 p.a=0/\b7 p.b=0:=by
 rw[ly,mX]at h;exact⟨h _ (by simp),h _ (by simp)⟩
theorem S7(t:aA)(p:cX)(d:List cX)(N:t.cs.length<=1000000)(I:qx p)(m:d.length<=1000000)(H:∀o∈d,qK o):
 ar prog 220 [cg t,dQ p,.seq (d.map dQ)] (.int .i64 (iC t.cs.length d p)):=by
 obtain⟨E,j,k⟩:=I;have k1:=Tn p d m;have k2:=Bo p.name E.1;have k3:=iU (!isName p.name) 8;have k4:=iU (d.any fun o=>decide (o.name=p.name)) 9;have k5:=fun b=>iU b 10;have k6:=Af p.a j.1 j.2;have k7:=Af p.b k.1 k.2;have k8:=qH [aU (!isName p.name) 8,aU (d.any fun o=>decide (o.name=p.name)) 9,aU (decide (p.dP<0\/(t.cs.length:Int)<=p.dP)) 10,b7 p.a,b7 p.b] (by simp);have g:=Te (n:=t.cs.length) (bef:=d) (p:=p);rw[Tl];have s:=fun h:ly t.cs.length d p=0=>S8 p ⟨⟨E,j,k⟩,(g h).1,(g h).2⟩ d m H;have u:=fun h:ly t.cs.length d p=0=>F5 p.a j (g h).1;have v:=fun h:ly t.cs.length d p=0=>F5 p.b k (g h).2;have w:=fun h:ly t.cs.length d p=0=>ka p.a (g h).1 j.1;have x:=fun h:ly t.cs.length d p=0=>ka p.b (g h).2 k.1;have q:=fun h:ly t.cs.length d p=0=>nC ⟨aR p.a,false⟩ ⟨aR p.b,false⟩ ((gH (g h).1).mono (by decide)) ((gH (g h).2).mono (by decide));dsimp only at q;have D:=iU (decide (0<dC (aR p.a) (aR p.b))) 11;have z:=iU (d.any fun o=>gU o p) 17;have i:=qH [fA (aR p.a),fA (aR p.b),aU (decide (0<dC (aR p.a) (aR p.b))) 11,aU (d.any fun o=>gU o p) 17] (by simp);have B:ly t.cs.length d p=bG [aU (!isName p.name) 8,aU (d.any fun o=>decide (o.name=p.name)) 9,aU (decide (p.dP<0\/(t.cs.length:Int)<=p.dP)) 10,b7 p.a,b7 p.b]:=rfl;have C:AZ d p=bG [fA (aR p.a),fA (aR p.b),aU (decide (0<dC (aR p.a) (aR p.b))) 11,aU (d.any fun o=>gU o p) 17]:=rfl;rw[<-B]at k8;rw[<-C]at i;clear B C g;generalize ly t.cs.length d p=l at*;generalize AZ d p=M at*;generalize b7 p.a=J at*;generalize b7 p.b=K at*;generalize fA (aR p.a)=V at*;generalize fA (aR p.b)=W at*;generalize dC (aR p.a) (aR p.b)=A at*;generalize (d.any fun o=>decide (o.name=p.name))=F at*;generalize (d.any fun o=>gU o p)=L at*;generalize isName p.name=G at*;generalize (⟨aR p.a,false⟩:NF)=v1 at*;generalize (⟨aR p.b,false⟩:NF)=v2 at*;refine aI nf Il mix (by simp[f220]) ?_;have r:∀b:Bool,decide (p.dP<0\/(t.cs.length:Int)<=p.dP)=b->ar prog 215 [.bool b,.int .i64 10] (.int .i64 (aU b 10))/\ar prog 214 [.seq [.int .i64 (aU (!G) 8),.int .i64 (aU F 9),.int .i64 (aU b 10),.int .i64 J,.int .i64 K]] (.int .i64 l):=fun b m=>by
  rw[m]at k8;exact⟨k5 b,by simpa using k8⟩
 simp at i;have y:ar prog 215 [.bool (decide (0<A)),.int .i64 11] (.int .i64 (aU (decide (0<A)) 11)):=D;clear k5 k8 D;generalize O:aU (!G) 8=w1 at*;generalize P:aU F 9=S at*;generalize Q:aU (decide (0<A)) 11=T at*;generalize R:aU L 17=U at*;simp[f220,-bt,aa];rw[bt];simp[-bt,aa];rw[bt];simp[-bt,aa];refine cf k1 [1] ?_;simp[-bt,aa,bf,sig]
 by_cases e:p.dP<0
 ·obtain⟨f1,f2⟩:=r true (by simp[e]);rw[bt,bt];simp[-bt,aa];refine Go.ah.e1 k2 ?_;simp[-bt,aa];refine Go.ah.e2 k3 ?_;simp[-bt,aa];refine Go.ah.e2 k4 ?_;simp[-bt,aa,e];refine Go.ah.e2 f1 ?_;simp[-bt,aa,e];refine Go.ah.e1 k6 ?_;simp[-bt,aa,e];refine Go.ah.e1 k7 ?_;simp[-bt,aa,e];refine ep f2 (by simp;first|exact⟨rfl,rfl⟩|rfl) (by simp;first|exact⟨rfl,rfl⟩|rfl) ?_;simp[-bt,aa,e];refine⟨by repeat' first|rfl|apply am,?_⟩
  by_cases c:l=0
  case neg=>simp[c,aa]
  simp[c,aa];refine Go.ah.c2 (s c) ?_;simp[aa];refine Go.ah.e1 (u c) ?_;simp[aa];refine Go.ah.e1 (v c) ?_;simp[aa];refine Go.ah.e1 (w c) ?_;simp[aa];refine Go.ah.e1 (x c) ?_;simp[aa];refine Go.ah.e2 (q c) ?_;simp[aa];refine Go.ah.e2 y ?_;simp[aa];refine Go.ah.e2 z ?_;simp[aa];refine ep i (by simp;first|exact⟨rfl,rfl⟩|rfl) (by simp;first|exact⟨rfl,rfl⟩|rfl) ?_;simp[aa];exact⟨by repeat' first|rfl|apply am,fun h=>(h c).elim⟩
 by_cases f:(t.cs.length:Int)<=p.dP
 ·obtain⟨f1,f2⟩:=r true (by simp[e,f]);rw[bt,bt];simp[-bt,aa];refine Go.ah.e1 k2 ?_;simp[-bt,aa];refine Go.ah.e2 k3 ?_;simp[-bt,aa];refine Go.ah.e2 k4 ?_;simp[-bt,aa,e,f];refine Go.ah.e2 f1 ?_;simp[-bt,aa,e,f];refine Go.ah.e1 k6 ?_;simp[-bt,aa,e,f];refine Go.ah.e1 k7 ?_;simp[-bt,aa,e,f];refine ep f2 (by simp;first|exact⟨rfl,rfl⟩|rfl) (by simp;first|exact⟨rfl,rfl⟩|rfl) ?_;simp[-bt,aa,e,f];refine⟨by repeat' first|rfl|apply am,?_⟩
  by_cases c:l=0
  case neg=>simp[c,aa]
  simp[c,aa];refine Go.ah.c2 (s c) ?_;simp[aa];refine Go.ah.e1 (u c) ?_;simp[aa];refine Go.ah.e1 (v c) ?_;simp[aa];refine Go.ah.e1 (w c) ?_;simp[aa];refine Go.ah.e1 (x c) ?_;simp[aa];refine Go.ah.e2 (q c) ?_;simp[aa];refine Go.ah.e2 y ?_;simp[aa];refine Go.ah.e2 z ?_;simp[aa];refine ep i (by simp;first|exact⟨rfl,rfl⟩|rfl) (by simp;first|exact⟨rfl,rfl⟩|rfl) ?_;simp[aa];exact⟨by repeat' first|rfl|apply am,fun h=>(h c).elim⟩
 ·obtain⟨f1,f2⟩:=r false (by simp[e,f]);rw[bt,bt];simp[-bt,aa];refine Go.ah.e1 k2 ?_;simp[-bt,aa];refine Go.ah.e2 k3 ?_;simp[-bt,aa];refine Go.ah.e2 k4 ?_;simp[-bt,aa,e,f];refine Go.ah.e2 f1 ?_;simp[-bt,aa,e,f];refine Go.ah.e1 k6 ?_;simp[-bt,aa,e,f];refine Go.ah.e1 k7 ?_;simp[-bt,aa,e,f];refine ep f2 (by simp;first|exact⟨rfl,rfl⟩|rfl) (by simp;first|exact⟨rfl,rfl⟩|rfl) ?_;simp[-bt,aa,e,f];refine⟨by repeat' first|rfl|apply am,?_⟩
  by_cases c:l=0
  case neg=>simp[c,aa]
  simp[c,aa];refine Go.ah.c2 (s c) ?_;simp[aa];refine Go.ah.e1 (u c) ?_;simp[aa];refine Go.ah.e1 (v c) ?_;simp[aa];refine Go.ah.e1 (w c) ?_;simp[aa];refine Go.ah.e1 (x c) ?_;simp[aa];refine Go.ah.e2 (q c) ?_;simp[aa];refine Go.ah.e2 y ?_;simp[aa];refine Go.ah.e2 z ?_;simp[aa];refine ep i (by simp;first|exact⟨rfl,rfl⟩|rfl) (by simp;first|exact⟨rfl,rfl⟩|rfl) ?_;simp[aa];exact⟨by repeat' first|rfl|apply am,fun h=>(h c).elim⟩
def jm(a:List cG)(s:cG):Int:=bG [aU (!isName s.name) 8,aU (a.any fun o=>decide (o.name=s.name)) 9,eA s.pt]
theorem Tj(t:aA)(b:List cG)(s:cG):jq t b s=if jm b s=0 then aU (decide (t.on (vP s.pt)<0)) 16 else jm b s:=by
 rw[jq,jm];generalize eA s.pt=c;generalize (b.any fun o=>decide (o.name=s.name))=a;cases e:isName s.name
 ·simp[bG,aU]
 cases a
 case true=>simp[bG,aU]
 by_cases d:c=0
 case neg=>simp[bG,aU,d]
 simp[bG,aU,d]
theorem Ge{bef:List cG}{s:cG}(h:jm bef s=0):eA s.pt=0:=by
 rw[jm,mX]at h;exact h _ (by simp)
theorem To(t:aA)(s:cG)(a:List cG)(l:t.cs.length<=1000000)(m:∀p∈t.cs,dU p)(hs:nG s)(k:a.length<=1000000):
 ar prog 222 [cg t,gM s,.seq (a.map gM)] (.int .i64 (jq t a s)):=by
 obtain⟨u,g⟩:=hs;have k1:=Tm s a k;have k2:=Bo s.name u.1;have k3:=iU (!isName s.name) 8;have k4:=iU (a.any fun o=>decide (o.name=s.name)) 9;have k6:=BP s.pt g;have k8:=qH [aU (!isName s.name) 8,aU (a.any fun o=>decide (o.name=s.name)) 9,eA s.pt] (by simp);have c:=Ge (bef:=a) (s:=s);rw[Tj];have n:=fun h:jm a s=0=>Ew s.pt (jX (c h)).1 (jX (c h)).2 g;have f:=fun h:jm a s=0=>QN t (.from s.pt) l m (BR ⟨(gH (jX (c h)).1).mono (by decide),(gH (jX (c h)).2).mono (by decide)⟩);have q:=iU (decide (t.on (vP s.pt)<0)) 16;rw[iZ]at f;have e:jm a s=bG [aU (!isName s.name) 8,aU (a.any fun o=>decide (o.name=s.name)) 9,eA s.pt]:=rfl;rw[<-e]at k8;clear e c;generalize jm a s=d at*;generalize t.on (vP s.pt)=y at*;generalize eA s.pt=v at*;generalize (a.any fun o=>decide (o.name=s.name))=i at*;generalize isName s.name=j at*;generalize NV.from s.pt=v1 at*;refine aI nf Ij mix (by simp[f222]) ?_;have r:ar prog 214 [.seq [.int .i64 (aU (!j) 8),.int .i64 (aU i 9),.int .i64 v]] (.int .i64 d):=by simpa using k8
 clear k8;generalize w:aU (!j) 8=w1 at*;generalize x:aU i 9=A at*;generalize z:aU (decide (y<0)) 16=B at*;simp[f222,aa];refine cf k1 [1] ?_;simp[aa,bf,sig];refine Go.ah.e1 k2 ?_;simp[aa];refine Go.ah.e2 k3 ?_;simp[aa];refine Go.ah.e2 k4 ?_;simp[aa];refine Go.ah.e1 k6 ?_;simp[aa];refine ep r (by simp;first|exact⟨rfl,rfl⟩|rfl) (by simp;first|exact⟨rfl,rfl⟩|rfl) ?_;simp[aa];refine⟨by repeat' first|rfl|apply am,?_⟩
 by_cases b:d=0
 case neg=>simp[b,aa]
 simp[b,aa];refine Go.ah.e1 (n b) ?_;simp[aa];refine Go.ah.e2 (f b) ?_;simp[aa];refine Go.ah.e2 q ?_;simp[aa];exact fun h=>(h b).elim
def lG{α:Type}(b:Nat)(a:List α->α->Int)(l:List α):Int:=if b<l.length then 5 else ks a l
theorem wL{α:Type}{n:Nat}{f:α->PV}(h:∀a,aa (.p (f a))≠.bad/\bF prog (aa (.p (f a)))=n)(l:List α):eZ prog n (l.map (AV.p∘f)):=vx.2 fun v b=>by
 obtain⟨a,_,rfl⟩:=b3.1 b;exact h a
theorem La(l:List cX):eZ prog 4 (l.map (AV.p∘dQ)):=wL (fun r=>⟨by simp[aa],by simp[aa]⟩) l
theorem Lb(l:List cG):eZ prog 3 (l.map (AV.p∘gM)):=wL (fun r=>⟨by simp[aa],by simp[aa]⟩) l
theorem TC(t:aA)(a:Nat)(h:t.cs.length<=1000000)(m:t.aV.length<=1000000)(c:∀p∈t.aV,qx p):
 ar prog 219 [.seq (t.aV.map dQ),.int .i64 a,.func 220 [cg t] []] (.int .i64 (lG a (iC t.cs.length) t.aV)):=by
 refine aI nf Im mix (by simp[f219]) ?_;rw[lG]
 by_cases c1:a<t.aV.length
 ·have cI:(a:Int)<t.aV.length:=by omega
  rw[if_pos c1];simp[f219,cI]
 have d:¬(a:Int)<t.aV.length:=by omega
 rw[if_neg c1];simp[f219,d];refine lp (α:=Nat) (fun i=>⟨[(16,.p (.int .i64 i)),(15,.p (.int .i64 t.aV.length)),(14,.p (.seq (t.aV.map dQ))),(0,.p (.seq (t.aV.map dQ))),(2,.p (.func 220 [cg t] []))],[]⟩) (fun i=>i<=t.aV.length/\∀j,j<i->gI (iC t.cs.length) t.aV j=0) (fun i=>t.aV.length-i) 0 (by simp) ?_;rintro i ⟨k1,k2⟩
 by_cases hk:i<t.aV.length
 ·have gk:=aA.jd hk;have l:=bR (i:=i) (by omega);have b:=S7 t (t.pk i) (t.aV.take i) h (c _ (aT gk)) (by rw[a7];omega) (fun o k=>by
   obtain⟨j,f,rfl⟩:=be.1 k;rw[a7]at f;rw[bp];have:=k2 j (by omega);have g:=aA.jd (t:=t) (i:=j) (by omega);rw[gI,g]at this;rw[aA.Fq (by omega)];exact⟨c _ (aT g),Bn this⟩)
  rw[a9]at b
  by_cases he:iC t.cs.length (t.aV.take i) (t.pk i)=0
  ·rw[he]at b;have:=sU k2 gk he;simp[hk,gk,aa];refine⟨⟨k1,La _⟩,?_⟩;refine Go.ah.e3 b ?_;simp[l,aa];exact rd (i+1) ⟨hk,this⟩
  ·have e:=sV k2 gk he;rw[e];simp[hk,gk,aa];refine⟨⟨k1,La _⟩,?_⟩;refine Go.ah.e3 b ?_;simp[he,aa]
 ·have:i=t.aV.length:=by omega
  subst this;rw[pg.2 k2];simp
theorem TA(t:aA)(a:Nat)(e:t.cs.length<=1000000)(f:∀p∈t.cs,dU p)(k:t.aw.length<=1000000)(g:∀p∈t.aw,nG p):
 ar prog 221 [.seq (t.aw.map gM),.int .i64 a,.func 222 [cg t] []] (.int .i64 (lG a (jq t) t.aw)):=by
 refine aI nf Ik mix (by simp[f221]) ?_;rw[lG]
 by_cases c1:a<t.aw.length
 ·have cI:(a:Int)<t.aw.length:=by omega
  rw[if_pos c1];simp[f221,cI]
 have c:¬(a:Int)<t.aw.length:=by omega
 rw[if_neg c1];simp[f221,c];refine lp (α:=Nat) (fun i=>⟨[(16,.p (.int .i64 i)),(15,.p (.int .i64 t.aw.length)),(14,.p (.seq (t.aw.map gM))),(0,.p (.seq (t.aw.map gM))),(2,.p (.func 222 [cg t] []))],[]⟩) (fun i=>i<=t.aw.length/\∀j,j<i->gI (jq t) t.aw j=0) (fun i=>t.aw.length-i) 0 (by simp) ?_;rintro i ⟨k1,k2⟩
 by_cases hk:i<t.aw.length
 ·have gk:=aA.eK hk;have h:=bR (i:=i) (by omega);have b:=To t (t.sp i) (t.aw.take i) e f (g _ (aT gk)) (by rw[a7];omega);rw[a9]at b
  by_cases he:jq t (t.aw.take i) (t.sp i)=0
  ·rw[he]at b;have:=sU k2 gk he;simp[hk,gk,aa];refine⟨⟨k1,Lb _⟩,?_⟩;refine Go.ah.e3 b ?_;simp[h,aa];exact rd (i+1) ⟨hk,this⟩
  ·have d:=sV k2 gk he;rw[d];simp[hk,gk,aa];refine⟨⟨k1,Lb _⟩,?_⟩;refine Go.ah.e3 b ?_;simp[he,aa]
 ·have:i=t.aw.length:=by omega
  subst this;rw[pg.2 k2];simp
def mS(t:aA):Int:=bG [aU (decide ((t.cs.length:Int)<3)) 2,aU (decide (12<(t.cs.length:Int))) 5,aU (t.cs.any fT) 3]
def qJ(t:aA):Int:=bG [aU (!t.gq) 15,aU (decide (t.aN<1\/1000<t.aN)) 3,lG 12 (iC t.cs.length) t.aV]
theorem F0{t:aA}(h:mS t=0):3<=t.cs.length/\t.cs.length<=12/\∀p∈t.cs,dU p:=by
 rw[mS,mX]at h;have b:=h (aU (decide ((t.cs.length:Int)<3)) 2) (by simp);have d:=h (aU (decide (12<(t.cs.length:Int))) 5) (by simp);have a:=h (aU (t.cs.any fT) 3) (by simp);refine⟨?_,?_,fun p e=>F9 ?_⟩
 ·by_cases c:(t.cs.length:Int)<3
  ·simp[aU,c]at b
  ·omega
 ·by_cases c:12<(t.cs.length:Int)
  ·simp[aU,c]at d
  ·omega
 ·cases hf:fT p
  ·rfl
  ·have:t.cs.any fT=true:=bI.2 ⟨p,e,hf⟩;rw[this]at a;simp[aU]at a
theorem F7(t:aA):gT t=if mS t=0 then(if qJ t=0 then lG 256 (jq t) t.aw else qJ t)else mS t:=by
 rw[gT,mS,qJ,lG,lG]
 by_cases c1:t.cs.length<3
 ·have:(t.cs.length:Int)<3:=by omega
  simp[bG,aU,c1,this]
 have b:¬(t.cs.length:Int)<3:=by omega
 by_cases c2:12<t.cs.length
 ·have:(12:Int)<t.cs.length:=by omega
  simp[bG,aU,c1,c2,b,this]
 have c:¬(12:Int)<t.cs.length:=by omega
 generalize t.cs.any fT=a;cases a
 case true=>simp[bG,aU,c1,c2,b,c]
 cases t.gq
 ·simp[bG,aU,c1,c2,b,c]
 by_cases c3:t.aN<1\/1000<t.aN
 ·simp[bG,aU,c1,c2,b,c,c3]
 by_cases c4:12<t.aV.length
 ·simp[bG,aU,c1,c2,b,c,c3,c4]
 generalize ks (iC t.cs.length) t.aV=e
 by_cases c5:e=0
 ·simp[bG,aU,c1,c2,b,c,c3,c4,c5]
 ·simp[bG,aU,c1,c2,b,c,c3,c4,c5]
theorem Ta(t:aA)(w:fL t):ar prog 127 [cg t] (.int .i64 (gT t)):=by
 obtain⟨k,A,B,u,v⟩:=w;have k1:=iU (decide ((t.cs.length:Int)<3)) 2;have k2:=iU (decide (12<(t.cs.length:Int))) 5;have k3:=S5 t.cs k;have k4:=iU (t.cs.any fT) 3;have k5:=qH [aU (decide ((t.cs.length:Int)<3)) 2,aU (decide (12<(t.cs.length:Int))) 5,aU (t.cs.any fT) 3] (by simp);have z1:=F0 (t:=t);rw[F7];have x:=fun h:mS t=0=>TD t (z1 h).1 k (z1 h).2.2;have y:=iU (!t.gq) 15;have r:=fun b=>iU b 3;have m:=TC t 12 k A u;have j:=qH [aU (!t.gq) 15,aU (decide (t.aN<1\/1000<t.aN)) 3,lG 12 (iC t.cs.length) t.aV] (by simp);have n:=fun h:mS t=0=>TA t 256 k (z1 h).2.2 B v;have p:mS t=bG [aU (decide ((t.cs.length:Int)<3)) 2,aU (decide (12<(t.cs.length:Int))) 5,aU (t.cs.any fT) 3]:=rfl;have q:qJ t=bG [aU (!t.gq) 15,aU (decide (t.aN<1\/1000<t.aN)) 3,lG 12 (iC t.cs.length) t.aV]:=rfl;rw[<-p]at k5;rw[<-q]at j;clear p q z1;generalize mS t=o at*;generalize qJ t=i at*;generalize lG 12 (iC t.cs.length) t.aV=F at*;generalize lG 256 (jq t) t.aw=M at*;generalize t.cs.any fT=G at*;generalize t.gq=H at*;generalize I:aU (decide ((t.cs.length:Int)<3)) 2=w1 at*;generalize J:aU (decide (12<(t.cs.length:Int))) 5=C at*;generalize K:aU G 3=D at*;generalize L:aU (!H) 15=E at*;have l:∀b:Bool,decide (t.aN<1\/1000<t.aN)=b->ar prog 215 [.bool b,.int .i64 3] (.int .i64 (aU b 3))/\ar prog 214 [.seq [.int .i64 E,.int .i64 (aU b 3),.int .i64 F]] (.int .i64 i):=fun b s=>by
  rw[s]at j;exact⟨r b,by simpa using j⟩
 have z:ar prog 214 [.seq [.int .i64 w1,.int .i64 C,.int .i64 D]] (.int .i64 o):=by simpa using k5
 clear j r k5;refine aI nf HC mix (by simp[f127]) ?_;simp[f127,aa];refine Go.ah.e2 k1 ?_;simp[aa];refine Go.ah.e2 k2 ?_;simp[aa];refine Go.ah.e2 k3 ?_;simp[aa];refine Go.ah.e2 k4 ?_;simp[aa];refine ep z (by simp;first|exact⟨rfl,rfl⟩|rfl) (by simp;first|exact⟨rfl,rfl⟩|rfl) ?_;simp[aa];refine⟨by repeat' first|rfl|apply am,?_⟩
 by_cases a:o=0
 case neg=>simp[a,aa]
 simp[a,aa];refine Go.ah.e1 (x a) ?_;simp[aa];refine Go.ah.e2 y ?_;simp[aa]
 by_cases c:t.aN<1
 ·have d:¬1<=t.aN:=by omega
  obtain⟨f1,f2⟩:=l true (by simp[c]);simp[c,d,aa];refine Go.ah.e2 f1 ?_;simp[c,d,aa];refine Go.ah.e3 m ?_;simp[c,d,aa];refine ep f2 (by simp;first|exact⟨rfl,rfl⟩|rfl) (by simp;first|exact⟨rfl,rfl⟩|rfl) ?_;simp[c,d,aa];refine⟨by repeat' first|rfl|apply am,?_⟩
  by_cases e:i=0
  case neg=>simp[a,e,aa]
  simp[a,e,aa];refine Go.ah.c3 (n a) ?_;simp[a,e,aa]
 have d:1<=t.aN:=by omega
 by_cases f:1000<t.aN
 ·have g:¬t.aN<=1000:=by omega
  obtain⟨f1,f2⟩:=l true (by simp[c,f]);simp[c,d,f,g,aa];refine Go.ah.e2 f1 ?_;simp[c,d,f,g,aa];refine Go.ah.e3 m ?_;simp[c,d,f,g,aa];refine ep f2 (by simp;first|exact⟨rfl,rfl⟩|rfl) (by simp;first|exact⟨rfl,rfl⟩|rfl) ?_;simp[c,d,f,g,aa];refine⟨by repeat' first|rfl|apply am,?_⟩
  by_cases e:i=0
  case neg=>simp[a,e,aa]
  simp[a,e,aa];refine Go.ah.c3 (n a) ?_;simp[a,e,aa]
 ·have g:t.aN<=1000:=by omega
  obtain⟨f1,f2⟩:=l false (by simp[c,f]);simp[c,d,f,g,aa];refine Go.ah.e2 f1 ?_;simp[c,d,f,g,aa];refine Go.ah.e3 m ?_;simp[c,d,f,g,aa];refine ep f2 (by simp;first|exact⟨rfl,rfl⟩|rfl) (by simp;first|exact⟨rfl,rfl⟩|rfl) ?_;simp[c,d,f,g,aa];refine⟨by repeat' first|rfl|apply am,?_⟩
  by_cases e:i=0
  case neg=>simp[a,e,aa]
  simp[a,e,aa];refine Go.ah.c3 (n a) ?_;simp[a,e,aa]
noncomputable def xn(i:Nat)(a w:NV):PV:=.st 168 [.int .i64 i,bQ a,bQ w]
@[simp] theorem aOG(i:Nat)(a w:NV):aL (xn i a w)=.agg 168:=rfl
@[simp] theorem aM8(i:Nat)(a w:NV):bY (xn i a w)=[.int .i64 i,bQ a,bQ w]:=rfl
def aA.fe(t:aA)(i:Nat):NV:=(cB (t.at (t.nx i))).sub (cB (t.at i))
theorem aA.xX(t:aA)(i:Nat):(t.fe i).q=t.lZ i:=by rw[aA.fe,NV.fQ];rfl
theorem xW(p:dT)(h:dU p):ar prog 166 [cF p] (bQ (cB p)):=by
 simp only[dU]at h;have a1:=ke p.x (by omega) (by omega);have a:=ke p.y (by omega) (by omega);refine aI nf Qv mix (by simp[f166]) ?_;rw[cB,oJ];simp[f166,aa];refine e1 a1 ?_;simp[aa];refine e1 a ?_;simp[aa]
theorem aiE(t:aA):ar prog 170 [cg t] (.func 261 [] [.cq (cg t)]):=by
 refine aI nf Qr mix (by simp[f170]) ?_;simp[f170];show gp [.box false (.p (cg t))] 7 (.p (cg t)) (cg t);rw[x9];exact Wk.refl _
noncomputable def sS(t:aA)(i:Nat):List PV:=[xn i (cB (t.at i)) (t.fe i)]
def l6(t:aA)(i:Nat):an:=[.box false (.p (cF (t.at i))),.box false (.p (cF (t.at (t.nx i))))]
theorem xT{t:aA}{i:Nat}(h:i<t.cs.length):((a8 t.cs.length).map (sS t))[i]?=some (sS t i):=by
 rw[bv,bi h];rfl
theorem aKz(t:aA)(G:t.cs.length<=1000000)(d:∀p∈t.cs,dU p):GI prog 261 [] [.cq (cg t)] ((a8 t.cs.length).map (sS t)) (l6 t):=by
 intro b k f F H' hk a C h;rw[bV,bo]at hk h;refine fh nf Ga mix (by simp[f261]) ?_;simp[f261,aa];refine lp (α:=Nat) (fun i=>⟨[(9,.p (.int .i64 i)),(8,.p (.int .i64 t.cs.length)),(7,.p (.seq (t.cs.map cF))),(1,.p (.cq (cg t))),(0,.map b)],f i⟩) (fun i=>i<=k) (fun i=>k-i) 0 (by simp) ?_ (hr:=by simp;exact(a 0 (by omega)).2) (hr2:=(a 0 (by omega)).1);rintro i z
 by_cases hi:i<t.cs.length
 ·have n:=bR (i:=i) (by omega);have j:=t.ku (by omega) i;have w:=aA.get hi;have x:=aA.get j;have e1:((i:Int)+1).tmod (t.cs.length:Int)=((t.nx i:Nat):Int):=by
   rw[aA.nx,av,ap (by omega)];rfl
  have B:¬t.cs.length=0:=by omega
  have A:¬t.cs=[]:=by intro e;rw[e]at hi;simp at hi
  have D:=jn (aA.eP d hi);have E:=jn (aA.eP d j);have a1:=xW (t.at i) (aA.eP d hi);have q:=xW (t.at (t.nx i)) (aA.eP d j);have l:=qm (cB (t.at (t.nx i))) (cB (t.at i)) (E.mono (by decide)) (D.mono (by decide));have r:(cB (t.at (t.nx i))).sub (cB (t.at i))=t.fe i:=rfl;rw[r]at l;simp[hi,n,e1,B,A,w,x,aa];refine⟨by repeat' first|rfl|apply am,?_⟩;refine Go.ah.e1 a1 ?_;simp[aa];refine Go.ah.e1 q ?_;simp[aa];refine Go.ah.e1 a1 ?_;simp[aa];refine Go.ah.e2 l ?_;simp[aa];have m:dG (f i++l6 t i) (f i++l6 t i):=dG.app (a i z).1 (by simp[l6])
  by_cases c:i<k
  ·obtain⟨g1,g2,g3,g4,g5⟩:=C i _ c (xT hi);refine yk g1 rfl g2 m g3 (by rfl) (by rfl) fun s g=>?_;simp[g,n];exact rd (i+1) c (hn:=g4) (hh:=g5) (hr:=by simp;exact(a (i+1) c).2) (hr2:=(a (i+1) c).1)
  ·have:i=k:=by omega
   subst this;rcases h with⟨e1,_⟩|⟨y,o,e1,e2,e3,e4,e5,u,v⟩
   ·omega
   ·rw[xT hi]at e1;injection e1 with e1
    subst e1;refine yk e2 rfl e3 m e4 (by rfl) (by rfl) fun s g=>?_;simp[g];exact .inr (cV.og e5 trivial u trivial v)
 ·have:i=t.cs.length:=by omega
  subst this;rcases h with⟨e1,e2⟩|⟨y,o,e1,e2⟩
  ·have:t.cs.length=k:=by omega
   subst this;simp[e2]
  ·rw[bb (by simp;omega)]at e1;cases e1
theorem F8{t:aA}{v:NV}{i:Nat}(c:∀p∈t.cs,dU p)(e:bB 3000 v.q)(hi:i<t.cs.length):
 ar prog 122 [bQ v,bQ (cB (t.at i))] (bQ (v.sub (cB (t.at i))))/\ar prog 173 [bQ (t.fe i),bQ (v.sub (cB (t.at i)))] (eF ((t.fe i).c8 (v.sub (cB (t.at i)))))/\
 ar prog 194 [eF ((t.fe i).c8 (v.sub (cB (t.at i))))] (.int .i64 (t.side i v.q)):=by
 have a:=jn (aA.eP c hi);have f:=jn (aA.eP c (t.ku (by omega) i));have q1:bB 29 (t.fe i).q:=by rw[aA.fe,NV.fQ];exact gL f a
 have g:bB 3015 (v.sub (cB (t.at i))).q:=by rw[NV.fQ];exact gL e a
 refine⟨qm v (cB (t.at i)) (e.mono (by decide)) (a.mono (by decide)),F4 (t.fe i) (v.sub (cB (t.at i))) (q1.mono (by decide)) (g.mono (by decide)),?_⟩;have b:=ui ((t.fe i).c8 (v.sub (cB (t.at i))));have d:dK ((t.fe i).c8 (v.sub (cB (t.at i)))).q=t.side i v.q:=by rw[NV.sT,NV.fQ,aA.xX];rfl
 rw[dK]at d;rw[d]at b;exact b
noncomputable def jP(t:aA)(v:NV)(b:Bool)(L:dW):an:=[.box false (.p (cg t)),.box false (.p (bQ v)),.box false (.p (.bool b)),.loop L]
def NS.add(s t:NS):NS:=⟨s.a.add t.a,s.b.add t.b,s.d⟩
def NS.neg(s:NS):NS:=⟨s.a.neg,s.b.neg,s.d⟩
def NS.times(s:NS)(k:NF):NS:=⟨s.a.mul k,s.b.mul k,s.d⟩
def NB.c8(n:NB)(e:NV):NS:=⟨e.c8 n.a,e.c8 n.b,n.d⟩
def NS.plain(a d:NF):NS:=⟨a,.int 0,d⟩
def NS.norm(s:NS):NF:=(s.a.mul s.a).sub ((s.b.mul s.b).mul s.d)
open Classical in
noncomputable def NS.under(s:NS)(k:NF):NS:=if s.norm.q=0 then .plain (k.div (s.a.add s.a)) s.d else⟨(k.mul s.a).div s.norm,(k.mul s.b).neg.div s.norm,s.d⟩
structure XD where
 i:Nat
 a:NV
 w:NV
 g:NF
 s:NS
noncomputable def Q1(x:XD):PV:=.st 170 [xn x.i x.a x.w,eF x.g,AJ x.s]
@[simp] theorem aOI(x:XD):aL (Q1 x)=.agg 170:=rfl
@[simp] theorem aNa(x:XD):bY (Q1 x)=[xn x.i x.a x.w,eF x.g,AJ x.s]:=rfl
theorem Fh.mono{k l:Nat}{s:NS}(h:Fh k s)(a:k<=l):Fh l s:=⟨h.1.mono a,h.2.1.mono a,h.2.2.mono a⟩
def zF:PV:=.st 126 [.st 124 [.int .i64 0,.aP],.st 124 [.int .i64 0,.aP]]
def zV:PV:=.st 130 [zF,zF]
def SP:PV:=.st 170 [.st 168 [.int .i64 0,zV,zV],zF,.st 136 [zF,zF,zF]]
@[simp] theorem aPg:aL SP=.agg 170:=rfl
@[simp] theorem aNy:bY SP=[.st 168 [.int .i64 0,zV,zV],zF,.st 136 [zF,zF,zF]]:=rfl
def aA.pos(t:aA)(n:NB)(i:Nat):Bool:=decide (0<sgS ((n.c8 (t.fe i)).neg).q)
theorem Tx(p d:V2)(s:Rat)(c:bB 90 p)(a:bB 90 d)(hs:bE 508 s):ar prog 199 [eV p,eV d,.str (bg s)] (eV (p.add (d.mul s))):=by
 have k1:=FT d s (a.mono (by decide)) (hs.mono (by decide));have b:bB 598 (d.mul s):=⟨fC a.1 hs,fC a.2 hs⟩
 have k2:=FU p (d.mul s) (c.mono (by decide)) (b.mono (by decide));refine aI nf H7 mix (by simp[f199]) ?_;generalize p.add (d.mul s)=r at*;generalize d.mul s=q at*;simp[f199,aa];refine e2 k1 ?_;simp[aa];refine e2 k2 ?_;simp[aa]
theorem qG{t:aA}(h:gT t=0):3<=t.cs.length/\t.cs.length<=12/\(∀p∈t.cs,dU p)/\t.gq=true:=by
 rw[F7]at h
 by_cases d:mS t=0
 ·rw[if_pos d]at h
  by_cases e:qJ t=0
  ·obtain⟨a,b,c⟩:=F0 d;refine⟨a,b,c,?_⟩;rw[qJ,mX]at e;have f:=e (aU (!t.gq) 15) (by simp);cases hc:t.gq
   ·rw[hc]at f;simp[aU]at f
   ·rfl
  ·rw[if_neg e]at h;exact(e h).elim
 ·rw[if_neg d]at h;exact(d h).elim
theorem Gd{a b:Rat}:dC a b<0↔a<b:=by
 rw[dC];constructor
 ·intro h
  split at h
  ·assumption
  ·split at h<;>omega
 ·intro h;rw[if_pos h];decide
theorem mR(s:List Nat)(n:Int):ar prog 112 [.str s,.int .i64 n] (.bool (decide ((s.length:Int)<=n))):=by
 refine aI nf G4 mix (by simp[f112]) ?_;simp[f112]
def jQ(p:cX):Bool:=decide (p.name.length<=40)&&(decide (p.a.length<=40)&&decide (p.b.length<=40))
def iA(s:cG):Bool:=decide (s.name.length<=40)&&(decide (s.pt.x.length<=40)&&decide (s.pt.y.length<=40))
def l8(t:aA):Bool:=!(decide (14<t.cs.length)||(decide (14<t.aV.length)||((decide (8<t.aw.length)&&decide (t.aw.length<=256))||decide (258<t.aw.length))))&&(t.aV.all jQ&&t.aw.all iA)
theorem ph{α:Type}{f:α->Bool}{l:List α}{i:Nat}{x:α}(h:l[i]?=some x):(l.take (i+1)).all f=((l.take i).all f&&f x):=by
 rw[a6,h];simp
theorem jo{α:Type}{f:α->Bool}{l:List α}{i:Nat}{x:α}(h:l[i]?=some x)(hf:f x=false):l.all f=false:=by
 cases a:l.all f
 ·rfl
 ·rw[List.all_eq_true]at a;rw[a x (aT h)]at hf;cases hf
theorem Gv(t:aA)(z:t.cs.length<=1000000)(A:t.aV.length<=1000000)(B:t.aw.length<=1000000):ar prog 40 [cM t] (.bool (l8 t)):=by
 refine aI nf Rz mix (by simp[f40]) ?_;have q:l8 t=(!(decide (14<t.cs.length)||(decide (14<t.aV.length)||((decide (8<t.aw.length)&&decide (t.aw.length<=256))||decide (258<t.aw.length))))&&(t.aV.all jQ&&t.aw.all iA)):=rfl
 by_cases c1:14<t.cs.length
 ·have n:(14:Int)<t.cs.length:=by omega
  have m:l8 t=false:=by rw[q];simp[c1]
  simp[f40,aa,n,m]
 have n:¬(14:Int)<t.cs.length:=by omega
 by_cases c2:14<t.aV.length
 ·have o:(14:Int)<t.aV.length:=by omega
  have m:l8 t=false:=by rw[q];simp[c2]
  simp[f40,aa,n,o,m]
 have o:¬(14:Int)<t.aV.length:=by omega
 have tail:(8<t.aw.length->¬t.aw.length<=256)->¬258<t.aw.length->l8 t=(t.aV.all jQ&&t.aw.all iA):=fun w v=>by
  rw[q]
  by_cases h:8<t.aw.length
  ·have:=w h;simp[c1,c2,h,this,v]
  ·simp[c1,c2,h,v]
 by_cases c3:8<t.aw.length
 ·have r:(8:Int)<t.aw.length:=by omega
  by_cases c4:t.aw.length<=256
  ·have u:(t.aw.length:Int)<=256:=by omega
   have m:l8 t=false:=by rw[q];simp[c3,c4]
   simp[f40,aa,n,o,r,u,m]
  ·have u:¬(t.aw.length:Int)<=256:=by omega
   by_cases c5:258<t.aw.length
   ·have s:(258:Int)<t.aw.length:=by omega
    have m:l8 t=false:=by rw[q];simp[c5]
    simp[f40,aa,n,o,r,u,s,m]
   ·have s:¬(258:Int)<t.aw.length:=by omega
    rw[tail (fun _=>c4) c5];simp[f40,aa,n,o,r,u,s];refine lp (α:=Nat) (fun i=>⟨[(3,.p (.int .i64 i)),(1,.ptr 0 [])],[.box false (.p (cM t))]⟩) (fun i=>i<=t.aV.length/\(t.aV.take i).all jQ=true) (fun i=>t.aV.length-i) 0 (by simp) ?_;rintro i ⟨k1,k2⟩
    by_cases hi:i<t.aV.length
    ·have c:=aA.jd hi;have l:=bR (i:=i) (by omega);have e:=mR (t.pk i).a 40;have g:=mR (t.pk i).b 40;have f:jQ (t.pk i)=(decide ((t.pk i).name.length<=40)&&(decide ((t.pk i).a.length<=40)&&decide ((t.pk i).b.length<=40))):=rfl
     by_cases a1:(t.pk i).name.length<=40
     ·have b1:¬(40:Int)<(t.pk i).name.length:=by omega
      by_cases a2:(t.pk i).a.length<=40
      ·have j:((t.pk i).a.length:Int)<=40:=by omega
       rw[decide_eq_true j]at e
       by_cases a3:(t.pk i).b.length<=40
       ·have k:((t.pk i).b.length:Int)<=40:=by omega
        rw[decide_eq_true k]at g;have d:jQ (t.pk i)=true:=by rw[f];simp[a1,a2,a3]
        simp[hi,c,b1,aa];refine Go.ah.c2 e ?_;simp[hi,c,b1,aa];refine Go.ah.c2 g ?_;simp[hi,c,b1,l,aa];exact rd (i+1) ⟨hi,by rw[ph c,k2,d];rfl⟩
       ·have k:¬((t.pk i).b.length:Int)<=40:=by omega
        rw[decide_eq_false k]at g;have d:jQ (t.pk i)=false:=by rw[f];simp[a3]
        rw[jo c d];simp[hi,c,b1,aa];refine Go.ah.c2 e ?_;simp[hi,c,b1,aa];refine Go.ah.c2 g ?_;simp[hi,c,b1,l,aa]
      ·have j:¬((t.pk i).a.length:Int)<=40:=by omega
       rw[decide_eq_false j]at e;have d:jQ (t.pk i)=false:=by rw[f];simp[a2]
       rw[jo c d];simp[hi,c,b1,aa];refine Go.ah.c2 e ?_;simp[hi,c,b1,aa]
     ·have b1:(40:Int)<(t.pk i).name.length:=by omega
      have d:jQ (t.pk i)=false:=by rw[f];simp[a1]
      rw[jo c d];simp[hi,c,b1,aa]
    have:i=t.aV.length:=by omega
    subst this;rw[ay]at k2;rw[k2,Bool.true_and];simp[aa];refine lp (α:=Nat) (fun i=>⟨[(4,.p (.int .i64 i)),(1,.ptr 0 [])],[.box false (.p (cM t))]⟩) (fun i=>i<=t.aw.length/\(t.aw.take i).all iA=true) (fun i=>t.aw.length-i) 0 (by simp) ?_;rintro i ⟨k1,k2⟩
    by_cases hi:i<t.aw.length
    ·have c:=aA.eK hi;have l:=bR (i:=i) (by omega);have e:=mR (t.sp i).pt.x 40;have g:=mR (t.sp i).pt.y 40;have f:iA (t.sp i)=(decide ((t.sp i).name.length<=40)&&(decide ((t.sp i).pt.x.length<=40)&&decide ((t.sp i).pt.y.length<=40))):=rfl
     by_cases a1:(t.sp i).name.length<=40
     ·have b1:¬(40:Int)<(t.sp i).name.length:=by omega
      by_cases a2:(t.sp i).pt.x.length<=40
      ·have j:((t.sp i).pt.x.length:Int)<=40:=by omega
       rw[decide_eq_true j]at e
       by_cases a3:(t.sp i).pt.y.length<=40
       ·have k:((t.sp i).pt.y.length:Int)<=40:=by omega
        rw[decide_eq_true k]at g;have d:iA (t.sp i)=true:=by rw[f];simp[a1,a2,a3]
        simp[hi,c,b1,aa];refine Go.ah.c2 e ?_;simp[hi,c,b1,aa];refine Go.ah.c2 g ?_;simp[hi,c,b1,l,aa];exact rd (i+1) ⟨hi,by rw[ph c,k2,d];rfl⟩
       ·have k:¬((t.sp i).pt.y.length:Int)<=40:=by omega
        rw[decide_eq_false k]at g;have d:iA (t.sp i)=false:=by rw[f];simp[a3]
        rw[jo c d];simp[hi,c,b1,aa];refine Go.ah.c2 e ?_;simp[hi,c,b1,aa];refine Go.ah.c2 g ?_;simp[hi,c,b1,l,aa]
      ·have j:¬((t.sp i).pt.x.length:Int)<=40:=by omega
       rw[decide_eq_false j]at e;have d:iA (t.sp i)=false:=by rw[f];simp[a2]
       rw[jo c d];simp[hi,c,b1,aa];refine Go.ah.c2 e ?_;simp[hi,c,b1,aa]
     ·have b1:(40:Int)<(t.sp i).name.length:=by omega
      have d:iA (t.sp i)=false:=by rw[f];simp[a1]
      rw[jo c d];simp[hi,c,b1,aa]
    have:i=t.aw.length:=by omega
    subst this;rw[ay]at k2;rw[k2];simp[aa]
 ·have r:¬(8:Int)<t.aw.length:=by omega
  have s:¬(258:Int)<t.aw.length:=by omega
  rw[tail (fun h=>absurd h c3) (by omega)];simp[f40,aa,n,o,r,s];refine lp (α:=Nat) (fun i=>⟨[(3,.p (.int .i64 i)),(1,.ptr 0 [])],[.box false (.p (cM t))]⟩) (fun i=>i<=t.aV.length/\(t.aV.take i).all jQ=true) (fun i=>t.aV.length-i) 0 (by simp) ?_;rintro i ⟨k1,k2⟩
  by_cases hi:i<t.aV.length
  ·have c:=aA.jd hi;have l:=bR (i:=i) (by omega);have e:=mR (t.pk i).a 40;have g:=mR (t.pk i).b 40;have f:jQ (t.pk i)=(decide ((t.pk i).name.length<=40)&&(decide ((t.pk i).a.length<=40)&&decide ((t.pk i).b.length<=40))):=rfl
   by_cases a1:(t.pk i).name.length<=40
   ·have b1:¬(40:Int)<(t.pk i).name.length:=by omega
    by_cases a2:(t.pk i).a.length<=40
    ·have j:((t.pk i).a.length:Int)<=40:=by omega
     rw[decide_eq_true j]at e
     by_cases a3:(t.pk i).b.length<=40
     ·have k:((t.pk i).b.length:Int)<=40:=by omega
      rw[decide_eq_true k]at g;have d:jQ (t.pk i)=true:=by rw[f];simp[a1,a2,a3]
      simp[hi,c,b1,aa];refine Go.ah.c2 e ?_;simp[hi,c,b1,aa];refine Go.ah.c2 g ?_;simp[hi,c,b1,l,aa];exact rd (i+1) ⟨hi,by rw[ph c,k2,d];rfl⟩
     ·have k:¬((t.pk i).b.length:Int)<=40:=by omega
      rw[decide_eq_false k]at g;have d:jQ (t.pk i)=false:=by rw[f];simp[a3]
      rw[jo c d];simp[hi,c,b1,aa];refine Go.ah.c2 e ?_;simp[hi,c,b1,aa];refine Go.ah.c2 g ?_;simp[hi,c,b1,l,aa]
    ·have j:¬((t.pk i).a.length:Int)<=40:=by omega
     rw[decide_eq_false j]at e;have d:jQ (t.pk i)=false:=by rw[f];simp[a2]
     rw[jo c d];simp[hi,c,b1,aa];refine Go.ah.c2 e ?_;simp[hi,c,b1,aa]
   ·have b1:(40:Int)<(t.pk i).name.length:=by omega
    have d:jQ (t.pk i)=false:=by rw[f];simp[a1]
    rw[jo c d];simp[hi,c,b1,aa]
  have:i=t.aV.length:=by omega
  subst this;rw[ay]at k2;rw[k2,Bool.true_and];simp[aa];refine lp (α:=Nat) (fun i=>⟨[(4,.p (.int .i64 i)),(1,.ptr 0 [])],[.box false (.p (cM t))]⟩) (fun i=>i<=t.aw.length/\(t.aw.take i).all iA=true) (fun i=>t.aw.length-i) 0 (by simp) ?_;rintro i ⟨k1,k2⟩
  by_cases hi:i<t.aw.length
  ·have c:=aA.eK hi;have l:=bR (i:=i) (by omega);have e:=mR (t.sp i).pt.x 40;have g:=mR (t.sp i).pt.y 40;have f:iA (t.sp i)=(decide ((t.sp i).name.length<=40)&&(decide ((t.sp i).pt.x.length<=40)&&decide ((t.sp i).pt.y.length<=40))):=rfl
   by_cases a1:(t.sp i).name.length<=40
   ·have b1:¬(40:Int)<(t.sp i).name.length:=by omega
    by_cases a2:(t.sp i).pt.x.length<=40
    ·have j:((t.sp i).pt.x.length:Int)<=40:=by omega
     rw[decide_eq_true j]at e
     by_cases a3:(t.sp i).pt.y.length<=40
     ·have k:((t.sp i).pt.y.length:Int)<=40:=by omega
      rw[decide_eq_true k]at g;have d:iA (t.sp i)=true:=by rw[f];simp[a1,a2,a3]
      simp[hi,c,b1,aa];refine Go.ah.c2 e ?_;simp[hi,c,b1,aa];refine Go.ah.c2 g ?_;simp[hi,c,b1,l,aa];exact rd (i+1) ⟨hi,by rw[ph c,k2,d];rfl⟩
     ·have k:¬((t.sp i).pt.y.length:Int)<=40:=by omega
      rw[decide_eq_false k]at g;have d:iA (t.sp i)=false:=by rw[f];simp[a3]
      rw[jo c d];simp[hi,c,b1,aa];refine Go.ah.c2 e ?_;simp[hi,c,b1,aa];refine Go.ah.c2 g ?_;simp[hi,c,b1,l,aa]
    ·have j:¬((t.sp i).pt.x.length:Int)<=40:=by omega
     rw[decide_eq_false j]at e;have d:iA (t.sp i)=false:=by rw[f];simp[a2]
     rw[jo c d];simp[hi,c,b1,aa];refine Go.ah.c2 e ?_;simp[hi,c,b1,aa]
   ·have b1:(40:Int)<(t.sp i).name.length:=by omega
    have d:iA (t.sp i)=false:=by rw[f];simp[a1]
    rw[jo c d];simp[hi,c,b1,aa]
  have:i=t.aw.length:=by omega
  subst this;rw[ay]at k2;rw[k2];simp[aa]
theorem Vj(l:List dT):eZ prog 2 (l.map (AV.p∘cF)):=wL (fun r=>⟨by simp[aa],by simp[aa]⟩) l
theorem sW{α:Type}{f:α->AV}{l:List α}{j:Nat}{x:α}(h:l[j+1]?=some x):(l.take (j+1+1)).map f=(l.map f).take (j+1)++[f x]:=by
 rw[a6 (i:=j+1),h,List.map_append,a9];rfl
theorem kx{N:Nat×Nat->Prop}{α:Type}{f:α->PV}{k:Nat}{l:List α}:ba N ((l.map (AV.p∘f)).take k)=True:=by
 rw[dc,eq_iff_iff,iff_true];intro x hx;obtain⟨a,_,rfl⟩:=b3.1 (List.mem_of_mem_take hx);trivial
theorem pn:dQ=fx:=rfl
theorem pj:gM=bK:=rfl
theorem sX{α:Type}{l:List α}{x:α}(h:l[0]?=some x):l.take 1=[x]:=by
 rw[a6 (i:=0),h];rfl
theorem TE(t:aA)(s:t.cs.length<=1000000)(u:t.aV.length<=1000000)(v:t.aw.length<=1000000):ar prog 11 [cM t] (cg t):=by
 have r:(1000000:Nat)<cN:=by decide
 have w1:ao.wrap 1=1:=by decide
 refine aI nf Rk mix (by simp[f11]) ?_;simp[f11,aa];refine⟨⟨Vj _,by omega⟩,?_⟩
 by_cases hc:t.cs=[]
 ·simp[hc];refine⟨⟨by repeat' first|rfl|apply am,by repeat' first|rfl|apply am⟩,?_⟩;refine lp (α:=Nat) (fun i=>match i with
    |0=>⟨[(18,.p (.int .i64 0)),(17,.p (.int .i64 t.aV.length)),(16,.p (.seq (t.aV.map fx))),(3,.ptr 3 []),(2,.ptr 1 []),(1,.ptr 0 [])],[.box false (.p (cM t)),.box false (.p (.st 43 [.aP,.int .i64 0,.aP,.aP])),.arr .exact 0 2 [],.box false (.st 43 [.sl 2 0 2 0 0,.p (.int .i64 t.aN),.p .aP,.p .aP])]⟩
    |m+1=>⟨[(18,.p (.int .i64 ((m+1:Nat):Int))),(17,.p (.int .i64 t.aV.length)),(16,.p (.seq (t.aV.map fx))),(3,.ptr 3 []),(2,.ptr 1 []),(1,.ptr 0 [])],[.box false (.p (cM t)),.box false (.p (.st 43 [.aP,.int .i64 0,.aP,.aP])),.arr .exact 0 2 [],.box false (.st 43 [.sl 2 0 2 0 0,.p (.int .i64 t.aN),.sl 6 m 4 0 (m+1),.p .aP]),.hole,.hole,.arr .grow m 4 ((t.aV.take (m+1)).map (AV.p∘fx))]⟩) (fun i=>i<=t.aV.length) (fun i=>t.aV.length-i) 0 (by simp) ?_
  rintro i o
  by_cases hi:i<t.aV.length
  ·have a:=aA.jd hi;rcases i with _|j
   ·have b:=sX a;simp[hi,a,w1,aa];exact⟨by omega,rd 1 hi (hh:=by simp[b]) (hr2:=by simp[kx])⟩
   ·have h:ao.wrap ((j:Int)+1+1)=(j:Int)+1+1:=aQ _ (by omega) (by omega);have hI:(j:Int)+1<t.aV.length:=by omega
    have b:=sW (f:=AV.p∘fx) a;simp[hi,hI,a,h,aa];exact⟨by omega,⟨by omega,by omega⟩,rd (j+2) hi (hh:=by simp at b;simp[b]) (hr2:=by simp[kx])⟩
  have q:i=t.aV.length:=by omega
  rcases i with _|j
  ·have n:t.aV=[]:=a4.1 q.symm;simp[n,aa];refine lp (α:=Nat) (fun i=>match i with
     |0=>⟨[(32,.p (.int .i64 0)),(31,.p (.int .i64 t.aw.length)),(30,.p (.seq (t.aw.map bK))),(3,.ptr 3 []),(2,.ptr 1 []),(1,.ptr 0 [])],[.box false (.p (cM t)),.box false (.p (.st 43 [.aP,.int .i64 0,.aP,.aP])),.arr .exact 0 2 [],.box false (.st 43 [.sl 2 0 2 0 0,.p (.int .i64 t.aN),.p .aP,.p .aP])]⟩
     |m+1=>⟨[(32,.p (.int .i64 ((m+1:Nat):Int))),(31,.p (.int .i64 t.aw.length)),(30,.p (.seq (t.aw.map bK))),(3,.ptr 3 []),(2,.ptr 1 []),(1,.ptr 0 [])],[.box false (.p (cM t)),.box false (.p (.st 43 [.aP,.int .i64 0,.aP,.aP])),.arr .exact 0 2 [],.box false (.st 43 [.sl 2 0 2 0 0,.p (.int .i64 t.aN),.p .aP,.sl 6 m 3 0 (m+1)]),.hole,.hole,.arr .grow m 3 ((t.aw.take (m+1)).map (AV.p∘bK))]⟩) (fun i=>i<=t.aw.length) (fun i=>t.aw.length-i) 0 (by simp) ?_
   rintro i o
   by_cases hi:i<t.aw.length
   ·have a:=aA.eK hi;rcases i with _|j
    ·have b:=sX a;simp[hi,a,w1,aa];exact⟨by omega,rd 1 hi (hh:=by simp[b]) (hr2:=by simp[kx])⟩
    ·have h:ao.wrap ((j:Int)+1+1)=(j:Int)+1+1:=aQ _ (by omega) (by omega);have hI:(j:Int)+1<t.aw.length:=by omega
     have b:=sW (f:=AV.p∘bK) a;simp[hi,hI,a,h,aa];exact⟨by omega,⟨by omega,by omega⟩,rd (j+2) hi (hh:=by simp at b;simp[b]) (hr2:=by simp[kx])⟩
   have d:i=t.aw.length:=by omega
   rcases i with _|c
   ·have e:t.aw=[]:=a4.1 d.symm;simp[e,aa];simp[cg,hc,n,e,pn,pj]
   ·have hI:¬((c:Int)+1<t.aw.length):=by omega
    have g:t.aw.take (c+1)=t.aw:=by rw[d,ay]
    simp[hI,g,aa];have l:(t.aw.map (AV.p∘bK)).take (c+1)=t.aw.map (AV.p∘bK):=ax (by simp;omega);simp[cg,hc,n,l,pn,pj];omega
  ·have hI:¬((j:Int)+1<t.aV.length):=by omega
   have g:t.aV.take (j+1)=t.aV:=by rw[q,ay]
   simp[hI,g,aa];refine lp (α:=Nat) (fun i=>match i with
    |0=>⟨[(32,.p (.int .i64 0)),(31,.p (.int .i64 t.aw.length)),(30,.p (.seq (t.aw.map bK))),(3,.ptr 3 []),(2,.ptr 1 []),(1,.ptr 0 [])],[.box false (.p (cM t)),.box false (.p (.st 43 [.aP,.int .i64 0,.aP,.aP])),.arr .exact 0 2 [],.box false (.st 43 [.sl 2 0 2 0 0,.p (.int .i64 t.aN),.sl 6 j 4 0 (j+1),.p .aP]),.hole,.hole,.arr .grow j 4 (t.aV.map (AV.p∘fx))]⟩
    |m+1=>⟨[(32,.p (.int .i64 ((m+1:Nat):Int))),(31,.p (.int .i64 t.aw.length)),(30,.p (.seq (t.aw.map bK))),(3,.ptr 3 []),(2,.ptr 1 []),(1,.ptr 0 [])],[.box false (.p (cM t)),.box false (.p (.st 43 [.aP,.int .i64 0,.aP,.aP])),.arr .exact 0 2 [],.box false (.st 43 [.sl 2 0 2 0 0,.p (.int .i64 t.aN),.sl 6 j 4 0 (j+1),.sl 9 m 3 0 (m+1)]),.hole,.hole,.arr .grow j 4 (t.aV.map (AV.p∘fx)),.hole,.hole,.arr .grow m 3 ((t.aw.take (m+1)).map (AV.p∘bK))]⟩) (fun i=>i<=t.aw.length) (fun i=>t.aw.length-i) 0 (by simp) ?_
   rintro i o
   by_cases hi:i<t.aw.length
   ·have a:=aA.eK hi;rcases i with _|j
    ·have b:=sX a;simp[hi,a,w1,aa];exact⟨by omega,rd 1 hi (hh:=by simp[b]) (hr2:=by simp[kx])⟩
    ·have h:ao.wrap ((j:Int)+1+1)=(j:Int)+1+1:=aQ _ (by omega) (by omega);have hI:(j:Int)+1<t.aw.length:=by omega
     have b:=sW (f:=AV.p∘bK) a;simp[hi,hI,a,h,aa];exact⟨by omega,⟨by omega,by omega⟩,rd (j+2) hi (hh:=by simp at b;simp[b]) (hr2:=by simp[kx])⟩
   have d:i=t.aw.length:=by omega
   rcases i with _|c
   ·have e:t.aw=[]:=a4.1 d.symm;simp[e,aa];have k:(t.aV.map (AV.p∘fx)).take (j+1)=t.aV.map (AV.p∘fx):=ax (by simp;omega);simp[cg,hc,k,e,pn,pj];omega
   ·have hI:¬((c:Int)+1<t.aw.length):=by omega
    have g:t.aw.take (c+1)=t.aw:=by rw[d,ay]
    simp[hI,g,aa];have k:(t.aV.map (AV.p∘fx)).take (j+1)=t.aV.map (AV.p∘fx):=ax (by simp;omega);have l:(t.aw.map (AV.p∘bK)).take (c+1)=t.aw.map (AV.p∘bK):=ax (by simp;omega);simp[cg,hc,k,l,pn,pj];omega
 ·simp[hc];refine⟨⟨by repeat' first|rfl|apply am,by repeat' first|rfl|apply am⟩,?_⟩;refine lp (α:=Nat) (fun i=>match i with
    |0=>⟨[(18,.p (.int .i64 0)),(17,.p (.int .i64 t.aV.length)),(16,.p (.seq (t.aV.map fx))),(3,.ptr 4 []),(2,.ptr 1 []),(1,.ptr 0 [])],[.box false (.p (cM t)),.box false (.p (.st 43 [.aP,.int .i64 0,.aP,.aP])),.arr .exact 0 2 [],.arr .grow 0 2 (t.cs.map (AV.p∘cF)),.box false (.st 43 [.sl 3 0 2 0 t.cs.length,.p (.int .i64 t.aN),.p .aP,.p .aP])]⟩
    |m+1=>⟨[(18,.p (.int .i64 ((m+1:Nat):Int))),(17,.p (.int .i64 t.aV.length)),(16,.p (.seq (t.aV.map fx))),(3,.ptr 4 []),(2,.ptr 1 []),(1,.ptr 0 [])],[.box false (.p (cM t)),.box false (.p (.st 43 [.aP,.int .i64 0,.aP,.aP])),.arr .exact 0 2 [],.arr .grow 0 2 (t.cs.map (AV.p∘cF)),.box false (.st 43 [.sl 3 0 2 0 t.cs.length,.p (.int .i64 t.aN),.sl 7 m 4 0 (m+1),.p .aP]),.hole,.hole,.arr .grow m 4 ((t.aV.take (m+1)).map (AV.p∘fx))]⟩) (fun i=>i<=t.aV.length) (fun i=>t.aV.length-i) 0 (by simp) ?_
  rintro i o
  by_cases hi:i<t.aV.length
  ·have a:=aA.jd hi;rcases i with _|j
   ·have b:=sX a;simp[hi,a,w1,aa];exact⟨by omega,rd 1 hi (hh:=by simp[b]) (hr2:=by simp[kx])⟩
   ·have h:ao.wrap ((j:Int)+1+1)=(j:Int)+1+1:=aQ _ (by omega) (by omega);have hI:(j:Int)+1<t.aV.length:=by omega
    have b:=sW (f:=AV.p∘fx) a;simp[hi,hI,a,h,aa];exact⟨by omega,⟨by omega,by omega⟩,rd (j+2) hi (hh:=by simp at b;simp[b]) (hr2:=by simp[kx])⟩
  have q:i=t.aV.length:=by omega
  rcases i with _|j
  ·have n:t.aV=[]:=a4.1 q.symm;simp[n,aa];refine lp (α:=Nat) (fun i=>match i with
     |0=>⟨[(32,.p (.int .i64 0)),(31,.p (.int .i64 t.aw.length)),(30,.p (.seq (t.aw.map bK))),(3,.ptr 4 []),(2,.ptr 1 []),(1,.ptr 0 [])],[.box false (.p (cM t)),.box false (.p (.st 43 [.aP,.int .i64 0,.aP,.aP])),.arr .exact 0 2 [],.arr .grow 0 2 (t.cs.map (AV.p∘cF)),.box false (.st 43 [.sl 3 0 2 0 t.cs.length,.p (.int .i64 t.aN),.p .aP,.p .aP])]⟩
     |m+1=>⟨[(32,.p (.int .i64 ((m+1:Nat):Int))),(31,.p (.int .i64 t.aw.length)),(30,.p (.seq (t.aw.map bK))),(3,.ptr 4 []),(2,.ptr 1 []),(1,.ptr 0 [])],[.box false (.p (cM t)),.box false (.p (.st 43 [.aP,.int .i64 0,.aP,.aP])),.arr .exact 0 2 [],.arr .grow 0 2 (t.cs.map (AV.p∘cF)),.box false (.st 43 [.sl 3 0 2 0 t.cs.length,.p (.int .i64 t.aN),.p .aP,.sl 7 m 3 0 (m+1)]),.hole,.hole,.arr .grow m 3 ((t.aw.take (m+1)).map (AV.p∘bK))]⟩) (fun i=>i<=t.aw.length) (fun i=>t.aw.length-i) 0 (by simp) ?_
   rintro i o
   by_cases hi:i<t.aw.length
   ·have a:=aA.eK hi;rcases i with _|j
    ·have b:=sX a;simp[hi,a,w1,aa];exact⟨by omega,rd 1 hi (hh:=by simp[b]) (hr2:=by simp[kx])⟩
    ·have h:ao.wrap ((j:Int)+1+1)=(j:Int)+1+1:=aQ _ (by omega) (by omega);have hI:(j:Int)+1<t.aw.length:=by omega
     have b:=sW (f:=AV.p∘bK) a;simp[hi,hI,a,h,aa];exact⟨by omega,⟨by omega,by omega⟩,rd (j+2) hi (hh:=by simp at b;simp[b]) (hr2:=by simp[kx])⟩
   have d:i=t.aw.length:=by omega
   rcases i with _|c
   ·have e:t.aw=[]:=a4.1 d.symm;simp[e,aa];simp[cg,hc,n,e,pn,pj]
   ·have hI:¬((c:Int)+1<t.aw.length):=by omega
    have g:t.aw.take (c+1)=t.aw:=by rw[d,ay]
    simp[hI,g,aa];have l:(t.aw.map (AV.p∘bK)).take (c+1)=t.aw.map (AV.p∘bK):=ax (by simp;omega);simp[cg,hc,n,l,pn,pj];omega
  ·have hI:¬((j:Int)+1<t.aV.length):=by omega
   have g:t.aV.take (j+1)=t.aV:=by rw[q,ay]
   simp[hI,g,aa];refine lp (α:=Nat) (fun i=>match i with
    |0=>⟨[(32,.p (.int .i64 0)),(31,.p (.int .i64 t.aw.length)),(30,.p (.seq (t.aw.map bK))),(3,.ptr 4 []),(2,.ptr 1 []),(1,.ptr 0 [])],[.box false (.p (cM t)),.box false (.p (.st 43 [.aP,.int .i64 0,.aP,.aP])),.arr .exact 0 2 [],.arr .grow 0 2 (t.cs.map (AV.p∘cF)),.box false (.st 43 [.sl 3 0 2 0 t.cs.length,.p (.int .i64 t.aN),.sl 7 j 4 0 (j+1),.p .aP]),.hole,.hole,.arr .grow j 4 (t.aV.map (AV.p∘fx))]⟩
    |m+1=>⟨[(32,.p (.int .i64 ((m+1:Nat):Int))),(31,.p (.int .i64 t.aw.length)),(30,.p (.seq (t.aw.map bK))),(3,.ptr 4 []),(2,.ptr 1 []),(1,.ptr 0 [])],[.box false (.p (cM t)),.box false (.p (.st 43 [.aP,.int .i64 0,.aP,.aP])),.arr .exact 0 2 [],.arr .grow 0 2 (t.cs.map (AV.p∘cF)),.box false (.st 43 [.sl 3 0 2 0 t.cs.length,.p (.int .i64 t.aN),.sl 7 j 4 0 (j+1),.sl 10 m 3 0 (m+1)]),.hole,.hole,.arr .grow j 4 (t.aV.map (AV.p∘fx)),.hole,.hole,.arr .grow m 3 ((t.aw.take (m+1)).map (AV.p∘bK))]⟩) (fun i=>i<=t.aw.length) (fun i=>t.aw.length-i) 0 (by simp) ?_
   rintro i o
   by_cases hi:i<t.aw.length
   ·have a:=aA.eK hi;rcases i with _|j
    ·have b:=sX a;simp[hi,a,w1,aa];exact⟨by omega,rd 1 hi (hh:=by simp[b]) (hr2:=by simp[kx])⟩
    ·have h:ao.wrap ((j:Int)+1+1)=(j:Int)+1+1:=aQ _ (by omega) (by omega);have hI:(j:Int)+1<t.aw.length:=by omega
     have b:=sW (f:=AV.p∘bK) a;simp[hi,hI,a,h,aa];exact⟨by omega,⟨by omega,by omega⟩,rd (j+2) hi (hh:=by simp at b;simp[b]) (hr2:=by simp[kx])⟩
   have d:i=t.aw.length:=by omega
   rcases i with _|c
   ·have e:t.aw=[]:=a4.1 d.symm;simp[e,aa];have k:(t.aV.map (AV.p∘fx)).take (j+1)=t.aV.map (AV.p∘fx):=ax (by simp;omega);simp[cg,hc,k,e,pn,pj];omega
   ·have hI:¬((c:Int)+1<t.aw.length):=by omega
    have g:t.aw.take (c+1)=t.aw:=by rw[d,ay]
    simp[hI,g,aa];have k:(t.aV.map (AV.p∘fx)).take (j+1)=t.aV.map (AV.p∘fx):=ax (by simp;omega);have l:(t.aw.map (AV.p∘bK)).take (c+1)=t.aw.map (AV.p∘bK):=ax (by simp;omega);simp[cg,hc,k,l,pn,pj];omega
def gJ(r:Int)(a b:V2):Int:=dC ((a.sub b).dot (a.sub b)) (iH r)
def iD(t:aA)(bef:List cG)(s:cG):Int:=
 if isName s.name=false then 8
 else if bef.any (fun o=>decide (o.name=s.name))=true then 9
 else if eA s.pt≠0 then eA s.pt
 else if t.on (vP s.pt)<0 then 16
 else if bef.any (fun o=>decide (gJ t.aN (vP o.pt) (vP s.pt)<0))=true then 17 else 0
def sZ(t b:aA):Int:=if 24<b.aw.length then 5 else ks (iD t) b.aw
def gV(t b:aA):Int:=if gT t≠0 then gT t else sZ t b
structure fM(b:aA):Prop where
 sl:b.aw.length<=1000000
 sp:∀s∈b.aw,nG s
theorem ky{t:aA}(h:gT t=0):1<=t.aN/\t.aN<=1000:=by
 rw[gT]at h
 split at h
 ·omega
 split at h
 ·omega
 split at h
 ·omega
 split at h
 ·omega
 split at h
 ·omega
 omega
theorem vg{s:gS}(h:eA s=0):eV (vP s)=gf s/\bB 2000 (vP s):=by
 obtain⟨g1,g2⟩:=jX h;refine⟨?_,gH g1,gH g2⟩;rw[eV,vP];dsimp only;rw[(ji g1).1,(ji g2).1]
theorem T3(t:aA)(a:0<=t.aN)(b:t.aN<=1000000):ar prog 266 [cM t] (.str (bg (iH t.aN))):=by
 have e:=wG a b;have c:=wX (4*t.aN*t.aN) (by omega) (by omega);have w1:ao.wrap (4*t.aN)=4*t.aN:=aQ _ (by omega) (by omega);have d:ao.wrap (4*t.aN*t.aN)=4*t.aN*t.aN:=aQ _ (by omega) (by omega);refine aI nf Gk mix (by simp[f266]) ?_;rw[iH];simp[f266,aa,w1,d];refine c1 c ?_;simp
theorem TO(t:aA)(a b:V2)(d:0<=t.aN)(e:t.aN<=1000000)(f:bB 2000 a)(g:bB 2000 b):ar prog 206 [cM t,eV a,eV b] (.int .i64 (gJ t.aN a b)):=by
 have c:=gL f g;have k1:=oU a b (f.mono (by decide)) (g.mono (by decide));have k2:=yG (a.sub b) (c.mono (by decide));have k3:=T3 t d e;have k4:=qI ((a.sub b).dot (a.sub b)) (iH t.aN) ((lM c c).mono (by decide)) ((yB d e).mono (by decide));refine aI nf HX mix (by simp[f206]) ?_;rw[gJ];simp[f206,aa];refine e2 k1 ?_;simp[aa];refine e1 k2 ?_;simp[aa];refine e1 k3 ?_;simp[aa];refine e2 k4 ?_;simp[aa]
theorem GS{α:Type}{f:α->Bool}{l:List α}{i j:Nat}{x:α}(h:l[j]?=some x)(a:j<i)(hf:f x=true):(l.take i).any f=true:=by
 rw[bI];exact⟨x,aT (i:=j) (by rw[bl,if_pos a];exact h),hf⟩
theorem Bw{t:aA}{a:List cG}{s:cG}(h:iD t a s=0):eA s.pt=0:=by
 rw[iD]at h
 split at h
 ·omega
 split at h
 ·omega
 split at h
 ·contradiction
 ·rename_i g;exact Decidable.not_not.1 g
theorem TL(t b:aA)(w:gT t=0)(A:fM b)(B:t.cs.length<=1000000):ar prog 114 [cM t,.seq (b.aw.map bK)] (.int .i64 (sZ t b)):=by
 obtain⟨Q,D⟩:=A;obtain⟨_,_,C,_⟩:=qG w;obtain⟨R,S⟩:=ky w;refine aI nf G2 mix (by simp[f114]) ?_;rw[sZ]
 by_cases c4:24<b.aw.length
 ·have cI:(24:Int)<b.aw.length:=by omega
  rw[if_pos c4];simp[f114,aa,cI]
 have y:¬(24:Int)<b.aw.length:=by omega
 rw[if_neg c4];simp[f114,aa,y];refine lp (α:=Nat) (fun i=>⟨[(5,.p (.int .i64 i)),(2,.ptr 0 []),(1,.p (.seq (b.aw.map bK)))],[.box false (.p (cM t))]⟩) (fun i=>i<=b.aw.length/\∀j,j<i->gI (iD t) b.aw j=0) (fun i=>b.aw.length-i) 0 (by simp) ?_;rintro i ⟨s1,s2⟩
 by_cases hs:i<b.aw.length
 case neg=>
  have:i=b.aw.length:=by omega
  subst this;rw[pg.2 s2];simp[aa]
 have a:=aA.eK hs;have F:=bR (i:=i) (by omega);obtain⟨J,K⟩:=D _ (aT a);have g:=Bj (b.sp i).name J.1;have z:=Jc (b.sp i).pt K;have e:iD t (b.aw.take i) (b.sp i)≠0->ks (iD t) b.aw=iD t (b.aw.take i) (b.sp i):=sV s2 a;have I:iD t (b.aw.take i) (b.sp i)=0->∀j,j<i+1->gI (iD t) b.aw j=0:=sU s2 a;have N:∀j,j<i->eA (b.sp j).pt=0:=fun j c=>by
  have:=s2 j c;rw[gI,aA.eK (by omega)]at this;exact Bw this
 have ev:iD t (b.aw.take i) (b.sp i)=if isName (b.sp i).name=false then 8 else if(b.aw.take i).any (fun o=>decide (o.name=(b.sp i).name))=true then 9 else if eA (b.sp i).pt≠0 then eA (b.sp i).pt else if t.on (vP (b.sp i).pt)<0 then 16 else if(b.aw.take i).any (fun o=>decide (gJ t.aN (vP o.pt) (vP (b.sp i).pt)<0))=true then 17 else 0:=rfl
 clear s2;generalize iD t (b.aw.take i) (b.sp i)=E at*;generalize ks (iD t) b.aw=O at*;cases m:isName (b.sp i).name
 ·rw[m]at g;rw[m,if_pos rfl]at ev;rw[e (by rw[ev];decide),ev];simp[hs,a,aa];refine Go.ah.c1 g ?_;simp[aa]
 rw[m]at g;rw[m,if_neg (by decide)]at ev;simp[hs,a,aa];refine Go.ah.c1 g ?_;simp[aa];refine lp (α:=Nat) (fun k=>⟨[(6,.p (.int .i64 k)),(5,.p (.int .i64 i)),(2,.ptr 0 []),(1,.p (.seq (b.aw.map bK)))],[.box false (.p (cM t))]⟩) (fun k=>k<=i/\(b.aw.take k).any (fun o=>decide (o.name=(b.sp i).name))=false) (fun k=>i-k) 0 (by simp) ?_;rintro k ⟨k1,k2⟩
 by_cases hk:k<i
 ·have s:k<b.aw.length:=by omega
  have gk:=aA.eK s;have H:=bR (i:=k) (by omega)
  by_cases l:(b.sp k).name=(b.sp i).name
  ·rw[if_pos (GS gk hk (by simp[l]))]at ev;rw[e (by rw[ev];decide),ev];simp[hs,hk,s,gk,a,l,aa]
  ·simp[hs,hk,s,gk,a,l,H,aa];exact rd (k+1) ⟨hk,by rw[u4 gk,k2];simp[l]⟩
 have:k=i:=by omega
 subst this;rw[k2,if_neg (by decide)]at ev;clear k1 k2 hk;have u:¬k<k:=by omega
 simp[u,hs,a,aa];refine Go.ah.c1 z ?_
 by_cases d:eA (b.sp k).pt=0
 case neg=>
  rw[if_pos d]at ev;rw[e (by rw[ev];exact d),ev];simp[d,aa]
 rw[if_neg (by simp[d])]at ev;obtain⟨pl,ok⟩:=vg d;have v:=Eu t (vP (b.sp k).pt) B C (ok.mono (by decide));rw[pl]at v;simp[d,hs,a,aa];refine Go.ah.e2 v ?_
 by_cases n:t.on (vP (b.sp k).pt)<0
 ·rw[if_pos n]at ev;rw[e (by rw[ev];decide),ev];simp[n,aa]
 rw[if_neg n]at ev;simp[n,aa];refine lp (α:=Nat) (fun j=>⟨[(8,.p (.int .i64 j)),(5,.p (.int .i64 k)),(2,.ptr 0 []),(1,.p (.seq (b.aw.map bK)))],[.box false (.p (cM t))]⟩) (fun j=>j<=k/\(b.aw.take j).any (fun o=>decide (gJ t.aN (vP o.pt) (vP (b.sp k).pt)<0))=false) (fun j=>k-j) 0 (by simp) ?_;rintro j ⟨P,x⟩
 by_cases c:j<k
 ·have r:j<b.aw.length:=by omega
  have f:=aA.eK r;have G:=bR (i:=j) (by omega);obtain⟨M,L⟩:=vg (N j c);have q:=TO t (vP (b.sp j).pt) (vP (b.sp k).pt) (by omega) (by omega) L ok;rw[pl,M]at q
  by_cases h:gJ t.aN (vP (b.sp j).pt) (vP (b.sp k).pt)<0
  ·rw[if_pos (GS f c (by simp[h]))]at ev;rw[e (by rw[ev];decide),ev];simp[hs,c,r,f,a,aa];refine Go.ah.e3 q ?_;simp[h,aa]
  ·simp[hs,c,r,f,a,aa];refine Go.ah.e3 q ?_;simp[h,G,aa];exact rd (j+1) ⟨c,by rw[u4 f,x];simp[h]⟩
 have:j=k:=by omega
 subst this;rw[x,if_neg (by decide)]at ev;simp[u,F,aa];exact rd (j+1) ⟨hs,I ev⟩
theorem Bx(t b:aA)(a:fL t)(c:fM b):ar prog 42 [cM t,.seq (b.aw.map bK)] (.int .i64 (gV t b)):=by
 have k1:=S6 t a;refine aI nf RC mix (by simp[f42]) ?_;rw[gV]
 by_cases h:gT t=0
 ·rw[if_neg (by simp[h])];have k2:=TL t b h c a.cl;rw[h]at k1;simp[f42,aa];refine Go.ah.c1 k1 ?_;simp[aa];refine Go.ah.c2 k2 ?_;simp[aa]
 ·rw[if_pos h];generalize gT t=e at*;simp[f42,aa];refine Go.ah.c1 k1 ?_;simp[h,aa]
end Go.ah
