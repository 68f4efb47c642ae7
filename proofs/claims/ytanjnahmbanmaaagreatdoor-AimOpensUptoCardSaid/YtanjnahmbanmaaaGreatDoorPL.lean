import Derived.Test.YtanjnahmbanmaaaGreatDoorPK
import Derived.Test.YtanjnahmbanmaaaGreatDoorThE
/- Parts of a proof. -/
set_option linter.unusedSimpArgs false
set_option linter.unusedVariables false
set_option linter.unusedSectionVars false
open Go.Proofs.Tryz
open And renaming intro->am
open Go.IntKind renaming i64->ao
open Int renaming tmod_eq_emod_of_nonneg->ap, natCast_emod->av
open List renaming take_of_length_le->ax, take_length->ay, mem_of_getElem?->aT, length_eq_zero_iff->a0, drop_eq_getElem_cons->a1, take_add_one->a4, length_take->a5, range->a6, map_take->a7, getElem?_eq_none->a8, mem_iff_getElem->a9, getElem?_range->bb, getElem?_take->be, length_range->bi, getElem_take->bl, getElem?_map->bo, any_eq_true->bp, length_map->bv, map_cons->bI, mem_map->bV
namespace Go.ak
open Go.Proofs
set_option maxHeartbeats 4000000
set_option maxRecDepth 100000
def mh(l:List dN):List (PV×PV):=l.map (fun p=>(cA p,PV.bool true))
theorem Fe{p q:dN}(h:¬p=q):¬(p.x=q.x/\p.y=q.y):=fun⟨a,b⟩=>h (by cases p;cases q;simp_all)
theorem ZM(a b c d:Int):iK prog 9 179 (.st 178 [.int .i64 a,.int .i64 b]) (.st 178 [.int .i64 c,.int .i64 d])=some ((a==c)&&((b==d)&&true)):=by kernel_rfl
@[simp] theorem As(p q:dN):iK prog 9 179 (cA p) (cA q)=some (decide (p=q)):=by
 rw[cA,cA,ZM]
 by_cases h:p=q
 ·subst h;simp
 ·rw[decide_eq_false h];have:=Fe h
  by_cases a:p.x=q.x
  ·have b:¬p.y=q.y:=fun b=>this ⟨a,b⟩;simp[a,b]
  ·simp[a]
theorem Fc(p q:dN):ju (cA p) (cA q)=some (decide (p=q)):=by
 by_cases h:p=q
 ·subst h;simp[cA,ju,vT]
 ·rw[decide_eq_false h];have:=Fe h
  by_cases a:p.x=q.x
  ·have b:¬p.y=q.y:=fun b=>this ⟨a,b⟩;simp[cA,ju,vT,a,beq_false_of_ne b]
  ·simp[cA,ju,vT,beq_false_of_ne a]
theorem ZL(p q:dN):pC prog 179 (cA p) (cA q)=some (decide (p=q)):=by
 have e1:=As p q;have e2:=Fc p q;rw[cA]at e1 e2⊢;rw[pC,e1,e2];simp
@[simp] theorem EC(q:dN):∀l:List dN,fE prog 179 (mh l) (cA q)=some (if q∈l then some (.bool true)else none)
 |[]=>rfl
 |p::r=>by
  rw[mh,bI,fE,ZL]
  by_cases h:q=p
  ·simp[h]
  ·have:=EC q r;rw[mh]at this;simp[h,this]
theorem Q6{q:dN}{l:List dN}(h:¬q∈l):lO prog 179 (mh l) (cA q)=some none:=by
 have:=EC q l;rw[if_neg h]at this;rw[cA]at this⊢;rw[lO,this]
theorem ED{q:dN}:∀{l:List dN},¬q∈l->fN (mh l) (cA q) (.bool true)=mh (l++[q])
 |[],_=>rfl
 |p::r,h=>by
  have a:¬q=p:=fun e=>h (e▸List.mem_cons_self);have b:¬q∈r:=fun e=>h (List.mem_cons_of_mem _ e);have:=ED b;rw[mh]at this⊢;rw[bI,fN,Fc,this];simp[a,mh]
theorem aHf:rD prog 179=true:=by kernel_rfl
@[simp high] theorem aJ4(c:Bool)(H:aj)(p q:dN):gX prog .neq 179 c H (.p (cA p)) (.p (cA q))=some (True,{v:=.p (.bool !(decide (p=q)))}):=by
 have e:=As p q;rw[cA,cA]at*;simp[gX,e,aHf]
@[simp high] theorem aKN(q:dN):fO prog 179 (cA q)=true:=by
 have e1:=As q q;rw[cA]at e1⊢;rw[fO];simp[e1]
theorem Rn(a c:dN):lx a a c=0:=by simp[lx]
theorem Q7(a b:dN):lx a b a=0:=by simp[lx]
theorem Ri{t:aB}(e:3<=t.cs.length){j k:Nat}(c:j<t.cs.length)(hk:k<t.cs.length)(d:j≠k)(b:t.at j=t.at k):t.fU=false:=by
 rw[aB.fU,decide_eq_false_iff_not];intro h
 by_cases hx:k=t.nx j
 ·obtain⟨m,m1,m2,m3⟩:∃m,m<t.cs.length/\m≠j/\m≠k:=by
   rcases Nat.lt_trichotomy j k with a|a|a
   ·by_cases e0:j=0
    ·by_cases e1:k=1
     ·exact⟨2,by omega,by omega,by omega⟩
     ·exact⟨1,by omega,by omega,by omega⟩
    ·exact⟨0,by omega,by omega,by omega⟩
   ·exact(d a).elim
   ·by_cases e0:k=0
    ·by_cases e1:j=1
     ·exact⟨2,by omega,by omega,by omega⟩
     ·exact⟨1,by omega,by omega,by omega⟩
    ·exact⟨0,by omega,by omega,by omega⟩
  have:=h j c m m1 m2 (hx▸m3);rw[<-hx,<-b,Rn]at this;omega
 ·have:=h j c k hk (Ne.symm d) hx;rw[<-b,Q7]at this;omega
theorem Rq(t:aB)(ai:3<=t.cs.length)(aj:t.cs.length<=1000000)(F:∀p∈t.cs,dW p):au prog 179 [cj t] (.bool t.fU):=by
 refine aI nf Fu mix (by simp[f179]) ?_;generalize q:t.cs.length=n at*;simp[f179,aa,q];refine lp (α:=Nat) (fun i=>⟨[(16,.p (.int .i64 i)),(15,.p (.int .i64 n)),(14,.p (.seq (t.cs.map cA))),(3,.map 1),(1,.ptr 0 [])],[.box false (.p (cj t)),.map false (mh (t.cs.take i))]⟩) (fun i=>i<=n/\∀j k,j<k->k<i->t.at j≠t.at k) (fun i=>n-i) 0 (by simp) ?_ (hh:=by simp[mh]);rintro i ⟨ah,E⟩
 by_cases hi:i<n
 ·have H:=aB.get (t:=t) (i:=i) (by omega);have z:=b9 (i:=i) (by omega);have W:t.cs.take (i+1)=t.cs.take i++[t.at i]:=by rw[a4,H];rfl
  simp[-fO,hi,q,H,aa]
  by_cases f:t.at i∈t.cs.take i
  ·obtain⟨j,s,r⟩:=a9.1 f;rw[a5]at s;rw[bl,aB.aQ (by omega)]at r;have Q:=Ri (by omega) (j:=j) (k:=i) (by omega) (by omega) (by omega) r;simp[f,Q]
  ·have hI:=Q6 f;have I:=ED f;rw[<-W]at I;simp[-fO,-lO,f,hI,I,z];exact rd (i+1) ⟨hi,fun j k w hk=>by
    by_cases T:k=i
    ·subst T;intro r;exact f (r▸aT (i:=j) (by rw[be,if_pos w];exact aB.get (by omega)))
    ·exact E j k w (by omega)⟩
 have R:i=n:=by omega
 subst R;have inj:∀j k,j<i->k<i->t.at j=t.at k->j=k:=fun j k s hk r=>by
  rcases Nat.lt_trichotomy j k with h|h|h
  ·exact(E j k h hk r).elim
  ·exact h
  ·exact(E k j h s r.symm).elim
 simp[q,aa];refine lp (α:=Nat) (fun m=>⟨[(32,.p (.int .i64 m)),(31,.p (.int .i64 i)),(30,.p (.seq (t.cs.map cA))),(6,.p (.int .i64 i)),(1,.ptr 0 [])],[.box false (.p (cj t))]⟩) (fun m=>m<=i/\∀j,j<m->t.mS j i) (fun m=>i-m) 0 (by simp) ?_;rintro m ⟨g1,g2⟩;have U:¬i=0:=by omega
 by_cases f:m<i
 ·have M:=aB.get (t:=t) (i:=m) (by omega);have z:=b9 (i:=m) (by omega);have V:t.nx m<i:=by rw[<-q];exact t.mi (by omega) m
  have N:=aB.get (t:=t) (i:=t.nx m) (by omega);have e1:((m:Int)+1).tmod (i:Int)=((t.nx m:Nat):Int):=by
   rw[aB.nx,q,av,ap (by omega)];rfl
  simp[f,q,M,N,z,e1,U,aa];refine⟨by repeat' first|rfl|apply am,?_⟩;refine lp (α:=Nat) (fun k=>⟨[(48,.p (.int .i64 k)),(47,.p (.int .i64 i)),(46,.p (.seq (t.cs.map cA))),(9,.ptr 2 []),(8,.ptr 1 []),(32,.p (.int .i64 m)),(31,.p (.int .i64 i)),(30,.p (.seq (t.cs.map cA))),(6,.p (.int .i64 i)),(1,.ptr 0 [])],[.box false (.p (cj t)),.box false (.p (cA (t.at m))),.box false (.p (cA (t.at (t.nx m))))]⟩) (fun k=>k<=i/\t.mS m k) (fun k=>i-k) 0 (by simp[aB.mS]) ?_;rintro k ⟨q1,D⟩
  by_cases hk:k<i
  ·have gk:=aB.get (t:=t) (i:=k) (by omega);have G:=b9 (i:=k) (by omega)
   by_cases c1:t.at k=t.at m
   ·have:=inj _ _ hk f c1;subst this;simp[-gX,gX.eq_1,hk,gk,G,aa];exact rd (k+1) ⟨hk,fun j s=>by
     by_cases w:j=k
     ·intro h;exact(h w).elim
     ·exact D j (by omega)⟩
   ·by_cases c2:t.at k=t.at (t.nx m)
    ·have:=inj _ _ hk V c2;have c3:¬t.at (t.nx m)=t.at m:=by rw[<-c2];exact c1
     simp[-gX,gX.eq_1,hk,gk,G,c2,c3,aa];exact rd (k+1) ⟨hk,fun j s=>by
      by_cases w:j=k
      ·intro _ h;exact(h (by omega)).elim
      ·exact D j (by omega)⟩
    ·have L:k≠m:=fun e=>c1 (by rw[e]);have nx:k≠t.nx m:=fun e=>c2 (by rw[e]);have P:lx (t.at m) (t.at (t.nx m)) (t.at k)=((t.at (t.nx m)).x-(t.at m).x)*((t.at k).y-(t.at m).y)-((t.at (t.nx m)).y-(t.at m).y)*((t.at k).x-(t.at m).x):=rfl;have X:=aB.gC F (i:=m) (by omega);have Y:=aB.gC F (i:=t.nx m) (by omega);have Z:=aB.gC F (i:=k) (by omega);have K:t.mS m (k+1)↔0<lx (t.at m) (t.at (t.nx m)) (t.at k):=⟨fun h=>h k (by omega) L nx,fun h j s u v=>by
      by_cases w:j=k
      ·subst w;exact h
      ·exact D j (by omega) u v⟩
     have J:¬0<lx (t.at m) (t.at (t.nx m)) (t.at k)->t.fU=false:=fun h=>by
      rw[aB.fU,decide_eq_false_iff_not];intro O;exact h (O m (by omega) k (by omega) L nx)
     rw[P]at K J;simp[-gX,gX.eq_1,hk,gk,G,c1,c2,aa];simp only[dW]at X Y Z;generalize t.at m=A at*;generalize t.at (t.nx m)=B at*;generalize t.at k=C at*;obtain⟨c,d⟩:=A;obtain⟨bx,g⟩:=B;obtain⟨l,o⟩:=C;dsimp only at*;have w1:ao.wrap (bx-c)=bx-c:=aP _ (by omega) (by omega);have ab:ao.wrap (o-d)=o-d:=aP _ (by omega) (by omega);have ac:ao.wrap (g-d)=g-d:=aP _ (by omega) (by omega)
     have ad:ao.wrap (l-c)=l-c:=aP _ (by omega) (by omega);have ak:=wK (a:=bx-c) (b:=o-d) (A:=20000) (B:=20000) (by omega) (by omega) (by omega) (by omega);have al:=wK (a:=g-d) (b:=l-c) (A:=20000) (B:=20000) (by omega) (by omega) (by omega) (by omega);have ae:ao.wrap ((bx-c)*(o-d))=(bx-c)*(o-d):=aP _ (by omega) (by omega);have af:ao.wrap ((g-d)*(l-c))=(g-d)*(l-c):=aP _ (by omega) (by omega);have ag:ao.wrap ((bx-c)*(o-d)-(g-d)*(l-c))=(bx-c)*(o-d)-(g-d)*(l-c):=aP _ (by omega) (by omega);simp[w1,ab,ac,ad,ae,af,ag]
     by_cases hc:(bx-c)*(o-d)-(g-d)*(l-c)<=0
     ·have:=J (by omega);simp[hc,this]
     ·simp[hc];exact rd (k+1) ⟨hk,K.2 (by omega)⟩
  ·have:k=i:=by omega
   subst this;simp[z];exact rd (m+1) ⟨f,fun j s=>by
    by_cases S:j=m
    ·subst S;exact D
    ·exact g2 j (by omega)⟩
 ·have:m=i:=by omega
  subst this;have:t.fU=true:=by
   rw[aB.fU,decide_eq_true_eq,q];exact g2
  simp[this]
noncomputable def fk(v:NV):PV:=.st 270 [eF v.x,eF v.y]
@[simp] theorem aMH(v:NV):aL (fk v)=.agg 270:=rfl
@[simp] theorem aK8(v:NV):bW (fk v)=[eF v.x,eF v.y]:=rfl
@[simp] theorem aKh:prog.cellsOf 270=8:=by kernel_rfl
theorem Au(x y:NF):fk ⟨x,y⟩=.st 270 [eF x,eF y]:=rfl
noncomputable def tF(a b:NV):PV:=.st 333 [fk a,fk b]
@[simp] theorem aMn(a b:NV):aL (tF a b)=.agg 333:=rfl
@[simp] theorem aKQ(a b:NV):bW (tF a b)=[fk a,fk b]:=rfl
theorem Dv(p:gF)(d:b7 p.x=0)(e:b7 p.y=0)(a:n8 p):au prog 210 [ga p] (fk (.from p)):=by
 have b:=kX p.x d a.1.1;have c:=kX p.y e a.2.1;refine aI nf EP mix (by simp[f210]) ?_;rw[NV.from,Au];simp[f210,aa];refine e1 b ?_;simp[aa];refine e1 c ?_;simp[aa]
def dy(p:dN):NV:=⟨.int p.x,.int p.y⟩
theorem En(p:dN)(h:dW p):au prog 351 [cA p] (fk (dy p)):=by
 simp only[dW]at h;have a:=kY p.x (by omega) (by omega);have b:=kY p.y (by omega) (by omega);refine aI nf EV mix (by simp[f351]) ?_;rw[dy,Au];simp[f351,aa];refine e1 a ?_;simp[aa];refine e1 b ?_;simp[aa]
theorem Aw(v w:NV)(a:bA kQ v.q)(b:bA kQ w.q):au prog 279 [fk v,fk w] (fk (v.sub w)):=by
 have c:=qQ v.x w.x (cT a.1) (cT b.1);have d:=qQ v.y w.y (cT a.2) (cT b.2);refine aI nf E0 mix (by simp[f279]) ?_;rw[NV.sub,Au];simp[f279,aa];refine e2 c ?_;simp[aa];refine e2 d ?_;simp[aa]
theorem Rj(v w:NV)(a:bA kQ v.q)(b:bA kQ w.q):au prog 280 [fk v,fk w] (eF (v.cU w)):=by
 have c:=jI v.x w.y (cT a.1) (cT b.2);have d:=jI v.y w.x (cT a.2) (cT b.1);have e:=qQ (v.x.mul w.y) (v.y.mul w.x) ((fK a.1 b.2).mono (by decide)) ((fK a.2 b.1).mono (by decide));refine aI nf EZ mix (by simp[f280]) ?_;rw[NV.cU];simp[f280,aa];refine e2 c ?_;simp[aa];refine e2 d ?_;simp[aa];refine e2 e ?_;simp[aa]
theorem YJ(t:aB)(i:Nat)(hi:i<t.cs.length)(k:t.cs.length<=1000000)(g:∀p∈t.cs,dW p):au prog 327 [cj t,.int .i64 i] (tF (dy (t.at i)) (dy (t.at (t.nx i)))):=by
 have a:=t.mi (by omega) i;have h:=En (t.at i) (aB.gC g hi);have j:=En (t.at (t.nx i)) (aB.gC g a);have w1:=b9 (i:=i) (by omega);have e1:((i:Int)+1).tmod (t.cs.length:Int)=((t.nx i:Nat):Int):=by
  rw[aB.nx,av,ap (by omega)];rfl
 have f:¬t.cs.length=0:=by omega
 have d:¬t.cs=[]:=by intro e;rw[e]at hi;simp at hi
 have b:=aB.get hi;have c:=aB.get a;refine aI nf EW mix (by simp[f327]) ?_;rw[tF];simp[f327,aa,w1,e1,f,d,b,c,hi,a];refine Go.ak.e1 h ?_;simp[aa,w1,e1,f,d,b,c,hi,a];refine Go.ak.e1 j ?_;simp[aa,w1,e1,f,d,b,c,hi,a]
theorem YM(t:aB):au prog 278 [cj t] (.func 326 [] [.cm (cj t)]):=by
 refine aI nf E3 mix (by simp[f278]) ?_;simp[f278];show fT [.box false (.p (cj t))] 7 (.p (cj t)) (cj t);rw[wR];exact Wk.refl _
noncomputable def wQ(t:aB)(i:Nat):List PV:=[.int .i64 i,tF (dy (t.at i)) (dy (t.at (t.nx i)))]
theorem Am{t:aB}{i:Nat}(h:i<t.cs.length):((a6 t.cs.length).map (wQ t))[i]?=some (wQ t i):=by
 rw[bo,bb h];rfl
theorem aIi(t:aB)(g:t.cs.length<=1000000)(h:∀p∈t.cs,dW p):Stream prog 326 [] [.cm (cj t)] ((a6 t.cs.length).map (wQ t)):=by
 intro b k e H' hk a l d;rw[bv,bi]at hk d;refine fF nf EX mix (by simp[f326]) ?_;simp[f326,aa];refine lp (α:=Nat) (fun i=>⟨[(7,.p (.int .i64 i)),(6,.p (.int .i64 t.cs.length)),(1,.p (.cm (cj t))),(0,.map b)],e i⟩) (fun i=>i<=k) (fun i=>k-i) 0 (by simp) ?_ (hr:=by simp;exact(a 0 (by omega)).2) (hr2:=(a 0 (by omega)).1);rintro i m
 by_cases hi:i<t.cs.length
 ·have f:=YJ t i hi g h;have j:=b9 (i:=i) (by omega);simp[hi];refine c2 f ?_;simp
  by_cases c:i<k
  ·refine⟨e (i+1),_,l i _ c (Am hi),?_⟩;simp[j];exact rd (i+1) c (hr:=by simp;exact(a (i+1) c).2) (hr2:=(a (i+1) c).1)
  ·have:i=k:=by omega
   subst this;rcases d with⟨e1,_⟩|⟨y,e1,e2⟩
   ·omega
   ·rw[Am hi]at e1;injection e1 with e1
    subst e1;refine⟨H',_,e2,?_⟩;simp
 ·have:i=t.cs.length:=by omega
  subst this;rcases d with⟨e1,e2⟩|⟨y,e1,e2⟩
  ·have:t.cs.length=k:=by omega
   subst this;simp[e2]
  ·rw[a8 (by simp;omega)]at e1;cases e1
noncomputable def wj(t:aB)(v:NV)(L:dP)(i:Nat):aj:=[.box false (.p (cj t)),.box false (.p (fk v)),.box false (.p (.int .i64 (t.l8 v.q i))),.loop L]
theorem OE(t:aB)(v:NV)(m:t.cs.length<=1000000)(c:∀p∈t.cs,dW p)(g:bA 3000 v.q):au prog 211 [cj t,fk v] (.int .i64 (t.on v.q)):=by
 refine aI nf EO mix (by simp[f211]) ?_;simp[f211,aa];refine c1 (YM t) ?_;simp;refine rf (aIi t m c) rfl (by simp) (wj t v) t.cs.length (by simp) (fun L=>rfl) ?_ ?_ ?_
 ·intro L a i hi;refine⟨rfl,by simp[wj],fun _ hx=>?_⟩;simp[wj]at hx⊢;exact hx
 ·intro L a i x hi hx;rw[Am hi]at hx;injection hx with hx
  subst hx;have b:=me (aB.gC c hi);have h:=me (aB.gC c (t.mi (by omega) i));have q1:bA 29 ((dy (t.at (t.nx i))).sub (dy (t.at i))).q:=by rw[NV.fQ];exact gv h b
  have n:bA 3015 (v.sub (dy (t.at i))).q:=by rw[NV.fQ];exact gv g b
  have j:=Aw (dy (t.at (t.nx i))) (dy (t.at i)) (h.mono (by decide)) (b.mono (by decide));have k:=Aw v (dy (t.at i)) (g.mono (by decide)) (b.mono (by decide));have l:=Rj ((dy (t.at (t.nx i))).sub (dy (t.at i))) (v.sub (dy (t.at i))) (q1.mono (by decide)) (n.mono (by decide));have e:=tf (((dy (t.at (t.nx i))).sub (dy (t.at i))).cU (v.sub (dy (t.at i))));have d:dF (((dy (t.at (t.nx i))).sub (dy (t.at i))).cU (v.sub (dy (t.at i)))).q=t.side i v.q:=by
   rw[NV.rO,NV.fQ,NV.fQ];rfl
  rw[dF]at d;rw[d]at e;have hs:=aB.Ak t v.q i;rw[EU]at hs;refine wM nf mix a rfl rfl (by kernel_rfl) ?_;have f:=congrArg dP.env a;dsimp only at f;clear a d;generalize (dy (t.at (t.nx i))).sub (dy (t.at i))=W at*;generalize v.sub (dy (t.at i))=U at*;generalize W.cU U=C at*;simp[wj,wQ,tF,aa];refine e2 j ?_;simp[aa];refine e2 k ?_;simp[aa];refine e2 l ?_;simp[aa];refine e1 e ?_;simp[aa];refine⟨by repeat' first|rfl|apply am,?_⟩;rw[<-hs];refine dc.og (by simp) (by simp) (by simp) (by simp) ?_;simp;exact D1 f (by simp)
 ·intro L a;refine .inl ⟨by simp,?_⟩;simp[wj,aB.on]
theorem Es(s:List Nat)(hs:iU s)(h:b7 s=0):au prog 265 [.str s] (.int .i64 (fo (bd s))):=by
 have o:=gp h;have d:=kX s h hs.1;have c:=tf ⟨bd s,false⟩;have g:=kY 1 (by decide) (by decide);have e:=mK ⟨bd s,false⟩ (.int 1) (o.mono (by decide)) ((show bL 1 (NF.int 1).q from⟨by decide,by decide⟩).mono (by decide));have e2:(if(⟨bd s,false⟩:NF).q<0 then(-1:Int)else if(⟨bd s,false⟩:NF).q=0 then 0 else 1)=dF (bd s):=rfl;have e4:dw (⟨bd s,false⟩:NF).q (NF.int 1).q=dw (bd s) 1:=rfl;rw[e2]at c;rw[e4]at e;have f:=fun b=>iF b 3;refine aI nf EJ mix (by simp[f265]) ?_;rw[fo];clear e2 e4 o;generalize dF (bd s)=x at*;generalize dw (bd s) 1=y at*;generalize (⟨bd s,false⟩:NF)=v at*
 by_cases a:x<0
 ·simp[f265,aa];refine c1 d ?_;simp[aa];refine Go.ak.e1 c ?_;simp[a,aa];refine Go.ak.e2 (f true) ?_;simp[aU];omega
 ·by_cases b:0<y
  ·simp[f265,aa];refine c1 d ?_;simp[aa];refine Go.ak.e1 c ?_;simp[a,aa];refine Go.ak.e1 g ?_;simp[a,aa];refine Go.ak.e2 e ?_;simp[a,b,aa];refine Go.ak.e2 (f true) ?_;simp[aU];omega
  ·simp[f265,aa];refine c1 d ?_;simp[aa];refine Go.ak.e1 c ?_;simp[a,aa];refine Go.ak.e1 g ?_;simp[a,aa];refine Go.ak.e2 e ?_;simp[a,b,aa];refine Go.ak.e2 (f false) ?_;simp[aU];omega
def pQ(p:dK):Prop:=rH p/\b7 p.a=0/\b7 p.b=0
theorem YL(p o:dK)(r:pQ p)(q:pQ o):au prog 264 [fa p,fa o] (.bool (gG o p)):=by
 obtain⟨⟨_,u,v⟩,l,m⟩:=r;obtain⟨⟨_,s,t⟩,j,k⟩:=q;have d:=kX p.a l u.1;have e:=kX o.b k t.1;have c:=mK ⟨bd p.a,false⟩ ⟨bd o.b,false⟩ ((gp l).mono (by decide)) ((gp k).mono (by decide));have g:=kX o.a j s.1;have i:=kX p.b m v.1;have f:=mK ⟨bd o.a,false⟩ ⟨bd p.b,false⟩ ((gp j).mono (by decide)) ((gp m).mono (by decide));dsimp only at c f;refine aI nf EK mix (by simp[f264]) ?_;rw[gG];generalize dw (bd p.a) (bd o.b)=x at*;generalize dw (bd o.a) (bd p.b)=y at*;generalize (⟨bd p.a,false⟩:NF)=v1 at*;generalize (⟨bd p.b,false⟩:NF)=v2 at*;generalize (⟨bd o.a,false⟩:NF)=v3 at*;generalize (⟨bd o.b,false⟩:NF)=v4 at*
 by_cases c1:o.eH=p.eH
 case neg=>
  have n:¬p.eH=o.eH:=fun h=>c1 h.symm;simp[f264,aa,c1,n]
 by_cases c2:x<=0
 ·by_cases c3:y<=0
  ·simp[f264,aa,c1];refine Go.ak.e1 d ?_;simp[aa,c1];refine Go.ak.e1 e ?_;simp[aa,c1];refine Go.ak.e2 c ?_;simp[aa,c1,c2];refine Go.ak.e1 g ?_;simp[aa,c1,c2];refine Go.ak.e1 i ?_;simp[aa,c1,c2];refine Go.ak.e2 f ?_;simp[aa,c1,c2,c3]
  ·simp[f264,aa,c1];refine Go.ak.e1 d ?_;simp[aa,c1];refine Go.ak.e1 e ?_;simp[aa,c1];refine Go.ak.e2 c ?_;simp[aa,c1,c2];refine Go.ak.e1 g ?_;simp[aa,c1,c2];refine Go.ak.e1 i ?_;simp[aa,c1,c2];refine Go.ak.e2 f ?_;simp[aa,c1,c2,c3]
 ·simp[f264,aa,c1];refine Go.ak.e1 d ?_;simp[aa,c1];refine Go.ak.e1 e ?_;simp[aa,c1];refine Go.ak.e2 c ?_;simp[aa,c1,c2]
theorem Rh(p o:dK):cE prog 262 [.box false (.p (fa p))] [.p (fa o),.ptr 0 []] [.box false (.p (fa p))] (.p (.bool (decide (o.name=p.name)))):=by
 refine fF nf EL mix (by simp[f262]) ?_
 by_cases h:o.name=p.name
 ·simp[f262,aa,h];exact dc.og (by simp) (by simp) (by simp) (by simp) (by simp)
 ·simp[f262,aa,h];exact dc.og (by simp) (by simp) (by simp) (by simp) (by simp)
theorem Rm(p:dK)(l:List dK)(h:l.length<=1000000):
 cE prog 215 [.box false (.p (fa p))] [.p (.seq (l.map fa)),.func 262 [] [.ptr 0 []]] [.box false (.p (fa p))] (.p (.int .i64 (idxFrom (fun o=>decide (o.name=p.name)) l 0))):=by
 refine fF nf Ao mix (by simp[f215]) ?_;simp[f215];refine lp (α:=Nat) (fun i=>⟨[(8,.p (.int .i64 i)),(7,.p (.int .i64 l.length)),(1,.func 262 [] [.ptr 0 []]),(0,.p (.seq (l.map fa)))],[.box false (.p (fa p))]⟩) (fun i=>i<=l.length/\idxFrom (fun o=>decide (o.name=p.name)) l 0=idxFrom (fun o=>decide (o.name=p.name)) (l.drop i) i) (fun i=>l.length-i) 0 (by simp) ?_;rintro i ⟨k1,k2⟩;have a:=b9 (i:=i) (by omega)
 by_cases hi:i<l.length
 ·rw[a1 hi,idxFrom]at k2;simp[hi];refine cf (Rh p l[i]) [0] ?_
  by_cases hk:l[i].name=p.name
  ·simp[hk]at k2;simp[hk,k2,bc]
  ·simp[hk]at k2;simp[hk,a,bc];exact rd (i+1) ⟨hi,k2⟩
 ·have:i=l.length:=by omega
  subst this;simp[idxFrom]at k2;simp[k2]
theorem Rd(p:dK)(l:List dK)(h:l.length<=1000000):
 cE prog 261 [.box false (.p (fa p))] [.p (.seq (l.map fa)),.func 262 [] [.ptr 0 []]] [.box false (.p (fa p))] (.p (.bool (l.any (fun o=>decide (o.name=p.name))))):=by
 refine fF nf An mix (by simp[f261]) ?_;simp[f261];refine cf (Rm p l h) [0] ?_;have:=oi (fun o=>decide (o.name=p.name)) l 0;simp[bc,<-this]
theorem Rg(p o:cB):cE prog 267 [.box false (.p (gw p))] [.p (gw o),.ptr 0 []] [.box false (.p (gw p))] (.p (.bool (decide (o.name=p.name)))):=by
 refine fF nf EH mix (by simp[f267]) ?_
 by_cases h:o.name=p.name
 ·simp[f267,aa,h];exact dc.og (by simp) (by simp) (by simp) (by simp) (by simp)
 ·simp[f267,aa,h];exact dc.og (by simp) (by simp) (by simp) (by simp) (by simp)
theorem Q2(p:cB)(l:List cB)(h:l.length<=1000000):
 cE prog 319 [.box false (.p (gw p))] [.p (.seq (l.map gw)),.func 267 [] [.ptr 0 []]] [.box false (.p (gw p))] (.p (.int .i64 (idxFrom (fun o=>decide (o.name=p.name)) l 0))):=by
 refine fF nf EY mix (by simp[f319]) ?_;simp[f319];refine lp (α:=Nat) (fun i=>⟨[(8,.p (.int .i64 i)),(7,.p (.int .i64 l.length)),(1,.func 267 [] [.ptr 0 []]),(0,.p (.seq (l.map gw)))],[.box false (.p (gw p))]⟩) (fun i=>i<=l.length/\idxFrom (fun o=>decide (o.name=p.name)) l 0=idxFrom (fun o=>decide (o.name=p.name)) (l.drop i) i) (fun i=>l.length-i) 0 (by simp) ?_;rintro i ⟨k1,k2⟩;have a:=b9 (i:=i) (by omega)
 by_cases hi:i<l.length
 ·rw[a1 hi,idxFrom]at k2;simp[hi];refine cf (Rg p l[i]) [0] ?_
  by_cases hk:l[i].name=p.name
  ·simp[hk]at k2;simp[hk,k2,bc]
  ·simp[hk]at k2;simp[hk,a,bc];exact rd (i+1) ⟨hi,k2⟩
 ·have:i=l.length:=by omega
  subst this;simp[idxFrom]at k2;simp[k2]
theorem Rc(p:cB)(l:List cB)(h:l.length<=1000000):
 cE prog 266 [.box false (.p (gw p))] [.p (.seq (l.map gw)),.func 267 [] [.ptr 0 []]] [.box false (.p (gw p))] (.p (.bool (l.any (fun o=>decide (o.name=p.name))))):=by
 refine fF nf EI mix (by simp[f266]) ?_;simp[f266];refine cf (Q2 p l h) [0] ?_;have:=oi (fun o=>decide (o.name=p.name)) l 0;simp[bc,<-this]
theorem Rf(p:dK)(c:pQ p)(l:List dK)(h:l.length<=1000000)(b:∀o∈l,pQ o):
 au prog 215 [.seq (l.map fa),.func 264 [fa p] []] (.int .i64 (idxFrom (fun o=>gG o p) l 0)):=by
 refine aI nf Ao mix (by simp[f215]) ?_;simp[f215];refine lp (α:=Nat) (fun i=>⟨[(8,.p (.int .i64 i)),(7,.p (.int .i64 l.length)),(1,.p (.func 264 [fa p] [])),(0,.p (.seq (l.map fa)))],[]⟩) (fun i=>i<=l.length/\idxFrom (fun o=>gG o p) l 0=idxFrom (fun o=>gG o p) (l.drop i) i) (fun i=>l.length-i) 0 (by simp) ?_;rintro i ⟨k1,k2⟩;have d:=b9 (i:=i) (by omega)
 by_cases hi:i<l.length
 ·rw[a1 hi,idxFrom]at k2;have a:=YL p l[i] c (b _ (List.getElem_mem hi));simp[hi];refine c2 a ?_;cases hk:gG l[i] p
  ·simp[hk]at k2;simp[d];exact rd (i+1) ⟨hi,k2⟩
  ·simp[hk]at k2;simp[k2]
 ·have:i=l.length:=by omega
  subst this;simp[idxFrom]at k2;simp[k2]
theorem QY(p:dK)(b:pQ p)(l:List dK)(h:l.length<=1000000)(a:∀o∈l,pQ o):
 au prog 261 [.seq (l.map fa),.func 264 [fa p] []] (.bool (l.any (fun o=>gG o p))):=by
 refine aI nf An mix (by simp[f261]) ?_;simp[f261];refine c2 (Rf p b l h a) ?_;have:=oi (fun o=>gG o p) l 0;simp[<-this]
def ky(n:Nat)(c:List dK)(p:dK):Int:=bK [aU (!isName p.name) 8,aU (c.any fun o=>decide (o.name=p.name)) 9,aU (decide (p.eH<0\/(n:Int)<=p.eH)) 10,b7 p.a,b7 p.b]
def zS(c:List dK)(p:dK):Int:=bK [fo (bd p.a),fo (bd p.b),aU (decide (0<dw (bd p.a) (bd p.b))) 11,aU (c.any fun o=>gG o p) 17]
theorem Eh(q:Rat):fo q=0\/fo q=3:=by
 rw[fo];split
 ·exact .inr rfl
 ·exact .inl rfl
theorem Rb(n:Nat)(e:List dK)(p:dK):iv n e p=if ky n e p=0 then zS e p else ky n e p:=by
 rw[iv,ky,zS];generalize b7 p.a=ca;generalize b7 p.b=i;have j:=Eh (bd p.a);have h:=Eh (bd p.b);generalize fo (bd p.a)=r at*;generalize fo (bd p.b)=s at*;generalize dw (bd p.a) (bd p.b)=y;generalize (e.any fun o=>gG o p)=m;generalize (e.any fun o=>decide (o.name=p.name))=a;have k:max (0:Int) 3=3:=rfl;have l:max (3:Int) 0=3:=rfl;cases q:isName p.name
 ·simp[bK,aU]
 cases a
 case true=>simp[bK,aU]
 by_cases c:p.eH<0\/(n:Int)<=p.eH
 ·simp[bK,aU,c]
 by_cases d:ca=0
 case neg=>simp[bK,aU,c,d]
 by_cases f:i=0
 case neg=>simp[bK,aU,c,d,f]
 rcases j with rfl|rfl
 ·rcases h with rfl|rfl
  ·by_cases g:0<y
   ·simp[bK,aU,c,d,f,g]
   ·cases m<;>simp[bK,aU,c,d,f,g]
  ·simp[bK,aU,c,d,f,k]
 ·rcases h with rfl|rfl
  ·simp[bK,aU,c,d,f,l]
  ·simp[bK,aU,c,d,f]
theorem Q5{n:Nat}{bef:List dK}{p:dK}(h:ky n bef p=0):b7 p.a=0/\b7 p.b=0:=by
 rw[ky,oL]at h;exact⟨h _ (by simp),h _ (by simp)⟩
theorem QX(t:aB)(p:dK)(d:List dK)(N:t.cs.length<=1000000)(I:rH p)(m:d.length<=1000000)(H:∀o∈d,pQ o):
 au prog 181 [cj t,fa p,.seq (d.map fa)] (.int .i64 (iv t.cs.length d p)):=by
 obtain⟨E,j,k⟩:=I;have k1:=Rd p d m;have k2:=Ap p.name E.1;have k3:=iF (!isName p.name) 8;have k4:=iF (d.any fun o=>decide (o.name=p.name)) 9;have k5:=fun b=>iF b 10;have k6:=yY p.a j.1 j.2;have k7:=yY p.b k.1 k.2;have k8:=pN [aU (!isName p.name) 8,aU (d.any fun o=>decide (o.name=p.name)) 9,aU (decide (p.eH<0\/(t.cs.length:Int)<=p.eH)) 10,b7 p.a,b7 p.b] (by simp);have g:=Q5 (n:=t.cs.length) (bef:=d) (p:=p);rw[Rb];have s:=fun h:ky t.cs.length d p=0=>QY p ⟨⟨E,j,k⟩,(g h).1,(g h).2⟩ d m H;have u:=fun h:ky t.cs.length d p=0=>Es p.a j (g h).1;have v:=fun h:ky t.cs.length d p=0=>Es p.b k (g h).2;have w:=fun h:ky t.cs.length d p=0=>kX p.a (g h).1 j.1;have x:=fun h:ky t.cs.length d p=0=>kX p.b (g h).2 k.1;have q:=fun h:ky t.cs.length d p=0=>mK ⟨bd p.a,false⟩ ⟨bd p.b,false⟩ ((gp (g h).1).mono (by decide)) ((gp (g h).2).mono (by decide));dsimp only at q;have D:=iF (decide (0<dw (bd p.a) (bd p.b))) 11;have z:=iF (d.any fun o=>gG o p) 17;have i:=pN [fo (bd p.a),fo (bd p.b),aU (decide (0<dw (bd p.a) (bd p.b))) 11,aU (d.any fun o=>gG o p) 17] (by simp);have B:ky t.cs.length d p=bK [aU (!isName p.name) 8,aU (d.any fun o=>decide (o.name=p.name)) 9,aU (decide (p.eH<0\/(t.cs.length:Int)<=p.eH)) 10,b7 p.a,b7 p.b]:=rfl;have C:zS d p=bK [fo (bd p.a),fo (bd p.b),aU (decide (0<dw (bd p.a) (bd p.b))) 11,aU (d.any fun o=>gG o p) 17]:=rfl;rw[<-B]at k8;rw[<-C]at i;clear B C g;generalize ky t.cs.length d p=l at*;generalize zS d p=M at*;generalize b7 p.a=J at*;generalize b7 p.b=K at*;generalize fo (bd p.a)=V at*;generalize fo (bd p.b)=W at*;generalize dw (bd p.a) (bd p.b)=A at*;generalize (d.any fun o=>decide (o.name=p.name))=F at*;generalize (d.any fun o=>gG o p)=L at*;generalize isName p.name=G at*;generalize (⟨bd p.a,false⟩:NF)=v1 at*;generalize (⟨bd p.b,false⟩:NF)=v2 at*;refine aI nf Fs mix (by simp[f181]) ?_;have r:∀b:Bool,decide (p.eH<0\/(t.cs.length:Int)<=p.eH)=b->au prog 176 [.bool b,.int .i64 10] (.int .i64 (aU b 10))/\au prog 175 [.seq [.int .i64 (aU (!G) 8),.int .i64 (aU F 9),.int .i64 (aU b 10),.int .i64 J,.int .i64 K]] (.int .i64 l):=fun b m=>by
  rw[m]at k8;exact⟨k5 b,by simpa using k8⟩
 simp at i;have y:au prog 176 [.bool (decide (0<A)),.int .i64 11] (.int .i64 (aU (decide (0<A)) 11)):=D;clear k5 k8 D;generalize O:aU (!G) 8=w1 at*;generalize P:aU F 9=S at*;generalize Q:aU (decide (0<A)) 11=T at*;generalize R:aU L 17=U at*;simp[f181,-bt,aa];rw[bt];simp[-bt,aa];rw[bt];simp[-bt,aa];refine cf k1 [1] ?_;simp[-bt,aa,bc,sig]
 by_cases e:p.eH<0
 ·obtain⟨f1,f2⟩:=r true (by simp[e]);rw[bt,bt];simp[-bt,aa];refine Go.ak.e1 k2 ?_;simp[-bt,aa];refine Go.ak.e2 k3 ?_;simp[-bt,aa];refine Go.ak.e2 k4 ?_;simp[-bt,aa,e];refine Go.ak.e2 f1 ?_;simp[-bt,aa,e];refine Go.ak.e1 k6 ?_;simp[-bt,aa,e];refine Go.ak.e1 k7 ?_;simp[-bt,aa,e];refine ep f2 (by simp;first|exact⟨rfl,rfl⟩|rfl) (by simp;first|exact⟨rfl,rfl⟩|rfl) ?_;simp[-bt,aa,e];refine⟨by repeat' first|rfl|apply am,?_⟩
  by_cases c:l=0
  case neg=>simp[c,aa]
  simp[c,aa];refine Go.ak.c2 (s c) ?_;simp[aa];refine Go.ak.e1 (u c) ?_;simp[aa];refine Go.ak.e1 (v c) ?_;simp[aa];refine Go.ak.e1 (w c) ?_;simp[aa];refine Go.ak.e1 (x c) ?_;simp[aa];refine Go.ak.e2 (q c) ?_;simp[aa];refine Go.ak.e2 y ?_;simp[aa];refine Go.ak.e2 z ?_;simp[aa];refine ep i (by simp;first|exact⟨rfl,rfl⟩|rfl) (by simp;first|exact⟨rfl,rfl⟩|rfl) ?_;simp[aa];exact⟨by repeat' first|rfl|apply am,fun h=>(h c).elim⟩
 by_cases f:(t.cs.length:Int)<=p.eH
 ·obtain⟨f1,f2⟩:=r true (by simp[e,f]);rw[bt,bt];simp[-bt,aa];refine Go.ak.e1 k2 ?_;simp[-bt,aa];refine Go.ak.e2 k3 ?_;simp[-bt,aa];refine Go.ak.e2 k4 ?_;simp[-bt,aa,e,f];refine Go.ak.e2 f1 ?_;simp[-bt,aa,e,f];refine Go.ak.e1 k6 ?_;simp[-bt,aa,e,f];refine Go.ak.e1 k7 ?_;simp[-bt,aa,e,f];refine ep f2 (by simp;first|exact⟨rfl,rfl⟩|rfl) (by simp;first|exact⟨rfl,rfl⟩|rfl) ?_;simp[-bt,aa,e,f];refine⟨by repeat' first|rfl|apply am,?_⟩
  by_cases c:l=0
  case neg=>simp[c,aa]
  simp[c,aa];refine Go.ak.c2 (s c) ?_;simp[aa];refine Go.ak.e1 (u c) ?_;simp[aa];refine Go.ak.e1 (v c) ?_;simp[aa];refine Go.ak.e1 (w c) ?_;simp[aa];refine Go.ak.e1 (x c) ?_;simp[aa];refine Go.ak.e2 (q c) ?_;simp[aa];refine Go.ak.e2 y ?_;simp[aa];refine Go.ak.e2 z ?_;simp[aa];refine ep i (by simp;first|exact⟨rfl,rfl⟩|rfl) (by simp;first|exact⟨rfl,rfl⟩|rfl) ?_;simp[aa];exact⟨by repeat' first|rfl|apply am,fun h=>(h c).elim⟩
 ·obtain⟨f1,f2⟩:=r false (by simp[e,f]);rw[bt,bt];simp[-bt,aa];refine Go.ak.e1 k2 ?_;simp[-bt,aa];refine Go.ak.e2 k3 ?_;simp[-bt,aa];refine Go.ak.e2 k4 ?_;simp[-bt,aa,e,f];refine Go.ak.e2 f1 ?_;simp[-bt,aa,e,f];refine Go.ak.e1 k6 ?_;simp[-bt,aa,e,f];refine Go.ak.e1 k7 ?_;simp[-bt,aa,e,f];refine ep f2 (by simp;first|exact⟨rfl,rfl⟩|rfl) (by simp;first|exact⟨rfl,rfl⟩|rfl) ?_;simp[-bt,aa,e,f];refine⟨by repeat' first|rfl|apply am,?_⟩
  by_cases c:l=0
  case neg=>simp[c,aa]
  simp[c,aa];refine Go.ak.c2 (s c) ?_;simp[aa];refine Go.ak.e1 (u c) ?_;simp[aa];refine Go.ak.e1 (v c) ?_;simp[aa];refine Go.ak.e1 (w c) ?_;simp[aa];refine Go.ak.e1 (x c) ?_;simp[aa];refine Go.ak.e2 (q c) ?_;simp[aa];refine Go.ak.e2 y ?_;simp[aa];refine Go.ak.e2 z ?_;simp[aa];refine ep i (by simp;first|exact⟨rfl,rfl⟩|rfl) (by simp;first|exact⟨rfl,rfl⟩|rfl) ?_;simp[aa];exact⟨by repeat' first|rfl|apply am,fun h=>(h c).elim⟩
def iV(a:List cB)(s:cB):Int:=bK [aU (!isName s.name) 8,aU (a.any fun o=>decide (o.name=s.name)) 9,ek s.pt]
theorem Q9(t:aB)(b:List cB)(s:cB):iX t b s=if iV b s=0 then aU (decide (t.on (vP s.pt)<0)) 16 else iV b s:=by
 rw[iX,iV];generalize ek s.pt=c;generalize (b.any fun o=>decide (o.name=s.name))=a;cases e:isName s.name
 ·simp[bK,aU]
 cases a
 case true=>simp[bK,aU]
 by_cases d:c=0
 case neg=>simp[bK,aU,d]
 simp[bK,aU,d]
theorem EB{bef:List cB}{s:cB}(h:iV bef s=0):ek s.pt=0:=by
 rw[iV,oL]at h;exact h _ (by simp)
theorem Re(t:aB)(s:cB)(a:List cB)(l:t.cs.length<=1000000)(m:∀p∈t.cs,dW p)(hs:mN s)(k:a.length<=1000000):
 au prog 183 [cj t,gw s,.seq (a.map gw)] (.int .i64 (iX t a s)):=by
 obtain⟨u,g⟩:=hs;have k1:=Rc s a k;have k2:=Ap s.name u.1;have k3:=iF (!isName s.name) 8;have k4:=iF (a.any fun o=>decide (o.name=s.name)) 9;have k6:=AM s.pt g;have k8:=pN [aU (!isName s.name) 8,aU (a.any fun o=>decide (o.name=s.name)) 9,ek s.pt] (by simp);have c:=EB (bef:=a) (s:=s);rw[Q9];have n:=fun h:iV a s=0=>Dv s.pt (jF (c h)).1 (jF (c h)).2 g;have f:=fun h:iV a s=0=>OE t (.from s.pt) l m (AO ⟨(gp (jF (c h)).1).mono (by decide),(gp (jF (c h)).2).mono (by decide)⟩);have q:=iF (decide (t.on (vP s.pt)<0)) 16;rw[kl]at f;have e:iV a s=bK [aU (!isName s.name) 8,aU (a.any fun o=>decide (o.name=s.name)) 9,ek s.pt]:=rfl;rw[<-e]at k8;clear e c;generalize iV a s=d at*;generalize t.on (vP s.pt)=y at*;generalize ek s.pt=v at*;generalize (a.any fun o=>decide (o.name=s.name))=i at*;generalize isName s.name=j at*;generalize NV.from s.pt=v1 at*;refine aI nf Fp mix (by simp[f183]) ?_;have r:au prog 175 [.seq [.int .i64 (aU (!j) 8),.int .i64 (aU i 9),.int .i64 v]] (.int .i64 d):=by simpa using k8
 clear k8;generalize w:aU (!j) 8=w1 at*;generalize x:aU i 9=A at*;generalize z:aU (decide (y<0)) 16=B at*;simp[f183,aa];refine cf k1 [1] ?_;simp[aa,bc,sig];refine Go.ak.e1 k2 ?_;simp[aa];refine Go.ak.e2 k3 ?_;simp[aa];refine Go.ak.e2 k4 ?_;simp[aa];refine Go.ak.e1 k6 ?_;simp[aa];refine ep r (by simp;first|exact⟨rfl,rfl⟩|rfl) (by simp;first|exact⟨rfl,rfl⟩|rfl) ?_;simp[aa];refine⟨by repeat' first|rfl|apply am,?_⟩
 by_cases b:d=0
 case neg=>simp[b,aa]
 simp[b,aa];refine Go.ak.e1 (n b) ?_;simp[aa];refine Go.ak.e2 (f b) ?_;simp[aa];refine Go.ak.e2 q ?_;simp[aa];exact fun h=>(h b).elim
def kI{α:Type}(b:Nat)(a:List α->α->Int)(l:List α):Int:=if b<l.length then 5 else jT a l
theorem yz{α:Type}{n:Nat}{f:α->PV}(h:∀a,aa (.p (f a))≠.bad/\bD prog (aa (.p (f a)))=n)(l:List α):eM prog n (l.map (AV.p∘f)):=uu.2 fun v b=>by
 obtain⟨a,_,rfl⟩:=bV.1 b;exact h a
theorem IF(l:List dK):eM prog 4 (l.map (AV.p∘fa)):=yz (fun r=>⟨by simp[aa],by simp[aa]⟩) l
theorem IG(l:List cB):eM prog 3 (l.map (AV.p∘gw)):=yz (fun r=>⟨by simp[aa],by simp[aa]⟩) l
theorem Rp(t:aB)(a:Nat)(h:t.cs.length<=1000000)(m:t.bm.length<=1000000)(c:∀p∈t.bm,rH p):
 au prog 180 [.seq (t.bm.map fa),.int .i64 a,.func 181 [cj t] []] (.int .i64 (kI a (iv t.cs.length) t.bm)):=by
 refine aI nf Ft mix (by simp[f180]) ?_;rw[kI]
 by_cases c1:a<t.bm.length
 ·have cI:(a:Int)<t.bm.length:=by omega
  rw[if_pos c1];simp[f180,cI]
 have d:¬(a:Int)<t.bm.length:=by omega
 rw[if_neg c1];simp[f180,d];refine lp (α:=Nat) (fun i=>⟨[(16,.p (.int .i64 i)),(15,.p (.int .i64 t.bm.length)),(14,.p (.seq (t.bm.map fa))),(0,.p (.seq (t.bm.map fa))),(2,.p (.func 181 [cj t] []))],[]⟩) (fun i=>i<=t.bm.length/\∀j,j<i->gH (iv t.cs.length) t.bm j=0) (fun i=>t.bm.length-i) 0 (by simp) ?_;rintro i ⟨k1,k2⟩
 by_cases hk:i<t.bm.length
 ·have gk:=aB.lg hk;have l:=b9 (i:=i) (by omega);have b:=QX t (t.pk i) (t.bm.take i) h (c _ (aT gk)) (by rw[a5];omega) (fun o k=>by
   obtain⟨j,f,rfl⟩:=a9.1 k;rw[a5]at f;rw[bl];have:=k2 j (by omega);have g:=aB.lg (t:=t) (i:=j) (by omega);rw[gH,g]at this;rw[aB.Qe (by omega)];exact⟨c _ (aT g),Ey this⟩)
  rw[a7]at b
  by_cases he:iv t.cs.length (t.bm.take i) (t.pk i)=0
  ·rw[he]at b;have:=rP k2 gk he;simp[hk,gk,aa];refine⟨⟨k1,IF _⟩,?_⟩;refine Go.ak.e3 b ?_;simp[l,aa];exact rd (i+1) ⟨hk,this⟩
  ·have e:=rQ k2 gk he;rw[e];simp[hk,gk,aa];refine⟨⟨k1,IF _⟩,?_⟩;refine Go.ak.e3 b ?_;simp[he,aa]
 ·have:i=t.bm.length:=by omega
  subst this;rw[pM.2 k2];simp
theorem Ro(t:aB)(a:Nat)(e:t.cs.length<=1000000)(f:∀p∈t.cs,dW p)(k:t.ar.length<=1000000)(g:∀p∈t.ar,mN p):
 au prog 182 [.seq (t.ar.map gw),.int .i64 a,.func 183 [cj t] []] (.int .i64 (kI a (iX t) t.ar)):=by
 refine aI nf Fq mix (by simp[f182]) ?_;rw[kI]
 by_cases c1:a<t.ar.length
 ·have cI:(a:Int)<t.ar.length:=by omega
  rw[if_pos c1];simp[f182,cI]
 have c:¬(a:Int)<t.ar.length:=by omega
 rw[if_neg c1];simp[f182,c];refine lp (α:=Nat) (fun i=>⟨[(16,.p (.int .i64 i)),(15,.p (.int .i64 t.ar.length)),(14,.p (.seq (t.ar.map gw))),(0,.p (.seq (t.ar.map gw))),(2,.p (.func 183 [cj t] []))],[]⟩) (fun i=>i<=t.ar.length/\∀j,j<i->gH (iX t) t.ar j=0) (fun i=>t.ar.length-i) 0 (by simp) ?_;rintro i ⟨k1,k2⟩
 by_cases hk:i<t.ar.length
 ·have gk:=aB.fe hk;have h:=b9 (i:=i) (by omega);have b:=Re t (t.sp i) (t.ar.take i) e f (g _ (aT gk)) (by rw[a5];omega);rw[a7]at b
  by_cases he:iX t (t.ar.take i) (t.sp i)=0
  ·rw[he]at b;have:=rP k2 gk he;simp[hk,gk,aa];refine⟨⟨k1,IG _⟩,?_⟩;refine Go.ak.e3 b ?_;simp[h,aa];exact rd (i+1) ⟨hk,this⟩
  ·have d:=rQ k2 gk he;rw[d];simp[hk,gk,aa];refine⟨⟨k1,IG _⟩,?_⟩;refine Go.ak.e3 b ?_;simp[he,aa]
 ·have:i=t.ar.length:=by omega
  subst this;rw[pM.2 k2];simp
def mg(t:aB):Int:=bK [aU (decide ((t.cs.length:Int)<3)) 2,aU (decide (12<(t.cs.length:Int))) 5,aU (t.cs.any fI) 3]
def pP(t:aB):Int:=bK [aU (!t.fU) 15,aU (decide (t.aR<1\/1000<t.aR)) 3,kI 12 (iv t.cs.length) t.bm]
theorem El{t:aB}(h:mg t=0):3<=t.cs.length/\t.cs.length<=12/\∀p∈t.cs,dW p:=by
 rw[mg,oL]at h;have b:=h (aU (decide ((t.cs.length:Int)<3)) 2) (by simp);have d:=h (aU (decide (12<(t.cs.length:Int))) 5) (by simp);have a:=h (aU (t.cs.any fI) 3) (by simp);refine⟨?_,?_,fun p e=>Ew ?_⟩
 ·by_cases c:(t.cs.length:Int)<3
  ·simp[aU,c]at b
  ·omega
 ·by_cases c:12<(t.cs.length:Int)
  ·simp[aU,c]at d
  ·omega
 ·cases hf:fI p
  ·rfl
  ·have:t.cs.any fI=true:=bp.2 ⟨p,e,hf⟩;rw[this]at a;simp[aU]at a
theorem Eu(t:aB):ia t=if mg t=0 then(if pP t=0 then kI 256 (iX t) t.ar else pP t)else mg t:=by
 rw[ia,mg,pP,kI,kI]
 by_cases c1:t.cs.length<3
 ·have:(t.cs.length:Int)<3:=by omega
  simp[bK,aU,c1,this]
 have b:¬(t.cs.length:Int)<3:=by omega
 by_cases c2:12<t.cs.length
 ·have:(12:Int)<t.cs.length:=by omega
  simp[bK,aU,c1,c2,b,this]
 have c:¬(12:Int)<t.cs.length:=by omega
 generalize t.cs.any fI=a;cases a
 case true=>simp[bK,aU,c1,c2,b,c]
 cases t.fU
 ·simp[bK,aU,c1,c2,b,c]
 by_cases c3:t.aR<1\/1000<t.aR
 ·simp[bK,aU,c1,c2,b,c,c3]
 by_cases c4:12<t.bm.length
 ·simp[bK,aU,c1,c2,b,c,c3,c4]
 generalize jT (iv t.cs.length) t.bm=e
 by_cases c5:e=0
 ·simp[bK,aU,c1,c2,b,c,c3,c4,c5]
 ·simp[bK,aU,c1,c2,b,c,c3,c4,c5]
theorem Q0(t:aB)(w:ib t):au prog 99 [cj t] (.int .i64 (ia t)):=by
 obtain⟨k,A,B,u,v⟩:=w;have k1:=iF (decide ((t.cs.length:Int)<3)) 2;have k2:=iF (decide (12<(t.cs.length:Int))) 5;have k3:=QV t.cs k;have k4:=iF (t.cs.any fI) 3;have k5:=pN [aU (decide ((t.cs.length:Int)<3)) 2,aU (decide (12<(t.cs.length:Int))) 5,aU (t.cs.any fI) 3] (by simp);have z1:=El (t:=t);rw[Eu];have x:=fun h:mg t=0=>Rq t (z1 h).1 k (z1 h).2.2;have y:=iF (!t.fU) 15;have r:=fun b=>iF b 3;have m:=Rp t 12 k A u;have j:=pN [aU (!t.fU) 15,aU (decide (t.aR<1\/1000<t.aR)) 3,kI 12 (iv t.cs.length) t.bm] (by simp);have n:=fun h:mg t=0=>Ro t 256 k (z1 h).2.2 B v;have p:mg t=bK [aU (decide ((t.cs.length:Int)<3)) 2,aU (decide (12<(t.cs.length:Int))) 5,aU (t.cs.any fI) 3]:=rfl;have q:pP t=bK [aU (!t.fU) 15,aU (decide (t.aR<1\/1000<t.aR)) 3,kI 12 (iv t.cs.length) t.bm]:=rfl;rw[<-p]at k5;rw[<-q]at j;clear p q z1;generalize mg t=o at*;generalize pP t=i at*;generalize kI 12 (iv t.cs.length) t.bm=F at*;generalize kI 256 (iX t) t.ar=M at*;generalize t.cs.any fI=G at*;generalize t.fU=H at*;generalize I:aU (decide ((t.cs.length:Int)<3)) 2=w1 at*;generalize J:aU (decide (12<(t.cs.length:Int))) 5=C at*;generalize K:aU G 3=D at*;generalize L:aU (!H) 15=E at*;have l:∀b:Bool,decide (t.aR<1\/1000<t.aR)=b->au prog 176 [.bool b,.int .i64 3] (.int .i64 (aU b 3))/\au prog 175 [.seq [.int .i64 E,.int .i64 (aU b 3),.int .i64 F]] (.int .i64 i):=fun b s=>by
  rw[s]at j;exact⟨r b,by simpa using j⟩
 have z:au prog 175 [.seq [.int .i64 w1,.int .i64 C,.int .i64 D]] (.int .i64 o):=by simpa using k5
 clear j r k5;refine aI nf PR mix (by simp[f99]) ?_;simp[f99,aa];refine Go.ak.e2 k1 ?_;simp[aa];refine Go.ak.e2 k2 ?_;simp[aa];refine Go.ak.e2 k3 ?_;simp[aa];refine Go.ak.e2 k4 ?_;simp[aa];refine ep z (by simp;first|exact⟨rfl,rfl⟩|rfl) (by simp;first|exact⟨rfl,rfl⟩|rfl) ?_;simp[aa];refine⟨by repeat' first|rfl|apply am,?_⟩
 by_cases a:o=0
 case neg=>simp[a,aa]
 simp[a,aa];refine Go.ak.e1 (x a) ?_;simp[aa];refine Go.ak.e2 y ?_;simp[aa]
 by_cases c:t.aR<1
 ·have d:¬1<=t.aR:=by omega
  obtain⟨f1,f2⟩:=l true (by simp[c]);simp[c,d,aa];refine Go.ak.e2 f1 ?_;simp[c,d,aa];refine Go.ak.e3 m ?_;simp[c,d,aa];refine ep f2 (by simp;first|exact⟨rfl,rfl⟩|rfl) (by simp;first|exact⟨rfl,rfl⟩|rfl) ?_;simp[c,d,aa];refine⟨by repeat' first|rfl|apply am,?_⟩
  by_cases e:i=0
  case neg=>simp[a,e,aa]
  simp[a,e,aa];refine Go.ak.c3 (n a) ?_;simp[a,e,aa]
 have d:1<=t.aR:=by omega
 by_cases f:1000<t.aR
 ·have g:¬t.aR<=1000:=by omega
  obtain⟨f1,f2⟩:=l true (by simp[c,f]);simp[c,d,f,g,aa];refine Go.ak.e2 f1 ?_;simp[c,d,f,g,aa];refine Go.ak.e3 m ?_;simp[c,d,f,g,aa];refine ep f2 (by simp;first|exact⟨rfl,rfl⟩|rfl) (by simp;first|exact⟨rfl,rfl⟩|rfl) ?_;simp[c,d,f,g,aa];refine⟨by repeat' first|rfl|apply am,?_⟩
  by_cases e:i=0
  case neg=>simp[a,e,aa]
  simp[a,e,aa];refine Go.ak.c3 (n a) ?_;simp[a,e,aa]
 ·have g:t.aR<=1000:=by omega
  obtain⟨f1,f2⟩:=l false (by simp[c,f]);simp[c,d,f,g,aa];refine Go.ak.e2 f1 ?_;simp[c,d,f,g,aa];refine Go.ak.e3 m ?_;simp[c,d,f,g,aa];refine ep f2 (by simp;first|exact⟨rfl,rfl⟩|rfl) (by simp;first|exact⟨rfl,rfl⟩|rfl) ?_;simp[c,d,f,g,aa];refine⟨by repeat' first|rfl|apply am,?_⟩
  by_cases e:i=0
  case neg=>simp[a,e,aa]
  simp[a,e,aa];refine Go.ak.c3 (n a) ?_;simp[a,e,aa]
noncomputable def vO(i:Nat)(a w:NV):PV:=.st 166 [.int .i64 i,b8 a,b8 w]
@[simp] theorem aMm(i:Nat)(a w:NV):aL (vO i a w)=.agg 166:=rfl
@[simp] theorem aKP(i:Nat)(a w:NV):bW (vO i a w)=[.int .i64 i,b8 a,b8 w]:=rfl
def aB.jB(t:aB)(i:Nat):NV:=(dy (t.at (t.nx i))).sub (dy (t.at i))
theorem aB.aJh(t:aB)(i:Nat):(t.jB i).q=t.wy i:=by rw[aB.jB,NV.fQ];rfl
theorem EA(p:dN)(h:dW p):au prog 241 [cA p] (b8 (dy p)):=by
 simp only[dW]at h;have a:=kY p.x (by omega) (by omega);have b:=kY p.y (by omega) (by omega);refine aI nf EN mix (by simp[f241]) ?_;rw[dy,nM];simp[f241,aa];refine e1 a ?_;simp[aa];refine e1 b ?_;simp[aa]
theorem Ym(t:aB):au prog 184 [cj t] (.func 268 [] [.cm (cj t)]):=by
 refine aI nf Fo mix (by simp[f184]) ?_;simp[f184];show fT [.box false (.p (cj t))] 7 (.p (cj t)) (cj t);rw[wR];exact Wk.refl _
noncomputable def rN(t:aB)(i:Nat):List PV:=[vO i (dy (t.at i)) (t.jB i)]
def lr(t:aB)(i:Nat):aj:=[.box false (.p (cA (t.at i))),.box false (.p (cA (t.at (t.nx i))))]
theorem wN{t:aB}{i:Nat}(h:i<t.cs.length):((a6 t.cs.length).map (rN t))[i]?=some (rN t i):=by
 rw[bo,bb h];rfl
theorem aIh(t:aB)(H:t.cs.length<=1000000)(d:∀p∈t.cs,dW p):E7 prog 268 [] [.cm (cj t)] ((a6 t.cs.length).map (rN t)) (lr t):=by
 intro b k f G H' hk a D h;rw[bv,bi]at hk h;refine fF nf E5 mix (by simp[f268]) ?_;simp[f268,aa];refine lp (α:=Nat) (fun i=>⟨[(9,.p (.int .i64 i)),(8,.p (.int .i64 t.cs.length)),(7,.p (.seq (t.cs.map cA))),(1,.p (.cm (cj t))),(0,.map b)],f i⟩) (fun i=>i<=k) (fun i=>k-i) 0 (by simp) ?_ (hr:=by simp;exact(a 0 (by omega)).2) (hr2:=(a 0 (by omega)).1);rintro i A
 by_cases hi:i<t.cs.length
 ·have o:=b9 (i:=i) (by omega);have j:=t.mi (by omega) i;have x:=aB.get hi;have z:=aB.get j;have e1:((i:Int)+1).tmod (t.cs.length:Int)=((t.nx i:Nat):Int):=by
   rw[aB.nx,av,ap (by omega)];rfl
  have C:¬t.cs.length=0:=by omega
  have B:¬t.cs=[]:=by intro e;rw[e]at hi;simp at hi
  have E:=me (aB.gC d hi);have F:=me (aB.gC d j);have l:=EA (t.at i) (aB.gC d hi);have r:=EA (t.at (t.nx i)) (aB.gC d j);have m:=rz (dy (t.at (t.nx i))) (dy (t.at i)) (F.mono (by decide)) (E.mono (by decide));have s:(dy (t.at (t.nx i))).sub (dy (t.at i))=t.jB i:=rfl;rw[s]at m;simp[hi,o,e1,C,B,x,z,aa];refine⟨by repeat' first|rfl|apply am,?_⟩;refine Go.ak.e1 l ?_;simp[aa];refine Go.ak.e1 r ?_;simp[aa];refine Go.ak.e1 l ?_;simp[aa];refine Go.ak.e2 m ?_;simp[aa];have n:dC (f i++lr t i) (f i++lr t i):=dC.app (a i A).1 (by simp[lr])
  by_cases c:i<k
  ·obtain⟨g1,g2,g3,g4,g5⟩:=D i _ c (wN hi);refine yk g1 rfl g2 n g3 (by rfl) (by rfl) fun u g=>?_;simp[g,o];exact rd (i+1) c (hn:=g4) (hh:=g5) (hr:=by simp;exact(a (i+1) c).2) (hr2:=(a (i+1) c).1)
  ·have:i=k:=by omega
   subst this;rcases h with⟨e1,_⟩|⟨y,q,e1,e2,e3,e4,e5,v,w⟩
   ·omega
   ·rw[wN hi]at e1;injection e1 with e1
    subst e1;refine yk e2 rfl e3 n e4 (by rfl) (by rfl) fun u g=>?_;simp[g];exact .inr (dc.og e5 trivial v trivial w)
 ·have:i=t.cs.length:=by omega
  subst this;rcases h with⟨e1,e2⟩|⟨y,q,e1,e2⟩
  ·have:t.cs.length=k:=by omega
   subst this;simp[e2]
  ·rw[a8 (by simp;omega)]at e1;cases e1
theorem Ev{t:aB}{v:NV}{i:Nat}(c:∀p∈t.cs,dW p)(e:bA 3000 v.q)(hi:i<t.cs.length):
 au prog 78 [b8 v,b8 (dy (t.at i))] (b8 (v.sub (dy (t.at i))))/\au prog 185 [b8 (t.jB i),b8 (v.sub (dy (t.at i)))] (eF ((t.jB i).cU (v.sub (dy (t.at i)))))/\
 au prog 171 [eF ((t.jB i).cU (v.sub (dy (t.at i))))] (.int .i64 (t.side i v.q)):=by
 have a:=me (aB.gC c hi);have f:=me (aB.gC c (t.mi (by omega) i));have q1:bA 29 (t.jB i).q:=by rw[aB.jB,NV.fQ];exact gv f a
 have g:bA 3015 (v.sub (dy (t.at i))).q:=by rw[NV.fQ];exact gv e a
 refine⟨rz v (dy (t.at i)) (e.mono (by decide)) (a.mono (by decide)),Ep (t.jB i) (v.sub (dy (t.at i))) (q1.mono (by decide)) (g.mono (by decide)),?_⟩;have b:=tf ((t.jB i).cU (v.sub (dy (t.at i))));have d:dF ((t.jB i).cU (v.sub (dy (t.at i)))).q=t.side i v.q:=by rw[NV.rO,NV.fQ,aB.aJh];rfl
 rw[dF]at d;rw[d]at b;exact b
noncomputable def jx(t:aB)(v:NV)(b:Bool)(L:dP):aj:=[.box false (.p (cj t)),.box false (.p (b8 v)),.box false (.p (.bool b)),.loop L]
def NS.add(s t:NS):NS:=⟨s.a.add t.a,s.b.add t.b,s.d⟩
def NS.neg(s:NS):NS:=⟨s.a.neg,s.b.neg,s.d⟩
def NS.times(s:NS)(k:NF):NS:=⟨s.a.mul k,s.b.mul k,s.d⟩
def NB.cU(n:NB)(e:NV):NS:=⟨e.cU n.a,e.cU n.b,n.d⟩
def NS.plain(a d:NF):NS:=⟨a,.int 0,d⟩
def NS.norm(s:NS):NF:=(s.a.mul s.a).sub ((s.b.mul s.b).mul s.d)
open Classical in
noncomputable def NS.under(s:NS)(k:NF):NS:=if s.norm.q=0 then .plain (k.div (s.a.add s.a)) s.d else⟨(k.mul s.a).div s.norm,(k.mul s.b).neg.div s.norm,s.d⟩
structure XD where
 i:Nat
 a:NV
 w:NV
 g:NF
 s:NS
noncomputable def OT(x:XD):PV:=.st 168 [vO x.i x.a x.w,eF x.g,zD x.s]
@[simp] theorem aMo(x:XD):aL (OT x)=.agg 168:=rfl
@[simp] theorem aKR(x:XD):bW (OT x)=[vO x.i x.a x.w,eF x.g,zD x.s]:=rfl
theorem DS.mono{k l:Nat}{s:NS}(h:DS k s)(a:k<=l):DS l s:=⟨h.1.mono a,h.2.1.mono a,h.2.2.mono a⟩
def zF:PV:=.st 130 [.st 128 [.int .i64 0,.aO],.st 128 [.int .i64 0,.aO]]
def zV:PV:=.st 132 [zF,zF]
def QG:PV:=.st 168 [.st 166 [.int .i64 0,zV,zV],zF,.st 149 [zF,zF,zF]]
@[simp] theorem aMW:aL QG=.agg 168:=rfl
@[simp] theorem aLf:bW QG=[.st 166 [.int .i64 0,zV,zV],zF,.st 149 [zF,zF,zF]]:=rfl
def aB.pos(t:aB)(n:NB)(i:Nat):Bool:=decide (0<sgS ((n.cU (t.jB i)).neg).q)
theorem Rl(p d:V2)(s:Rat)(c:bA 90 p)(a:bA 90 d)(hs:bL 508 s):au prog 28 [eV p,eV d,.str (bg s)] (eV (p.add (d.mul s))):=by
 have k1:=QU d s (a.mono (by decide)) (hs.mono (by decide));have b:bA 598 (d.mul s):=⟨fK a.1 hs,fK a.2 hs⟩
 have k2:=X4 p (d.mul s) (c.mono (by decide)) (b.mono (by decide));refine aI nf Ph mix (by simp[f28]) ?_;generalize p.add (d.mul s)=r at*;generalize d.mul s=q at*;simp[f28,aa];refine e2 k1 ?_;simp[aa];refine e2 k2 ?_;simp[aa]
theorem wJ{t:aB}(h:ia t=0):3<=t.cs.length/\t.cs.length<=12/\(∀p∈t.cs,dW p)/\t.fU=true:=by
 rw[Eu]at h
 by_cases d:mg t=0
 ·rw[if_pos d]at h
  by_cases e:pP t=0
  ·obtain⟨a,b,c⟩:=El d;refine⟨a,b,c,?_⟩;rw[pP,oL]at e;have f:=e (aU (!t.fU) 15) (by simp);cases hc:t.fU
   ·rw[hc]at f;simp[aU]at f
   ·rfl
  ·rw[if_neg e]at h;exact(e h).elim
 ·rw[if_neg d]at h;exact(d h).elim
theorem Ez{a b:Rat}:dw a b<0↔a<b:=by
 rw[dw];constructor
 ·intro h
  split at h
  ·assumption
  ·split at h<;>omega
 ·intro h;rw[if_pos h];decide
theorem mf(s:List Nat)(n:Int):au prog 98 [.str s,.int .i64 n] (.bool (decide ((s.length:Int)<=n))):=by
 refine aI nf PQ mix (by simp[f98]) ?_;simp[f98]
def jy(p:dK):Bool:=decide (p.name.length<=40)&&(decide (p.a.length<=40)&&decide (p.b.length<=40))
def gZ(s:cB):Bool:=decide (s.name.length<=40)&&(decide (s.pt.x.length<=40)&&decide (s.pt.y.length<=40))
def ly(t:aB):Bool:=!(decide (14<t.cs.length)||(decide (14<t.bm.length)||((decide (8<t.ar.length)&&decide (t.ar.length<=256))||decide (258<t.ar.length))))&&(t.bm.all jy&&t.ar.all gZ)
theorem om{α:Type}{f:α->Bool}{l:List α}{i:Nat}{x:α}(h:l[i]?=some x):(l.take (i+1)).all f=((l.take i).all f&&f x):=by
 rw[a4,h];simp
theorem iW{α:Type}{f:α->Bool}{l:List α}{i:Nat}{x:α}(h:l[i]?=some x)(hf:f x=false):l.all f=false:=by
 cases a:l.all f
 ·rfl
 ·rw[List.all_eq_true]at a;rw[a x (aT h)]at hf;cases hf
theorem ES(t:aB)(B:t.cs.length<=1000000)(C:t.bm.length<=1000000)(D:t.ar.length<=1000000):au prog 22 [cR t] (.bool (ly t)):=by
 refine aI nf Pd mix (by simp[f22]) ?_;have s:ly t=(!(decide (14<t.cs.length)||(decide (14<t.bm.length)||((decide (8<t.ar.length)&&decide (t.ar.length<=256))||decide (258<t.ar.length))))&&(t.bm.all jy&&t.ar.all gZ)):=rfl
 by_cases c1:14<t.cs.length
 ·have q:(14:Int)<t.cs.length:=by omega
  have o:ly t=false:=by rw[s];simp[c1]
  simp[f22,aa,q,o]
 have q:¬(14:Int)<t.cs.length:=by omega
 by_cases c2:14<t.bm.length
 ·have r:(14:Int)<t.bm.length:=by omega
  have o:ly t=false:=by rw[s];simp[c2]
  simp[f22,aa,q,r,o]
 have r:¬(14:Int)<t.bm.length:=by omega
 have tail:(8<t.ar.length->¬t.ar.length<=256)->¬258<t.ar.length->ly t=(t.bm.all jy&&t.ar.all gZ):=fun A z=>by
  rw[s]
  by_cases h:8<t.ar.length
  ·have:=A h;simp[c1,c2,h,this,z]
  ·simp[c1,c2,h,z]
 by_cases c3:8<t.ar.length
 ·have u:(8:Int)<t.ar.length:=by omega
  by_cases c4:t.ar.length<=256
  ·have w:(t.ar.length:Int)<=256:=by omega
   have o:ly t=false:=by rw[s];simp[c3,c4]
   simp[f22,aa,q,r,u,w,o]
  ·have w:¬(t.ar.length:Int)<=256:=by omega
   by_cases c5:258<t.ar.length
   ·have v:(258:Int)<t.ar.length:=by omega
    have o:ly t=false:=by rw[s];simp[c5]
    simp[f22,aa,q,r,u,w,v,o]
   ·have v:¬(258:Int)<t.ar.length:=by omega
    rw[tail (fun _=>c4) c5];simp[f22,aa,q,r,u,w,v];refine lp (α:=Nat) (fun i=>⟨[(3,.p (.int .i64 i)),(1,.ptr 0 [])],[.box false (.p (cR t))]⟩) (fun i=>i<=t.bm.length/\(t.bm.take i).all jy=true) (fun i=>t.bm.length-i) 0 (by simp) ?_;rintro i ⟨k1,k2⟩
    by_cases hi:i<t.bm.length
    ·have c:=aB.lg hi;have n:=b9 (i:=i) (by omega);have f:=mf (t.pk i).a 40;have j:=mf (t.pk i).b 40;have g:jy (t.pk i)=(decide ((t.pk i).name.length<=40)&&(decide ((t.pk i).a.length<=40)&&decide ((t.pk i).b.length<=40))):=rfl
     by_cases m:(t.pk i).name.length<=40
     ·have d:¬(40:Int)<(t.pk i).name.length:=by omega
      by_cases a2:(t.pk i).a.length<=40
      ·have k:((t.pk i).a.length:Int)<=40:=by omega
       rw[decide_eq_true k]at f
       by_cases a3:(t.pk i).b.length<=40
       ·have l:((t.pk i).b.length:Int)<=40:=by omega
        rw[decide_eq_true l]at j;have e:jy (t.pk i)=true:=by rw[g];simp[m,a2,a3]
        simp[hi,c,d,aa];refine Go.ak.c2 f ?_;simp[hi,c,d,aa];refine Go.ak.c2 j ?_;simp[hi,c,d,n,aa];exact rd (i+1) ⟨hi,by rw[om c,k2,e];rfl⟩
       ·have l:¬((t.pk i).b.length:Int)<=40:=by omega
        rw[decide_eq_false l]at j;have e:jy (t.pk i)=false:=by rw[g];simp[a3]
        rw[iW c e];simp[hi,c,d,aa];refine Go.ak.c2 f ?_;simp[hi,c,d,aa];refine Go.ak.c2 j ?_;simp[hi,c,d,n,aa]
      ·have k:¬((t.pk i).a.length:Int)<=40:=by omega
       rw[decide_eq_false k]at f;have e:jy (t.pk i)=false:=by rw[g];simp[a2]
       rw[iW c e];simp[hi,c,d,aa];refine Go.ak.c2 f ?_;simp[hi,c,d,aa]
     ·have d:(40:Int)<(t.pk i).name.length:=by omega
      have e:jy (t.pk i)=false:=by rw[g];simp[m]
      rw[iW c e];simp[hi,c,d,aa]
    have:i=t.bm.length:=by omega
    subst this;rw[ay]at k2;rw[k2,Bool.true_and];simp[aa];refine lp (α:=Nat) (fun i=>⟨[(4,.p (.int .i64 i)),(1,.ptr 0 [])],[.box false (.p (cR t))]⟩) (fun i=>i<=t.ar.length/\(t.ar.take i).all gZ=true) (fun i=>t.ar.length-i) 0 (by simp) ?_;rintro i ⟨k1,k2⟩
    by_cases hi:i<t.ar.length
    ·have c:=aB.fe hi;have n:=b9 (i:=i) (by omega);have f:=mf (t.sp i).pt.x 40;have j:=mf (t.sp i).pt.y 40;have g:gZ (t.sp i)=(decide ((t.sp i).name.length<=40)&&(decide ((t.sp i).pt.x.length<=40)&&decide ((t.sp i).pt.y.length<=40))):=rfl
     by_cases m:(t.sp i).name.length<=40
     ·have d:¬(40:Int)<(t.sp i).name.length:=by omega
      by_cases a2:(t.sp i).pt.x.length<=40
      ·have k:((t.sp i).pt.x.length:Int)<=40:=by omega
       rw[decide_eq_true k]at f
       by_cases a3:(t.sp i).pt.y.length<=40
       ·have l:((t.sp i).pt.y.length:Int)<=40:=by omega
        rw[decide_eq_true l]at j;have e:gZ (t.sp i)=true:=by rw[g];simp[m,a2,a3]
        simp[hi,c,d,aa];refine Go.ak.c2 f ?_;simp[hi,c,d,aa];refine Go.ak.c2 j ?_;simp[hi,c,d,n,aa];exact rd (i+1) ⟨hi,by rw[om c,k2,e];rfl⟩
       ·have l:¬((t.sp i).pt.y.length:Int)<=40:=by omega
        rw[decide_eq_false l]at j;have e:gZ (t.sp i)=false:=by rw[g];simp[a3]
        rw[iW c e];simp[hi,c,d,aa];refine Go.ak.c2 f ?_;simp[hi,c,d,aa];refine Go.ak.c2 j ?_;simp[hi,c,d,n,aa]
      ·have k:¬((t.sp i).pt.x.length:Int)<=40:=by omega
       rw[decide_eq_false k]at f;have e:gZ (t.sp i)=false:=by rw[g];simp[a2]
       rw[iW c e];simp[hi,c,d,aa];refine Go.ak.c2 f ?_;simp[hi,c,d,aa]
     ·have d:(40:Int)<(t.sp i).name.length:=by omega
      have e:gZ (t.sp i)=false:=by rw[g];simp[m]
      rw[iW c e];simp[hi,c,d,aa]
    have:i=t.ar.length:=by omega
    subst this;rw[ay]at k2;rw[k2];simp[aa]
 ·have u:¬(8:Int)<t.ar.length:=by omega
  have v:¬(258:Int)<t.ar.length:=by omega
  rw[tail (fun h=>absurd h c3) (by omega)];simp[f22,aa,q,r,u,v];refine lp (α:=Nat) (fun i=>⟨[(3,.p (.int .i64 i)),(1,.ptr 0 [])],[.box false (.p (cR t))]⟩) (fun i=>i<=t.bm.length/\(t.bm.take i).all jy=true) (fun i=>t.bm.length-i) 0 (by simp) ?_;rintro i ⟨k1,k2⟩
  by_cases hi:i<t.bm.length
  ·have c:=aB.lg hi;have n:=b9 (i:=i) (by omega);have f:=mf (t.pk i).a 40;have j:=mf (t.pk i).b 40;have g:jy (t.pk i)=(decide ((t.pk i).name.length<=40)&&(decide ((t.pk i).a.length<=40)&&decide ((t.pk i).b.length<=40))):=rfl
   by_cases m:(t.pk i).name.length<=40
   ·have d:¬(40:Int)<(t.pk i).name.length:=by omega
    by_cases a2:(t.pk i).a.length<=40
    ·have k:((t.pk i).a.length:Int)<=40:=by omega
     rw[decide_eq_true k]at f
     by_cases a3:(t.pk i).b.length<=40
     ·have l:((t.pk i).b.length:Int)<=40:=by omega
      rw[decide_eq_true l]at j;have e:jy (t.pk i)=true:=by rw[g];simp[m,a2,a3]
      simp[hi,c,d,aa];refine Go.ak.c2 f ?_;simp[hi,c,d,aa];refine Go.ak.c2 j ?_;simp[hi,c,d,n,aa];exact rd (i+1) ⟨hi,by rw[om c,k2,e];rfl⟩
     ·have l:¬((t.pk i).b.length:Int)<=40:=by omega
      rw[decide_eq_false l]at j;have e:jy (t.pk i)=false:=by rw[g];simp[a3]
      rw[iW c e];simp[hi,c,d,aa];refine Go.ak.c2 f ?_;simp[hi,c,d,aa];refine Go.ak.c2 j ?_;simp[hi,c,d,n,aa]
    ·have k:¬((t.pk i).a.length:Int)<=40:=by omega
     rw[decide_eq_false k]at f;have e:jy (t.pk i)=false:=by rw[g];simp[a2]
     rw[iW c e];simp[hi,c,d,aa];refine Go.ak.c2 f ?_;simp[hi,c,d,aa]
   ·have d:(40:Int)<(t.pk i).name.length:=by omega
    have e:jy (t.pk i)=false:=by rw[g];simp[m]
    rw[iW c e];simp[hi,c,d,aa]
  have:i=t.bm.length:=by omega
  subst this;rw[ay]at k2;rw[k2,Bool.true_and];simp[aa];refine lp (α:=Nat) (fun i=>⟨[(4,.p (.int .i64 i)),(1,.ptr 0 [])],[.box false (.p (cR t))]⟩) (fun i=>i<=t.ar.length/\(t.ar.take i).all gZ=true) (fun i=>t.ar.length-i) 0 (by simp) ?_;rintro i ⟨k1,k2⟩
  by_cases hi:i<t.ar.length
  ·have c:=aB.fe hi;have n:=b9 (i:=i) (by omega);have f:=mf (t.sp i).pt.x 40;have j:=mf (t.sp i).pt.y 40;have g:gZ (t.sp i)=(decide ((t.sp i).name.length<=40)&&(decide ((t.sp i).pt.x.length<=40)&&decide ((t.sp i).pt.y.length<=40))):=rfl
   by_cases m:(t.sp i).name.length<=40
   ·have d:¬(40:Int)<(t.sp i).name.length:=by omega
    by_cases a2:(t.sp i).pt.x.length<=40
    ·have k:((t.sp i).pt.x.length:Int)<=40:=by omega
     rw[decide_eq_true k]at f
     by_cases a3:(t.sp i).pt.y.length<=40
     ·have l:((t.sp i).pt.y.length:Int)<=40:=by omega
      rw[decide_eq_true l]at j;have e:gZ (t.sp i)=true:=by rw[g];simp[m,a2,a3]
      simp[hi,c,d,aa];refine Go.ak.c2 f ?_;simp[hi,c,d,aa];refine Go.ak.c2 j ?_;simp[hi,c,d,n,aa];exact rd (i+1) ⟨hi,by rw[om c,k2,e];rfl⟩
     ·have l:¬((t.sp i).pt.y.length:Int)<=40:=by omega
      rw[decide_eq_false l]at j;have e:gZ (t.sp i)=false:=by rw[g];simp[a3]
      rw[iW c e];simp[hi,c,d,aa];refine Go.ak.c2 f ?_;simp[hi,c,d,aa];refine Go.ak.c2 j ?_;simp[hi,c,d,n,aa]
    ·have k:¬((t.sp i).pt.x.length:Int)<=40:=by omega
     rw[decide_eq_false k]at f;have e:gZ (t.sp i)=false:=by rw[g];simp[a2]
     rw[iW c e];simp[hi,c,d,aa];refine Go.ak.c2 f ?_;simp[hi,c,d,aa]
   ·have d:(40:Int)<(t.sp i).name.length:=by omega
    have e:gZ (t.sp i)=false:=by rw[g];simp[m]
    rw[iW c e];simp[hi,c,d,aa]
  have:i=t.ar.length:=by omega
  subst this;rw[ay]at k2;rw[k2];simp[aa]
theorem S0(l:List dN):eM prog 2 (l.map (AV.p∘cA)):=yz (fun r=>⟨by simp[aa],by simp[aa]⟩) l
theorem rR{α:Type}{f:α->AV}{l:List α}{j:Nat}{x:α}(h:l[j+1]?=some x):(l.take (j+1+1)).map f=(l.map f).take (j+1)++[f x]:=by
 rw[a4 (i:=j+1),h,List.map_append,a7];rfl
theorem jU{N:Nat×Nat->Prop}{α:Type}{f:α->PV}{k:Nat}{l:List α}:aX N ((l.map (AV.p∘f)).take k)=True:=by
 rw[cV,eq_iff_iff,iff_true];intro x hx;obtain⟨a,_,rfl⟩:=bV.1 (List.mem_of_mem_take hx);trivial
theorem ov:fa=fj:=rfl
theorem ot:gw=bH:=rfl
theorem rS{α:Type}{l:List α}{x:α}(h:l[0]?=some x):l.take 1=[x]:=by
 rw[a4 (i:=0),h];rfl
theorem Rr(t:aB)(s:t.cs.length<=1000000)(u:t.bm.length<=1000000)(v:t.ar.length<=1000000):au prog 24 [cR t] (cj t):=by
 have r:(1000000:Nat)<cW:=by decide
 have w1:ao.wrap 1=1:=by decide
 refine aI nf Pe mix (by simp[f24]) ?_;simp[f24,aa];refine⟨⟨S0 _,by omega⟩,?_⟩
 by_cases hc:t.cs=[]
 ·simp[hc];refine⟨⟨by repeat' first|rfl|apply am,by repeat' first|rfl|apply am⟩,?_⟩;refine lp (α:=Nat) (fun i=>match i with
    |0=>⟨[(18,.p (.int .i64 0)),(17,.p (.int .i64 t.bm.length)),(16,.p (.seq (t.bm.map fj))),(3,.ptr 3 []),(2,.ptr 1 []),(1,.ptr 0 [])],[.box false (.p (cR t)),.box false (.p (.st 54 [.aO,.int .i64 0,.aO,.aO])),.arr .exact 0 2 [],.box false (.st 54 [.sl 2 0 2 0 0,.p (.int .i64 t.aR),.p .aO,.p .aO])]⟩
    |m+1=>⟨[(18,.p (.int .i64 ((m+1:Nat):Int))),(17,.p (.int .i64 t.bm.length)),(16,.p (.seq (t.bm.map fj))),(3,.ptr 3 []),(2,.ptr 1 []),(1,.ptr 0 [])],[.box false (.p (cR t)),.box false (.p (.st 54 [.aO,.int .i64 0,.aO,.aO])),.arr .exact 0 2 [],.box false (.st 54 [.sl 2 0 2 0 0,.p (.int .i64 t.aR),.sl 6 m 4 0 (m+1),.p .aO]),.hole,.hole,.arr .grow m 4 ((t.bm.take (m+1)).map (AV.p∘fj))]⟩) (fun i=>i<=t.bm.length) (fun i=>t.bm.length-i) 0 (by simp) ?_
  rintro i o
  by_cases hi:i<t.bm.length
  ·have a:=aB.lg hi;rcases i with _|j
   ·have b:=rS a;simp[hi,a,w1,aa];exact⟨by omega,rd 1 hi (hh:=by simp[b]) (hr2:=by simp[jU])⟩
   ·have h:ao.wrap ((j:Int)+1+1)=(j:Int)+1+1:=aP _ (by omega) (by omega);have hI:(j:Int)+1<t.bm.length:=by omega
    have b:=rR (f:=AV.p∘fj) a;simp[hi,hI,a,h,aa];exact⟨by omega,⟨by omega,by omega⟩,rd (j+2) hi (hh:=by simp at b;simp[b]) (hr2:=by simp[jU])⟩
  have q:i=t.bm.length:=by omega
  rcases i with _|j
  ·have n:t.bm=[]:=a0.1 q.symm;simp[n,aa];refine lp (α:=Nat) (fun i=>match i with
     |0=>⟨[(32,.p (.int .i64 0)),(31,.p (.int .i64 t.ar.length)),(30,.p (.seq (t.ar.map bH))),(3,.ptr 3 []),(2,.ptr 1 []),(1,.ptr 0 [])],[.box false (.p (cR t)),.box false (.p (.st 54 [.aO,.int .i64 0,.aO,.aO])),.arr .exact 0 2 [],.box false (.st 54 [.sl 2 0 2 0 0,.p (.int .i64 t.aR),.p .aO,.p .aO])]⟩
     |m+1=>⟨[(32,.p (.int .i64 ((m+1:Nat):Int))),(31,.p (.int .i64 t.ar.length)),(30,.p (.seq (t.ar.map bH))),(3,.ptr 3 []),(2,.ptr 1 []),(1,.ptr 0 [])],[.box false (.p (cR t)),.box false (.p (.st 54 [.aO,.int .i64 0,.aO,.aO])),.arr .exact 0 2 [],.box false (.st 54 [.sl 2 0 2 0 0,.p (.int .i64 t.aR),.p .aO,.sl 6 m 3 0 (m+1)]),.hole,.hole,.arr .grow m 3 ((t.ar.take (m+1)).map (AV.p∘bH))]⟩) (fun i=>i<=t.ar.length) (fun i=>t.ar.length-i) 0 (by simp) ?_
   rintro i o
   by_cases hi:i<t.ar.length
   ·have a:=aB.fe hi;rcases i with _|j
    ·have b:=rS a;simp[hi,a,w1,aa];exact⟨by omega,rd 1 hi (hh:=by simp[b]) (hr2:=by simp[jU])⟩
    ·have h:ao.wrap ((j:Int)+1+1)=(j:Int)+1+1:=aP _ (by omega) (by omega);have hI:(j:Int)+1<t.ar.length:=by omega
     have b:=rR (f:=AV.p∘bH) a;simp[hi,hI,a,h,aa];exact⟨by omega,⟨by omega,by omega⟩,rd (j+2) hi (hh:=by simp at b;simp[b]) (hr2:=by simp[jU])⟩
   have d:i=t.ar.length:=by omega
   rcases i with _|c
   ·have e:t.ar=[]:=a0.1 d.symm;simp[e,aa];simp[cj,hc,n,e,ov,ot]
   ·have hI:¬((c:Int)+1<t.ar.length):=by omega
    have g:t.ar.take (c+1)=t.ar:=by rw[d,ay]
    simp[hI,g,aa];have l:(t.ar.map (AV.p∘bH)).take (c+1)=t.ar.map (AV.p∘bH):=ax (by simp;omega);simp[cj,hc,n,l,ov,ot];omega
  ·have hI:¬((j:Int)+1<t.bm.length):=by omega
   have g:t.bm.take (j+1)=t.bm:=by rw[q,ay]
   simp[hI,g,aa];refine lp (α:=Nat) (fun i=>match i with
    |0=>⟨[(32,.p (.int .i64 0)),(31,.p (.int .i64 t.ar.length)),(30,.p (.seq (t.ar.map bH))),(3,.ptr 3 []),(2,.ptr 1 []),(1,.ptr 0 [])],[.box false (.p (cR t)),.box false (.p (.st 54 [.aO,.int .i64 0,.aO,.aO])),.arr .exact 0 2 [],.box false (.st 54 [.sl 2 0 2 0 0,.p (.int .i64 t.aR),.sl 6 j 4 0 (j+1),.p .aO]),.hole,.hole,.arr .grow j 4 (t.bm.map (AV.p∘fj))]⟩
    |m+1=>⟨[(32,.p (.int .i64 ((m+1:Nat):Int))),(31,.p (.int .i64 t.ar.length)),(30,.p (.seq (t.ar.map bH))),(3,.ptr 3 []),(2,.ptr 1 []),(1,.ptr 0 [])],[.box false (.p (cR t)),.box false (.p (.st 54 [.aO,.int .i64 0,.aO,.aO])),.arr .exact 0 2 [],.box false (.st 54 [.sl 2 0 2 0 0,.p (.int .i64 t.aR),.sl 6 j 4 0 (j+1),.sl 9 m 3 0 (m+1)]),.hole,.hole,.arr .grow j 4 (t.bm.map (AV.p∘fj)),.hole,.hole,.arr .grow m 3 ((t.ar.take (m+1)).map (AV.p∘bH))]⟩) (fun i=>i<=t.ar.length) (fun i=>t.ar.length-i) 0 (by simp) ?_
   rintro i o
   by_cases hi:i<t.ar.length
   ·have a:=aB.fe hi;rcases i with _|j
    ·have b:=rS a;simp[hi,a,w1,aa];exact⟨by omega,rd 1 hi (hh:=by simp[b]) (hr2:=by simp[jU])⟩
    ·have h:ao.wrap ((j:Int)+1+1)=(j:Int)+1+1:=aP _ (by omega) (by omega);have hI:(j:Int)+1<t.ar.length:=by omega
     have b:=rR (f:=AV.p∘bH) a;simp[hi,hI,a,h,aa];exact⟨by omega,⟨by omega,by omega⟩,rd (j+2) hi (hh:=by simp at b;simp[b]) (hr2:=by simp[jU])⟩
   have d:i=t.ar.length:=by omega
   rcases i with _|c
   ·have e:t.ar=[]:=a0.1 d.symm;simp[e,aa];have k:(t.bm.map (AV.p∘fj)).take (j+1)=t.bm.map (AV.p∘fj):=ax (by simp;omega);simp[cj,hc,k,e,ov,ot];omega
   ·have hI:¬((c:Int)+1<t.ar.length):=by omega
    have g:t.ar.take (c+1)=t.ar:=by rw[d,ay]
    simp[hI,g,aa];have k:(t.bm.map (AV.p∘fj)).take (j+1)=t.bm.map (AV.p∘fj):=ax (by simp;omega);have l:(t.ar.map (AV.p∘bH)).take (c+1)=t.ar.map (AV.p∘bH):=ax (by simp;omega);simp[cj,hc,k,l,ov,ot];omega
 ·simp[hc];refine⟨⟨by repeat' first|rfl|apply am,by repeat' first|rfl|apply am⟩,?_⟩;refine lp (α:=Nat) (fun i=>match i with
    |0=>⟨[(18,.p (.int .i64 0)),(17,.p (.int .i64 t.bm.length)),(16,.p (.seq (t.bm.map fj))),(3,.ptr 4 []),(2,.ptr 1 []),(1,.ptr 0 [])],[.box false (.p (cR t)),.box false (.p (.st 54 [.aO,.int .i64 0,.aO,.aO])),.arr .exact 0 2 [],.arr .grow 0 2 (t.cs.map (AV.p∘cA)),.box false (.st 54 [.sl 3 0 2 0 t.cs.length,.p (.int .i64 t.aR),.p .aO,.p .aO])]⟩
    |m+1=>⟨[(18,.p (.int .i64 ((m+1:Nat):Int))),(17,.p (.int .i64 t.bm.length)),(16,.p (.seq (t.bm.map fj))),(3,.ptr 4 []),(2,.ptr 1 []),(1,.ptr 0 [])],[.box false (.p (cR t)),.box false (.p (.st 54 [.aO,.int .i64 0,.aO,.aO])),.arr .exact 0 2 [],.arr .grow 0 2 (t.cs.map (AV.p∘cA)),.box false (.st 54 [.sl 3 0 2 0 t.cs.length,.p (.int .i64 t.aR),.sl 7 m 4 0 (m+1),.p .aO]),.hole,.hole,.arr .grow m 4 ((t.bm.take (m+1)).map (AV.p∘fj))]⟩) (fun i=>i<=t.bm.length) (fun i=>t.bm.length-i) 0 (by simp) ?_
  rintro i o
  by_cases hi:i<t.bm.length
  ·have a:=aB.lg hi;rcases i with _|j
   ·have b:=rS a;simp[hi,a,w1,aa];exact⟨by omega,rd 1 hi (hh:=by simp[b]) (hr2:=by simp[jU])⟩
   ·have h:ao.wrap ((j:Int)+1+1)=(j:Int)+1+1:=aP _ (by omega) (by omega);have hI:(j:Int)+1<t.bm.length:=by omega
    have b:=rR (f:=AV.p∘fj) a;simp[hi,hI,a,h,aa];exact⟨by omega,⟨by omega,by omega⟩,rd (j+2) hi (hh:=by simp at b;simp[b]) (hr2:=by simp[jU])⟩
  have q:i=t.bm.length:=by omega
  rcases i with _|j
  ·have n:t.bm=[]:=a0.1 q.symm;simp[n,aa];refine lp (α:=Nat) (fun i=>match i with
     |0=>⟨[(32,.p (.int .i64 0)),(31,.p (.int .i64 t.ar.length)),(30,.p (.seq (t.ar.map bH))),(3,.ptr 4 []),(2,.ptr 1 []),(1,.ptr 0 [])],[.box false (.p (cR t)),.box false (.p (.st 54 [.aO,.int .i64 0,.aO,.aO])),.arr .exact 0 2 [],.arr .grow 0 2 (t.cs.map (AV.p∘cA)),.box false (.st 54 [.sl 3 0 2 0 t.cs.length,.p (.int .i64 t.aR),.p .aO,.p .aO])]⟩
     |m+1=>⟨[(32,.p (.int .i64 ((m+1:Nat):Int))),(31,.p (.int .i64 t.ar.length)),(30,.p (.seq (t.ar.map bH))),(3,.ptr 4 []),(2,.ptr 1 []),(1,.ptr 0 [])],[.box false (.p (cR t)),.box false (.p (.st 54 [.aO,.int .i64 0,.aO,.aO])),.arr .exact 0 2 [],.arr .grow 0 2 (t.cs.map (AV.p∘cA)),.box false (.st 54 [.sl 3 0 2 0 t.cs.length,.p (.int .i64 t.aR),.p .aO,.sl 7 m 3 0 (m+1)]),.hole,.hole,.arr .grow m 3 ((t.ar.take (m+1)).map (AV.p∘bH))]⟩) (fun i=>i<=t.ar.length) (fun i=>t.ar.length-i) 0 (by simp) ?_
   rintro i o
   by_cases hi:i<t.ar.length
   ·have a:=aB.fe hi;rcases i with _|j
    ·have b:=rS a;simp[hi,a,w1,aa];exact⟨by omega,rd 1 hi (hh:=by simp[b]) (hr2:=by simp[jU])⟩
    ·have h:ao.wrap ((j:Int)+1+1)=(j:Int)+1+1:=aP _ (by omega) (by omega);have hI:(j:Int)+1<t.ar.length:=by omega
     have b:=rR (f:=AV.p∘bH) a;simp[hi,hI,a,h,aa];exact⟨by omega,⟨by omega,by omega⟩,rd (j+2) hi (hh:=by simp at b;simp[b]) (hr2:=by simp[jU])⟩
   have d:i=t.ar.length:=by omega
   rcases i with _|c
   ·have e:t.ar=[]:=a0.1 d.symm;simp[e,aa];simp[cj,hc,n,e,ov,ot]
   ·have hI:¬((c:Int)+1<t.ar.length):=by omega
    have g:t.ar.take (c+1)=t.ar:=by rw[d,ay]
    simp[hI,g,aa];have l:(t.ar.map (AV.p∘bH)).take (c+1)=t.ar.map (AV.p∘bH):=ax (by simp;omega);simp[cj,hc,n,l,ov,ot];omega
  ·have hI:¬((j:Int)+1<t.bm.length):=by omega
   have g:t.bm.take (j+1)=t.bm:=by rw[q,ay]
   simp[hI,g,aa];refine lp (α:=Nat) (fun i=>match i with
    |0=>⟨[(32,.p (.int .i64 0)),(31,.p (.int .i64 t.ar.length)),(30,.p (.seq (t.ar.map bH))),(3,.ptr 4 []),(2,.ptr 1 []),(1,.ptr 0 [])],[.box false (.p (cR t)),.box false (.p (.st 54 [.aO,.int .i64 0,.aO,.aO])),.arr .exact 0 2 [],.arr .grow 0 2 (t.cs.map (AV.p∘cA)),.box false (.st 54 [.sl 3 0 2 0 t.cs.length,.p (.int .i64 t.aR),.sl 7 j 4 0 (j+1),.p .aO]),.hole,.hole,.arr .grow j 4 (t.bm.map (AV.p∘fj))]⟩
    |m+1=>⟨[(32,.p (.int .i64 ((m+1:Nat):Int))),(31,.p (.int .i64 t.ar.length)),(30,.p (.seq (t.ar.map bH))),(3,.ptr 4 []),(2,.ptr 1 []),(1,.ptr 0 [])],[.box false (.p (cR t)),.box false (.p (.st 54 [.aO,.int .i64 0,.aO,.aO])),.arr .exact 0 2 [],.arr .grow 0 2 (t.cs.map (AV.p∘cA)),.box false (.st 54 [.sl 3 0 2 0 t.cs.length,.p (.int .i64 t.aR),.sl 7 j 4 0 (j+1),.sl 10 m 3 0 (m+1)]),.hole,.hole,.arr .grow j 4 (t.bm.map (AV.p∘fj)),.hole,.hole,.arr .grow m 3 ((t.ar.take (m+1)).map (AV.p∘bH))]⟩) (fun i=>i<=t.ar.length) (fun i=>t.ar.length-i) 0 (by simp) ?_
   rintro i o
   by_cases hi:i<t.ar.length
   ·have a:=aB.fe hi;rcases i with _|j
    ·have b:=rS a;simp[hi,a,w1,aa];exact⟨by omega,rd 1 hi (hh:=by simp[b]) (hr2:=by simp[jU])⟩
    ·have h:ao.wrap ((j:Int)+1+1)=(j:Int)+1+1:=aP _ (by omega) (by omega);have hI:(j:Int)+1<t.ar.length:=by omega
     have b:=rR (f:=AV.p∘bH) a;simp[hi,hI,a,h,aa];exact⟨by omega,⟨by omega,by omega⟩,rd (j+2) hi (hh:=by simp at b;simp[b]) (hr2:=by simp[jU])⟩
   have d:i=t.ar.length:=by omega
   rcases i with _|c
   ·have e:t.ar=[]:=a0.1 d.symm;simp[e,aa];have k:(t.bm.map (AV.p∘fj)).take (j+1)=t.bm.map (AV.p∘fj):=ax (by simp;omega);simp[cj,hc,k,e,ov,ot];omega
   ·have hI:¬((c:Int)+1<t.ar.length):=by omega
    have g:t.ar.take (c+1)=t.ar:=by rw[d,ay]
    simp[hI,g,aa];have k:(t.bm.map (AV.p∘fj)).take (j+1)=t.bm.map (AV.p∘fj):=ax (by simp;omega);have l:(t.ar.map (AV.p∘bH)).take (c+1)=t.ar.map (AV.p∘bH):=ax (by simp;omega);simp[cj,hc,k,l,ov,ot];omega
def gq(r:Int)(a b:V2):Int:=dw ((a.sub b).dot (a.sub b)) (im r)
def ie(t:aB)(bef:List cB)(s:cB):Int:=
 if isName s.name=false then 8
 else if bef.any (fun o=>decide (o.name=s.name))=true then 9
 else if ek s.pt≠0 then ek s.pt
 else if t.on (vP s.pt)<0 then 16
 else if bef.any (fun o=>decide (gq t.aR (vP o.pt) (vP s.pt)<0))=true then 17 else 0
def rT(t b:aB):Int:=if 24<b.ar.length then 5 else jT (ie t) b.ar
def gI(t b:aB):Int:=if ia t≠0 then ia t else rT t b
structure ic(b:aB):Prop where
 sl:b.ar.length<=1000000
 sp:∀s∈b.ar,mN s
theorem mU{t:aB}(h:ia t=0):1<=t.aR/\t.aR<=1000:=by
 rw[ia]at h
 split at h
 ·omega
 split at h
 ·omega
 split at h
 ·omega
 split at h
 ·omega
 split at h
 ·omega
 omega
theorem ud{s:gF}(h:ek s=0):eV (vP s)=ga s/\bA 2000 (vP s):=by
 obtain⟨g1,g2⟩:=jF h;refine⟨?_,gp g1,gp g2⟩;rw[eV,vP];dsimp only;rw[(jG g1).1,(jG g2).1]
theorem RW(t:aB)(a:0<=t.aR)(b:t.aR<=1000000):au prog 325 [cR t] (.str (bg (im t.aR))):=by
 have e:=vi a b;have c:=vB (4*t.aR*t.aR) (by omega) (by omega);have w1:ao.wrap (4*t.aR)=4*t.aR:=aP _ (by omega) (by omega);have d:ao.wrap (4*t.aR*t.aR)=4*t.aR*t.aR:=aP _ (by omega) (by omega);refine aI nf FH mix (by simp[f325]) ?_;rw[im];simp[f325,aa,w1,d];refine c1 c ?_;simp
theorem Rz(t:aB)(a b:V2)(d:0<=t.aR)(e:t.aR<=1000000)(f:bA 2000 a)(g:bA 2000 b):au prog 275 [cR t,eV a,eV b] (.int .i64 (gq t.aR a b)):=by
 have c:=gv f g;have k1:=px a b (f.mono (by decide)) (g.mono (by decide));have k2:=xB (a.sub b) (c.mono (by decide));have k3:=RW t d e;have k4:=pO ((a.sub b).dot (a.sub b)) (im t.aR) ((kN c c).mono (by decide)) ((xp d e).mono (by decide));refine aI nf F2 mix (by simp[f275]) ?_;rw[gq];simp[f275,aa];refine e2 k1 ?_;simp[aa];refine e1 k2 ?_;simp[aa];refine e1 k3 ?_;simp[aa];refine e2 k4 ?_;simp[aa]
theorem Fh{α:Type}{f:α->Bool}{l:List α}{i j:Nat}{x:α}(h:l[j]?=some x)(a:j<i)(hf:f x=true):(l.take i).any f=true:=by
 rw[bp];exact⟨x,aT (i:=j) (by rw[be,if_pos a];exact h),hf⟩
theorem Ay{t:aB}{a:List cB}{s:cB}(h:ie t a s=0):ek s.pt=0:=by
 rw[ie]at h
 split at h
 ·omega
 split at h
 ·omega
 split at h
 ·contradiction
 ·rename_i g;exact Decidable.not_not.1 g
theorem Rx(t b:aB)(w:ia t=0)(A:ic b)(B:t.cs.length<=1000000):au prog 199 [cR t,.seq (b.ar.map bH)] (.int .i64 (rT t b)):=by
 obtain⟨Q,D⟩:=A;obtain⟨_,_,C,_⟩:=wJ w;obtain⟨R,S⟩:=mU w;refine aI nf Gg mix (by simp[f199]) ?_;rw[rT]
 by_cases c4:24<b.ar.length
 ·have cI:(24:Int)<b.ar.length:=by omega
  rw[if_pos c4];simp[f199,aa,cI]
 have y:¬(24:Int)<b.ar.length:=by omega
 rw[if_neg c4];simp[f199,aa,y];refine lp (α:=Nat) (fun i=>⟨[(5,.p (.int .i64 i)),(2,.ptr 0 []),(1,.p (.seq (b.ar.map bH)))],[.box false (.p (cR t))]⟩) (fun i=>i<=b.ar.length/\∀j,j<i->gH (ie t) b.ar j=0) (fun i=>b.ar.length-i) 0 (by simp) ?_;rintro i ⟨s1,s2⟩
 by_cases hs:i<b.ar.length
 case neg=>
  have:i=b.ar.length:=by omega
  subst this;rw[pM.2 s2];simp[aa]
 have a:=aB.fe hs;have F:=b9 (i:=i) (by omega);obtain⟨J,K⟩:=D _ (aT a);have g:=Aj (b.sp i).name J.1;have z:=Gv (b.sp i).pt K;have e:ie t (b.ar.take i) (b.sp i)≠0->jT (ie t) b.ar=ie t (b.ar.take i) (b.sp i):=rQ s2 a;have I:ie t (b.ar.take i) (b.sp i)=0->∀j,j<i+1->gH (ie t) b.ar j=0:=rP s2 a;have N:∀j,j<i->ek (b.sp j).pt=0:=fun j c=>by
  have:=s2 j c;rw[gH,aB.fe (by omega)]at this;exact Ay this
 have ev:ie t (b.ar.take i) (b.sp i)=if isName (b.sp i).name=false then 8 else if(b.ar.take i).any (fun o=>decide (o.name=(b.sp i).name))=true then 9 else if ek (b.sp i).pt≠0 then ek (b.sp i).pt else if t.on (vP (b.sp i).pt)<0 then 16 else if(b.ar.take i).any (fun o=>decide (gq t.aR (vP o.pt) (vP (b.sp i).pt)<0))=true then 17 else 0:=rfl
 clear s2;generalize ie t (b.ar.take i) (b.sp i)=E at*;generalize jT (ie t) b.ar=O at*;cases m:isName (b.sp i).name
 ·rw[m]at g;rw[m,if_pos rfl]at ev;rw[e (by rw[ev];decide),ev];simp[hs,a,aa];refine Go.ak.c1 g ?_;simp[aa]
 rw[m]at g;rw[m,if_neg (by decide)]at ev;simp[hs,a,aa];refine Go.ak.c1 g ?_;simp[aa];refine lp (α:=Nat) (fun k=>⟨[(6,.p (.int .i64 k)),(5,.p (.int .i64 i)),(2,.ptr 0 []),(1,.p (.seq (b.ar.map bH)))],[.box false (.p (cR t))]⟩) (fun k=>k<=i/\(b.ar.take k).any (fun o=>decide (o.name=(b.sp i).name))=false) (fun k=>i-k) 0 (by simp) ?_;rintro k ⟨k1,k2⟩
 by_cases hk:k<i
 ·have s:k<b.ar.length:=by omega
  have gk:=aB.fe s;have H:=b9 (i:=k) (by omega)
  by_cases l:(b.sp k).name=(b.sp i).name
  ·rw[if_pos (Fh gk hk (by simp[l]))]at ev;rw[e (by rw[ev];decide),ev];simp[hs,hk,s,gk,a,l,aa]
  ·simp[hs,hk,s,gk,a,l,H,aa];exact rd (k+1) ⟨hk,by rw[tY gk,k2];simp[l]⟩
 have:k=i:=by omega
 subst this;rw[k2,if_neg (by decide)]at ev;clear k1 k2 hk;have u:¬k<k:=by omega
 simp[u,hs,a,aa];refine Go.ak.c1 z ?_
 by_cases d:ek (b.sp k).pt=0
 case neg=>
  rw[if_pos d]at ev;rw[e (by rw[ev];exact d),ev];simp[d,aa]
 rw[if_neg (by simp[d])]at ev;obtain⟨pl,ok⟩:=ud d;have v:=Dt t (vP (b.sp k).pt) B C (ok.mono (by decide));rw[pl]at v;simp[d,hs,a,aa];refine Go.ak.e2 v ?_
 by_cases n:t.on (vP (b.sp k).pt)<0
 ·rw[if_pos n]at ev;rw[e (by rw[ev];decide),ev];simp[n,aa]
 rw[if_neg n]at ev;simp[n,aa];refine lp (α:=Nat) (fun j=>⟨[(8,.p (.int .i64 j)),(5,.p (.int .i64 k)),(2,.ptr 0 []),(1,.p (.seq (b.ar.map bH)))],[.box false (.p (cR t))]⟩) (fun j=>j<=k/\(b.ar.take j).any (fun o=>decide (gq t.aR (vP o.pt) (vP (b.sp k).pt)<0))=false) (fun j=>k-j) 0 (by simp) ?_;rintro j ⟨P,x⟩
 by_cases c:j<k
 ·have r:j<b.ar.length:=by omega
  have f:=aB.fe r;have G:=b9 (i:=j) (by omega);obtain⟨M,L⟩:=ud (N j c);have q:=Rz t (vP (b.sp j).pt) (vP (b.sp k).pt) (by omega) (by omega) L ok;rw[pl,M]at q
  by_cases h:gq t.aR (vP (b.sp j).pt) (vP (b.sp k).pt)<0
  ·rw[if_pos (Fh f c (by simp[h]))]at ev;rw[e (by rw[ev];decide),ev];simp[hs,c,r,f,a,aa];refine Go.ak.e3 q ?_;simp[h,aa]
  ·simp[hs,c,r,f,a,aa];refine Go.ak.e3 q ?_;simp[h,G,aa];exact rd (j+1) ⟨c,by rw[tY f,x];simp[h]⟩
 have:j=k:=by omega
 subst this;rw[x,if_neg (by decide)]at ev;simp[u,F,aa];exact rd (j+1) ⟨hs,I ev⟩
theorem Az(t b:aB)(a:ib t)(c:ic b):au prog 123 [cR t,.seq (b.ar.map bH)] (.int .i64 (gI t b)):=by
 have k1:=QW t a;refine aI nf FZ mix (by simp[f123]) ?_;rw[gI]
 by_cases h:ia t=0
 ·rw[if_neg (by simp[h])];have k2:=Rx t b h c a.cl;rw[h]at k1;simp[f123,aa];refine Go.ak.c1 k1 ?_;simp[aa];refine Go.ak.c2 k2 ?_;simp[aa]
 ·rw[if_pos h];generalize ia t=e at*;simp[f123,aa];refine Go.ak.c1 k1 ?_;simp[h,aa]
end Go.ak
