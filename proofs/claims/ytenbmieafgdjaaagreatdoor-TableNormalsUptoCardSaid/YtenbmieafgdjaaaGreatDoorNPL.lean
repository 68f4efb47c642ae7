import Derived.Test.YtenbmieafgdjaaaGreatDoorNPK
import Derived.Test.YtenbmieafgdjaaaGreatDoorNThE
/- Parts of a proof. -/
set_option linter.unusedSimpArgs false
set_option linter.unusedVariables false
set_option linter.unusedSectionVars false
open Go.Proofs.Tryz
open And renaming intro->am
open Bool renaming and_eq_true->ao, true_and->ap
open Go.IntKind renaming i64->av
open Int renaming tmod_eq_emod_of_nonneg->ax, natCast_emod->ay
open List renaming length_take->aT, mem_of_getElem?->a0, getElem?_eq_some_iff->a1, drop_eq_getElem_cons->a4, take_of_length_le->a5, take_length->a6, getElem?_eq_getElem->a7, length_eq_zero_iff->a8, getElem?_append_right->a9, getElem?_append_left->bb, getElem?_cons_succ->be, getElem?_map->bi, length_drop->bk, getElem?_take->bl, take_add_one->bo, mem_iff_getElem->br, length_append->bv, mem_map->b0, map_set->b1, length_map->b2, map_take->b3, getElem?_set_self->b4, drop_of_length_le->b5, mem_of_mem_take->cb, getElem?_set_ne->cc, range->ce, getElem_take->ck, length_cons->cv, all_eq_true->cx, append_nil->cy, drop_zero->c6, map_cons->c9
open Nat renaming min_eq_left->da, le_refl->db, le_trans->dg, lt_of_lt_of_le->dk, lt_trichotomy->dl
namespace Go.au
open Go.Proofs
set_option maxHeartbeats 4000000
set_option maxRecDepth 100000
def lV(l:List df):List (PV×PV):=l.map (fun p=>(aR p,PV.bool true))
theorem Ei{p q:df}(h:¬p=q):¬(p.x=q.x/\p.y=q.y):=fun⟨a,b⟩=>h (by cases p;cases q;simp_all)
theorem XQ(a b c d:Int):dC prog 9 61 (.st 60 [.int .i64 a,.int .i64 b]) (.st 60 [.int .i64 c,.int .i64 d])=some ((a==c)&&((b==d)&&true)):=by kernel_rfl
@[simp] theorem zH(p q:df):dC prog 9 61 (aR p) (aR q)=some (decide (p=q)):=by
 rw[aR,aR,XQ]
 by_cases h:p=q
 ·subst h;simp
 ·rw[decide_eq_false h];have:=Ei h
  by_cases a:p.x=q.x
  ·have b:¬p.y=q.y:=fun b=>this ⟨a,b⟩;simp[a,b]
  ·simp[a]
theorem Eh(p q:df):jX (aR p) (aR q)=some (decide (p=q)):=by
 by_cases h:p=q
 ·subst h;simp[aR,jX,vm]
 ·rw[decide_eq_false h];have:=Ei h
  by_cases a:p.x=q.x
  ·have b:¬p.y=q.y:=fun b=>this ⟨a,b⟩;simp[aR,jX,vm,a,beq_false_of_ne b]
  ·simp[aR,jX,vm,beq_false_of_ne a]
theorem XJ(p q:df):o6 prog 61 (aR p) (aR q)=some (decide (p=q)):=by
 have e1:=zH p q;have e2:=Eh p q;rw[aR]at e1 e2⊢;rw[o6,e1,e2];simp
@[simp] theorem DU(q:df):∀l:List df,fE prog 61 (lV l) (aR q)=some (if q∈l then some (.bool true)else none)
 |[]=>rfl
 |p::r=>by
  rw[lV,c9,fE,XJ]
  by_cases h:q=p
  ·simp[h]
  ·have:=DU q r;rw[lV]at this;simp[h,this]
theorem Pz{q:df}{l:List df}(h:¬q∈l):lD prog 61 (lV l) (aR q)=some none:=by
 have:=DU q l;rw[if_neg h]at this;rw[aR]at this⊢;rw[lD,this]
theorem DV{q:df}:∀{l:List df},¬q∈l->fX (lV l) (aR q) (.bool true)=lV (l++[q])
 |[],_=>rfl
 |p::r,h=>by
  have a:¬q=p:=fun e=>h (e▸List.mem_cons_self);have b:¬q∈r:=fun e=>h (List.mem_cons_of_mem _ e);have:=DV b;rw[lV]at this⊢;rw[c9,fX,Eh,this];simp[a,lV]
theorem azx:lL prog 61=true:=by kernel_rfl
@[simp high] theorem aDM(c:Bool)(H:Heap)(p q:df):iT prog .neq 61 c H (.p (aR p)) (.p (aR q))=some (True,{v:=.p (.bool !(decide (p=q)))}):=by
 have e:=zH p q;rw[aR,aR]at*;simp[iT,e,azx]
@[simp high] theorem aFi(q:df):fc prog 61 (aR q)=true:=by
 have e1:=zH q q;rw[aR]at e1⊢;rw[fc];simp[e1]
theorem PR(a c:df):kO a a c=0:=by simp[kO]
theorem PA(a b:df):kO a b a=0:=by simp[kO]
theorem PM{t:aE}(e:3<=t.cs.length){j k:Nat}(c:j<t.cs.length)(hk:k<t.cs.length)(d:j≠k)(b:t.at j=t.at k):t.fJ=false:=by
 rw[aE.fJ,decide_eq_false_iff_not];intro h
 by_cases hx:k=t.nx j
 ·obtain⟨m,m1,m2,m3⟩:∃m,m<t.cs.length/\m≠j/\m≠k:=by
   rcases dl j k with a|a|a
   ·by_cases e0:j=0
    ·by_cases e1:k=1
     ·exact⟨2,by omega,by omega,by omega⟩
     ·exact⟨1,by omega,by omega,by omega⟩
    ·exact⟨0,by omega,by omega,by omega⟩
   ·exact(d a).elim
   ·by_cases e0:k=0
    ·by_cases e1:j=1
     ·exact⟨2,by omega,by omega,by omega⟩
     ·exact⟨1,by omega,by omega,by omega⟩
    ·exact⟨0,by omega,by omega,by omega⟩
  have:=h j c m m1 m2 (hx▸m3);rw[<-hx,<-b,PR]at this;omega
 ·have:=h j c k hk (Ne.symm d) hx;rw[<-b,PA]at this;omega
theorem PU(t:aE)(aj:3<=t.cs.length)(hl:t.cs.length<=1000000)(F:∀p∈t.cs,eZ p):az prog 159 [dy t] (.bool t.fJ):=by
 refine aO nf Fz mix (by simp[f159]) ?_;generalize q:t.cs.length=n at*;simp[f159,ad,q];refine lp (α:=Nat) (fun i=>⟨[(16,.p (.int .i64 i)),(15,.p (.int .i64 n)),(14,.p (.seq (t.cs.map aR))),(3,.map 1),(1,.ptr 0 [])],[.box false (.p (dy t)),.map false (lV (t.cs.take i))]⟩) (fun i=>i<=n/\∀j k,j<k->k<i->t.at j≠t.at k) (fun i=>n-i) 0 (by simp) ?_ (hh:=by simp[lV]);rintro i ⟨ai,E⟩
 by_cases hi:i<n
 ·have H:=aE.get (t:=t) (i:=i) (by omega);have z:=cJ (i:=i) (by omega);have W:t.cs.take (i+1)=t.cs.take i++[t.at i]:=by rw[bo,H];rfl
  simp[-fc,hi,q,H,ad]
  by_cases f:t.at i∈t.cs.take i
  ·obtain⟨j,s,r⟩:=br.1 f;rw[aT]at s;rw[ck,aE.aM (by omega)]at r;have Q:=PM (by omega) (j:=j) (k:=i) (by omega) (by omega) (by omega) r;simp[f,Q]
  ·have hI:=Pz f;have I:=DV f;rw[<-W]at I;simp[-fc,-lD,f,hI,I,z];exact rd (i+1) ⟨hi,fun j k w hk=>by
    by_cases T:k=i
    ·subst T;intro r;exact f (r▸a0 (i:=j) (by rw[bl,if_pos w];exact aE.get (by omega)))
    ·exact E j k w (by omega)⟩
 have R:i=n:=by omega
 subst R;have inj:∀j k,j<i->k<i->t.at j=t.at k->j=k:=fun j k s hk r=>by
  rcases dl j k with h|h|h
  ·exact(E j k h hk r).elim
  ·exact h
  ·exact(E k j h s r.symm).elim
 simp[q,ad];refine lp (α:=Nat) (fun m=>⟨[(32,.p (.int .i64 m)),(31,.p (.int .i64 i)),(30,.p (.seq (t.cs.map aR))),(6,.p (.int .i64 i)),(1,.ptr 0 [])],[.box false (.p (dy t))]⟩) (fun m=>m<=i/\∀j,j<m->t.mK j i) (fun m=>i-m) 0 (by simp) ?_;rintro m ⟨g1,g2⟩;have U:¬i=0:=by omega
 by_cases f:m<i
 ·have M:=aE.get (t:=t) (i:=m) (by omega);have z:=cJ (i:=m) (by omega);have V:t.nx m<i:=by rw[<-q];exact t.nR (by omega) m
  have N:=aE.get (t:=t) (i:=t.nx m) (by omega);have e1:((m:Int)+1).tmod (i:Int)=((t.nx m:Nat):Int):=by
   rw[aE.nx,q,ay,ax (by omega)];rfl
  simp[f,q,M,N,z,e1,U,ad];refine⟨by repeat' first|rfl|apply am,?_⟩;refine lp (α:=Nat) (fun k=>⟨[(48,.p (.int .i64 k)),(47,.p (.int .i64 i)),(46,.p (.seq (t.cs.map aR))),(9,.ptr 2 []),(8,.ptr 1 []),(32,.p (.int .i64 m)),(31,.p (.int .i64 i)),(30,.p (.seq (t.cs.map aR))),(6,.p (.int .i64 i)),(1,.ptr 0 [])],[.box false (.p (dy t)),.box false (.p (aR (t.at m))),.box false (.p (aR (t.at (t.nx m))))]⟩) (fun k=>k<=i/\t.mK m k) (fun k=>i-k) 0 (by simp[aE.mK]) ?_;rintro k ⟨q1,D⟩
  by_cases hk:k<i
  ·have gk:=aE.get (t:=t) (i:=k) (by omega);have G:=cJ (i:=k) (by omega)
   by_cases c1:t.at k=t.at m
   ·have:=inj _ _ hk f c1;subst this;simp[-iT,iT.eq_1,hk,gk,G,ad];exact rd (k+1) ⟨hk,fun j s=>by
     by_cases w:j=k
     ·intro h;exact(h w).elim
     ·exact D j (by omega)⟩
   ·by_cases c2:t.at k=t.at (t.nx m)
    ·have:=inj _ _ hk V c2;have c3:¬t.at (t.nx m)=t.at m:=by rw[<-c2];exact c1
     simp[-iT,iT.eq_1,hk,gk,G,c2,c3,ad];exact rd (k+1) ⟨hk,fun j s=>by
      by_cases w:j=k
      ·intro _ h;exact(h (by omega)).elim
      ·exact D j (by omega)⟩
    ·have L:k≠m:=fun e=>c1 (by rw[e]);have nx:k≠t.nx m:=fun e=>c2 (by rw[e]);have P:kO (t.at m) (t.at (t.nx m)) (t.at k)=((t.at (t.nx m)).x-(t.at m).x)*((t.at k).y-(t.at m).y)-((t.at (t.nx m)).y-(t.at m).y)*((t.at k).x-(t.at m).x):=rfl;have X:=aE.iX F (i:=m) (by omega);have Y:=aE.iX F (i:=t.nx m) (by omega);have Z:=aE.iX F (i:=k) (by omega);have K:t.mK m (k+1)↔0<kO (t.at m) (t.at (t.nx m)) (t.at k):=⟨fun h=>h k (by omega) L nx,fun h j s u v=>by
      by_cases w:j=k
      ·subst w;exact h
      ·exact D j (by omega) u v⟩
     have J:¬0<kO (t.at m) (t.at (t.nx m)) (t.at k)->t.fJ=false:=fun h=>by
      rw[aE.fJ,decide_eq_false_iff_not];intro O;exact h (O m (by omega) k (by omega) L nx)
     rw[P]at K J;simp[-iT,iT.eq_1,hk,gk,G,c1,c2,ad];simp only[eZ]at X Y Z;generalize t.at m=A at*;generalize t.at (t.nx m)=B at*;generalize t.at k=C at*;obtain⟨c,d⟩:=A;obtain⟨bx,g⟩:=B;obtain⟨l,o⟩:=C;dsimp only at*;have aa:av.wrap (bx-c)=bx-c:=aN _ (by omega) (by omega);have ab:av.wrap (o-d)=o-d:=aN _ (by omega) (by omega);have ac:av.wrap (g-d)=g-d:=aN _ (by omega) (by omega)
     have ae:av.wrap (l-c)=l-c:=aN _ (by omega) (by omega);have ak:=vE (a:=bx-c) (b:=o-d) (A:=20000) (B:=20000) (by omega) (by omega) (by omega) (by omega);have al:=vE (a:=g-d) (b:=l-c) (A:=20000) (B:=20000) (by omega) (by omega) (by omega) (by omega);have af:av.wrap ((bx-c)*(o-d))=(bx-c)*(o-d):=aN _ (by omega) (by omega);have ag:av.wrap ((g-d)*(l-c))=(g-d)*(l-c):=aN _ (by omega) (by omega);have ah:av.wrap ((bx-c)*(o-d)-(g-d)*(l-c))=(bx-c)*(o-d)-(g-d)*(l-c):=aN _ (by omega) (by omega);simp[aa,ab,ac,ae,af,ag,ah]
     by_cases hc:(bx-c)*(o-d)-(g-d)*(l-c)<=0
     ·have:=J (by omega);simp[hc,this]
     ·simp[hc];exact rd (k+1) ⟨hk,K.2 (by omega)⟩
  ·have:k=i:=by omega
   subst this;simp[z];exact rd (m+1) ⟨f,fun j s=>by
    by_cases S:j=m
    ·subst S;exact D
    ·exact g2 j (by omega)⟩
 ·have:m=i:=by omega
  subst this;have:t.fJ=true:=by
   rw[aE.fJ,decide_eq_true_eq,q];exact g2
  simp[this]
noncomputable def iV(v:NV):PV:=.st 133 [eF v.x,eF v.y]
@[simp] theorem aHl(v:NV):aL (iV v)=.agg 133:=rfl
@[simp] theorem aFz(v:NV):cE (iV v)=[eF v.x,eF v.y]:=rfl
@[simp] theorem aEj:prog.cellsOf 133=8:=by kernel_rfl
theorem zI(x y:NF):iV ⟨x,y⟩=.st 133 [eF x,eF y]:=rfl
noncomputable def sR(a b:NV):PV:=.st 164 [iV a,iV b]
@[simp] theorem aG6(a b:NV):aL (sR a b)=.agg 164:=rfl
@[simp] theorem aFj(a b:NV):cE (sR a b)=[iV a,iV b]:=rfl
theorem WN(p:gW)(d:bY p.x=0)(e:bY p.y=0)(a:qS p):az prog 93 [fR p] (iV (.from p)):=by
 have b:=kJ p.x d a.1.1;have c:=kJ p.y e a.2.1;refine aO nf Of mix (by simp[f93]) ?_;rw[NV.from,zI];simp[f93,ad];refine e1 b ?_;simp[ad];refine e1 c ?_;simp[ad]
def fy(p:df):NV:=⟨.int p.x,.int p.y⟩
theorem DI(p:df)(h:eZ p):az prog 209 [aR p] (iV (fy p)):=by
 simp only[eZ]at h;have a:=yU p.x (by omega) (by omega);have b:=yU p.y (by omega) (by omega);refine aO nf D4 mix (by simp[f209]) ?_;rw[fy,zI];simp[f209,ad];refine e1 a ?_;simp[ad];refine e1 b ?_;simp[ad]
theorem Ea(v w:NV)(a:eS kQ v.q)(b:eS kQ w.q):az prog 140 [iV v,iV w] (iV (v.sub w)):=by
 have c:=xT v.x w.x (iY a.1) (iY b.1);have d:=xT v.y w.y (iY a.2) (iY b.2);refine aO nf FF mix (by simp[f140]) ?_;rw[NV.sub,zI];simp[f140,ad];refine e2 c ?_;simp[ad];refine e2 d ?_;simp[ad]
theorem PN(v w:NV)(a:eS kQ v.q)(b:eS kQ w.q):az prog 90 [iV v,iV w] (eF (v.iA w)):=by
 have c:=xk v.x w.y (iY a.1) (iY b.2);have d:=xk v.y w.x (iY a.2) (iY b.1);have e:=xT (v.x.mul w.y) (v.y.mul w.x) ((rz a.1 b.2).mono (by decide)) ((rz a.2 b.1).mono (by decide));refine aO nf Od mix (by simp[f90]) ?_;rw[NV.iA];simp[f90,ad];refine e2 c ?_;simp[ad];refine e2 d ?_;simp[ad];refine e2 e ?_;simp[ad]
theorem WK(t:aE)(i:Nat)(hi:i<t.cs.length)(hl:t.cs.length<=1000000)(h:∀p∈t.cs,eZ p):az prog 139 [dy t,.int .i64 i] (sR (fy (t.at i)) (fy (t.at (t.nx i)))):=by
 have a:=t.nR (by omega) i;have j:=DI (t.at i) (aE.iX h hi);have k:=DI (t.at (t.nx i)) (aE.iX h a);have g:=cJ (i:=i) (by omega);have e1:((i:Int)+1).tmod (t.cs.length:Int)=((t.nx i:Nat):Int):=by
  rw[aE.nx,ay,ax (by omega)];rfl
 have f:¬t.cs.length=0:=by omega
 have d:¬t.cs=[]:=by intro e;rw[e]at hi;simp at hi
 have b:=aE.get hi;have c:=aE.get a;refine aO nf Fa mix (by simp[f139]) ?_;rw[sR];simp[f139,ad,g,e1,f,d,b,c,hi,a];refine Go.au.e1 j ?_;simp[ad,g,e1,f,d,b,c,hi,a];refine Go.au.e1 k ?_;simp[ad,g,e1,f,d,b,c,hi,a]
theorem WQ(t:aE):az prog 88 [dy t] (.func 186 [] [.cz (dy t)]):=by
 refine aO nf Ob mix (by simp[f88]) ?_;simp[f88];show fD [.box false (.p (dy t))] 7 (.p (dy t)) (dy t);rw[Dm];exact Wk.refl _
noncomputable def vL(t:aE)(i:Nat):List PV:=[.int .i64 i,sR (fy (t.at i)) (fy (t.at (t.nx i)))]
theorem zA{t:aE}{i:Nat}(h:i<t.cs.length):((ce t.cs.length).map (vL t))[i]?=some (vL t i):=by
 rw[bi,List.getElem?_range h];rfl
theorem aAF(t:aE)(hl:t.cs.length<=1000000)(g:∀p∈t.cs,eZ p):Stream prog 186 [] [.cz (dy t)] ((ce t.cs.length).map (vL t)):=by
 intro b k e H' hk a j d;rw[b2,List.length_range]at hk d;refine gH nf Er mix (by simp[f186]) ?_;simp[f186,ad];refine lp (α:=Nat) (fun i=>⟨[(7,.p (.int .i64 i)),(6,.p (.int .i64 t.cs.length)),(1,.p (.cz (dy t))),(0,.map b)],e i⟩) (fun i=>i<=k) (fun i=>k-i) 0 (by simp) ?_ (hr:=by simp;exact(a 0 (by omega)).2) (hr2:=(a 0 (by omega)).1);rintro i l
 by_cases hi:i<t.cs.length
 ·have f:=WK t i hi hl g;have h:=cJ (i:=i) (by omega);simp[hi];refine c2 f ?_;simp
  by_cases c:i<k
  ·refine⟨e (i+1),_,j i _ c (zA hi),?_⟩;simp[h];exact rd (i+1) c (hr:=by simp;exact(a (i+1) c).2) (hr2:=(a (i+1) c).1)
  ·have:i=k:=by omega
   subst this;rcases d with⟨e1,_⟩|⟨y,e1,e2⟩
   ·omega
   ·rw[zA hi]at e1;injection e1 with e1
    subst e1;refine⟨H',_,e2,?_⟩;simp
 ·have:i=t.cs.length:=by omega
  subst this;rcases d with⟨e1,e2⟩|⟨y,e1,e2⟩
  ·have:t.cs.length=k:=by omega
   subst this;simp[e2]
  ·rw[List.getElem?_eq_none (by simp;omega)]at e1;cases e1
noncomputable def vu(t:aE)(v:NV)(L:eU)(i:Nat):Heap:=[.box false (.p (dy t)),.box false (.p (iV v)),.box false (.p (.int .i64 (t.o9 v.q i))),.loop L]
theorem WO(t:aE)(v:NV)(hl:t.cs.length<=1000000)(c:∀p∈t.cs,eZ p)(g:eS 3000 v.q):az prog 77 [dy t,iV v] (.int .i64 (t.on v.q)):=by
 refine aO nf N4 mix (by simp[f77]) ?_;simp[f77,ad];refine c1 (WQ t) ?_;simp;refine rf (aAF t hl c) rfl (by simp) (vu t v) t.cs.length (by simp) (fun L=>rfl) ?_ ?_ ?_
 ·intro L a i hi;refine⟨rfl,by simp[vu],fun _ hx=>?_⟩;simp[vu]at hx⊢;exact hx
 ·intro L a i x hi hx;rw[zA hi]at hx;injection hx with hx
  subst hx;have b:=rj (aE.iX c hi);have h:=rj (aE.iX c (t.nR (by omega) i));have q1:eS 29 ((fy (t.at (t.nx i))).sub (fy (t.at i))).q:=by rw[NV.qj];exact uZ h b
  have m:eS 3015 (v.sub (fy (t.at i))).q:=by rw[NV.qj];exact uZ g b
  have j:=Ea (fy (t.at (t.nx i))) (fy (t.at i)) (h.mono (by decide)) (b.mono (by decide));have k:=Ea v (fy (t.at i)) (g.mono (by decide)) (b.mono (by decide));have l:=PN ((fy (t.at (t.nx i))).sub (fy (t.at i))) (v.sub (fy (t.at i))) (q1.mono (by decide)) (m.mono (by decide));have e:=BX (((fy (t.at (t.nx i))).sub (fy (t.at i))).iA (v.sub (fy (t.at i))));have d:gO (((fy (t.at (t.nx i))).sub (fy (t.at i))).iA (v.sub (fy (t.at i)))).q=t.side i v.q:=by
   rw[NV.W2,NV.qj,NV.qj];rfl
  rw[gO]at d;rw[d]at e;have hs:=aE.DK t v.q i;rw[D6]at hs;refine DM nf mix a rfl rfl (by kernel_rfl) ?_;have f:=congrArg eU.env a;dsimp only at f;clear a d;generalize (fy (t.at (t.nx i))).sub (fy (t.at i))=W at*;generalize v.sub (fy (t.at i))=U at*;generalize W.iA U=C at*;simp[vu,vL,sR,ad];refine e2 j ?_;simp[ad];refine e2 k ?_;simp[ad];refine e2 l ?_;simp[ad];refine e1 e ?_;simp[ad];refine⟨by repeat' first|rfl|apply am,?_⟩;rw[<-hs];refine dJ.og (by simp) (by simp) (by simp) (by simp) ?_;simp;exact aAt f (by simp)
 ·intro L a;refine .inl ⟨by simp,?_⟩;simp[vu,aE.on]
theorem DN(s:List Nat)(hs:iI s)(h:bY s=0):az prog 222 [.str s] (.int .i64 (eX (aX s))):=by
 have o:=ij h;have d:=kJ s h hs.1;have c:=BX ⟨aX s,false⟩;have g:=yU 1 (by decide) (by decide);have e:=sN ⟨aX s,false⟩ (.int 1) (o.mono (by decide)) ((show ch 1 (NF.int 1).q from⟨by decide,by decide⟩).mono (by decide));have e2:(if(⟨aX s,false⟩:NF).q<0 then(-1:Int)else if(⟨aX s,false⟩:NF).q=0 then 0 else 1)=gO (aX s):=rfl;have e4:dF (⟨aX s,false⟩:NF).q (NF.int 1).q=dF (aX s) 1:=rfl;rw[e2]at c;rw[e4]at e;have f:=fun b=>jo b 3;refine aO nf Fo mix (by simp[f222]) ?_;rw[eX];clear e2 e4 o;generalize gO (aX s)=x at*;generalize dF (aX s) 1=y at*;generalize (⟨aX s,false⟩:NF)=v at*
 by_cases a:x<0
 ·simp[f222,ad];refine c1 d ?_;simp[ad];refine Go.au.e1 c ?_;simp[a,ad];refine Go.au.e2 (f true) ?_;simp[bC];omega
 ·by_cases b:0<y
  ·simp[f222,ad];refine c1 d ?_;simp[ad];refine Go.au.e1 c ?_;simp[a,ad];refine Go.au.e1 g ?_;simp[a,ad];refine Go.au.e2 e ?_;simp[a,b,ad];refine Go.au.e2 (f true) ?_;simp[bC];omega
  ·simp[f222,ad];refine c1 d ?_;simp[ad];refine Go.au.e1 c ?_;simp[a,ad];refine Go.au.e1 g ?_;simp[a,ad];refine Go.au.e2 e ?_;simp[a,b,ad];refine Go.au.e2 (f false) ?_;simp[bC];omega
def pn(p:cw):Prop:=qU p/\bY p.a=0/\bY p.b=0
theorem WM(p o:cw)(r:pn p)(q:pn o):az prog 242 [eP p,eP o] (.bool (gw o p)):=by
 obtain⟨⟨_,u,v⟩,l,m⟩:=r;obtain⟨⟨_,s,t⟩,j,k⟩:=q;have d:=kJ p.a l u.1;have e:=kJ o.b k t.1;have c:=sN ⟨aX p.a,false⟩ ⟨aX o.b,false⟩ ((ij l).mono (by decide)) ((ij k).mono (by decide));have g:=kJ o.a j s.1;have i:=kJ p.b m v.1;have f:=sN ⟨aX o.a,false⟩ ⟨aX p.b,false⟩ ((ij j).mono (by decide)) ((ij m).mono (by decide));dsimp only at c f;refine aO nf Fj mix (by simp[f242]) ?_;rw[gw];generalize dF (aX p.a) (aX o.b)=x at*;generalize dF (aX o.a) (aX p.b)=y at*;generalize (⟨aX p.a,false⟩:NF)=v1 at*;generalize (⟨aX p.b,false⟩:NF)=v2 at*;generalize (⟨aX o.a,false⟩:NF)=v3 at*;generalize (⟨aX o.b,false⟩:NF)=v4 at*
 by_cases c1:o.bL=p.bL
 case neg=>
  have n:¬p.bL=o.bL:=fun h=>c1 h.symm;simp[f242,ad,c1,n]
 by_cases c2:x<=0
 ·by_cases c3:y<=0
  ·simp[f242,ad,c1];refine Go.au.e1 d ?_;simp[ad,c1];refine Go.au.e1 e ?_;simp[ad,c1];refine Go.au.e2 c ?_;simp[ad,c1,c2];refine Go.au.e1 g ?_;simp[ad,c1,c2];refine Go.au.e1 i ?_;simp[ad,c1,c2];refine Go.au.e2 f ?_;simp[ad,c1,c2,c3]
  ·simp[f242,ad,c1];refine Go.au.e1 d ?_;simp[ad,c1];refine Go.au.e1 e ?_;simp[ad,c1];refine Go.au.e2 c ?_;simp[ad,c1,c2];refine Go.au.e1 g ?_;simp[ad,c1,c2];refine Go.au.e1 i ?_;simp[ad,c1,c2];refine Go.au.e2 f ?_;simp[ad,c1,c2,c3]
 ·simp[f242,ad,c1];refine Go.au.e1 d ?_;simp[ad,c1];refine Go.au.e1 e ?_;simp[ad,c1];refine Go.au.e2 c ?_;simp[ad,c1,c2]
theorem PL(p o:cw):cR prog 241 [.box false (.p (eP p))] [.p (eP o),.ptr 0 []] [.box false (.p (eP p))] (.p (.bool (decide (o.name=p.name)))):=by
 refine gH nf D2 mix (by simp[f241]) ?_
 by_cases h:o.name=p.name
 ·simp[f241,ad,h];exact dJ.og (by simp) (by simp) (by simp) (by simp) (by simp)
 ·simp[f241,ad,h];exact dJ.og (by simp) (by simp) (by simp) (by simp) (by simp)
theorem PQ(p:cw)(l:List cw)(h:l.length<=1000000):
 cR prog 147 [.box false (.p (eP p))] [.p (.seq (l.map eP)),.func 241 [] [.ptr 0 []]] [.box false (.p (eP p))] (.p (.int .i64 (idxFrom (fun o=>decide (o.name=p.name)) l 0))):=by
 refine gH nf Cq mix (by simp[f147]) ?_;simp[f147];refine lp (α:=Nat) (fun i=>⟨[(8,.p (.int .i64 i)),(7,.p (.int .i64 l.length)),(1,.func 241 [] [.ptr 0 []]),(0,.p (.seq (l.map eP)))],[.box false (.p (eP p))]⟩) (fun i=>i<=l.length/\idxFrom (fun o=>decide (o.name=p.name)) l 0=idxFrom (fun o=>decide (o.name=p.name)) (l.drop i) i) (fun i=>l.length-i) 0 (by simp) ?_;rintro i ⟨k1,k2⟩;have a:=cJ (i:=i) (by omega)
 by_cases hi:i<l.length
 ·rw[a4 hi,idxFrom]at k2;simp[hi];refine cf (PL p l[i]) [0] ?_
  by_cases hk:l[i].name=p.name
  ·simp[hk]at k2;simp[hk,k2,bd]
  ·simp[hk]at k2;simp[hk,a,bd];exact rd (i+1) ⟨hi,k2⟩
 ·have:i=l.length:=by omega
  subst this;simp[idxFrom]at k2;simp[k2]
theorem PH(p:cw)(l:List cw)(h:l.length<=1000000):
 cR prog 240 [.box false (.p (eP p))] [.p (.seq (l.map eP)),.func 241 [] [.ptr 0 []]] [.box false (.p (eP p))] (.p (.bool (l.any (fun o=>decide (o.name=p.name))))):=by
 refine gH nf CG mix (by simp[f240]) ?_;simp[f240];refine cf (PQ p l h) [0] ?_;have:=tx (fun o=>decide (o.name=p.name)) l 0;simp[bd,<-this]
theorem PK(p o:cU):cR prog 244 [.box false (.p (gf p))] [.p (gf o),.ptr 0 []] [.box false (.p (gf p))] (.p (.bool (decide (o.name=p.name)))):=by
 refine gH nf Fh mix (by simp[f244]) ?_
 by_cases h:o.name=p.name
 ·simp[f244,ad,h];exact dJ.og (by simp) (by simp) (by simp) (by simp) (by simp)
 ·simp[f244,ad,h];exact dJ.og (by simp) (by simp) (by simp) (by simp) (by simp)
theorem Pw(p:cU)(l:List cU)(h:l.length<=1000000):
 cR prog 164 [.box false (.p (gf p))] [.p (.seq (l.map gf)),.func 244 [] [.ptr 0 []]] [.box false (.p (gf p))] (.p (.int .i64 (idxFrom (fun o=>decide (o.name=p.name)) l 0))):=by
 refine gH nf MI mix (by simp[f164]) ?_;simp[f164];refine lp (α:=Nat) (fun i=>⟨[(8,.p (.int .i64 i)),(7,.p (.int .i64 l.length)),(1,.func 244 [] [.ptr 0 []]),(0,.p (.seq (l.map gf)))],[.box false (.p (gf p))]⟩) (fun i=>i<=l.length/\idxFrom (fun o=>decide (o.name=p.name)) l 0=idxFrom (fun o=>decide (o.name=p.name)) (l.drop i) i) (fun i=>l.length-i) 0 (by simp) ?_;rintro i ⟨k1,k2⟩;have a:=cJ (i:=i) (by omega)
 by_cases hi:i<l.length
 ·rw[a4 hi,idxFrom]at k2;simp[hi];refine cf (PK p l[i]) [0] ?_
  by_cases hk:l[i].name=p.name
  ·simp[hk]at k2;simp[hk,k2,bd]
  ·simp[hk]at k2;simp[hk,a,bd];exact rd (i+1) ⟨hi,k2⟩
 ·have:i=l.length:=by omega
  subst this;simp[idxFrom]at k2;simp[k2]
theorem PG(p:cU)(l:List cU)(h:l.length<=1000000):
 cR prog 243 [.box false (.p (gf p))] [.p (.seq (l.map gf)),.func 244 [] [.ptr 0 []]] [.box false (.p (gf p))] (.p (.bool (l.any (fun o=>decide (o.name=p.name))))):=by
 refine gH nf Fi mix (by simp[f243]) ?_;simp[f243];refine cf (Pw p l h) [0] ?_;have:=tx (fun o=>decide (o.name=p.name)) l 0;simp[bd,<-this]
theorem PJ(p:cw)(b:pn p)(l:List cw)(h:l.length<=1000000)(hl:∀o∈l,pn o):
 az prog 147 [.seq (l.map eP),.func 242 [eP p] []] (.int .i64 (idxFrom (fun o=>gw o p) l 0)):=by
 refine aO nf Cq mix (by simp[f147]) ?_;simp[f147];refine lp (α:=Nat) (fun i=>⟨[(8,.p (.int .i64 i)),(7,.p (.int .i64 l.length)),(1,.p (.func 242 [eP p] [])),(0,.p (.seq (l.map eP)))],[]⟩) (fun i=>i<=l.length/\idxFrom (fun o=>gw o p) l 0=idxFrom (fun o=>gw o p) (l.drop i) i) (fun i=>l.length-i) 0 (by simp) ?_;rintro i ⟨k1,k2⟩;have c:=cJ (i:=i) (by omega)
 by_cases hi:i<l.length
 ·rw[a4 hi,idxFrom]at k2;have a:=WM p l[i] b (hl _ (List.getElem_mem hi));simp[hi];refine c2 a ?_;cases hk:gw l[i] p
  ·simp[hk]at k2;simp[c];exact rd (i+1) ⟨hi,k2⟩
  ·simp[hk]at k2;simp[k2]
 ·have:i=l.length:=by omega
  subst this;simp[idxFrom]at k2;simp[k2]
theorem Pu(p:cw)(a:pn p)(l:List cw)(h:l.length<=1000000)(hl:∀o∈l,pn o):
 az prog 240 [.seq (l.map eP),.func 242 [eP p] []] (.bool (l.any (fun o=>gw o p))):=by
 refine aO nf CG mix (by simp[f240]) ?_;simp[f240];refine c2 (PJ p a l h hl) ?_;have:=tx (fun o=>gw o p) l 0;simp[<-this]
def ke(n:Nat)(c:List cw)(p:cw):Int:=bG [bC (!isName p.name) 8,bC (c.any fun o=>decide (o.name=p.name)) 9,bC (decide (p.bL<0\/(n:Int)<=p.bL)) 10,bY p.a,bY p.b]
def zd(c:List cw)(p:cw):Int:=bG [eX (aX p.a),eX (aX p.b),bC (decide (0<dF (aX p.a) (aX p.b))) 11,bC (c.any fun o=>gw o p) 17]
theorem DD(q:Rat):eX q=0\/eX q=3:=by
 rw[eX];split
 ·exact .inr rfl
 ·exact .inl rfl
theorem PE(n:Nat)(e:List cw)(p:cw):fV n e p=if ke n e p=0 then zd e p else ke n e p:=by
 rw[fV,ke,zd];generalize bY p.a=ca;generalize bY p.b=i;have j:=DD (aX p.a);have h:=DD (aX p.b);generalize eX (aX p.a)=r at*;generalize eX (aX p.b)=s at*;generalize dF (aX p.a) (aX p.b)=y;generalize (e.any fun o=>gw o p)=m;generalize (e.any fun o=>decide (o.name=p.name))=a;have k:max (0:Int) 3=3:=rfl;have l:max (3:Int) 0=3:=rfl;cases q:isName p.name
 ·simp[bG,bC]
 cases a
 case true=>simp[bG,bC]
 by_cases c:p.bL<0\/(n:Int)<=p.bL
 ·simp[bG,bC,c]
 by_cases d:ca=0
 case neg=>simp[bG,bC,c,d]
 by_cases f:i=0
 case neg=>simp[bG,bC,c,d,f]
 rcases j with rfl|rfl
 ·rcases h with rfl|rfl
  ·by_cases g:0<y
   ·simp[bG,bC,c,d,f,g]
   ·cases m<;>simp[bG,bC,c,d,f,g]
  ·simp[bG,bC,c,d,f,k]
 ·rcases h with rfl|rfl
  ·simp[bG,bC,c,d,f,l]
  ·simp[bG,bC,c,d,f]
theorem Py{n:Nat}{bef:List cw}{p:cw}(h:ke n bef p=0):bY p.a=0/\bY p.b=0:=by
 rw[ke,nv]at h;exact⟨h _ (by simp),h _ (by simp)⟩
theorem Pt(t:aE)(p:cw)(d:List cw)(hl:t.cs.length<=1000000)(G:qU p)(m:d.length<=1000000)(F:∀o∈d,pn o):
 az prog 161 [dy t,eP p,.seq (d.map eP)] (.int .i64 (fV t.cs.length d p)):=by
 obtain⟨C,j,k⟩:=G;have k1:=PH p d m;have k2:=DS p.name C.1;have k3:=jo (!isName p.name) 8;have k4:=jo (d.any fun o=>decide (o.name=p.name)) 9;have k5:=fun b=>jo b 10;have k6:=yx p.a j.1 j.2;have k7:=yx p.b k.1 k.2;have k8:=rk [bC (!isName p.name) 8,bC (d.any fun o=>decide (o.name=p.name)) 9,bC (decide (p.bL<0\/(t.cs.length:Int)<=p.bL)) 10,bY p.a,bY p.b] (by simp);have g:=Py (n:=t.cs.length) (bef:=d) (p:=p);rw[PE];have s:=fun h:ke t.cs.length d p=0=>Pu p ⟨⟨C,j,k⟩,(g h).1,(g h).2⟩ d m F;have u:=fun h:ke t.cs.length d p=0=>DN p.a j (g h).1;have v:=fun h:ke t.cs.length d p=0=>DN p.b k (g h).2;have w:=fun h:ke t.cs.length d p=0=>kJ p.a (g h).1 j.1;have x:=fun h:ke t.cs.length d p=0=>kJ p.b (g h).2 k.1;have q:=fun h:ke t.cs.length d p=0=>sN ⟨aX p.a,false⟩ ⟨aX p.b,false⟩ ((ij (g h).1).mono (by decide)) ((ij (g h).2).mono (by decide));dsimp only at q;have B:=jo (decide (0<dF (aX p.a) (aX p.b))) 11;have z:=jo (d.any fun o=>gw o p) 17;have i:=rk [eX (aX p.a),eX (aX p.b),bC (decide (0<dF (aX p.a) (aX p.b))) 11,bC (d.any fun o=>gw o p) 17] (by simp);have d1:ke t.cs.length d p=bG [bC (!isName p.name) 8,bC (d.any fun o=>decide (o.name=p.name)) 9,bC (decide (p.bL<0\/(t.cs.length:Int)<=p.bL)) 10,bY p.a,bY p.b]:=rfl;have d2:zd d p=bG [eX (aX p.a),eX (aX p.b),bC (decide (0<dF (aX p.a) (aX p.b))) 11,bC (d.any fun o=>gw o p) 17]:=rfl;rw[<-d1]at k8;rw[<-d2]at i;clear d1 d2 g;generalize ke t.cs.length d p=l at*;generalize zd d p=K at*;generalize bY p.a=H at*;generalize bY p.b=I at*;generalize eX (aX p.a)=T at*;generalize eX (aX p.b)=U at*;generalize dF (aX p.a) (aX p.b)=A at*;generalize (d.any fun o=>decide (o.name=p.name))=D at*;generalize (d.any fun o=>gw o p)=J at*;generalize isName p.name=E at*;generalize (⟨aX p.a,false⟩:NF)=v1 at*;generalize (⟨aX p.b,false⟩:NF)=v2 at*;refine aO nf Fx mix (by simp[f161]) ?_;have r:∀b:Bool,decide (p.bL<0\/(t.cs.length:Int)<=p.bL)=b->az prog 72 [.bool b,.int .i64 10] (.int .i64 (bC b 10))/\az prog 71 [.seq [.int .i64 (bC (!E) 8),.int .i64 (bC D 9),.int .i64 (bC b 10),.int .i64 H,.int .i64 I]] (.int .i64 l):=fun b m=>by
  rw[m]at k8;exact⟨k5 b,by simpa using k8⟩
 simp at i;have y:az prog 72 [.bool (decide (0<A)),.int .i64 11] (.int .i64 (bC (decide (0<A)) 11)):=B;clear k5 k8 B;generalize L:bC (!E) 8=P at*;generalize M:bC D 9=Q at*;generalize N:bC (decide (0<A)) 11=R at*;generalize O:bC J 17=S at*;simp[f161,-bm,ad];rw[bm];simp[-bm,ad];rw[bm];simp[-bm,ad];refine cf k1 [1] ?_;simp[-bm,ad,bd,sig]
 by_cases e:p.bL<0
 ·obtain⟨f1,f2⟩:=r true (by simp[e]);rw[bm,bm];simp[-bm,ad];refine Go.au.e1 k2 ?_;simp[-bm,ad];refine Go.au.e2 k3 ?_;simp[-bm,ad];refine Go.au.e2 k4 ?_;simp[-bm,ad,e];refine Go.au.e2 f1 ?_;simp[-bm,ad,e];refine Go.au.e1 k6 ?_;simp[-bm,ad,e];refine Go.au.e1 k7 ?_;simp[-bm,ad,e];refine ep f2 (by simp;first|exact⟨rfl,rfl⟩|rfl) (by simp;first|exact⟨rfl,rfl⟩|rfl) ?_;simp[-bm,ad,e];refine⟨by repeat' first|rfl|apply am,?_⟩
  by_cases c:l=0
  case neg=>simp[c,ad]
  simp[c,ad];refine Go.au.c2 (s c) ?_;simp[ad];refine Go.au.e1 (u c) ?_;simp[ad];refine Go.au.e1 (v c) ?_;simp[ad];refine Go.au.e1 (w c) ?_;simp[ad];refine Go.au.e1 (x c) ?_;simp[ad];refine Go.au.e2 (q c) ?_;simp[ad];refine Go.au.e2 y ?_;simp[ad];refine Go.au.e2 z ?_;simp[ad];refine ep i (by simp;first|exact⟨rfl,rfl⟩|rfl) (by simp;first|exact⟨rfl,rfl⟩|rfl) ?_;simp[ad];exact⟨by repeat' first|rfl|apply am,fun h=>(h c).elim⟩
 by_cases f:(t.cs.length:Int)<=p.bL
 ·obtain⟨f1,f2⟩:=r true (by simp[e,f]);rw[bm,bm];simp[-bm,ad];refine Go.au.e1 k2 ?_;simp[-bm,ad];refine Go.au.e2 k3 ?_;simp[-bm,ad];refine Go.au.e2 k4 ?_;simp[-bm,ad,e,f];refine Go.au.e2 f1 ?_;simp[-bm,ad,e,f];refine Go.au.e1 k6 ?_;simp[-bm,ad,e,f];refine Go.au.e1 k7 ?_;simp[-bm,ad,e,f];refine ep f2 (by simp;first|exact⟨rfl,rfl⟩|rfl) (by simp;first|exact⟨rfl,rfl⟩|rfl) ?_;simp[-bm,ad,e,f];refine⟨by repeat' first|rfl|apply am,?_⟩
  by_cases c:l=0
  case neg=>simp[c,ad]
  simp[c,ad];refine Go.au.c2 (s c) ?_;simp[ad];refine Go.au.e1 (u c) ?_;simp[ad];refine Go.au.e1 (v c) ?_;simp[ad];refine Go.au.e1 (w c) ?_;simp[ad];refine Go.au.e1 (x c) ?_;simp[ad];refine Go.au.e2 (q c) ?_;simp[ad];refine Go.au.e2 y ?_;simp[ad];refine Go.au.e2 z ?_;simp[ad];refine ep i (by simp;first|exact⟨rfl,rfl⟩|rfl) (by simp;first|exact⟨rfl,rfl⟩|rfl) ?_;simp[ad];exact⟨by repeat' first|rfl|apply am,fun h=>(h c).elim⟩
 ·obtain⟨f1,f2⟩:=r false (by simp[e,f]);rw[bm,bm];simp[-bm,ad];refine Go.au.e1 k2 ?_;simp[-bm,ad];refine Go.au.e2 k3 ?_;simp[-bm,ad];refine Go.au.e2 k4 ?_;simp[-bm,ad,e,f];refine Go.au.e2 f1 ?_;simp[-bm,ad,e,f];refine Go.au.e1 k6 ?_;simp[-bm,ad,e,f];refine Go.au.e1 k7 ?_;simp[-bm,ad,e,f];refine ep f2 (by simp;first|exact⟨rfl,rfl⟩|rfl) (by simp;first|exact⟨rfl,rfl⟩|rfl) ?_;simp[-bm,ad,e,f];refine⟨by repeat' first|rfl|apply am,?_⟩
  by_cases c:l=0
  case neg=>simp[c,ad]
  simp[c,ad];refine Go.au.c2 (s c) ?_;simp[ad];refine Go.au.e1 (u c) ?_;simp[ad];refine Go.au.e1 (v c) ?_;simp[ad];refine Go.au.e1 (w c) ?_;simp[ad];refine Go.au.e1 (x c) ?_;simp[ad];refine Go.au.e2 (q c) ?_;simp[ad];refine Go.au.e2 y ?_;simp[ad];refine Go.au.e2 z ?_;simp[ad];refine ep i (by simp;first|exact⟨rfl,rfl⟩|rfl) (by simp;first|exact⟨rfl,rfl⟩|rfl) ?_;simp[ad];exact⟨by repeat' first|rfl|apply am,fun h=>(h c).elim⟩
def nP(a:List cU)(s:cU):Int:=bG [bC (!isName s.name) 8,bC (a.any fun o=>decide (o.name=s.name)) 9,gd s.pt]
theorem PC(t:aE)(b:List cU)(s:cU):iJ t b s=if nP b s=0 then bC (decide (t.on (vP s.pt)<0)) 16 else nP b s:=by
 rw[iJ,nP];generalize gd s.pt=c;generalize (b.any fun o=>decide (o.name=s.name))=a;cases e:isName s.name
 ·simp[bG,bC]
 cases a
 case true=>simp[bG,bC]
 by_cases d:c=0
 case neg=>simp[bG,bC,d]
 simp[bG,bC,d]
theorem Px{bef:List cU}{s:cU}(h:nP bef s=0):gd s.pt=0:=by
 rw[nP,nv]at h;exact h _ (by simp)
theorem PI(t:aE)(s:cU)(a:List cU)(hl:t.cs.length<=1000000)(k:∀p∈t.cs,eZ p)(hs:sY s)(j:a.length<=1000000):
 az prog 163 [dy t,gf s,.seq (a.map gf)] (.int .i64 (iJ t a s)):=by
 obtain⟨q,f⟩:=hs;have k1:=PG s a j;have k2:=DS s.name q.1;have k3:=jo (!isName s.name) 8;have k4:=jo (a.any fun o=>decide (o.name=s.name)) 9;have k6:=F7 s.pt f;have k8:=rk [bC (!isName s.name) 8,bC (a.any fun o=>decide (o.name=s.name)) 9,gd s.pt] (by simp);have c:=Px (bef:=a) (s:=s);rw[PC];have l:=fun h:nP a s=0=>WN s.pt (rF (c h)).1 (rF (c h)).2 f;have e:=fun h:nP a s=0=>WO t (.from s.pt) hl k (Qw ⟨(ij (rF (c h)).1).mono (by decide),(ij (rF (c h)).2).mono (by decide)⟩);have m:=jo (decide (t.on (vP s.pt)<0)) 16;rw[XT]at e;have d1:nP a s=bG [bC (!isName s.name) 8,bC (a.any fun o=>decide (o.name=s.name)) 9,gd s.pt]:=rfl;rw[<-d1]at k8;clear d1 c;generalize nP a s=d at*;generalize t.on (vP s.pt)=y at*;generalize gd s.pt=r at*;generalize (a.any fun o=>decide (o.name=s.name))=g at*;generalize isName s.name=i at*;generalize NV.from s.pt=v1 at*;refine aO nf MJ mix (by simp[f163]) ?_;have n:az prog 71 [.seq [.int .i64 (bC (!i) 8),.int .i64 (bC g 9),.int .i64 r]] (.int .i64 d):=by simpa using k8
 clear k8;generalize u:bC (!i) 8=x at*;generalize v:bC g 9=z at*;generalize w:bC (decide (y<0)) 16=A at*;simp[f163,ad];refine cf k1 [1] ?_;simp[ad,bd,sig];refine Go.au.e1 k2 ?_;simp[ad];refine Go.au.e2 k3 ?_;simp[ad];refine Go.au.e2 k4 ?_;simp[ad];refine Go.au.e1 k6 ?_;simp[ad];refine ep n (by simp;first|exact⟨rfl,rfl⟩|rfl) (by simp;first|exact⟨rfl,rfl⟩|rfl) ?_;simp[ad];refine⟨by repeat' first|rfl|apply am,?_⟩
 by_cases b:d=0
 case neg=>simp[b,ad]
 simp[b,ad];refine Go.au.e1 (l b) ?_;simp[ad];refine Go.au.e2 (e b) ?_;simp[ad];refine Go.au.e2 m ?_;simp[ad];exact fun h=>(h b).elim
def jq{α:Type}(b:Nat)(a:List α->α->Int)(l:List α):Int:=if b<l.length then 5 else lW a l
theorem xS{α:Type}{n:Nat}{f:α->PV}(h:∀a,ad (.p (f a))≠.bad/\bE prog (ad (.p (f a)))=n)(l:List α):dV prog n (l.map (AV.p∘f)):=tY.2 fun v b=>by
 obtain⟨a,_,rfl⟩:=b0.1 b;exact h a
theorem tJ(l:List cw):dV prog 4 (l.map (AV.p∘eP)):=xS (fun r=>⟨by simp[ad],by simp[ad]⟩) l
theorem tI(l:List cU):dV prog 3 (l.map (AV.p∘gf)):=xS (fun r=>⟨by simp[ad],by simp[ad]⟩) l
theorem PT(t:aE)(a:Nat)(hl:t.cs.length<=1000000)(l:t.aF.length<=1000000)(c:∀p∈t.aF,qU p):
 az prog 160 [.seq (t.aF.map eP),.int .i64 a,.func 161 [dy t] []] (.int .i64 (jq a (fV t.cs.length) t.aF)):=by
 refine aO nf Fy mix (by simp[f160]) ?_;rw[jq]
 by_cases c1:a<t.aF.length
 ·have cI:(a:Int)<t.aF.length:=by omega
  rw[if_pos c1];simp[f160,cI]
 have d:¬(a:Int)<t.aF.length:=by omega
 rw[if_neg c1];simp[f160,d];refine lp (α:=Nat) (fun i=>⟨[(16,.p (.int .i64 i)),(15,.p (.int .i64 t.aF.length)),(14,.p (.seq (t.aF.map eP))),(0,.p (.seq (t.aF.map eP))),(2,.p (.func 161 [dy t] []))],[]⟩) (fun i=>i<=t.aF.length/\∀j,j<i->iL (fV t.cs.length) t.aF j=0) (fun i=>t.aF.length-i) 0 (by simp) ?_;rintro i ⟨k1,k2⟩
 by_cases hk:i<t.aF.length
 ·have gk:=aE.iw hk;have k:=cJ (i:=i) (by omega);have b:=Pt t (t.pk i) (t.aF.take i) hl (c _ (a0 gk)) (by rw[aT];omega) (fun o h=>by
   obtain⟨j,f,rfl⟩:=br.1 h;rw[aT]at f;rw[ck];have:=k2 j (by omega);have g:=aE.iw (t:=t) (i:=j) (by omega);rw[iL,g]at this;rw[aE.nL (by omega)];exact⟨c _ (a0 g),zD this⟩)
  rw[b3]at b
  by_cases he:fV t.cs.length (t.aF.take i) (t.pk i)=0
  ·rw[he]at b;have:=vF k2 gk he;simp[hk,gk,ad];refine⟨⟨k1,tJ _⟩,?_⟩;refine Go.au.e3 b ?_;simp[k,ad];exact rd (i+1) ⟨hk,this⟩
  ·have e:=vG k2 gk he;rw[e];simp[hk,gk,ad];refine⟨⟨k1,tJ _⟩,?_⟩;refine Go.au.e3 b ?_;simp[he,ad]
 ·have:i=t.aF.length:=by omega
  subst this;rw[tz.2 k2];simp
theorem PS(t:aE)(a:Nat)(hl:t.cs.length<=1000000)(e:∀p∈t.cs,eZ p)(h:t.aA.length<=1000000)(f:∀p∈t.aA,sY p):
 az prog 162 [.seq (t.aA.map gf),.int .i64 a,.func 163 [dy t] []] (.int .i64 (jq a (iJ t) t.aA)):=by
 refine aO nf MK mix (by simp[f162]) ?_;rw[jq]
 by_cases c1:a<t.aA.length
 ·have cI:(a:Int)<t.aA.length:=by omega
  rw[if_pos c1];simp[f162,cI]
 have c:¬(a:Int)<t.aA.length:=by omega
 rw[if_neg c1];simp[f162,c];refine lp (α:=Nat) (fun i=>⟨[(16,.p (.int .i64 i)),(15,.p (.int .i64 t.aA.length)),(14,.p (.seq (t.aA.map gf))),(0,.p (.seq (t.aA.map gf))),(2,.p (.func 163 [dy t] []))],[]⟩) (fun i=>i<=t.aA.length/\∀j,j<i->iL (iJ t) t.aA j=0) (fun i=>t.aA.length-i) 0 (by simp) ?_;rintro i ⟨k1,k2⟩
 by_cases hk:i<t.aA.length
 ·have gk:=aE.ja hk;have g:=cJ (i:=i) (by omega);have b:=PI t (t.sp i) (t.aA.take i) hl e (f _ (a0 gk)) (by rw[aT];omega);rw[b3]at b
  by_cases he:iJ t (t.aA.take i) (t.sp i)=0
  ·rw[he]at b;have:=vF k2 gk he;simp[hk,gk,ad];refine⟨⟨k1,tI _⟩,?_⟩;refine Go.au.e3 b ?_;simp[g,ad];exact rd (i+1) ⟨hk,this⟩
  ·have d:=vG k2 gk he;rw[d];simp[hk,gk,ad];refine⟨⟨k1,tI _⟩,?_⟩;refine Go.au.e3 b ?_;simp[he,ad]
 ·have:i=t.aA.length:=by omega
  subst this;rw[tz.2 k2];simp
def lU(t:aE):Int:=bG [bC (decide ((t.cs.length:Int)<3)) 2,bC (decide (12<(t.cs.length:Int))) 5,bC (t.cs.any fx) 3]
def nU(t:aE):Int:=bG [bC (!t.fJ) 15,bC (decide (t.bJ<1\/1000<t.bJ)) 3,jq 12 (fV t.cs.length) t.aF]
theorem DH{t:aE}(h:lU t=0):3<=t.cs.length/\t.cs.length<=12/\∀p∈t.cs,eZ p:=by
 rw[lU,nv]at h;have b:=h (bC (decide ((t.cs.length:Int)<3)) 2) (by simp);have d:=h (bC (decide (12<(t.cs.length:Int))) 5) (by simp);have a:=h (bC (t.cs.any fx) 3) (by simp);refine⟨?_,?_,fun p e=>DP ?_⟩
 ·by_cases c:(t.cs.length:Int)<3
  ·simp[bC,c]at b
  ·omega
 ·by_cases c:12<(t.cs.length:Int)
  ·simp[bC,c]at d
  ·omega
 ·cases hf:fx p
  ·rfl
  ·have:t.cs.any fx=true:=List.any_eq_true.2 ⟨p,e,hf⟩;rw[this]at a;simp[bC]at a
theorem zC(t:aE):dw t=if lU t=0 then(if nU t=0 then jq 256 (iJ t) t.aA else nU t)else lU t:=by
 rw[dw,lU,nU,jq,jq]
 by_cases c1:t.cs.length<3
 ·have:(t.cs.length:Int)<3:=by omega
  simp[bG,bC,c1,this]
 have b:¬(t.cs.length:Int)<3:=by omega
 by_cases c2:12<t.cs.length
 ·have:(12:Int)<t.cs.length:=by omega
  simp[bG,bC,c1,c2,b,this]
 have c:¬(12:Int)<t.cs.length:=by omega
 generalize t.cs.any fx=a;cases a
 case true=>simp[bG,bC,c1,c2,b,c]
 cases t.fJ
 ·simp[bG,bC,c1,c2,b,c]
 by_cases c3:t.bJ<1\/1000<t.bJ
 ·simp[bG,bC,c1,c2,b,c,c3]
 by_cases c4:12<t.aF.length
 ·simp[bG,bC,c1,c2,b,c,c3,c4]
 generalize lW (fV t.cs.length) t.aF=e
 by_cases c5:e=0
 ·simp[bG,bC,c1,c2,b,c,c3,c4,c5]
 ·simp[bG,bC,c1,c2,b,c,c3,c4,c5]
theorem zB(t:aE)(v:ku t):az prog 68 [dy t] (.int .i64 (dw t)):=by
 obtain⟨k,z,A,s,u⟩:=v;have k1:=jo (decide ((t.cs.length:Int)<3)) 2;have k2:=jo (decide (12<(t.cs.length:Int))) 5;have k3:=Pr t.cs k;have k4:=jo (t.cs.any fx) 3;have k5:=rk [bC (decide ((t.cs.length:Int)<3)) 2,bC (decide (12<(t.cs.length:Int))) 5,bC (t.cs.any fx) 3] (by simp);have l:=DH (t:=t);rw[zC];have w:=fun h:lU t=0=>PU t (l h).1 k (l h).2.2;have x:=jo (!t.fJ) 15;have q:=fun b=>jo b 3;have n:=PT t 12 k z s;have j:=rk [bC (!t.fJ) 15,bC (decide (t.bJ<1\/1000<t.bJ)) 3,jq 12 (fV t.cs.length) t.aF] (by simp);have o:=fun h:lU t=0=>PS t 256 k (l h).2.2 A u;have d1:lU t=bG [bC (decide ((t.cs.length:Int)<3)) 2,bC (decide (12<(t.cs.length:Int))) 5,bC (t.cs.any fx) 3]:=rfl;have d2:nU t=bG [bC (!t.fJ) 15,bC (decide (t.bJ<1\/1000<t.bJ)) 3,jq 12 (fV t.cs.length) t.aF]:=rfl;rw[<-d1]at k5;rw[<-d2]at j;clear d1 d2 l;generalize lU t=p at*;generalize nU t=i at*;generalize jq 12 (fV t.cs.length) t.aF=F at*;generalize jq 256 (iJ t) t.aA=M at*;generalize t.cs.any fx=G at*;generalize t.fJ=H at*;generalize I:bC (decide ((t.cs.length:Int)<3)) 2=B at*;generalize J:bC (decide (12<(t.cs.length:Int))) 5=C at*;generalize K:bC G 3=D at*;generalize L:bC (!H) 15=E at*;have m:∀b:Bool,decide (t.bJ<1\/1000<t.bJ)=b->az prog 72 [.bool b,.int .i64 3] (.int .i64 (bC b 3))/\az prog 71 [.seq [.int .i64 E,.int .i64 (bC b 3),.int .i64 F]] (.int .i64 i):=fun b r=>by
  rw[r]at j;exact⟨q b,by simpa using j⟩
 have y:az prog 71 [.seq [.int .i64 B,.int .i64 C,.int .i64 D]] (.int .i64 p):=by simpa using k5
 clear j q k5;refine aO nf NY mix (by simp[f68]) ?_;simp[f68,ad];refine Go.au.e2 k1 ?_;simp[ad];refine Go.au.e2 k2 ?_;simp[ad];refine Go.au.e2 k3 ?_;simp[ad];refine Go.au.e2 k4 ?_;simp[ad];refine ep y (by simp;first|exact⟨rfl,rfl⟩|rfl) (by simp;first|exact⟨rfl,rfl⟩|rfl) ?_;simp[ad];refine⟨by repeat' first|rfl|apply am,?_⟩
 by_cases a:p=0
 case neg=>simp[a,ad]
 simp[a,ad];refine Go.au.e1 (w a) ?_;simp[ad];refine Go.au.e2 x ?_;simp[ad]
 by_cases c:t.bJ<1
 ·have d:¬1<=t.bJ:=by omega
  obtain⟨f1,f2⟩:=m true (by simp[c]);simp[c,d,ad];refine Go.au.e2 f1 ?_;simp[c,d,ad];refine Go.au.e3 n ?_;simp[c,d,ad];refine ep f2 (by simp;first|exact⟨rfl,rfl⟩|rfl) (by simp;first|exact⟨rfl,rfl⟩|rfl) ?_;simp[c,d,ad];refine⟨by repeat' first|rfl|apply am,?_⟩
  by_cases e:i=0
  case neg=>simp[a,e,ad]
  simp[a,e,ad];refine Go.au.c3 (o a) ?_;simp[a,e,ad]
 have d:1<=t.bJ:=by omega
 by_cases f:1000<t.bJ
 ·have g:¬t.bJ<=1000:=by omega
  obtain⟨f1,f2⟩:=m true (by simp[c,f]);simp[c,d,f,g,ad];refine Go.au.e2 f1 ?_;simp[c,d,f,g,ad];refine Go.au.e3 n ?_;simp[c,d,f,g,ad];refine ep f2 (by simp;first|exact⟨rfl,rfl⟩|rfl) (by simp;first|exact⟨rfl,rfl⟩|rfl) ?_;simp[c,d,f,g,ad];refine⟨by repeat' first|rfl|apply am,?_⟩
  by_cases e:i=0
  case neg=>simp[a,e,ad]
  simp[a,e,ad];refine Go.au.c3 (o a) ?_;simp[a,e,ad]
 ·have g:t.bJ<=1000:=by omega
  obtain⟨f1,f2⟩:=m false (by simp[c,f]);simp[c,d,f,g,ad];refine Go.au.e2 f1 ?_;simp[c,d,f,g,ad];refine Go.au.e3 n ?_;simp[c,d,f,g,ad];refine ep f2 (by simp;first|exact⟨rfl,rfl⟩|rfl) (by simp;first|exact⟨rfl,rfl⟩|rfl) ?_;simp[c,d,f,g,ad];refine⟨by repeat' first|rfl|apply am,?_⟩
  by_cases e:i=0
  case neg=>simp[a,e,ad]
  simp[a,e,ad];refine Go.au.c3 (o a) ?_;simp[a,e,ad]
def aE.aC1(t:aE)(i:Nat):NV:=(fy (t.at (t.nx i))).sub (fy (t.at i))
def NS.add(s t:NS):NS:=⟨s.a.add t.a,s.b.add t.b,s.d⟩
def NS.neg(s:NS):NS:=⟨s.a.neg,s.b.neg,s.d⟩
def NS.times(s:NS)(k:NF):NS:=⟨s.a.mul k,s.b.mul k,s.d⟩
def NB.iA(n:NB)(e:NV):NS:=⟨e.iA n.a,e.iA n.b,n.d⟩
def NS.plain(a d:NF):NS:=⟨a,.int 0,d⟩
def NS.norm(s:NS):NF:=(s.a.mul s.a).sub ((s.b.mul s.b).mul s.d)
open Classical in
noncomputable def NS.under(s:NS)(k:NF):NS:=if s.norm.q=0 then .plain (k.div (s.a.add s.a)) s.d else⟨(k.mul s.a).div s.norm,(k.mul s.b).neg.div s.norm,s.d⟩
theorem De.mono{k l:Nat}{s:NS}(h:De k s)(hl:k<=l):De l s:=⟨h.1.mono hl,h.2.1.mono hl,h.2.2.mono hl⟩
def aE.pos(t:aE)(n:NB)(i:Nat):Bool:=decide (0<sgS ((n.iA (t.aC1 i)).neg).q)
theorem vD{t:aE}(h:dw t=0):3<=t.cs.length/\t.cs.length<=12/\(∀p∈t.cs,eZ p)/\t.fJ=true:=by
 rw[zC]at h
 by_cases d:lU t=0
 ·rw[if_pos d]at h
  by_cases e:nU t=0
  ·obtain⟨a,b,c⟩:=DH d;refine⟨a,b,c,?_⟩;rw[nU,nv]at e;have f:=e (bC (!t.fJ) 15) (by simp);cases hc:t.fJ
   ·rw[hc]at f;simp[bC]at f
   ·rfl
  ·rw[if_neg e]at h;exact(e h).elim
 ·rw[if_neg d]at h;exact(d h).elim
def aDn:PV:=.st 46 [.str [],.str []]
theorem nQ(s:List Nat)(n:Int):az prog 59 [.str s,.int .i64 n] (.bool (decide ((s.length:Int)<=n))):=by
 refine aO nf NX mix (by simp[f59]) ?_;simp[f59]
def iZ(p:cw):Bool:=decide (p.name.length<=40)&&(decide (p.a.length<=40)&&decide (p.b.length<=40))
def jm(s:cU):Bool:=decide (s.name.length<=40)&&(decide (s.pt.x.length<=40)&&decide (s.pt.y.length<=40))
def il(t:aE):Bool:=!(decide (14<t.cs.length)||(decide (14<t.aF.length)||((decide (8<t.aA.length)&&decide (t.aA.length<=256))||decide (258<t.aA.length))))&&(t.aF.all iZ&&t.aA.all jm)
theorem vH{α:Type}{f:α->Bool}{l:List α}{i:Nat}{x:α}(h:l[i]?=some x):(l.take (i+1)).all f=((l.take i).all f&&f x):=by
 rw[bo,h];simp
theorem kt{α:Type}{f:α->Bool}{l:List α}{i:Nat}{x:α}(h:l[i]?=some x)(hf:f x=false):l.all f=false:=by
 cases a:l.all f
 ·rfl
 ·rw[cx]at a;rw[a x (a0 h)]at hf;cases hf
theorem D5(t:aE)(B:t.cs.length<=1000000)(C:t.aF.length<=1000000)(D:t.aA.length<=1000000):az prog 10 [bW t] (.bool (il t)):=by
 refine aO nf Ny mix (by simp[f10]) ?_;have s:il t=(!(decide (14<t.cs.length)||(decide (14<t.aF.length)||((decide (8<t.aA.length)&&decide (t.aA.length<=256))||decide (258<t.aA.length))))&&(t.aF.all iZ&&t.aA.all jm)):=rfl
 by_cases c1:14<t.cs.length
 ·have q:(14:Int)<t.cs.length:=by omega
  have o:il t=false:=by rw[s];simp[c1]
  simp[f10,ad,q,o]
 have q:¬(14:Int)<t.cs.length:=by omega
 by_cases c2:14<t.aF.length
 ·have r:(14:Int)<t.aF.length:=by omega
  have o:il t=false:=by rw[s];simp[c2]
  simp[f10,ad,q,r,o]
 have r:¬(14:Int)<t.aF.length:=by omega
 have tail:(8<t.aA.length->¬t.aA.length<=256)->¬258<t.aA.length->il t=(t.aF.all iZ&&t.aA.all jm):=fun A z=>by
  rw[s]
  by_cases h:8<t.aA.length
  ·have:=A h;simp[c1,c2,h,this,z]
  ·simp[c1,c2,h,z]
 by_cases c3:8<t.aA.length
 ·have u:(8:Int)<t.aA.length:=by omega
  by_cases c4:t.aA.length<=256
  ·have w:(t.aA.length:Int)<=256:=by omega
   have o:il t=false:=by rw[s];simp[c3,c4]
   simp[f10,ad,q,r,u,w,o]
  ·have w:¬(t.aA.length:Int)<=256:=by omega
   by_cases c5:258<t.aA.length
   ·have v:(258:Int)<t.aA.length:=by omega
    have o:il t=false:=by rw[s];simp[c5]
    simp[f10,ad,q,r,u,w,v,o]
   ·have v:¬(258:Int)<t.aA.length:=by omega
    rw[tail (fun _=>c4) c5];simp[f10,ad,q,r,u,w,v];refine lp (α:=Nat) (fun i=>⟨[(3,.p (.int .i64 i)),(1,.ptr 0 [])],[.box false (.p (bW t))]⟩) (fun i=>i<=t.aF.length/\(t.aF.take i).all iZ=true) (fun i=>t.aF.length-i) 0 (by simp) ?_;rintro i ⟨k1,k2⟩
    by_cases hi:i<t.aF.length
    ·have c:=aE.iw hi;have n:=cJ (i:=i) (by omega);have f:=nQ (t.pk i).a 40;have j:=nQ (t.pk i).b 40;have g:iZ (t.pk i)=(decide ((t.pk i).name.length<=40)&&(decide ((t.pk i).a.length<=40)&&decide ((t.pk i).b.length<=40))):=rfl
     by_cases m:(t.pk i).name.length<=40
     ·have d:¬(40:Int)<(t.pk i).name.length:=by omega
      by_cases a2:(t.pk i).a.length<=40
      ·have k:((t.pk i).a.length:Int)<=40:=by omega
       rw[decide_eq_true k]at f
       by_cases a3:(t.pk i).b.length<=40
       ·have l:((t.pk i).b.length:Int)<=40:=by omega
        rw[decide_eq_true l]at j;have e:iZ (t.pk i)=true:=by rw[g];simp[m,a2,a3]
        simp[hi,c,d,ad];refine Go.au.c2 f ?_;simp[hi,c,d,ad];refine Go.au.c2 j ?_;simp[hi,c,d,n,ad];exact rd (i+1) ⟨hi,by rw[vH c,k2,e];rfl⟩
       ·have l:¬((t.pk i).b.length:Int)<=40:=by omega
        rw[decide_eq_false l]at j;have e:iZ (t.pk i)=false:=by rw[g];simp[a3]
        rw[kt c e];simp[hi,c,d,ad];refine Go.au.c2 f ?_;simp[hi,c,d,ad];refine Go.au.c2 j ?_;simp[hi,c,d,n,ad]
      ·have k:¬((t.pk i).a.length:Int)<=40:=by omega
       rw[decide_eq_false k]at f;have e:iZ (t.pk i)=false:=by rw[g];simp[a2]
       rw[kt c e];simp[hi,c,d,ad];refine Go.au.c2 f ?_;simp[hi,c,d,ad]
     ·have d:(40:Int)<(t.pk i).name.length:=by omega
      have e:iZ (t.pk i)=false:=by rw[g];simp[m]
      rw[kt c e];simp[hi,c,d,ad]
    have:i=t.aF.length:=by omega
    subst this;rw[a6]at k2;rw[k2,ap];simp[ad];refine lp (α:=Nat) (fun i=>⟨[(4,.p (.int .i64 i)),(1,.ptr 0 [])],[.box false (.p (bW t))]⟩) (fun i=>i<=t.aA.length/\(t.aA.take i).all jm=true) (fun i=>t.aA.length-i) 0 (by simp) ?_;rintro i ⟨k1,k2⟩
    by_cases hi:i<t.aA.length
    ·have c:=aE.ja hi;have n:=cJ (i:=i) (by omega);have f:=nQ (t.sp i).pt.x 40;have j:=nQ (t.sp i).pt.y 40;have g:jm (t.sp i)=(decide ((t.sp i).name.length<=40)&&(decide ((t.sp i).pt.x.length<=40)&&decide ((t.sp i).pt.y.length<=40))):=rfl
     by_cases m:(t.sp i).name.length<=40
     ·have d:¬(40:Int)<(t.sp i).name.length:=by omega
      by_cases a2:(t.sp i).pt.x.length<=40
      ·have k:((t.sp i).pt.x.length:Int)<=40:=by omega
       rw[decide_eq_true k]at f
       by_cases a3:(t.sp i).pt.y.length<=40
       ·have l:((t.sp i).pt.y.length:Int)<=40:=by omega
        rw[decide_eq_true l]at j;have e:jm (t.sp i)=true:=by rw[g];simp[m,a2,a3]
        simp[hi,c,d,ad];refine Go.au.c2 f ?_;simp[hi,c,d,ad];refine Go.au.c2 j ?_;simp[hi,c,d,n,ad];exact rd (i+1) ⟨hi,by rw[vH c,k2,e];rfl⟩
       ·have l:¬((t.sp i).pt.y.length:Int)<=40:=by omega
        rw[decide_eq_false l]at j;have e:jm (t.sp i)=false:=by rw[g];simp[a3]
        rw[kt c e];simp[hi,c,d,ad];refine Go.au.c2 f ?_;simp[hi,c,d,ad];refine Go.au.c2 j ?_;simp[hi,c,d,n,ad]
      ·have k:¬((t.sp i).pt.x.length:Int)<=40:=by omega
       rw[decide_eq_false k]at f;have e:jm (t.sp i)=false:=by rw[g];simp[a2]
       rw[kt c e];simp[hi,c,d,ad];refine Go.au.c2 f ?_;simp[hi,c,d,ad]
     ·have d:(40:Int)<(t.sp i).name.length:=by omega
      have e:jm (t.sp i)=false:=by rw[g];simp[m]
      rw[kt c e];simp[hi,c,d,ad]
    have:i=t.aA.length:=by omega
    subst this;rw[a6]at k2;rw[k2];simp[ad]
 ·have u:¬(8:Int)<t.aA.length:=by omega
  have v:¬(258:Int)<t.aA.length:=by omega
  rw[tail (fun h=>absurd h c3) (by omega)];simp[f10,ad,q,r,u,v];refine lp (α:=Nat) (fun i=>⟨[(3,.p (.int .i64 i)),(1,.ptr 0 [])],[.box false (.p (bW t))]⟩) (fun i=>i<=t.aF.length/\(t.aF.take i).all iZ=true) (fun i=>t.aF.length-i) 0 (by simp) ?_;rintro i ⟨k1,k2⟩
  by_cases hi:i<t.aF.length
  ·have c:=aE.iw hi;have n:=cJ (i:=i) (by omega);have f:=nQ (t.pk i).a 40;have j:=nQ (t.pk i).b 40;have g:iZ (t.pk i)=(decide ((t.pk i).name.length<=40)&&(decide ((t.pk i).a.length<=40)&&decide ((t.pk i).b.length<=40))):=rfl
   by_cases m:(t.pk i).name.length<=40
   ·have d:¬(40:Int)<(t.pk i).name.length:=by omega
    by_cases a2:(t.pk i).a.length<=40
    ·have k:((t.pk i).a.length:Int)<=40:=by omega
     rw[decide_eq_true k]at f
     by_cases a3:(t.pk i).b.length<=40
     ·have l:((t.pk i).b.length:Int)<=40:=by omega
      rw[decide_eq_true l]at j;have e:iZ (t.pk i)=true:=by rw[g];simp[m,a2,a3]
      simp[hi,c,d,ad];refine Go.au.c2 f ?_;simp[hi,c,d,ad];refine Go.au.c2 j ?_;simp[hi,c,d,n,ad];exact rd (i+1) ⟨hi,by rw[vH c,k2,e];rfl⟩
     ·have l:¬((t.pk i).b.length:Int)<=40:=by omega
      rw[decide_eq_false l]at j;have e:iZ (t.pk i)=false:=by rw[g];simp[a3]
      rw[kt c e];simp[hi,c,d,ad];refine Go.au.c2 f ?_;simp[hi,c,d,ad];refine Go.au.c2 j ?_;simp[hi,c,d,n,ad]
    ·have k:¬((t.pk i).a.length:Int)<=40:=by omega
     rw[decide_eq_false k]at f;have e:iZ (t.pk i)=false:=by rw[g];simp[a2]
     rw[kt c e];simp[hi,c,d,ad];refine Go.au.c2 f ?_;simp[hi,c,d,ad]
   ·have d:(40:Int)<(t.pk i).name.length:=by omega
    have e:iZ (t.pk i)=false:=by rw[g];simp[m]
    rw[kt c e];simp[hi,c,d,ad]
  have:i=t.aF.length:=by omega
  subst this;rw[a6]at k2;rw[k2,ap];simp[ad];refine lp (α:=Nat) (fun i=>⟨[(4,.p (.int .i64 i)),(1,.ptr 0 [])],[.box false (.p (bW t))]⟩) (fun i=>i<=t.aA.length/\(t.aA.take i).all jm=true) (fun i=>t.aA.length-i) 0 (by simp) ?_;rintro i ⟨k1,k2⟩
  by_cases hi:i<t.aA.length
  ·have c:=aE.ja hi;have n:=cJ (i:=i) (by omega);have f:=nQ (t.sp i).pt.x 40;have j:=nQ (t.sp i).pt.y 40;have g:jm (t.sp i)=(decide ((t.sp i).name.length<=40)&&(decide ((t.sp i).pt.x.length<=40)&&decide ((t.sp i).pt.y.length<=40))):=rfl
   by_cases m:(t.sp i).name.length<=40
   ·have d:¬(40:Int)<(t.sp i).name.length:=by omega
    by_cases a2:(t.sp i).pt.x.length<=40
    ·have k:((t.sp i).pt.x.length:Int)<=40:=by omega
     rw[decide_eq_true k]at f
     by_cases a3:(t.sp i).pt.y.length<=40
     ·have l:((t.sp i).pt.y.length:Int)<=40:=by omega
      rw[decide_eq_true l]at j;have e:jm (t.sp i)=true:=by rw[g];simp[m,a2,a3]
      simp[hi,c,d,ad];refine Go.au.c2 f ?_;simp[hi,c,d,ad];refine Go.au.c2 j ?_;simp[hi,c,d,n,ad];exact rd (i+1) ⟨hi,by rw[vH c,k2,e];rfl⟩
     ·have l:¬((t.sp i).pt.y.length:Int)<=40:=by omega
      rw[decide_eq_false l]at j;have e:jm (t.sp i)=false:=by rw[g];simp[a3]
      rw[kt c e];simp[hi,c,d,ad];refine Go.au.c2 f ?_;simp[hi,c,d,ad];refine Go.au.c2 j ?_;simp[hi,c,d,n,ad]
    ·have k:¬((t.sp i).pt.x.length:Int)<=40:=by omega
     rw[decide_eq_false k]at f;have e:jm (t.sp i)=false:=by rw[g];simp[a2]
     rw[kt c e];simp[hi,c,d,ad];refine Go.au.c2 f ?_;simp[hi,c,d,ad]
   ·have d:(40:Int)<(t.sp i).name.length:=by omega
    have e:jm (t.sp i)=false:=by rw[g];simp[m]
    rw[kt c e];simp[hi,c,d,ad]
  have:i=t.aA.length:=by omega
  subst this;rw[a6]at k2;rw[k2];simp[ad]
theorem vR(l:List df):dV prog 2 (l.map (AV.p∘aR)):=xS (fun r=>⟨by simp[ad],by simp[ad]⟩) l
theorem kT{α:Type}{f:α->AV}{l:List α}{j:Nat}{x:α}(h:l[j+1]?=some x):(l.take (j+1+1)).map f=(l.map f).take (j+1)++[f x]:=by
 rw[bo (i:=j+1),h,List.map_append,b3];rfl
theorem fK{N:Nat×Nat->Prop}{α:Type}{f:α->PV}{k:Nat}{l:List α}:aP N ((l.map (AV.p∘f)).take k)=True:=by
 rw[b9,eq_iff_iff,iff_true];intro x hx;obtain⟨a,_,rfl⟩:=b0.1 (cb hx);trivial
theorem nT:eP=bu:=rfl
theorem nS:gf=bF:=rfl
theorem kU{α:Type}{l:List α}{x:α}(h:l[0]?=some x):l.take 1=[x]:=by
 rw[bo (i:=0),h];rfl
theorem Eb(t:aE)(u:t.cs.length<=1000000)(v:t.aF.length<=1000000)(w:t.aA.length<=1000000):az prog 13 [bW t] (dy t):=by
 have s:(1000000:Nat)<cT:=by decide
 have o:av.wrap 1=1:=by decide
 refine aO nf Nz mix (by simp[f13]) ?_;simp[f13,ad];refine⟨⟨vR _,by omega⟩,?_⟩
 by_cases hc:t.cs=[]
 ·simp[hc];refine⟨⟨by repeat' first|rfl|apply am,by repeat' first|rfl|apply am⟩,?_⟩;refine lp (α:=Nat) (fun i=>match i with
    |0=>⟨[(18,.p (.int .i64 0)),(17,.p (.int .i64 t.aF.length)),(16,.p (.seq (t.aF.map bu))),(3,.ptr 3 []),(2,.ptr 1 []),(1,.ptr 0 [])],[.box false (.p (bW t)),.box false (.p (.st 37 [.aG,.int .i64 0,.aG,.aG])),.arr .exact 0 2 [],.box false (.st 37 [.sl 2 0 2 0 0,.p (.int .i64 t.bJ),.p .aG,.p .aG])]⟩
    |m+1=>⟨[(18,.p (.int .i64 ((m+1:Nat):Int))),(17,.p (.int .i64 t.aF.length)),(16,.p (.seq (t.aF.map bu))),(3,.ptr 3 []),(2,.ptr 1 []),(1,.ptr 0 [])],[.box false (.p (bW t)),.box false (.p (.st 37 [.aG,.int .i64 0,.aG,.aG])),.arr .exact 0 2 [],.box false (.st 37 [.sl 2 0 2 0 0,.p (.int .i64 t.bJ),.sl 6 m 4 0 (m+1),.p .aG]),.hole,.hole,.arr .grow m 4 ((t.aF.take (m+1)).map (AV.p∘bu))]⟩) (fun i=>i<=t.aF.length) (fun i=>t.aF.length-i) 0 (by simp) ?_
  rintro i q
  by_cases hi:i<t.aF.length
  ·have a:=aE.iw hi;rcases i with _|j
   ·have b:=kU a;simp[hi,a,o,ad];exact⟨by omega,rd 1 hi (hh:=by simp[b]) (hr2:=by simp[fK])⟩
   ·have h:av.wrap ((j:Int)+1+1)=(j:Int)+1+1:=aN _ (by omega) (by omega);have hI:(j:Int)+1<t.aF.length:=by omega
    have b:=kT (f:=AV.p∘bu) a;simp[hi,hI,a,h,ad];exact⟨by omega,⟨by omega,by omega⟩,rd (j+2) hi (hh:=by simp at b;simp[b]) (hr2:=by simp[fK])⟩
  have r:i=t.aF.length:=by omega
  rcases i with _|j
  ·have n:t.aF=[]:=a8.1 r.symm;simp[n,ad];refine lp (α:=Nat) (fun i=>match i with
     |0=>⟨[(32,.p (.int .i64 0)),(31,.p (.int .i64 t.aA.length)),(30,.p (.seq (t.aA.map bF))),(3,.ptr 3 []),(2,.ptr 1 []),(1,.ptr 0 [])],[.box false (.p (bW t)),.box false (.p (.st 37 [.aG,.int .i64 0,.aG,.aG])),.arr .exact 0 2 [],.box false (.st 37 [.sl 2 0 2 0 0,.p (.int .i64 t.bJ),.p .aG,.p .aG])]⟩
     |m+1=>⟨[(32,.p (.int .i64 ((m+1:Nat):Int))),(31,.p (.int .i64 t.aA.length)),(30,.p (.seq (t.aA.map bF))),(3,.ptr 3 []),(2,.ptr 1 []),(1,.ptr 0 [])],[.box false (.p (bW t)),.box false (.p (.st 37 [.aG,.int .i64 0,.aG,.aG])),.arr .exact 0 2 [],.box false (.st 37 [.sl 2 0 2 0 0,.p (.int .i64 t.bJ),.p .aG,.sl 6 m 3 0 (m+1)]),.hole,.hole,.arr .grow m 3 ((t.aA.take (m+1)).map (AV.p∘bF))]⟩) (fun i=>i<=t.aA.length) (fun i=>t.aA.length-i) 0 (by simp) ?_
   rintro i q
   by_cases hi:i<t.aA.length
   ·have a:=aE.ja hi;rcases i with _|j
    ·have b:=kU a;simp[hi,a,o,ad];exact⟨by omega,rd 1 hi (hh:=by simp[b]) (hr2:=by simp[fK])⟩
    ·have h:av.wrap ((j:Int)+1+1)=(j:Int)+1+1:=aN _ (by omega) (by omega);have hI:(j:Int)+1<t.aA.length:=by omega
     have b:=kT (f:=AV.p∘bF) a;simp[hi,hI,a,h,ad];exact⟨by omega,⟨by omega,by omega⟩,rd (j+2) hi (hh:=by simp at b;simp[b]) (hr2:=by simp[fK])⟩
   have d:i=t.aA.length:=by omega
   rcases i with _|c
   ·have e:t.aA=[]:=a8.1 d.symm;simp[e,ad];simp[dy,hc,n,e,nT,nS]
   ·have hI:¬((c:Int)+1<t.aA.length):=by omega
    have g:t.aA.take (c+1)=t.aA:=by rw[d,a6]
    simp[hI,g,ad];have l:(t.aA.map (AV.p∘bF)).take (c+1)=t.aA.map (AV.p∘bF):=a5 (by simp;omega);simp[dy,hc,n,l,nT,nS];omega
  ·have hI:¬((j:Int)+1<t.aF.length):=by omega
   have g:t.aF.take (j+1)=t.aF:=by rw[r,a6]
   simp[hI,g,ad];refine lp (α:=Nat) (fun i=>match i with
    |0=>⟨[(32,.p (.int .i64 0)),(31,.p (.int .i64 t.aA.length)),(30,.p (.seq (t.aA.map bF))),(3,.ptr 3 []),(2,.ptr 1 []),(1,.ptr 0 [])],[.box false (.p (bW t)),.box false (.p (.st 37 [.aG,.int .i64 0,.aG,.aG])),.arr .exact 0 2 [],.box false (.st 37 [.sl 2 0 2 0 0,.p (.int .i64 t.bJ),.sl 6 j 4 0 (j+1),.p .aG]),.hole,.hole,.arr .grow j 4 (t.aF.map (AV.p∘bu))]⟩
    |m+1=>⟨[(32,.p (.int .i64 ((m+1:Nat):Int))),(31,.p (.int .i64 t.aA.length)),(30,.p (.seq (t.aA.map bF))),(3,.ptr 3 []),(2,.ptr 1 []),(1,.ptr 0 [])],[.box false (.p (bW t)),.box false (.p (.st 37 [.aG,.int .i64 0,.aG,.aG])),.arr .exact 0 2 [],.box false (.st 37 [.sl 2 0 2 0 0,.p (.int .i64 t.bJ),.sl 6 j 4 0 (j+1),.sl 9 m 3 0 (m+1)]),.hole,.hole,.arr .grow j 4 (t.aF.map (AV.p∘bu)),.hole,.hole,.arr .grow m 3 ((t.aA.take (m+1)).map (AV.p∘bF))]⟩) (fun i=>i<=t.aA.length) (fun i=>t.aA.length-i) 0 (by simp) ?_
   rintro i q
   by_cases hi:i<t.aA.length
   ·have a:=aE.ja hi;rcases i with _|j
    ·have b:=kU a;simp[hi,a,o,ad];exact⟨by omega,rd 1 hi (hh:=by simp[b]) (hr2:=by simp[fK])⟩
    ·have h:av.wrap ((j:Int)+1+1)=(j:Int)+1+1:=aN _ (by omega) (by omega);have hI:(j:Int)+1<t.aA.length:=by omega
     have b:=kT (f:=AV.p∘bF) a;simp[hi,hI,a,h,ad];exact⟨by omega,⟨by omega,by omega⟩,rd (j+2) hi (hh:=by simp at b;simp[b]) (hr2:=by simp[fK])⟩
   have d:i=t.aA.length:=by omega
   rcases i with _|c
   ·have e:t.aA=[]:=a8.1 d.symm;simp[e,ad];have k:(t.aF.map (AV.p∘bu)).take (j+1)=t.aF.map (AV.p∘bu):=a5 (by simp;omega);simp[dy,hc,k,e,nT,nS];omega
   ·have hI:¬((c:Int)+1<t.aA.length):=by omega
    have g:t.aA.take (c+1)=t.aA:=by rw[d,a6]
    simp[hI,g,ad];have k:(t.aF.map (AV.p∘bu)).take (j+1)=t.aF.map (AV.p∘bu):=a5 (by simp;omega);have l:(t.aA.map (AV.p∘bF)).take (c+1)=t.aA.map (AV.p∘bF):=a5 (by simp;omega);simp[dy,hc,k,l,nT,nS];omega
 ·simp[hc];refine⟨⟨by repeat' first|rfl|apply am,by repeat' first|rfl|apply am⟩,?_⟩;refine lp (α:=Nat) (fun i=>match i with
    |0=>⟨[(18,.p (.int .i64 0)),(17,.p (.int .i64 t.aF.length)),(16,.p (.seq (t.aF.map bu))),(3,.ptr 4 []),(2,.ptr 1 []),(1,.ptr 0 [])],[.box false (.p (bW t)),.box false (.p (.st 37 [.aG,.int .i64 0,.aG,.aG])),.arr .exact 0 2 [],.arr .grow 0 2 (t.cs.map (AV.p∘aR)),.box false (.st 37 [.sl 3 0 2 0 t.cs.length,.p (.int .i64 t.bJ),.p .aG,.p .aG])]⟩
    |m+1=>⟨[(18,.p (.int .i64 ((m+1:Nat):Int))),(17,.p (.int .i64 t.aF.length)),(16,.p (.seq (t.aF.map bu))),(3,.ptr 4 []),(2,.ptr 1 []),(1,.ptr 0 [])],[.box false (.p (bW t)),.box false (.p (.st 37 [.aG,.int .i64 0,.aG,.aG])),.arr .exact 0 2 [],.arr .grow 0 2 (t.cs.map (AV.p∘aR)),.box false (.st 37 [.sl 3 0 2 0 t.cs.length,.p (.int .i64 t.bJ),.sl 7 m 4 0 (m+1),.p .aG]),.hole,.hole,.arr .grow m 4 ((t.aF.take (m+1)).map (AV.p∘bu))]⟩) (fun i=>i<=t.aF.length) (fun i=>t.aF.length-i) 0 (by simp) ?_
  rintro i q
  by_cases hi:i<t.aF.length
  ·have a:=aE.iw hi;rcases i with _|j
   ·have b:=kU a;simp[hi,a,o,ad];exact⟨by omega,rd 1 hi (hh:=by simp[b]) (hr2:=by simp[fK])⟩
   ·have h:av.wrap ((j:Int)+1+1)=(j:Int)+1+1:=aN _ (by omega) (by omega);have hI:(j:Int)+1<t.aF.length:=by omega
    have b:=kT (f:=AV.p∘bu) a;simp[hi,hI,a,h,ad];exact⟨by omega,⟨by omega,by omega⟩,rd (j+2) hi (hh:=by simp at b;simp[b]) (hr2:=by simp[fK])⟩
  have r:i=t.aF.length:=by omega
  rcases i with _|j
  ·have n:t.aF=[]:=a8.1 r.symm;simp[n,ad];refine lp (α:=Nat) (fun i=>match i with
     |0=>⟨[(32,.p (.int .i64 0)),(31,.p (.int .i64 t.aA.length)),(30,.p (.seq (t.aA.map bF))),(3,.ptr 4 []),(2,.ptr 1 []),(1,.ptr 0 [])],[.box false (.p (bW t)),.box false (.p (.st 37 [.aG,.int .i64 0,.aG,.aG])),.arr .exact 0 2 [],.arr .grow 0 2 (t.cs.map (AV.p∘aR)),.box false (.st 37 [.sl 3 0 2 0 t.cs.length,.p (.int .i64 t.bJ),.p .aG,.p .aG])]⟩
     |m+1=>⟨[(32,.p (.int .i64 ((m+1:Nat):Int))),(31,.p (.int .i64 t.aA.length)),(30,.p (.seq (t.aA.map bF))),(3,.ptr 4 []),(2,.ptr 1 []),(1,.ptr 0 [])],[.box false (.p (bW t)),.box false (.p (.st 37 [.aG,.int .i64 0,.aG,.aG])),.arr .exact 0 2 [],.arr .grow 0 2 (t.cs.map (AV.p∘aR)),.box false (.st 37 [.sl 3 0 2 0 t.cs.length,.p (.int .i64 t.bJ),.p .aG,.sl 7 m 3 0 (m+1)]),.hole,.hole,.arr .grow m 3 ((t.aA.take (m+1)).map (AV.p∘bF))]⟩) (fun i=>i<=t.aA.length) (fun i=>t.aA.length-i) 0 (by simp) ?_
   rintro i q
   by_cases hi:i<t.aA.length
   ·have a:=aE.ja hi;rcases i with _|j
    ·have b:=kU a;simp[hi,a,o,ad];exact⟨by omega,rd 1 hi (hh:=by simp[b]) (hr2:=by simp[fK])⟩
    ·have h:av.wrap ((j:Int)+1+1)=(j:Int)+1+1:=aN _ (by omega) (by omega);have hI:(j:Int)+1<t.aA.length:=by omega
     have b:=kT (f:=AV.p∘bF) a;simp[hi,hI,a,h,ad];exact⟨by omega,⟨by omega,by omega⟩,rd (j+2) hi (hh:=by simp at b;simp[b]) (hr2:=by simp[fK])⟩
   have d:i=t.aA.length:=by omega
   rcases i with _|c
   ·have e:t.aA=[]:=a8.1 d.symm;simp[e,ad];simp[dy,hc,n,e,nT,nS]
   ·have hI:¬((c:Int)+1<t.aA.length):=by omega
    have g:t.aA.take (c+1)=t.aA:=by rw[d,a6]
    simp[hI,g,ad];have l:(t.aA.map (AV.p∘bF)).take (c+1)=t.aA.map (AV.p∘bF):=a5 (by simp;omega);simp[dy,hc,n,l,nT,nS];omega
  ·have hI:¬((j:Int)+1<t.aF.length):=by omega
   have g:t.aF.take (j+1)=t.aF:=by rw[r,a6]
   simp[hI,g,ad];refine lp (α:=Nat) (fun i=>match i with
    |0=>⟨[(32,.p (.int .i64 0)),(31,.p (.int .i64 t.aA.length)),(30,.p (.seq (t.aA.map bF))),(3,.ptr 4 []),(2,.ptr 1 []),(1,.ptr 0 [])],[.box false (.p (bW t)),.box false (.p (.st 37 [.aG,.int .i64 0,.aG,.aG])),.arr .exact 0 2 [],.arr .grow 0 2 (t.cs.map (AV.p∘aR)),.box false (.st 37 [.sl 3 0 2 0 t.cs.length,.p (.int .i64 t.bJ),.sl 7 j 4 0 (j+1),.p .aG]),.hole,.hole,.arr .grow j 4 (t.aF.map (AV.p∘bu))]⟩
    |m+1=>⟨[(32,.p (.int .i64 ((m+1:Nat):Int))),(31,.p (.int .i64 t.aA.length)),(30,.p (.seq (t.aA.map bF))),(3,.ptr 4 []),(2,.ptr 1 []),(1,.ptr 0 [])],[.box false (.p (bW t)),.box false (.p (.st 37 [.aG,.int .i64 0,.aG,.aG])),.arr .exact 0 2 [],.arr .grow 0 2 (t.cs.map (AV.p∘aR)),.box false (.st 37 [.sl 3 0 2 0 t.cs.length,.p (.int .i64 t.bJ),.sl 7 j 4 0 (j+1),.sl 10 m 3 0 (m+1)]),.hole,.hole,.arr .grow j 4 (t.aF.map (AV.p∘bu)),.hole,.hole,.arr .grow m 3 ((t.aA.take (m+1)).map (AV.p∘bF))]⟩) (fun i=>i<=t.aA.length) (fun i=>t.aA.length-i) 0 (by simp) ?_
   rintro i q
   by_cases hi:i<t.aA.length
   ·have a:=aE.ja hi;rcases i with _|j
    ·have b:=kU a;simp[hi,a,o,ad];exact⟨by omega,rd 1 hi (hh:=by simp[b]) (hr2:=by simp[fK])⟩
    ·have h:av.wrap ((j:Int)+1+1)=(j:Int)+1+1:=aN _ (by omega) (by omega);have hI:(j:Int)+1<t.aA.length:=by omega
     have b:=kT (f:=AV.p∘bF) a;simp[hi,hI,a,h,ad];exact⟨by omega,⟨by omega,by omega⟩,rd (j+2) hi (hh:=by simp at b;simp[b]) (hr2:=by simp[fK])⟩
   have d:i=t.aA.length:=by omega
   rcases i with _|c
   ·have e:t.aA=[]:=a8.1 d.symm;simp[e,ad];have k:(t.aF.map (AV.p∘bu)).take (j+1)=t.aF.map (AV.p∘bu):=a5 (by simp;omega);simp[dy,hc,k,e,nT,nS];omega
   ·have hI:¬((c:Int)+1<t.aA.length):=by omega
    have g:t.aA.take (c+1)=t.aA:=by rw[d,a6]
    simp[hI,g,ad];have k:(t.aF.map (AV.p∘bu)).take (j+1)=t.aF.map (AV.p∘bu):=a5 (by simp;omega);have l:(t.aA.map (AV.p∘bF)).take (c+1)=t.aA.map (AV.p∘bF):=a5 (by simp;omega);simp[dy,hc,k,l,nT,nS];omega
theorem aCP{s:gW}(h:gd s=0):eV (vP s)=fR s/\eS 2000 (vP s):=by
 obtain⟨g1,g2⟩:=rF h;refine⟨?_,ij g1,ij g2⟩;rw[eV,vP];dsimp only;rw[(iQ g1).1,(iQ g2).1]
def azy(p:cU):Prop:=sY p/\gd p.pt=0
def Nk(l:List cU)(n:List Nat):Option cU:=l.find? (fun s=>decide (s.name=n))
structure okL(b:aE):Prop where
 sl:b.aA.length<=24
 sp:∀s∈b.aA,azy s
 ne:∀i,i<b.aA.length->Nk (b.aA.take i) (b.sp i).name=none
def hasB(b:aE)(name:List Nat)(i:Nat):Prop:=mJ b name=i/\i<b.aA.length/\Nk b.aA name=some (b.sp i)
structure Ow(t b:aE)(CS CL:List Nat)(i j:Nat):Prop where
 re:dw t=0
 tl:t.cs.length<=1000000
 L:okL b
 V6:∀s∈b.aA,eS 60 (vP s.pt)
 ci:hasB b CS i
 bj:hasB b CL j
theorem Ow.at{t b:aE}{CS CL:List Nat}{i j:Nat}(h:Ow t b CS CL i j){k:Nat}(hk:k<b.aA.length):eV (vP (b.sp k).pt)=fR (b.sp k).pt/\eS 60 (vP (b.sp k).pt):=by
 have m:=a0 (aE.ja hk);exact⟨(aCP (h.L.sp _ m).2).1,h.V6 _ m⟩
theorem EO(s:List Nat):(cS s).length<=s.length:=by
 rw[cS];split<;>simp
theorem EL{s:List Nat}(h:bY s=0)(hl:s.length<=40):ch 133 (aX s):=by
 obtain⟨k,f,g⟩:=iQ h;have b:(10:Nat)^40<=2^133:=by decide
 unfold bY at h
 split at h
 ·cases h
 rename_i a;have a:kI s=true:=by simpa using a
 simp only[kI,ao,Bool.or_eq_true,decide_eq_true_eq]at a;obtain⟨⟨c,_⟩,a3⟩:=a;have i:(bD s).length<=40:=dg (ov 47 (cS s)).1 (dg (EO s) hl);have j:(bK s).length<=40:=dg (ov 47 (cS s)).2.1 (dg (EO s) hl);have d:=dk (yQ i (iR c)) b;refine⟨?_,?_⟩
 ·rw[f];have e:(if bV s=true then -(aW (bD s):Int)else aW (bD s)).natAbs=aW (bD s):=by split<;>omega
  rw[e];exact d
 ·rw[g]
  by_cases hf:dR s=true
  ·rw[if_pos hf];rcases a3 with a3|a3
   ·rw[hf]at a3;cases a3
   ·exact dk (yQ j (iR a3.1.1)) b
  ·rw[if_neg hf];decide
def aE.shr(t:aE)(i:Nat)(v:V2):Rat:=((v.sub (kf (t.at i))).dot (t.kn i))/((t.kn i).dot (t.kn i))
def aE.pv(t:aE)(i:Nat):Nat:=(i+t.cs.length-1)% t.cs.length
theorem aAb{t:aE}(h:dw t=0){j:Nat}(c:j<t.aF.length):fV t.cs.length (t.aF.take j) (t.pk j)=0:=by
 rw[zC]at h
 split at h
 case isFalse=>contradiction
 split at h
 case isFalse=>contradiction
 rename_i d b;rw[nU,nv]at b;have a:=b (jq 12 (fV t.cs.length) t.aF) (by simp);rw[jq]at a
 split at a
 ·cases a
 have:=tz.1 a j c
 rwa [iL,aE.iw c]at this
@[simp] theorem aHy:aL aDn=.agg 46:=rfl
def zp:PV:=.st 129 [.int .i64 0,.aG]
def zTV:PV:=.st 133 [.st 131 [zp,zp],.st 131 [zp,zp]]
@[simp] theorem aHx:aL zTV=.agg 133:=rfl
def Dp(v:V2):Nat->V2
 |0=>v
 |k+1=>⟨-(Dp v k).y,(Dp v k).x⟩
structure gv where
 sX:Bool
 qs:Int
 kn:df
def Nh(m:gv):PV:=.st 86 [.bool m.sX,.int .i64 m.qs,aR m.kn]
@[simp] theorem aHc(m:gv):aL (Nh m)=.agg 86:=rfl
@[simp] theorem aFm(m:gv):cE (Nh m)=[.bool m.sX,.int .i64 m.qs,aR m.kn]:=rfl
def gv.n(m:gv):Nat:=((m.qs.tmod 4+4).tmod 4).toNat
def zi(p:df):Nat->df
 |0=>p
 |k+1=>⟨-(zi p k).y,(zi p k).x⟩
def gv.On(m:gv)(p:df):df:=if m.sX then⟨-p.x,p.y⟩else p
def gv.pt(m:gv)(p:df):df:=⟨(zi (m.On p) m.n).x+m.kn.x,(zi (m.On p) m.n).y+m.kn.y⟩
def gv.azq(m:gv)(v:V2):V2:=if m.sX then⟨-v.x,v.y⟩else v
def gv.pl(m:gv)(v:V2):V2:=(Dp (m.azq v) m.n).add (kf m.kn)
def gv.sp(m:gv)(s:cU):cU:=⟨s.name,plV (m.pl (vP s.pt))⟩
def aAx(n:Nat)(p:cw):cw:=⟨p.name,n-1-p.bL,bN (1-aX p.b),bN (1-aX p.a)⟩
def gv.src(m:gv)(n i:Nat):Nat:=if m.sX then(if i=0 then 0 else n-i)else i
def gv.cs(m:gv)(t:aE):List df:=(ce t.cs.length).map (fun i=>m.pt (t.at (m.src t.cs.length i)))
def gv.aF(m:gv)(t:aE):List cw:=if m.sX then t.aF.map (aAx t.cs.length)else t.aF
theorem OH{t:aE}(g:ku t)(h:dw t=0)(hs:il t=true):∀p∈t.aF,0<=p.bL/\p.bL<t.cs.length/\bY p.a=0/\bY p.b=0/\iI p.a/\iI p.b/\ch 133 (aX p.a)/\ch 133 (aX p.b):=by
 intro p d;obtain⟨i,hi,rfl⟩:=br.1 d;have c:=aAb h hi;rw[aE.nL hi]at d⊢;obtain⟨c1,c2⟩:=zD c;have f:0<=(t.pk i).bL/\(t.pk i).bL<t.cs.length:=by
  rw[fV]at c
  split at c
  ·cases c
  split at c
  ·cases c
  split at c
  ·cases c
  ·omega
 obtain⟨_,s1,s2⟩:=g.pk _ d;simp only[il,ao,cx]at hs;have e:=hs.2.1 _ d;simp only[iZ,ao,decide_eq_true_eq]at e;exact⟨f.1,f.2,c1,c2,s1,s2,EL c1 e.2.1,EL c2 e.2.2⟩
section
variable{α:Type}
def fg(g:α->Bool)(A:List α):Nat->Nat
 |0=>0
 |j+1=>match A[j]? with
  |some a=>if g a=true then fg g A j else j+1
  |none=>j+1
def jk(b:α->α->Bool)(A:List α)(x:α):List α:=A.take (fg (fun a=>b a x) A A.length)++x::A.drop (fg (fun a=>b a x) A A.length)
def bP(a:α->α->Bool):List α->Nat->List α
 |_,0=>[]
 |l,i+1=>match l[i]? with
  |some x=>jk a (bP a l i) x
  |none=>bP a l i
theorem F0(g:α->Bool)(A:List α):∀j,fg g A j<=j
 |0=>db _
 |j+1=>by
  rw[fg]
  split
  ·split
   ·have:=F0 g A j;omega
   ·exact db _
  ·exact db _
theorem Ql(b:α->α->Bool)(A:List α)(x:α):(jk b A x).length=A.length+1:=by
 have:=F0 (fun a=>b a x) A A.length;rw[jk,bv,cv,aT,bk];omega
theorem kW(a:α->α->Bool)(l:List α):∀i,i<=l.length->(bP a l i).length=i
 |0,_=>rfl
 |i+1,h=>by
  rw[bP,a7 (by omega)];dsimp only;rw[Ql,kW a l i (by omega)]
theorem vX(a:α->α->Bool)(l:List α){x:α}(h:l[0]?=some x):bP a l 1=[x]:=by
 rw[bP,h];rfl
def dY(A:List α)(x:α)(R:List α)(j:Nat):List α:=A.take j++x::(A.drop j++R)
theorem zR{A R:List α}{x:α}{j:Nat}:(dY A x R j).length=A.length+1+R.length:=by
 rw[dY,bv,cv,bv,aT,bk];omega
theorem zS{A R:List α}{x:α}{j:Nat}(h:j<=A.length):(dY A x R j)[j]?=some x:=by
 rw[dY,a9 (by rw[aT];omega),aT,da h,Nat.sub_self];rfl
theorem FX{A R:List α}{x:α}{j:Nat}(h:j+1<=A.length):(dY A x R (j+1))[j]?=A[j]?:=by
 rw[dY,bb (by rw[aT];omega),bl,if_pos (by omega)]
theorem FW{A R:List α}{x a:α}{j:Nat}(h:A[j]?=some a):((dY A x R (j+1)).set (j+1) a).set j x=dY A x R j:=by
 obtain⟨b,c⟩:=a1.1 h;apply List.ext_getElem?;intro k;have hl:(dY A x R (j+1)).length=A.length+1+R.length:=zR
 by_cases c1:k=j
 ·subst c1;rw[b4 (by rw[List.length_set,hl];omega),zS (by omega)]
 ·rw[cc (fun e=>c1 e.symm)]
  by_cases c2:k=j+1
  ·subst c2;rw[b4 (by rw[hl];omega),dY,a9 (by rw[aT];omega),aT,da (by omega),show j+1-j=0+1 by omega,be,bb (by rw[bk];omega),List.getElem?_drop,Nat.add_zero,h]
  ·rw[cc (fun e=>c2 e.symm),dY,dY]
   by_cases c3:k<j
   ·rw[bb (by rw[aT];omega),bb (by rw[aT];omega),bl,bl,if_pos (by omega),if_pos c3]
   ·obtain⟨d,rfl⟩:∃d,k=j+2+d:=⟨k-j-2,by omega⟩
    rw[a9 (by rw[aT];omega),a9 (by rw[aT];omega),aT,aT,da (by omega),da (by omega),show j+2+d-(j+1)=d+1 by omega,show j+2+d-j=(d+1)+1 by omega,be,be,a4 b,List.cons_append,be]
theorem FY{A R:List α}{x:α}:dY A x R A.length=A++x::R:=by
 rw[dY,a6,List.drop_length];rfl
theorem FM{b:α->α->Bool}{A R:List α}{x:α}:dY A x R (fg (fun a=>b a x) A A.length)=jk b A x++R:=by
 rw[dY,jk,List.append_assoc];rfl
end
theorem Qk{α:Type}{b:α->α->Bool}{A:List α}{x a:α}(h:a∈jk b A x):a∈A\/a=x:=by
 rw[jk,List.mem_append,List.mem_cons]at h;rcases h with h|h|h
 ·exact .inl (cb h)
 ·exact .inr h
 ·exact .inl (List.mem_of_mem_drop h)
theorem tL{α:Type}{b:α->α->Bool}{l:List α}{a:α}:∀i,a∈bP b l i->a∈l
 |0,h=>by cases h
 |i+1,h=>by
  rw[bP]at h
  split at h
  ·rename_i x hx;rcases Qk h with h|rfl
   ·exact tL i h
   ·exact a0 hx
  ·exact tL i h
def cd(l:List cw):List AV:=l.map (AV.p∘bu)
theorem XX(c:cw->cw->Int)(d:cw->cw->Bool)(l:List cw)(n al:Nat)(X:l.length=n)(aa:1<=n)(ab:n<=1000)(hc:∀a∈l,∀b∈l,az prog 213 [bu a,bu b] (.int .i64 (c a b)))(U:∀a∈l,∀b∈l,(c a b<0↔d b a=true)):
 cR prog 296 [.arr .grow al 4 (cd l)] [.sl 0 al 4 0 n,.p (.int .i64 0),.p (.int .i64 n),.p (.func 213 [] [])] [.arr .grow al 4 (cd (bP d l n))] (.p (.aC [])):=by
 have Z:av.wrap 1=1:=by decide
 have W:∀i,∀a∈bP d l i,a∈l:=fun i a h=>tL i h;have Y:∀i,i<=n->(bP d l i).length=i:=fun i h=>kW d l i (by omega);obtain⟨ae,O⟩:∃x,l[0]?=some x:=⟨_,a7 (by omega)⟩
 have aI:bP d l 1++l.drop 1=l:=by
  rw[vX d l O];obtain⟨_,z⟩:=a1.1 O;have F:=a4 (l:=l) (i:=0) (by omega);rw[c6]at F;rw[<-z];exact F.symm
 have H:bP d l n++l.drop n=bP d l n:=by rw[b5 (by omega),cy]
 have o:∀(N:Nat×Nat->Prop)(q:List cw),aP N (cd q)=True:=fun N q=>by
  rw[b9,eq_iff_iff,iff_true];intro x hx;obtain⟨a,_,rfl⟩:=b0.1 hx;trivial
 refine gH nf CI mix (by simp[f296]) ?_;simp[f296,ad,Z];refine lp (α:=Nat) (fun i=>⟨[(8,.p (.int .i64 i)),(3,.p (.func 213 [] [])),(2,.p (.int .i64 n)),(1,.p (.int .i64 0)),(0,.sl 0 al 4 0 n)],[.arr .grow al 4 (cd (bP d l i++l.drop i))]⟩) (fun i=>1<=i/\i<=n) (fun i=>n-i) 1 ⟨by omega,by omega⟩ ?_ (hn:=by simp only[aI];try simp) (hh:=by simp only[aI];try simp) (hr2:=by simp[o]);rintro i ⟨i1,i2⟩
 by_cases hi:i<n
 ·have L:=cJ (i:=i) (by omega);obtain⟨x,hx⟩:∃x,l[i]?=some x:=⟨_,a7 (by omega)⟩
  have P:=a0 hx;have B:=Y i (by omega);have C:=W i;have G:l.drop i=x::l.drop (i+1):=by
   obtain⟨_,z⟩:=a1.1 hx;rw[<-z,<-a4 (by omega)]
  have K:bP d l (i+1)=jk d (bP d l i) x:=by rw[bP,hx]
  have I:bP d l i++l.drop i=dY (bP d l i) x (l.drop (i+1)) i:=by rw[G,<-FY,B]
  have t:dY (bP d l i) x (l.drop (i+1)) (fg (fun a=>d a x) (bP d l i) i)=bP d l (i+1)++l.drop (i+1):=by
   rw[K,<-FM,B]
  have T:(l.drop (i+1)).length=n-(i+1):=by rw[bk,X]
  rw[I];clear I G K aI H;generalize D:l.drop (i+1)=R at*;generalize bP d l i=A at*;have V:(i:Int)<n:=by omega
  simp[V,hi,ad];refine lp (α:=Nat) (fun j=>⟨[(9,.p (.int .i64 j)),(8,.p (.int .i64 i)),(3,.p (.func 213 [] [])),(2,.p (.int .i64 n)),(1,.p (.int .i64 0)),(0,.sl 0 al 4 0 n)],[.arr .grow al 4 (cd (dY A x R j))]⟩) (fun j=>j<=i/\fg (fun a=>d a x) A i=fg (fun a=>d a x) A j) (fun j=>j) i ⟨db _,rfl⟩ ?_ (hr2:=by simp[o]);rintro j ⟨ac,e⟩;rcases j with _|j
  ·rw[fg]at e;rw[e]at t;simp[ad,L];rw[t,<-D];exact rd (i+1) ⟨by omega,by omega⟩ (hr2:=by simp[o])
  ·obtain⟨a,m⟩:∃a,A[j]?=some a:=⟨_,a7 (by omega)⟩
   have E:=hc x P a (C a (a0 m));have J:=U x P a (C a (a0 m));rw[fg,m]at e;dsimp only at e;have g:(cd (dY A x R (j+1)))[j+1]?=some (.p (bu x)):=by rw[cd,bi,zS (by omega)];rfl
   have k:(cd (dY A x R (j+1)))[j]?=some (.p (bu a)):=by rw[cd,bi,FX (by omega),m];rfl
   have Q:((cd (dY A x R (j+1))).set (j+1) (.p (bu a))).set j (.p (bu x))=cd (dY A x R j):=by
    rw[cd,cd,<-FW m,b1,b1];rfl
   have f:(cd (dY A x R (j+1))).length=n:=by rw[cd,b2,zR,T];omega
   have y:av.wrap (j:Int)=j:=aN _ (by omega) (by omega);generalize S:cd (dY A x R (j+1))=M at*;have u:¬M=[]:=by intro h;rw[h]at f;simp at f;omega
   have v:j+1<n:=by omega
   have w:j<n:=by omega
   have r:∀h,M[j+1]'h=.p (bu x):=fun h=>(a1.1 g).2;have s:∀h,M[j]'h=.p (bu a):=fun h=>(a1.1 k).2
   by_cases hq:c x a<0
   ·rw[if_pos (J.1 hq)]at e;simp[ad,u,v,w,g,k,r,s,f,y];refine⟨by omega,?_⟩;refine Go.au.e2 E ?_;simp[ad,u,v,w,g,k,r,s,f,y,hq];rw[Q];refine⟨by omega,by repeat' first|rfl|apply am,?_⟩;exact rd j ⟨by omega,e⟩ (hr2:=by simp[o])
   ·rw[if_neg (fun h=>hq (J.2 h))]at e;rw[e]at t;simp[ad,u,v,w,g,k,r,s,f,y];refine⟨by omega,?_⟩;refine Go.au.e2 E ?_;simp[ad,u,v,w,g,k,r,s,f,y,hq,L];rw[<-S,t,<-D];exact rd (i+1) ⟨by omega,by omega⟩ (hr2:=by simp[o])
 ·obtain rfl:i=n:=by omega
  simp[H,ad]
def cg(l:List cU):List AV:=l.map (AV.p∘bF)
theorem XY(c:cU->cU->Int)(d:cU->cU->Bool)(l:List cU)(n al:Nat)(X:l.length=n)(aa:1<=n)(ab:n<=1000)(hc:∀a∈l,∀b∈l,az prog 217 [bF a,bF b] (.int .i64 (c a b)))(U:∀a∈l,∀b∈l,(c a b<0↔d b a=true)):
 cR prog 306 [.arr .grow al 3 (cg l)] [.sl 0 al 3 0 n,.p (.int .i64 0),.p (.int .i64 n),.p (.func 217 [] [])] [.arr .grow al 3 (cg (bP d l n))] (.p (.aC [])):=by
 have Z:av.wrap 1=1:=by decide
 have W:∀i,∀a∈bP d l i,a∈l:=fun i a h=>tL i h;have Y:∀i,i<=n->(bP d l i).length=i:=fun i h=>kW d l i (by omega);obtain⟨ae,O⟩:∃x,l[0]?=some x:=⟨_,a7 (by omega)⟩
 have aI:bP d l 1++l.drop 1=l:=by
  rw[vX d l O];obtain⟨_,z⟩:=a1.1 O;have F:=a4 (l:=l) (i:=0) (by omega);rw[c6]at F;rw[<-z];exact F.symm
 have H:bP d l n++l.drop n=bP d l n:=by rw[b5 (by omega),cy]
 have o:∀(N:Nat×Nat->Prop)(q:List cU),aP N (cg q)=True:=fun N q=>by
  rw[b9,eq_iff_iff,iff_true];intro x hx;obtain⟨a,_,rfl⟩:=b0.1 hx;trivial
 refine gH nf CH mix (by simp[f306]) ?_;simp[f306,ad,Z];refine lp (α:=Nat) (fun i=>⟨[(8,.p (.int .i64 i)),(3,.p (.func 217 [] [])),(2,.p (.int .i64 n)),(1,.p (.int .i64 0)),(0,.sl 0 al 3 0 n)],[.arr .grow al 3 (cg (bP d l i++l.drop i))]⟩) (fun i=>1<=i/\i<=n) (fun i=>n-i) 1 ⟨by omega,by omega⟩ ?_ (hn:=by simp only[aI];try simp) (hh:=by simp only[aI];try simp) (hr2:=by simp[o]);rintro i ⟨i1,i2⟩
 by_cases hi:i<n
 ·have L:=cJ (i:=i) (by omega);obtain⟨x,hx⟩:∃x,l[i]?=some x:=⟨_,a7 (by omega)⟩
  have P:=a0 hx;have B:=Y i (by omega);have C:=W i;have G:l.drop i=x::l.drop (i+1):=by
   obtain⟨_,z⟩:=a1.1 hx;rw[<-z,<-a4 (by omega)]
  have K:bP d l (i+1)=jk d (bP d l i) x:=by rw[bP,hx]
  have I:bP d l i++l.drop i=dY (bP d l i) x (l.drop (i+1)) i:=by rw[G,<-FY,B]
  have t:dY (bP d l i) x (l.drop (i+1)) (fg (fun a=>d a x) (bP d l i) i)=bP d l (i+1)++l.drop (i+1):=by
   rw[K,<-FM,B]
  have T:(l.drop (i+1)).length=n-(i+1):=by rw[bk,X]
  rw[I];clear I G K aI H;generalize D:l.drop (i+1)=R at*;generalize bP d l i=A at*;have V:(i:Int)<n:=by omega
  simp[V,hi,ad];refine lp (α:=Nat) (fun j=>⟨[(9,.p (.int .i64 j)),(8,.p (.int .i64 i)),(3,.p (.func 217 [] [])),(2,.p (.int .i64 n)),(1,.p (.int .i64 0)),(0,.sl 0 al 3 0 n)],[.arr .grow al 3 (cg (dY A x R j))]⟩) (fun j=>j<=i/\fg (fun a=>d a x) A i=fg (fun a=>d a x) A j) (fun j=>j) i ⟨db _,rfl⟩ ?_ (hr2:=by simp[o]);rintro j ⟨ac,e⟩;rcases j with _|j
  ·rw[fg]at e;rw[e]at t;simp[ad,L];rw[t,<-D];exact rd (i+1) ⟨by omega,by omega⟩ (hr2:=by simp[o])
  ·obtain⟨a,m⟩:∃a,A[j]?=some a:=⟨_,a7 (by omega)⟩
   have E:=hc x P a (C a (a0 m));have J:=U x P a (C a (a0 m));rw[fg,m]at e;dsimp only at e;have g:(cg (dY A x R (j+1)))[j+1]?=some (.p (bF x)):=by rw[cg,bi,zS (by omega)];rfl
   have k:(cg (dY A x R (j+1)))[j]?=some (.p (bF a)):=by rw[cg,bi,FX (by omega),m];rfl
   have Q:((cg (dY A x R (j+1))).set (j+1) (.p (bF a))).set j (.p (bF x))=cg (dY A x R j):=by
    rw[cg,cg,<-FW m,b1,b1];rfl
   have f:(cg (dY A x R (j+1))).length=n:=by rw[cg,b2,zR,T];omega
   have y:av.wrap (j:Int)=j:=aN _ (by omega) (by omega);generalize S:cg (dY A x R (j+1))=M at*;have u:¬M=[]:=by intro h;rw[h]at f;simp at f;omega
   have v:j+1<n:=by omega
   have w:j<n:=by omega
   have r:∀h,M[j+1]'h=.p (bF x):=fun h=>(a1.1 g).2;have s:∀h,M[j]'h=.p (bF a):=fun h=>(a1.1 k).2
   by_cases hq:c x a<0
   ·rw[if_pos (J.1 hq)]at e;simp[ad,u,v,w,g,k,r,s,f,y];refine⟨by omega,?_⟩;refine Go.au.e2 E ?_;simp[ad,u,v,w,g,k,r,s,f,y,hq];rw[Q];refine⟨by omega,by repeat' first|rfl|apply am,?_⟩;exact rd j ⟨by omega,e⟩ (hr2:=by simp[o])
   ·rw[if_neg (fun h=>hq (J.2 h))]at e;rw[e]at t;simp[ad,u,v,w,g,k,r,s,f,y];refine⟨by omega,?_⟩;refine Go.au.e2 E ?_;simp[ad,u,v,w,g,k,r,s,f,y,hq,L];rw[<-S,t,<-D];exact rd (i+1) ⟨by omega,by omega⟩ (hr2:=by simp[o])
 ·obtain rfl:i=n:=by omega
  simp[H,ad]
end Go.au
