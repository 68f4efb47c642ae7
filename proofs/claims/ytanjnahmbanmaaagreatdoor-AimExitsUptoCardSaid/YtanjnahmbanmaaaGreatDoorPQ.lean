import Derived.Test.YtanjnahmbanmaaaGreatDoorPK
import Derived.Test.YtanjnahmbanmaaaGreatDoorThE
/- Parts of a proof. -/
set_option linter.unusedSimpArgs false
set_option linter.unusedVariables false
set_option linter.unusedSectionVars false
open Go.Proofs.Tryz
open And renaming intro->am
open Go.IntKind renaming i64->ao
open Int renaming tmod_eq_emod_of_nonneg->ap, natCast_emod->av
open List renaming drop_eq_getElem_cons->ax, mem_of_getElem?->ay, mem_cons_of_mem->aT, mem_cons_self->a0, length_take->a1, range->a4, length_range->a5, getElem_mem->a6, length_map->a7, map_cons->a8, mem_map->a9, getElem?_eq_none->bb, mem_iff_getElem->bd, getElem?_range->be, getElem_take->bi, getElem?_map->bl, length_cons->bo, mem_filter->bp, mem_range->bv, map_take->b0, map_nil->b1
namespace Go.az
open Go.Proofs
set_option maxHeartbeats 4000000
set_option maxRecDepth 100000
def fc(p:dO):PV:=.st 160 [.str p.name,.int .i64 p.eE,.str p.a,.str p.b]
def gn(p:ft):PV:=.st 123 [.str p.name,dA p.pt]
def di(t:aC):PV:=.st 54 [.seq (t.cs.map cj),.int .i64 t.dK,.seq (t.bj.map fc),.seq (t.aP.map gn)]
@[simp] theorem aJZ(p:dO):aJ (fc p)=.agg 160:=rfl
@[simp] theorem aIF(p:dO):bV (fc p)=[.str p.name,.int .i64 p.eE,.str p.a,.str p.b]:=rfl
@[simp] theorem aJ4(p:ft):aJ (gn p)=.agg 123:=rfl
@[simp] theorem aIK(p:ft):bV (gn p)=[.str p.name,dA p.pt]:=rfl
@[simp] theorem aJ7(t:aC):aJ (di t)=.agg 54:=rfl
@[simp] theorem aIM(t:aC):bV (di t)=[.seq (t.cs.map cj),.int .i64 t.dK,.seq (t.bj.map fc),.seq (t.aP.map gn)]:=rfl
theorem WV(p:dR):au prog 178 [cj p] (.bool (fG p)):=by
 obtain⟨x,y⟩:=p;refine aM nf E5 mix (by simp[f178]) ?_;have e1:max x y=if x<y then y else x:=by split<;>omega
 have e2:min x y=if y<x then y else x:=by split<;>omega
 rw[fG,e1,e2]
 by_cases h:(if x<y then y else x)<=10000
 ·have a:¬10000<(if x<y then y else x):=by omega
  by_cases b:(if y<x then y else x)< -10000
  ·simp[f178,ad,h,a,b]
  ·simp[f178,ad,h,a,b]
 ·have a:10000<(if x<y then y else x):=by omega
  simp[f178,ad,h,a]
def idxFrom{α:Type}(p:α->Bool):List α->Nat->Int
 |[],_=>-1
 |x::r,i=>if p x then(i:Int)else idxFrom p r (i+1)
theorem tt{α:Type}(p:α->Bool):∀(l:List α)(i:Nat),decide (0<=idxFrom p l i)=l.any p
 |[],i=>by simp[idxFrom]
 |x::r,i=>by
  by_cases h:p x
  ·simp[idxFrom,h]
  ·simp[idxFrom,h,tt p r]
theorem PS(l:List dR)(h:l.length<=1000000):
 au prog 260 [.seq (l.map cj),.func 178 [] []] (.int .i64 (idxFrom fG l 0)):=by
 refine aM nf Ea mix (by simp[f260]) ?_;simp[f260];refine lp (α:=Nat) (fun i=>⟨[(8,.p (.int .i64 i)),(7,.p (.int .i64 l.length)),(1,.p (.func 178 [] [])),(0,.p (.seq (l.map cj)))],[]⟩) (fun i=>i<=l.length/\idxFrom fG l 0=idxFrom fG (l.drop i) i) (fun i=>l.length-i) 0 (by simp) ?_;rintro i ⟨k1,k2⟩
 by_cases hi:i<l.length
 ·rw[ax hi]at k2;have b:=cQ (i:=i) (by omega);simp[hi];refine c1 (WV l[i]) ?_
  by_cases a:fG l[i]
  ·simp[idxFrom,a]at k2;simp[a,k2]
  ·simp[idxFrom,a]at k2;simp[a,b];exact rd (i+1) ⟨hi,k2⟩
 ·have:i=l.length:=by omega
  subst this;simp[idxFrom]at k2;simp[k2]
theorem PC(l:List dR)(h:l.length<=1000000):
 au prog 177 [.seq (l.map cj),.func 178 [] []] (.bool (l.any fG)):=by
 refine aM nf E6 mix (by simp[f177]) ?_;simp[f177];refine c2 (PS l h) ?_;simp[<-tt fG l 0]
def lW(l:List dR):List (PV×PV):=l.map (fun p=>(cj p,PV.bool true))
theorem EJ{p q:dR}(h:¬p=q):¬(p.x=q.x/\p.y=q.y):=fun⟨a,b⟩=>h (by cases p;cases q;simp_all)
theorem X3(a b c d:Int):iC prog 9 179 (.st 178 [.int .i64 a,.int .i64 b]) (.st 178 [.int .i64 c,.int .i64 d])=some ((a==c)&&((b==d)&&true)):=by kernel_rfl
@[simp] theorem zS(p q:dR):iC prog 9 179 (cj p) (cj q)=some (decide (p=q)):=by
 rw[cj,cj,X3]
 by_cases h:p=q
 ·subst h;simp
 ·rw[decide_eq_false h];have:=EJ h
  by_cases a:p.x=q.x
  ·have b:¬p.y=q.y:=fun b=>this ⟨a,b⟩;simp[a,b]
  ·simp[a]
theorem EI(p q:dR):j0 (cj p) (cj q)=some (decide (p=q)):=by
 by_cases h:p=q
 ·subst h;simp[cj,j0,vp]
 ·rw[decide_eq_false h];have:=EJ h
  by_cases a:p.x=q.x
  ·have b:¬p.y=q.y:=fun b=>this ⟨a,b⟩;simp[cj,j0,vp,a,beq_false_of_ne b]
  ·simp[cj,j0,vp,beq_false_of_ne a]
theorem X1(p q:dR):qR prog 179 (cj p) (cj q)=some (decide (p=q)):=by
 have e1:=zS p q;have e2:=EI p q;rw[cj]at e1 e2⊢;rw[qR,e1,e2];simp
@[simp] theorem D1(q:dR):∀l:List dR,fL prog 179 (lW l) (cj q)=some (if q∈l then some (.bool true)else none)
 |[]=>rfl
 |p::r=>by
  rw[lW,a8,fL,X1]
  by_cases h:q=p
  ·simp[h]
  ·have:=D1 q r;rw[lW]at this;simp[h,this]
theorem PN{q:dR}{l:List dR}(h:¬q∈l):lD prog 179 (lW l) (cj q)=some none:=by
 have:=D1 q l;rw[if_neg h]at this;rw[cj]at this⊢;rw[lD,this]
theorem D2{q:dR}:∀{l:List dR},¬q∈l->gh (lW l) (cj q) (.bool true)=lW (l++[q])
 |[],_=>rfl
 |p::r,h=>by
  have a:¬q=p:=fun e=>h (e▸a0);have b:¬q∈r:=fun e=>h (aT _ e);have:=D2 b;rw[lW]at this⊢;rw[a8,gh,EI,this];simp[a,lW]
theorem aE8:qS prog 179=true:=by kernel_rfl
@[simp high] theorem aHL(c:Bool)(H:aj)(p q:dR):iX prog .neq 179 c H (.p (cj p)) (.p (cj q))=some (True,{v:=.p (.bool !(decide (p=q)))}):=by
 have e:=zS p q;rw[cj,cj]at*;simp[iX,e,aE8]
@[simp high] theorem aIt(q:dR):fM prog 179 (cj q)=true:=by
 have e1:=zS q q;rw[cj]at e1⊢;rw[fM];simp[e1]
theorem Qe(a c:dR):ku a a c=0:=by simp[ku]
theorem PO(a b:dR):ku a b a=0:=by simp[ku]
theorem P5{t:aC}(e:3<=t.cs.length){j k:Nat}(c:j<t.cs.length)(hk:k<t.cs.length)(d:j≠k)(b:t.at j=t.at k):t.fB=false:=by
 rw[aC.fB,decide_eq_false_iff_not];intro h
 by_cases hx:k=t.nx j
 ·obtain⟨m,m1,m2,m3⟩:∃m,m<t.cs.length/\m≠j/\m≠k:=by
   rcases Nat.lt_trichotomy j k with a|a|a
   ·by_cases e0:j=0
    ·by_cases e1:k=1
     ·exact⟨2,by omega,by omega,by omega⟩
     ·exact⟨1,by omega,by omega,by omega⟩
    ·exact⟨0,by omega,by omega,by omega⟩
   ·exact(d a).elim
   ·by_cases e0:k=0
    ·by_cases e1:j=1
     ·exact⟨2,by omega,by omega,by omega⟩
     ·exact⟨1,by omega,by omega,by omega⟩
    ·exact⟨0,by omega,by omega,by omega⟩
  have:=h j c m m1 m2 (hx▸m3);rw[<-hx,<-b,Qe]at this;omega
 ·have:=h j c k hk (Ne.symm d) hx;rw[<-b,PO]at this;omega
theorem Qh(t:aC)(ai:3<=t.cs.length)(aj:t.cs.length<=1000000)(F:∀p∈t.cs,dM p):au prog 179 [di t] (.bool t.fB):=by
 refine aM nf E4 mix (by simp[f179]) ?_;generalize q:t.cs.length=n at*;simp[f179,ad,q];refine lp (α:=Nat) (fun i=>⟨[(16,.p (.int .i64 i)),(15,.p (.int .i64 n)),(14,.p (.seq (t.cs.map cj))),(3,.map 1),(1,.ptr 0 [])],[.box false (.p (di t)),.map false (lW (t.cs.take i))]⟩) (fun i=>i<=n/\∀j k,j<k->k<i->t.at j≠t.at k) (fun i=>n-i) 0 (by simp) ?_ (hh:=by simp[lW]);rintro i ⟨ah,E⟩
 by_cases hi:i<n
 ·have H:=aC.get (t:=t) (i:=i) (by omega);have z:=cQ (i:=i) (by omega);have W:t.cs.take (i+1)=t.cs.take i++[t.at i]:=by rw[List.take_add_one,H];rfl
  simp[-fM,hi,q,H,ad]
  by_cases f:t.at i∈t.cs.take i
  ·obtain⟨j,s,r⟩:=bd.1 f;rw[a1]at s;rw[bi,aC.aN (by omega)]at r;have Q:=P5 (by omega) (j:=j) (k:=i) (by omega) (by omega) (by omega) r;simp[f,Q]
  ·have hI:=PN f;have I:=D2 f;rw[<-W]at I;simp[-fM,-lD,f,hI,I,z];exact rd (i+1) ⟨hi,fun j k w hk=>by
    by_cases T:k=i
    ·subst T;intro r;exact f (r▸ay (i:=j) (by rw[List.getElem?_take,if_pos w];exact aC.get (by omega)))
    ·exact E j k w (by omega)⟩
 have R:i=n:=by omega
 subst R;have inj:∀j k,j<i->k<i->t.at j=t.at k->j=k:=fun j k s hk r=>by
  rcases Nat.lt_trichotomy j k with h|h|h
  ·exact(E j k h hk r).elim
  ·exact h
  ·exact(E k j h s r.symm).elim
 simp[q,ad];refine lp (α:=Nat) (fun m=>⟨[(32,.p (.int .i64 m)),(31,.p (.int .i64 i)),(30,.p (.seq (t.cs.map cj))),(6,.p (.int .i64 i)),(1,.ptr 0 [])],[.box false (.p (di t))]⟩) (fun m=>m<=i/\∀j,j<m->t.mG j i) (fun m=>i-m) 0 (by simp) ?_;rintro m ⟨g1,g2⟩;have U:¬i=0:=by omega
 by_cases f:m<i
 ·have M:=aC.get (t:=t) (i:=m) (by omega);have z:=cQ (i:=m) (by omega);have V:t.nx m<i:=by rw[<-q];exact t.jw (by omega) m
  have N:=aC.get (t:=t) (i:=t.nx m) (by omega);have e1:((m:Int)+1).tmod (i:Int)=((t.nx m:Nat):Int):=by
   rw[aC.nx,q,av,ap (by omega)];rfl
  simp[f,q,M,N,z,e1,U,ad];refine⟨by repeat' first|rfl|apply am,?_⟩;refine lp (α:=Nat) (fun k=>⟨[(48,.p (.int .i64 k)),(47,.p (.int .i64 i)),(46,.p (.seq (t.cs.map cj))),(9,.ptr 2 []),(8,.ptr 1 []),(32,.p (.int .i64 m)),(31,.p (.int .i64 i)),(30,.p (.seq (t.cs.map cj))),(6,.p (.int .i64 i)),(1,.ptr 0 [])],[.box false (.p (di t)),.box false (.p (cj (t.at m))),.box false (.p (cj (t.at (t.nx m))))]⟩) (fun k=>k<=i/\t.mG m k) (fun k=>i-k) 0 (by simp[aC.mG]) ?_;rintro k ⟨q1,D⟩
  by_cases hk:k<i
  ·have gk:=aC.get (t:=t) (i:=k) (by omega);have G:=cQ (i:=k) (by omega)
   by_cases c1:t.at k=t.at m
   ·have:=inj _ _ hk f c1;subst this;simp[-iX,iX.eq_1,hk,gk,G,ad];exact rd (k+1) ⟨hk,fun j s=>by
     by_cases w:j=k
     ·intro h;exact(h w).elim
     ·exact D j (by omega)⟩
   ·by_cases c2:t.at k=t.at (t.nx m)
    ·have:=inj _ _ hk V c2;have c3:¬t.at (t.nx m)=t.at m:=by rw[<-c2];exact c1
     simp[-iX,iX.eq_1,hk,gk,G,c2,c3,ad];exact rd (k+1) ⟨hk,fun j s=>by
      by_cases w:j=k
      ·intro _ h;exact(h (by omega)).elim
      ·exact D j (by omega)⟩
    ·have L:k≠m:=fun e=>c1 (by rw[e]);have nx:k≠t.nx m:=fun e=>c2 (by rw[e]);have P:ku (t.at m) (t.at (t.nx m)) (t.at k)=((t.at (t.nx m)).x-(t.at m).x)*((t.at k).y-(t.at m).y)-((t.at (t.nx m)).y-(t.at m).y)*((t.at k).x-(t.at m).x):=rfl;have X:=aC.eJ F (i:=m) (by omega);have Y:=aC.eJ F (i:=t.nx m) (by omega);have Z:=aC.eJ F (i:=k) (by omega);have K:t.mG m (k+1)↔0<ku (t.at m) (t.at (t.nx m)) (t.at k):=⟨fun h=>h k (by omega) L nx,fun h j s u v=>by
      by_cases w:j=k
      ·subst w;exact h
      ·exact D j (by omega) u v⟩
     have J:¬0<ku (t.at m) (t.at (t.nx m)) (t.at k)->t.fB=false:=fun h=>by
      rw[aC.fB,decide_eq_false_iff_not];intro O;exact h (O m (by omega) k (by omega) L nx)
     rw[P]at K J;simp[-iX,iX.eq_1,hk,gk,G,c1,c2,ad];simp only[dM]at X Y Z;generalize t.at m=A at*;generalize t.at (t.nx m)=B at*;generalize t.at k=C at*;obtain⟨c,d⟩:=A;obtain⟨bx,g⟩:=B;obtain⟨l,o⟩:=C;dsimp only at*;have w1:ao.wrap (bx-c)=bx-c:=aO _ (by omega) (by omega);have aa:ao.wrap (o-d)=o-d:=aO _ (by omega) (by omega);have ab:ao.wrap (g-d)=g-d:=aO _ (by omega) (by omega)
     have ac:ao.wrap (l-c)=l-c:=aO _ (by omega) (by omega);have ak:=vK (a:=bx-c) (b:=o-d) (A:=20000) (B:=20000) (by omega) (by omega) (by omega) (by omega);have al:=vK (a:=g-d) (b:=l-c) (A:=20000) (B:=20000) (by omega) (by omega) (by omega) (by omega);have ae:ao.wrap ((bx-c)*(o-d))=(bx-c)*(o-d):=aO _ (by omega) (by omega);have af:ao.wrap ((g-d)*(l-c))=(g-d)*(l-c):=aO _ (by omega) (by omega);have ag:ao.wrap ((bx-c)*(o-d)-(g-d)*(l-c))=(bx-c)*(o-d)-(g-d)*(l-c):=aO _ (by omega) (by omega);simp[w1,aa,ab,ac,ae,af,ag]
     by_cases hc:(bx-c)*(o-d)-(g-d)*(l-c)<=0
     ·have:=J (by omega);simp[hc,this]
     ·simp[hc];exact rd (k+1) ⟨hk,K.2 (by omega)⟩
  ·have:k=i:=by omega
   subst this;simp[z];exact rd (m+1) ⟨f,fun j s=>by
    by_cases S:j=m
    ·subst S;exact D
    ·exact g2 j (by omega)⟩
 ·have:m=i:=by omega
  subst this;have:t.fB=true:=by
   rw[aC.fB,decide_eq_true_eq,q];exact g2
  simp[this]
noncomputable def iZ(v:NV):PV:=.st 270 [eF v.x,eF v.y]
@[simp] theorem aJ6(v:NV):aJ (iZ v)=.agg 270:=rfl
@[simp] theorem aIL(v:NV):bV (iZ v)=[eF v.x,eF v.y]:=rfl
@[simp] theorem aH0:prog.cellsOf 270=8:=by kernel_rfl
theorem zT(x y:NF):iZ ⟨x,y⟩=.st 270 [eF x,eF y]:=rfl
noncomputable def sP(a b:NV):PV:=.st 333 [iZ a,iZ b]
@[simp] theorem aJO(a b:NV):aJ (sP a b)=.agg 333:=rfl
@[simp] theorem aIv(a b:NV):bV (sP a b)=[iZ a,iZ b]:=rfl
theorem WX(p:cW)(d:bU p.x=0)(e:bU p.y=0)(a:ir p):au prog 210 [dA p] (iZ (.from p)):=by
 have b:=kM p.x d a.1.1;have c:=kM p.y e a.2.1;refine aM nf Ed mix (by simp[f210]) ?_;rw[NV.from,zT];simp[f210,ad];refine e1 b ?_;simp[ad];refine e1 c ?_;simp[ad]
def cF(p:dR):NV:=⟨.int p.x,.int p.y⟩
theorem DG(p:dR)(h:dM p):au prog 351 [cj p] (iZ (cF p)):=by
 simp only[dM]at h;have a:=mw p.x (by omega) (by omega);have b:=mw p.y (by omega) (by omega);refine aM nf Ei mix (by simp[f351]) ?_;rw[cF,zT];simp[f351,ad];refine e1 a ?_;simp[ad];refine e1 b ?_;simp[ad]
theorem Ex(v w:NV)(a:b7 kQ v.q)(b:b7 kQ w.q):au prog 279 [iZ v,iZ w] (iZ (v.sub w)):=by
 have c:=oK v.x w.x (dB a.1) (dB b.1);have d:=oK v.y w.y (dB a.2) (dB b.2);refine aM nf En mix (by simp[f279]) ?_;rw[NV.sub,zT];simp[f279,ad];refine e2 c ?_;simp[ad];refine e2 d ?_;simp[ad]
theorem P7(v w:NV)(a:b7 kQ v.q)(b:b7 kQ w.q):au prog 280 [iZ v,iZ w] (eF (v.bF w)):=by
 have c:=iB v.x w.y (dB a.1) (dB b.2);have d:=iB v.y w.x (dB a.2) (dB b.1);have e:=oK (v.x.mul w.y) (v.y.mul w.x) ((jz a.1 b.2).mono (by decide)) ((jz a.2 b.1).mono (by decide));refine aM nf Em mix (by simp[f280]) ?_;rw[NV.bF];simp[f280,ad];refine e2 c ?_;simp[ad];refine e2 d ?_;simp[ad];refine e2 e ?_;simp[ad]
theorem WU(t:aC)(i:Nat)(hi:i<t.cs.length)(k:t.cs.length<=1000000)(g:∀p∈t.cs,dM p):au prog 327 [di t,.int .i64 i] (sP (cF (t.at i)) (cF (t.at (t.nx i)))):=by
 have a:=t.jw (by omega) i;have h:=DG (t.at i) (aC.eJ g hi);have j:=DG (t.at (t.nx i)) (aC.eJ g a);have w1:=cQ (i:=i) (by omega);have e1:((i:Int)+1).tmod (t.cs.length:Int)=((t.nx i:Nat):Int):=by
  rw[aC.nx,av,ap (by omega)];rfl
 have f:¬t.cs.length=0:=by omega
 have d:¬t.cs=[]:=by intro e;rw[e]at hi;simp at hi
 have b:=aC.get hi;have c:=aC.get a;refine aM nf Ej mix (by simp[f327]) ?_;rw[sP];simp[f327,ad,w1,e1,f,d,b,c,hi,a];refine Go.az.e1 h ?_;simp[ad,w1,e1,f,d,b,c,hi,a];refine Go.az.e1 j ?_;simp[ad,w1,e1,f,d,b,c,hi,a]
theorem WZ(t:aC):au prog 278 [di t] (.func 326 [] [.bZ (di t)]):=by
 refine aM nf Eo mix (by simp[f278]) ?_;simp[f278];show fR [.box false (.p (di t))] 7 (.p (di t)) (di t);rw[vX];exact Wk.refl _
noncomputable def vW(t:aC)(i:Nat):List PV:=[.int .i64 i,sP (cF (t.at i)) (cF (t.at (t.nx i)))]
theorem zC{t:aC}{i:Nat}(h:i<t.cs.length):((a4 t.cs.length).map (vW t))[i]?=some (vW t i):=by
 rw[bl,be h];rfl
theorem aF8(t:aC)(g:t.cs.length<=1000000)(h:∀p∈t.cs,dM p):Stream prog 326 [] [.bZ (di t)] ((a4 t.cs.length).map (vW t)):=by
 intro b k e H' hk a l d;rw[a7,a5]at hk d;refine jk nf Ek mix (by simp[f326]) ?_;simp[f326,ad];refine lp (α:=Nat) (fun i=>⟨[(7,.p (.int .i64 i)),(6,.p (.int .i64 t.cs.length)),(1,.p (.bZ (di t))),(0,.map b)],e i⟩) (fun i=>i<=k) (fun i=>k-i) 0 (by simp) ?_ (hr:=by simp;exact(a 0 (by omega)).2) (hr2:=(a 0 (by omega)).1);rintro i m
 by_cases hi:i<t.cs.length
 ·have f:=WU t i hi g h;have j:=cQ (i:=i) (by omega);simp[hi];refine c2 f ?_;simp
  by_cases c:i<k
  ·refine⟨e (i+1),_,l i _ c (zC hi),?_⟩;simp[j];exact rd (i+1) c (hr:=by simp;exact(a (i+1) c).2) (hr2:=(a (i+1) c).1)
  ·have:i=k:=by omega
   subst this;rcases d with⟨e1,_⟩|⟨y,e1,e2⟩
   ·omega
   ·rw[zC hi]at e1;injection e1 with e1
    subst e1;refine⟨H',_,e2,?_⟩;simp
 ·have:i=t.cs.length:=by omega
  subst this;rcases d with⟨e1,e2⟩|⟨y,e1,e2⟩
  ·have:t.cs.length=k:=by omega
   subst this;simp[e2]
  ·rw[bb (by simp;omega)]at e1;cases e1
noncomputable def vz(t:aC)(v:NV)(L:dD)(i:Nat):aj:=[.box false (.p (di t)),.box false (.p (iZ v)),.box false (.p (.int .i64 (t.lQ v.q i))),.loop L]
theorem WY(t:aC)(v:NV)(m:t.cs.length<=1000000)(c:∀p∈t.cs,dM p)(g:b7 3000 v.q):au prog 211 [di t,iZ v] (.int .i64 (t.on v.q)):=by
 refine aM nf Ec mix (by simp[f211]) ?_;simp[f211,ad];refine c1 (WZ t) ?_;simp;refine rf (aF8 t m c) rfl (by simp) (vz t v) t.cs.length (by simp) (fun L=>rfl) ?_ ?_ ?_
 ·intro L a i hi;refine⟨rfl,by simp[vz],fun _ hx=>?_⟩;simp[vz]at hx⊢;exact hx
 ·intro L a i x hi hx;rw[zC hi]at hx;injection hx with hx
  subst hx;have b:=iv (aC.eJ c hi);have h:=iv (aC.eJ c (t.jw (by omega) i));have q1:b7 29 ((cF (t.at (t.nx i))).sub (cF (t.at i))).q:=by rw[NV.iK];exact kL h b
  have n:b7 3015 (v.sub (cF (t.at i))).q:=by rw[NV.iK];exact kL g b
  have j:=Ex (cF (t.at (t.nx i))) (cF (t.at i)) (h.mono (by decide)) (b.mono (by decide));have k:=Ex v (cF (t.at i)) (g.mono (by decide)) (b.mono (by decide));have l:=P7 ((cF (t.at (t.nx i))).sub (cF (t.at i))) (v.sub (cF (t.at i))) (q1.mono (by decide)) (n.mono (by decide));have e:=oN (((cF (t.at (t.nx i))).sub (cF (t.at i))).bF (v.sub (cF (t.at i))));have d:cV (((cF (t.at (t.nx i))).sub (cF (t.at i))).bF (v.sub (cF (t.at i)))).q=t.side i v.q:=by
   rw[NV.lZ,NV.iK,NV.iK];rfl
  rw[cV]at d;rw[d]at e;have hs:=aC.zy t v.q i;rw[Eh]at hs;refine nN nf mix a rfl rfl (by kernel_rfl) ?_;have f:=congrArg dD.env a;dsimp only at f;clear a d;generalize (cF (t.at (t.nx i))).sub (cF (t.at i))=W at*;generalize v.sub (cF (t.at i))=U at*;generalize W.bF U=C at*;simp[vz,vW,sP,ad];refine e2 j ?_;simp[ad];refine e2 k ?_;simp[ad];refine e2 l ?_;simp[ad];refine e1 e ?_;simp[ad];refine⟨by repeat' first|rfl|apply am,?_⟩;rw[<-hs];refine dd.og (by simp) (by simp) (by simp) (by simp) ?_;simp;exact o5 f (by simp)
 ·intro L a;refine .inl ⟨by simp,?_⟩;simp[vz,aC.on]
theorem DI(s:List Nat)(hs:jn s)(h:bU s=0):au prog 265 [.str s] (.int .i64 (fk (aZ s))):=by
 have o:=gP h;have d:=kM s h hs.1;have c:=oN ⟨aZ s,false⟩;have g:=mw 1 (by decide) (by decide);have e:=sJ ⟨aZ s,false⟩ (.int 1) (o.mono (by decide)) ((show bt 1 (NF.int 1).q from⟨by decide,by decide⟩).mono (by decide));have e2:(if(⟨aZ s,false⟩:NF).q<0 then(-1:Int)else if(⟨aZ s,false⟩:NF).q=0 then 0 else 1)=cV (aZ s):=rfl;have e4:dG (⟨aZ s,false⟩:NF).q (NF.int 1).q=dG (aZ s) 1:=rfl;rw[e2]at c;rw[e4]at e;have f:=fun b=>jv b 3;refine aM nf D7 mix (by simp[f265]) ?_;rw[fk];clear e2 e4 o;generalize cV (aZ s)=x at*;generalize dG (aZ s) 1=y at*;generalize (⟨aZ s,false⟩:NF)=v at*
 by_cases a:x<0
 ·simp[f265,ad];refine c1 d ?_;simp[ad];refine Go.az.e1 c ?_;simp[a,ad];refine Go.az.e2 (f true) ?_;simp[bf];omega
 ·by_cases b:0<y
  ·simp[f265,ad];refine c1 d ?_;simp[ad];refine Go.az.e1 c ?_;simp[a,ad];refine Go.az.e1 g ?_;simp[a,ad];refine Go.az.e2 e ?_;simp[a,b,ad];refine Go.az.e2 (f true) ?_;simp[bf];omega
  ·simp[f265,ad];refine c1 d ?_;simp[ad];refine Go.az.e1 c ?_;simp[a,ad];refine Go.az.e1 g ?_;simp[a,ad];refine Go.az.e2 e ?_;simp[a,b,ad];refine Go.az.e2 (f false) ?_;simp[bf];omega
def o7(p:dO):Prop:=qX p/\bU p.a=0/\bU p.b=0
theorem WW(p o:dO)(r:o7 p)(q:o7 o):au prog 264 [fc p,fc o] (.bool (gz o p)):=by
 obtain⟨⟨_,u,v⟩,l,m⟩:=r;obtain⟨⟨_,s,t⟩,j,k⟩:=q;have d:=kM p.a l u.1;have e:=kM o.b k t.1;have c:=sJ ⟨aZ p.a,false⟩ ⟨aZ o.b,false⟩ ((gP l).mono (by decide)) ((gP k).mono (by decide));have g:=kM o.a j s.1;have i:=kM p.b m v.1;have f:=sJ ⟨aZ o.a,false⟩ ⟨aZ p.b,false⟩ ((gP j).mono (by decide)) ((gP m).mono (by decide));dsimp only at c f;refine aM nf D8 mix (by simp[f264]) ?_;rw[gz];generalize dG (aZ p.a) (aZ o.b)=x at*;generalize dG (aZ o.a) (aZ p.b)=y at*;generalize (⟨aZ p.a,false⟩:NF)=v1 at*;generalize (⟨aZ p.b,false⟩:NF)=v2 at*;generalize (⟨aZ o.a,false⟩:NF)=v3 at*;generalize (⟨aZ o.b,false⟩:NF)=v4 at*
 by_cases c1:o.eE=p.eE
 case neg=>
  have n:¬p.eE=o.eE:=fun h=>c1 h.symm;simp[f264,ad,c1,n]
 by_cases c2:x<=0
 ·by_cases c3:y<=0
  ·simp[f264,ad,c1];refine Go.az.e1 d ?_;simp[ad,c1];refine Go.az.e1 e ?_;simp[ad,c1];refine Go.az.e2 c ?_;simp[ad,c1,c2];refine Go.az.e1 g ?_;simp[ad,c1,c2];refine Go.az.e1 i ?_;simp[ad,c1,c2];refine Go.az.e2 f ?_;simp[ad,c1,c2,c3]
  ·simp[f264,ad,c1];refine Go.az.e1 d ?_;simp[ad,c1];refine Go.az.e1 e ?_;simp[ad,c1];refine Go.az.e2 c ?_;simp[ad,c1,c2];refine Go.az.e1 g ?_;simp[ad,c1,c2];refine Go.az.e1 i ?_;simp[ad,c1,c2];refine Go.az.e2 f ?_;simp[ad,c1,c2,c3]
 ·simp[f264,ad,c1];refine Go.az.e1 d ?_;simp[ad,c1];refine Go.az.e1 e ?_;simp[ad,c1];refine Go.az.e2 c ?_;simp[ad,c1,c2]
theorem P3(p o:dO):de prog 262 [.box false (.p (fc p))] [.p (fc o),.ptr 0 []] [.box false (.p (fc p))] (.p (.bool (decide (o.name=p.name)))):=by
 refine jk nf D9 mix (by simp[f262]) ?_
 by_cases h:o.name=p.name
 ·simp[f262,ad,h];exact dd.og (by simp) (by simp) (by simp) (by simp) (by simp)
 ·simp[f262,ad,h];exact dd.og (by simp) (by simp) (by simp) (by simp) (by simp)
theorem Qd(p:dO)(l:List dO)(h:l.length<=1000000):
 de prog 215 [.box false (.p (fc p))] [.p (.seq (l.map fc)),.func 262 [] [.ptr 0 []]] [.box false (.p (fc p))] (.p (.int .i64 (idxFrom (fun o=>decide (o.name=p.name)) l 0))):=by
 refine jk nf zI mix (by simp[f215]) ?_;simp[f215];refine lp (α:=Nat) (fun i=>⟨[(8,.p (.int .i64 i)),(7,.p (.int .i64 l.length)),(1,.func 262 [] [.ptr 0 []]),(0,.p (.seq (l.map fc)))],[.box false (.p (fc p))]⟩) (fun i=>i<=l.length/\idxFrom (fun o=>decide (o.name=p.name)) l 0=idxFrom (fun o=>decide (o.name=p.name)) (l.drop i) i) (fun i=>l.length-i) 0 (by simp) ?_;rintro i ⟨k1,k2⟩;have a:=cQ (i:=i) (by omega)
 by_cases hi:i<l.length
 ·rw[ax hi,idxFrom]at k2;simp[hi];refine cf (P3 p l[i]) [0] ?_
  by_cases hk:l[i].name=p.name
  ·simp[hk]at k2;simp[hk,k2,bk]
  ·simp[hk]at k2;simp[hk,a,bk];exact rd (i+1) ⟨hi,k2⟩
 ·have:i=l.length:=by omega
  subst this;simp[idxFrom]at k2;simp[k2]
theorem PY(p:dO)(l:List dO)(h:l.length<=1000000):
 de prog 261 [.box false (.p (fc p))] [.p (.seq (l.map fc)),.func 262 [] [.ptr 0 []]] [.box false (.p (fc p))] (.p (.bool (l.any (fun o=>decide (o.name=p.name))))):=by
 refine jk nf zH mix (by simp[f261]) ?_;simp[f261];refine cf (Qd p l h) [0] ?_;have:=tt (fun o=>decide (o.name=p.name)) l 0;simp[bk,<-this]
theorem P2(p o:ft):de prog 267 [.box false (.p (gn p))] [.p (gn o),.ptr 0 []] [.box false (.p (gn p))] (.p (.bool (decide (o.name=p.name)))):=by
 refine jk nf D5 mix (by simp[f267]) ?_
 by_cases h:o.name=p.name
 ·simp[f267,ad,h];exact dd.og (by simp) (by simp) (by simp) (by simp) (by simp)
 ·simp[f267,ad,h];exact dd.og (by simp) (by simp) (by simp) (by simp) (by simp)
theorem PJ(p:ft)(l:List ft)(h:l.length<=1000000):
 de prog 319 [.box false (.p (gn p))] [.p (.seq (l.map gn)),.func 267 [] [.ptr 0 []]] [.box false (.p (gn p))] (.p (.int .i64 (idxFrom (fun o=>decide (o.name=p.name)) l 0))):=by
 refine jk nf El mix (by simp[f319]) ?_;simp[f319];refine lp (α:=Nat) (fun i=>⟨[(8,.p (.int .i64 i)),(7,.p (.int .i64 l.length)),(1,.func 267 [] [.ptr 0 []]),(0,.p (.seq (l.map gn)))],[.box false (.p (gn p))]⟩) (fun i=>i<=l.length/\idxFrom (fun o=>decide (o.name=p.name)) l 0=idxFrom (fun o=>decide (o.name=p.name)) (l.drop i) i) (fun i=>l.length-i) 0 (by simp) ?_;rintro i ⟨k1,k2⟩;have a:=cQ (i:=i) (by omega)
 by_cases hi:i<l.length
 ·rw[ax hi,idxFrom]at k2;simp[hi];refine cf (P2 p l[i]) [0] ?_
  by_cases hk:l[i].name=p.name
  ·simp[hk]at k2;simp[hk,k2,bk]
  ·simp[hk]at k2;simp[hk,a,bk];exact rd (i+1) ⟨hi,k2⟩
 ·have:i=l.length:=by omega
  subst this;simp[idxFrom]at k2;simp[k2]
theorem PX(p:ft)(l:List ft)(h:l.length<=1000000):
 de prog 266 [.box false (.p (gn p))] [.p (.seq (l.map gn)),.func 267 [] [.ptr 0 []]] [.box false (.p (gn p))] (.p (.bool (l.any (fun o=>decide (o.name=p.name))))):=by
 refine jk nf D6 mix (by simp[f266]) ?_;simp[f266];refine cf (PJ p l h) [0] ?_;have:=tt (fun o=>decide (o.name=p.name)) l 0;simp[bk,<-this]
theorem P0(p:dO)(c:o7 p)(l:List dO)(h:l.length<=1000000)(b:∀o∈l,o7 o):
 au prog 215 [.seq (l.map fc),.func 264 [fc p] []] (.int .i64 (idxFrom (fun o=>gz o p) l 0)):=by
 refine aM nf zI mix (by simp[f215]) ?_;simp[f215];refine lp (α:=Nat) (fun i=>⟨[(8,.p (.int .i64 i)),(7,.p (.int .i64 l.length)),(1,.p (.func 264 [fc p] [])),(0,.p (.seq (l.map fc)))],[]⟩) (fun i=>i<=l.length/\idxFrom (fun o=>gz o p) l 0=idxFrom (fun o=>gz o p) (l.drop i) i) (fun i=>l.length-i) 0 (by simp) ?_;rintro i ⟨k1,k2⟩;have d:=cQ (i:=i) (by omega)
 by_cases hi:i<l.length
 ·rw[ax hi,idxFrom]at k2;have a:=WW p l[i] c (b _ (a6 hi));simp[hi];refine c2 a ?_;cases hk:gz l[i] p
  ·simp[hk]at k2;simp[d];exact rd (i+1) ⟨hi,k2⟩
  ·simp[hk]at k2;simp[k2]
 ·have:i=l.length:=by omega
  subst this;simp[idxFrom]at k2;simp[k2]
theorem PF(p:dO)(b:o7 p)(l:List dO)(h:l.length<=1000000)(a:∀o∈l,o7 o):
 au prog 261 [.seq (l.map fc),.func 264 [fc p] []] (.bool (l.any (fun o=>gz o p))):=by
 refine aM nf zH mix (by simp[f261]) ?_;simp[f261];refine c2 (P0 p b l h a) ?_;have:=tt (fun o=>gz o p) l 0;simp[<-this]
def kj(n:Nat)(c:List dO)(p:dO):Int:=bB [bf (!isName p.name) 8,bf (c.any fun o=>decide (o.name=p.name)) 9,bf (decide (p.eE<0\/(n:Int)<=p.eE)) 10,bU p.a,bU p.b]
def yZ(c:List dO)(p:dO):Int:=bB [fk (aZ p.a),fk (aZ p.b),bf (decide (0<dG (aZ p.a) (aZ p.b))) 11,bf (c.any fun o=>gz o p) 17]
theorem Dy(q:Rat):fk q=0\/fk q=3:=by
 rw[fk];split
 ·exact .inr rfl
 ·exact .inl rfl
theorem PW(n:Nat)(e:List dO)(p:dO):gX n e p=if kj n e p=0 then yZ e p else kj n e p:=by
 rw[gX,kj,yZ];generalize bU p.a=ca;generalize bU p.b=i;have j:=Dy (aZ p.a);have h:=Dy (aZ p.b);generalize fk (aZ p.a)=r at*;generalize fk (aZ p.b)=s at*;generalize dG (aZ p.a) (aZ p.b)=y;generalize (e.any fun o=>gz o p)=m;generalize (e.any fun o=>decide (o.name=p.name))=a;have k:max (0:Int) 3=3:=rfl;have l:max (3:Int) 0=3:=rfl;cases q:isName p.name
 ·simp[bB,bf]
 cases a
 case true=>simp[bB,bf]
 by_cases c:p.eE<0\/(n:Int)<=p.eE
 ·simp[bB,bf,c]
 by_cases d:ca=0
 case neg=>simp[bB,bf,c,d]
 by_cases f:i=0
 case neg=>simp[bB,bf,c,d,f]
 rcases j with rfl|rfl
 ·rcases h with rfl|rfl
  ·by_cases g:0<y
   ·simp[bB,bf,c,d,f,g]
   ·cases m<;>simp[bB,bf,c,d,f,g]
  ·simp[bB,bf,c,d,f,k]
 ·rcases h with rfl|rfl
  ·simp[bB,bf,c,d,f,l]
  ·simp[bB,bf,c,d,f]
theorem PM{n:Nat}{bef:List dO}{p:dO}(h:kj n bef p=0):bU p.a=0/\bU p.b=0:=by
 rw[kj,lB]at h;exact⟨h _ (by simp),h _ (by simp)⟩
theorem PE(t:aC)(p:dO)(d:List dO)(N:t.cs.length<=1000000)(I:qX p)(m:d.length<=1000000)(H:∀o∈d,o7 o):
 au prog 181 [di t,fc p,.seq (d.map fc)] (.int .i64 (gX t.cs.length d p)):=by
 obtain⟨E,j,k⟩:=I;have k1:=PY p d m;have k2:=DU p.name E.1;have k3:=jv (!isName p.name) 8;have k4:=jv (d.any fun o=>decide (o.name=p.name)) 9;have k5:=fun b=>jv b 10;have k6:=yo p.a j.1 j.2;have k7:=yo p.b k.1 k.2;have k8:=tx [bf (!isName p.name) 8,bf (d.any fun o=>decide (o.name=p.name)) 9,bf (decide (p.eE<0\/(t.cs.length:Int)<=p.eE)) 10,bU p.a,bU p.b] (by simp);have g:=PM (n:=t.cs.length) (bef:=d) (p:=p);rw[PW];have s:=fun h:kj t.cs.length d p=0=>PF p ⟨⟨E,j,k⟩,(g h).1,(g h).2⟩ d m H;have u:=fun h:kj t.cs.length d p=0=>DI p.a j (g h).1;have v:=fun h:kj t.cs.length d p=0=>DI p.b k (g h).2;have w:=fun h:kj t.cs.length d p=0=>kM p.a (g h).1 j.1;have x:=fun h:kj t.cs.length d p=0=>kM p.b (g h).2 k.1;have q:=fun h:kj t.cs.length d p=0=>sJ ⟨aZ p.a,false⟩ ⟨aZ p.b,false⟩ ((gP (g h).1).mono (by decide)) ((gP (g h).2).mono (by decide));dsimp only at q;have D:=jv (decide (0<dG (aZ p.a) (aZ p.b))) 11;have z:=jv (d.any fun o=>gz o p) 17;have i:=tx [fk (aZ p.a),fk (aZ p.b),bf (decide (0<dG (aZ p.a) (aZ p.b))) 11,bf (d.any fun o=>gz o p) 17] (by simp);have B:kj t.cs.length d p=bB [bf (!isName p.name) 8,bf (d.any fun o=>decide (o.name=p.name)) 9,bf (decide (p.eE<0\/(t.cs.length:Int)<=p.eE)) 10,bU p.a,bU p.b]:=rfl;have C:yZ d p=bB [fk (aZ p.a),fk (aZ p.b),bf (decide (0<dG (aZ p.a) (aZ p.b))) 11,bf (d.any fun o=>gz o p) 17]:=rfl;rw[<-B]at k8;rw[<-C]at i;clear B C g;generalize kj t.cs.length d p=l at*;generalize yZ d p=M at*;generalize bU p.a=J at*;generalize bU p.b=K at*;generalize fk (aZ p.a)=V at*;generalize fk (aZ p.b)=W at*;generalize dG (aZ p.a) (aZ p.b)=A at*;generalize (d.any fun o=>decide (o.name=p.name))=F at*;generalize (d.any fun o=>gz o p)=L at*;generalize isName p.name=G at*;generalize (⟨aZ p.a,false⟩:NF)=v1 at*;generalize (⟨aZ p.b,false⟩:NF)=v2 at*;refine aM nf E0 mix (by simp[f181]) ?_;have r:∀b:Bool,decide (p.eE<0\/(t.cs.length:Int)<=p.eE)=b->au prog 176 [.bool b,.int .i64 10] (.int .i64 (bf b 10))/\au prog 175 [.seq [.int .i64 (bf (!G) 8),.int .i64 (bf F 9),.int .i64 (bf b 10),.int .i64 J,.int .i64 K]] (.int .i64 l):=fun b m=>by
  rw[m]at k8;exact⟨k5 b,by simpa using k8⟩
 simp at i;have y:au prog 176 [.bool (decide (0<A)),.int .i64 11] (.int .i64 (bf (decide (0<A)) 11)):=D;clear k5 k8 D;generalize O:bf (!G) 8=w1 at*;generalize P:bf F 9=S at*;generalize Q:bf (decide (0<A)) 11=T at*;generalize R:bf L 17=U at*;simp[f181,-aH,ad];rw[aH];simp[-aH,ad];rw[aH];simp[-aH,ad];refine cf k1 [1] ?_;simp[-aH,ad,bk,sig]
 by_cases e:p.eE<0
 ·obtain⟨f1,f2⟩:=r true (by simp[e]);rw[aH,aH];simp[-aH,ad];refine Go.az.e1 k2 ?_;simp[-aH,ad];refine Go.az.e2 k3 ?_;simp[-aH,ad];refine Go.az.e2 k4 ?_;simp[-aH,ad,e];refine Go.az.e2 f1 ?_;simp[-aH,ad,e];refine Go.az.e1 k6 ?_;simp[-aH,ad,e];refine Go.az.e1 k7 ?_;simp[-aH,ad,e];refine ep f2 (by simp;first|exact⟨rfl,rfl⟩|rfl) (by simp;first|exact⟨rfl,rfl⟩|rfl) ?_;simp[-aH,ad,e];refine⟨by repeat' first|rfl|apply am,?_⟩
  by_cases c:l=0
  case neg=>simp[c,ad]
  simp[c,ad];refine Go.az.c2 (s c) ?_;simp[ad];refine Go.az.e1 (u c) ?_;simp[ad];refine Go.az.e1 (v c) ?_;simp[ad];refine Go.az.e1 (w c) ?_;simp[ad];refine Go.az.e1 (x c) ?_;simp[ad];refine Go.az.e2 (q c) ?_;simp[ad];refine Go.az.e2 y ?_;simp[ad];refine Go.az.e2 z ?_;simp[ad];refine ep i (by simp;first|exact⟨rfl,rfl⟩|rfl) (by simp;first|exact⟨rfl,rfl⟩|rfl) ?_;simp[ad];exact⟨by repeat' first|rfl|apply am,fun h=>(h c).elim⟩
 by_cases f:(t.cs.length:Int)<=p.eE
 ·obtain⟨f1,f2⟩:=r true (by simp[e,f]);rw[aH,aH];simp[-aH,ad];refine Go.az.e1 k2 ?_;simp[-aH,ad];refine Go.az.e2 k3 ?_;simp[-aH,ad];refine Go.az.e2 k4 ?_;simp[-aH,ad,e,f];refine Go.az.e2 f1 ?_;simp[-aH,ad,e,f];refine Go.az.e1 k6 ?_;simp[-aH,ad,e,f];refine Go.az.e1 k7 ?_;simp[-aH,ad,e,f];refine ep f2 (by simp;first|exact⟨rfl,rfl⟩|rfl) (by simp;first|exact⟨rfl,rfl⟩|rfl) ?_;simp[-aH,ad,e,f];refine⟨by repeat' first|rfl|apply am,?_⟩
  by_cases c:l=0
  case neg=>simp[c,ad]
  simp[c,ad];refine Go.az.c2 (s c) ?_;simp[ad];refine Go.az.e1 (u c) ?_;simp[ad];refine Go.az.e1 (v c) ?_;simp[ad];refine Go.az.e1 (w c) ?_;simp[ad];refine Go.az.e1 (x c) ?_;simp[ad];refine Go.az.e2 (q c) ?_;simp[ad];refine Go.az.e2 y ?_;simp[ad];refine Go.az.e2 z ?_;simp[ad];refine ep i (by simp;first|exact⟨rfl,rfl⟩|rfl) (by simp;first|exact⟨rfl,rfl⟩|rfl) ?_;simp[ad];exact⟨by repeat' first|rfl|apply am,fun h=>(h c).elim⟩
 ·obtain⟨f1,f2⟩:=r false (by simp[e,f]);rw[aH,aH];simp[-aH,ad];refine Go.az.e1 k2 ?_;simp[-aH,ad];refine Go.az.e2 k3 ?_;simp[-aH,ad];refine Go.az.e2 k4 ?_;simp[-aH,ad,e,f];refine Go.az.e2 f1 ?_;simp[-aH,ad,e,f];refine Go.az.e1 k6 ?_;simp[-aH,ad,e,f];refine Go.az.e1 k7 ?_;simp[-aH,ad,e,f];refine ep f2 (by simp;first|exact⟨rfl,rfl⟩|rfl) (by simp;first|exact⟨rfl,rfl⟩|rfl) ?_;simp[-aH,ad,e,f];refine⟨by repeat' first|rfl|apply am,?_⟩
  by_cases c:l=0
  case neg=>simp[c,ad]
  simp[c,ad];refine Go.az.c2 (s c) ?_;simp[ad];refine Go.az.e1 (u c) ?_;simp[ad];refine Go.az.e1 (v c) ?_;simp[ad];refine Go.az.e1 (w c) ?_;simp[ad];refine Go.az.e1 (x c) ?_;simp[ad];refine Go.az.e2 (q c) ?_;simp[ad];refine Go.az.e2 y ?_;simp[ad];refine Go.az.e2 z ?_;simp[ad];refine ep i (by simp;first|exact⟨rfl,rfl⟩|rfl) (by simp;first|exact⟨rfl,rfl⟩|rfl) ?_;simp[ad];exact⟨by repeat' first|rfl|apply am,fun h=>(h c).elim⟩
def nJ(a:List ft)(s:ft):Int:=bB [bf (!isName s.name) 8,bf (a.any fun o=>decide (o.name=s.name)) 9,dE s.pt]
theorem PT(t:aC)(b:List ft)(s:ft):iN t b s=if nJ b s=0 then bf (decide (t.on (vP s.pt)<0)) 16 else nJ b s:=by
 rw[iN,nJ];generalize dE s.pt=c;generalize (b.any fun o=>decide (o.name=s.name))=a;cases e:isName s.name
 ·simp[bB,bf]
 cases a
 case true=>simp[bB,bf]
 by_cases d:c=0
 case neg=>simp[bB,bf,d]
 simp[bB,bf,d]
theorem PK{bef:List ft}{s:ft}(h:nJ bef s=0):dE s.pt=0:=by
 rw[nJ,lB]at h;exact h _ (by simp)
theorem PZ(t:aC)(s:ft)(a:List ft)(l:t.cs.length<=1000000)(m:∀p∈t.cs,dM p)(hs:vw s)(k:a.length<=1000000):
 au prog 183 [di t,gn s,.seq (a.map gn)] (.int .i64 (iN t a s)):=by
 obtain⟨u,g⟩:=hs;have k1:=PX s a k;have k2:=DU s.name u.1;have k3:=jv (!isName s.name) 8;have k4:=jv (a.any fun o=>decide (o.name=s.name)) 9;have k6:=v7 s.pt g;have k8:=tx [bf (!isName s.name) 8,bf (a.any fun o=>decide (o.name=s.name)) 9,dE s.pt] (by simp);have c:=PK (bef:=a) (s:=s);rw[PT];have n:=fun h:nJ a s=0=>WX s.pt (lA (c h)).1 (lA (c h)).2 g;have f:=fun h:nJ a s=0=>WY t (.from s.pt) l m (l8 ⟨(gP (lA (c h)).1).mono (by decide),(gP (lA (c h)).2).mono (by decide)⟩);have q:=jv (decide (t.on (vP s.pt)<0)) 16;rw[vc]at f;have e:nJ a s=bB [bf (!isName s.name) 8,bf (a.any fun o=>decide (o.name=s.name)) 9,dE s.pt]:=rfl;rw[<-e]at k8;clear e c;generalize nJ a s=d at*;generalize t.on (vP s.pt)=y at*;generalize dE s.pt=v at*;generalize (a.any fun o=>decide (o.name=s.name))=i at*;generalize isName s.name=j at*;generalize NV.from s.pt=v1 at*;refine aM nf EY mix (by simp[f183]) ?_;have r:au prog 175 [.seq [.int .i64 (bf (!j) 8),.int .i64 (bf i 9),.int .i64 v]] (.int .i64 d):=by simpa using k8
 clear k8;generalize w:bf (!j) 8=w1 at*;generalize x:bf i 9=A at*;generalize z:bf (decide (y<0)) 16=B at*;simp[f183,ad];refine cf k1 [1] ?_;simp[ad,bk,sig];refine Go.az.e1 k2 ?_;simp[ad];refine Go.az.e2 k3 ?_;simp[ad];refine Go.az.e2 k4 ?_;simp[ad];refine Go.az.e1 k6 ?_;simp[ad];refine ep r (by simp;first|exact⟨rfl,rfl⟩|rfl) (by simp;first|exact⟨rfl,rfl⟩|rfl) ?_;simp[ad];refine⟨by repeat' first|rfl|apply am,?_⟩
 by_cases b:d=0
 case neg=>simp[b,ad]
 simp[b,ad];refine Go.az.e1 (n b) ?_;simp[ad];refine Go.az.e2 (f b) ?_;simp[ad];refine Go.az.e2 q ?_;simp[ad];exact fun h=>(h b).elim
def ky{α:Type}(b:Nat)(a:List α->α->Int)(l:List α):Int:=if b<l.length then 5 else lY a l
theorem BF{α:Type}{n:Nat}{f:α->PV}(h:∀a,ad (.p (f a))≠.bad/\bA prog (ad (.p (f a)))=n)(l:List α):eZ prog n (l.map (AV.p∘f)):=tM.2 fun v b=>by
 obtain⟨a,_,rfl⟩:=a9.1 b;exact h a
theorem Hj(l:List dO):eZ prog 4 (l.map (AV.p∘fc)):=BF (fun r=>⟨by simp[ad],by simp[ad]⟩) l
theorem Hl(l:List ft):eZ prog 3 (l.map (AV.p∘gn)):=BF (fun r=>⟨by simp[ad],by simp[ad]⟩) l
theorem Qg(t:aC)(a:Nat)(h:t.cs.length<=1000000)(m:t.bj.length<=1000000)(c:∀p∈t.bj,qX p):
 au prog 180 [.seq (t.bj.map fc),.int .i64 a,.func 181 [di t] []] (.int .i64 (ky a (gX t.cs.length) t.bj)):=by
 refine aM nf E3 mix (by simp[f180]) ?_;rw[ky]
 by_cases c1:a<t.bj.length
 ·have cI:(a:Int)<t.bj.length:=by omega
  rw[if_pos c1];simp[f180,cI]
 have d:¬(a:Int)<t.bj.length:=by omega
 rw[if_neg c1];simp[f180,d];refine lp (α:=Nat) (fun i=>⟨[(16,.p (.int .i64 i)),(15,.p (.int .i64 t.bj.length)),(14,.p (.seq (t.bj.map fc))),(0,.p (.seq (t.bj.map fc))),(2,.p (.func 181 [di t] []))],[]⟩) (fun i=>i<=t.bj.length/\∀j,j<i->je (gX t.cs.length) t.bj j=0) (fun i=>t.bj.length-i) 0 (by simp) ?_;rintro i ⟨k1,k2⟩
 by_cases hk:i<t.bj.length
 ·have gk:=aC.lR hk;have l:=cQ (i:=i) (by omega);have b:=PE t (t.pk i) (t.bj.take i) h (c _ (ay gk)) (by rw[a1];omega) (fun o k=>by
   obtain⟨j,f,rfl⟩:=bd.1 k;rw[a1]at f;rw[bi];have:=k2 j (by omega);have g:=aC.lR (t:=t) (i:=j) (by omega);rw[je,g]at this;rw[aC.OX (by omega)];exact⟨c _ (ay g),DQ this⟩)
  rw[b0]at b
  by_cases he:gX t.cs.length (t.bj.take i) (t.pk i)=0
  ·rw[he]at b;have:=vN k2 gk he;simp[hk,gk,ad];refine⟨⟨k1,Hj _⟩,?_⟩;refine Go.az.e3 b ?_;simp[l,ad];exact rd (i+1) ⟨hk,this⟩
  ·have e:=vQ k2 gk he;rw[e];simp[hk,gk,ad];refine⟨⟨k1,Hj _⟩,?_⟩;refine Go.az.e3 b ?_;simp[he,ad]
 ·have:i=t.bj.length:=by omega
  subst this;rw[vR.2 k2];simp
theorem Qf(t:aC)(a:Nat)(e:t.cs.length<=1000000)(f:∀p∈t.cs,dM p)(k:t.aP.length<=1000000)(g:∀p∈t.aP,vw p):
 au prog 182 [.seq (t.aP.map gn),.int .i64 a,.func 183 [di t] []] (.int .i64 (ky a (iN t) t.aP)):=by
 refine aM nf EZ mix (by simp[f182]) ?_;rw[ky]
 by_cases c1:a<t.aP.length
 ·have cI:(a:Int)<t.aP.length:=by omega
  rw[if_pos c1];simp[f182,cI]
 have c:¬(a:Int)<t.aP.length:=by omega
 rw[if_neg c1];simp[f182,c];refine lp (α:=Nat) (fun i=>⟨[(16,.p (.int .i64 i)),(15,.p (.int .i64 t.aP.length)),(14,.p (.seq (t.aP.map gn))),(0,.p (.seq (t.aP.map gn))),(2,.p (.func 183 [di t] []))],[]⟩) (fun i=>i<=t.aP.length/\∀j,j<i->je (iN t) t.aP j=0) (fun i=>t.aP.length-i) 0 (by simp) ?_;rintro i ⟨k1,k2⟩
 by_cases hk:i<t.aP.length
 ·have gk:=aC.mE hk;have h:=cQ (i:=i) (by omega);have b:=PZ t (t.sp i) (t.aP.take i) e f (g _ (ay gk)) (by rw[a1];omega);rw[b0]at b
  by_cases he:iN t (t.aP.take i) (t.sp i)=0
  ·rw[he]at b;have:=vN k2 gk he;simp[hk,gk,ad];refine⟨⟨k1,Hl _⟩,?_⟩;refine Go.az.e3 b ?_;simp[h,ad];exact rd (i+1) ⟨hk,this⟩
  ·have d:=vQ k2 gk he;rw[d];simp[hk,gk,ad];refine⟨⟨k1,Hl _⟩,?_⟩;refine Go.az.e3 b ?_;simp[he,ad]
 ·have:i=t.aP.length:=by omega
  subst this;rw[vR.2 k2];simp
def lV(t:aC):Int:=bB [bf (decide ((t.cs.length:Int)<3)) 2,bf (decide (12<(t.cs.length:Int))) 5,bf (t.cs.any fG) 3]
def oZ(t:aC):Int:=bB [bf (!t.fB) 15,bf (decide (t.dK<1\/1000<t.dK)) 3,ky 12 (gX t.cs.length) t.bj]
theorem DE{t:aC}(h:lV t=0):3<=t.cs.length/\t.cs.length<=12/\∀p∈t.cs,dM p:=by
 rw[lV,lB]at h;have b:=h (bf (decide ((t.cs.length:Int)<3)) 2) (by simp);have d:=h (bf (decide (12<(t.cs.length:Int))) 5) (by simp);have a:=h (bf (t.cs.any fG) 3) (by simp);refine⟨?_,?_,fun p e=>DO ?_⟩
 ·by_cases c:(t.cs.length:Int)<3
  ·simp[bf,c]at b
  ·omega
 ·by_cases c:12<(t.cs.length:Int)
  ·simp[bf,c]at d
  ·omega
 ·cases hf:fG p
  ·rfl
  ·have:t.cs.any fG=true:=List.any_eq_true.2 ⟨p,e,hf⟩;rw[this]at a;simp[bf]at a
theorem DK(t:aC):iM t=if lV t=0 then(if oZ t=0 then ky 256 (iN t) t.aP else oZ t)else lV t:=by
 rw[iM,lV,oZ,ky,ky]
 by_cases c1:t.cs.length<3
 ·have:(t.cs.length:Int)<3:=by omega
  simp[bB,bf,c1,this]
 have b:¬(t.cs.length:Int)<3:=by omega
 by_cases c2:12<t.cs.length
 ·have:(12:Int)<t.cs.length:=by omega
  simp[bB,bf,c1,c2,b,this]
 have c:¬(12:Int)<t.cs.length:=by omega
 generalize t.cs.any fG=a;cases a
 case true=>simp[bB,bf,c1,c2,b,c]
 cases t.fB
 ·simp[bB,bf,c1,c2,b,c]
 by_cases c3:t.dK<1\/1000<t.dK
 ·simp[bB,bf,c1,c2,b,c,c3]
 by_cases c4:12<t.bj.length
 ·simp[bB,bf,c1,c2,b,c,c3,c4]
 generalize lY (gX t.cs.length) t.bj=e
 by_cases c5:e=0
 ·simp[bB,bf,c1,c2,b,c,c3,c4,c5]
 ·simp[bB,bf,c1,c2,b,c,c3,c4,c5]
theorem PH(t:aC)(w:o6 t):au prog 99 [di t] (.int .i64 (iM t)):=by
 obtain⟨k,A,B,u,v⟩:=w;have k1:=jv (decide ((t.cs.length:Int)<3)) 2;have k2:=jv (decide (12<(t.cs.length:Int))) 5;have k3:=PC t.cs k;have k4:=jv (t.cs.any fG) 3;have k5:=tx [bf (decide ((t.cs.length:Int)<3)) 2,bf (decide (12<(t.cs.length:Int))) 5,bf (t.cs.any fG) 3] (by simp);have z1:=DE (t:=t);rw[DK];have x:=fun h:lV t=0=>Qh t (z1 h).1 k (z1 h).2.2;have y:=jv (!t.fB) 15;have r:=fun b=>jv b 3;have m:=Qg t 12 k A u;have j:=tx [bf (!t.fB) 15,bf (decide (t.dK<1\/1000<t.dK)) 3,ky 12 (gX t.cs.length) t.bj] (by simp);have n:=fun h:lV t=0=>Qf t 256 k (z1 h).2.2 B v;have p:lV t=bB [bf (decide ((t.cs.length:Int)<3)) 2,bf (decide (12<(t.cs.length:Int))) 5,bf (t.cs.any fG) 3]:=rfl;have q:oZ t=bB [bf (!t.fB) 15,bf (decide (t.dK<1\/1000<t.dK)) 3,ky 12 (gX t.cs.length) t.bj]:=rfl;rw[<-p]at k5;rw[<-q]at j;clear p q z1;generalize lV t=o at*;generalize oZ t=i at*;generalize ky 12 (gX t.cs.length) t.bj=F at*;generalize ky 256 (iN t) t.aP=M at*;generalize t.cs.any fG=G at*;generalize t.fB=H at*;generalize I:bf (decide ((t.cs.length:Int)<3)) 2=w1 at*;generalize J:bf (decide (12<(t.cs.length:Int))) 5=C at*;generalize K:bf G 3=D at*;generalize L:bf (!H) 15=E at*;have l:∀b:Bool,decide (t.dK<1\/1000<t.dK)=b->au prog 176 [.bool b,.int .i64 3] (.int .i64 (bf b 3))/\au prog 175 [.seq [.int .i64 E,.int .i64 (bf b 3),.int .i64 F]] (.int .i64 i):=fun b s=>by
  rw[s]at j;exact⟨r b,by simpa using j⟩
 have z:au prog 175 [.seq [.int .i64 w1,.int .i64 C,.int .i64 D]] (.int .i64 o):=by simpa using k5
 clear j r k5;refine aM nf OB mix (by simp[f99]) ?_;simp[f99,ad];refine Go.az.e2 k1 ?_;simp[ad];refine Go.az.e2 k2 ?_;simp[ad];refine Go.az.e2 k3 ?_;simp[ad];refine Go.az.e2 k4 ?_;simp[ad];refine ep z (by simp;first|exact⟨rfl,rfl⟩|rfl) (by simp;first|exact⟨rfl,rfl⟩|rfl) ?_;simp[ad];refine⟨by repeat' first|rfl|apply am,?_⟩
 by_cases a:o=0
 case neg=>simp[a,ad]
 simp[a,ad];refine Go.az.e1 (x a) ?_;simp[ad];refine Go.az.e2 y ?_;simp[ad]
 by_cases c:t.dK<1
 ·have d:¬1<=t.dK:=by omega
  obtain⟨f1,f2⟩:=l true (by simp[c]);simp[c,d,ad];refine Go.az.e2 f1 ?_;simp[c,d,ad];refine Go.az.e3 m ?_;simp[c,d,ad];refine ep f2 (by simp;first|exact⟨rfl,rfl⟩|rfl) (by simp;first|exact⟨rfl,rfl⟩|rfl) ?_;simp[c,d,ad];refine⟨by repeat' first|rfl|apply am,?_⟩
  by_cases e:i=0
  case neg=>simp[a,e,ad]
  simp[a,e,ad];refine Go.az.c3 (n a) ?_;simp[a,e,ad]
 have d:1<=t.dK:=by omega
 by_cases f:1000<t.dK
 ·have g:¬t.dK<=1000:=by omega
  obtain⟨f1,f2⟩:=l true (by simp[c,f]);simp[c,d,f,g,ad];refine Go.az.e2 f1 ?_;simp[c,d,f,g,ad];refine Go.az.e3 m ?_;simp[c,d,f,g,ad];refine ep f2 (by simp;first|exact⟨rfl,rfl⟩|rfl) (by simp;first|exact⟨rfl,rfl⟩|rfl) ?_;simp[c,d,f,g,ad];refine⟨by repeat' first|rfl|apply am,?_⟩
  by_cases e:i=0
  case neg=>simp[a,e,ad]
  simp[a,e,ad];refine Go.az.c3 (n a) ?_;simp[a,e,ad]
 ·have g:t.dK<=1000:=by omega
  obtain⟨f1,f2⟩:=l false (by simp[c,f]);simp[c,d,f,g,ad];refine Go.az.e2 f1 ?_;simp[c,d,f,g,ad];refine Go.az.e3 m ?_;simp[c,d,f,g,ad];refine ep f2 (by simp;first|exact⟨rfl,rfl⟩|rfl) (by simp;first|exact⟨rfl,rfl⟩|rfl) ?_;simp[c,d,f,g,ad];refine⟨by repeat' first|rfl|apply am,?_⟩
  by_cases e:i=0
  case neg=>simp[a,e,ad]
  simp[a,e,ad];refine Go.az.c3 (n a) ?_;simp[a,e,ad]
noncomputable def vj(i:Nat)(a w:NV):PV:=.st 166 [.int .i64 i,dF a,dF w]
@[simp] theorem aJN(i:Nat)(a w:NV):aJ (vj i a w)=.agg 166:=rfl
@[simp] theorem aIu(i:Nat)(a w:NV):bV (vj i a w)=[.int .i64 i,dF a,dF w]:=rfl
@[simp] theorem aHT:prog.cellsOf 166=17:=by kernel_rfl
def aC.b9(t:aC)(i:Nat):NV:=(cF (t.at (t.nx i))).sub (cF (t.at i))
theorem aC.zJ(t:aC)(i:Nat):(t.b9 i).q=t.fP i:=by rw[aC.b9,NV.iK];rfl
theorem DV(p:dR)(h:dM p):au prog 241 [cj p] (dF (cF p)):=by
 simp only[dM]at h;have a:=mw p.x (by omega) (by omega);have b:=mw p.y (by omega) (by omega);refine aM nf Eb mix (by simp[f241]) ?_;rw[cF,sj];simp[f241,ad];refine e1 a ?_;simp[ad];refine e1 b ?_;simp[ad]
theorem Ez(t:aC):au prog 184 [di t] (.func 268 [] [.bZ (di t)]):=by
 refine aM nf EX mix (by simp[f184]) ?_;simp[f184];show fR [.box false (.p (di t))] 7 (.p (di t)) (di t);rw[vX];exact Wk.refl _
noncomputable def lX(t:aC)(i:Nat):List PV:=[vj i (cF (t.at i)) (t.b9 i)]
def ff(t:aC)(i:Nat):aj:=[.box false (.p (cj (t.at i))),.box false (.p (cj (t.at (t.nx i))))]
theorem tv{t:aC}{i:Nat}(h:i<t.cs.length):((a4 t.cs.length).map (lX t))[i]?=some (lX t i):=by
 rw[bl,be h];rfl
theorem DY(t:aC)(H:t.cs.length<=1000000)(d:∀p∈t.cs,dM p):EA prog 268 [] [.bZ (di t)] ((a4 t.cs.length).map (lX t)) (ff t):=by
 intro b k f G H' hk a D h;rw[a7,a5]at hk h;refine jk nf Eu mix (by simp[f268]) ?_;simp[f268,ad];refine lp (α:=Nat) (fun i=>⟨[(9,.p (.int .i64 i)),(8,.p (.int .i64 t.cs.length)),(7,.p (.seq (t.cs.map cj))),(1,.p (.bZ (di t))),(0,.map b)],f i⟩) (fun i=>i<=k) (fun i=>k-i) 0 (by simp) ?_ (hr:=by simp;exact(a 0 (by omega)).2) (hr2:=(a 0 (by omega)).1);rintro i A
 by_cases hi:i<t.cs.length
 ·have o:=cQ (i:=i) (by omega);have j:=t.jw (by omega) i;have x:=aC.get hi;have z:=aC.get j;have e1:((i:Int)+1).tmod (t.cs.length:Int)=((t.nx i:Nat):Int):=by
   rw[aC.nx,av,ap (by omega)];rfl
  have C:¬t.cs.length=0:=by omega
  have B:¬t.cs=[]:=by intro e;rw[e]at hi;simp at hi
  have E:=iv (aC.eJ d hi);have F:=iv (aC.eJ d j);have l:=DV (t.at i) (aC.eJ d hi);have r:=DV (t.at (t.nx i)) (aC.eJ d j);have m:=L9 (cF (t.at (t.nx i))) (cF (t.at i)) (F.mono (by decide)) (E.mono (by decide));have s:(cF (t.at (t.nx i))).sub (cF (t.at i))=t.b9 i:=rfl;rw[s]at m;simp[hi,o,e1,C,B,x,z,ad];refine⟨by repeat' first|rfl|apply am,?_⟩;refine Go.az.e1 l ?_;simp[ad];refine Go.az.e1 r ?_;simp[ad];refine Go.az.e1 l ?_;simp[ad];refine Go.az.e2 m ?_;simp[ad];have n:dv (f i++ff t i) (f i++ff t i):=dv.app (a i A).1 (by simp[ff])
  by_cases c:i<k
  ·obtain⟨g1,g2,g3,g4,g5⟩:=D i _ c (tv hi);refine yk g1 rfl g2 n g3 (by rfl) (by rfl) fun u g=>?_;simp[g,o];exact rd (i+1) c (hn:=g4) (hh:=g5) (hr:=by simp;exact(a (i+1) c).2) (hr2:=(a (i+1) c).1)
  ·have:i=k:=by omega
   subst this;rcases h with⟨e1,_⟩|⟨y,q,e1,e2,e3,e4,e5,v,w⟩
   ·omega
   ·rw[tv hi]at e1;injection e1 with e1
    subst e1;refine yk e2 rfl e3 n e4 (by rfl) (by rfl) fun u g=>?_;simp[g];exact .inr (dd.og e5 trivial v trivial w)
 ·have:i=t.cs.length:=by omega
  subst this;rcases h with⟨e1,e2⟩|⟨y,q,e1,e2⟩
  ·have:t.cs.length=k:=by omega
   subst this;simp[e2]
  ·rw[bb (by simp;omega)]at e1;cases e1
theorem zE{t:aC}{v:NV}{i:Nat}(c:∀p∈t.cs,dM p)(e:b7 3000 v.q)(hi:i<t.cs.length):
 au prog 78 [dF v,dF (cF (t.at i))] (dF (v.sub (cF (t.at i))))/\au prog 185 [dF (t.b9 i),dF (v.sub (cF (t.at i)))] (eF ((t.b9 i).bF (v.sub (cF (t.at i)))))/\
 au prog 171 [eF ((t.b9 i).bF (v.sub (cF (t.at i))))] (.int .i64 (t.side i v.q)):=by
 have a:=iv (aC.eJ c hi);have f:=iv (aC.eJ c (t.jw (by omega) i));have q1:b7 29 (t.b9 i).q:=by rw[aC.b9,NV.iK];exact kL f a
 have g:b7 3015 (v.sub (cF (t.at i))).q:=by rw[NV.iK];exact kL e a
 refine⟨L9 v (cF (t.at i)) (e.mono (by decide)) (a.mono (by decide)),zD (t.b9 i) (v.sub (cF (t.at i))) (q1.mono (by decide)) (g.mono (by decide)),?_⟩;have b:=oN ((t.b9 i).bF (v.sub (cF (t.at i))));have d:cV ((t.b9 i).bF (v.sub (cF (t.at i)))).q=t.side i v.q:=by rw[NV.lZ,NV.iK,aC.zJ];rfl
 rw[cV]at d;rw[d]at b;exact b
theorem aC.zM(t:aC)(v:V2):∀m,t.lQ v m<0↔∃i,i<m/\t.side i v<0
 |0=>⟨fun h=>by have:t.lQ v 0=1:=rfl;omega,fun⟨i,h,_⟩=>by omega⟩
 |m+1=>by
  rw[aC.zy];have c:=aC.zM t v m;constructor
  ·intro h;rcases Int.lt_or_le (t.lQ v m) 0 with b|b
   ·obtain⟨i,d,a⟩:=c.1 b;exact⟨i,by omega,a⟩
   ·exact⟨m,by omega,by omega⟩
  ·rintro⟨i,d,a⟩
   by_cases e:i=m
   ·subst e;omega
   ·have:=c.2 ⟨i,by omega,a⟩;omega
noncomputable def jq(t:aC)(v:NV)(b:Bool)(L:dD):aj:=[.box false (.p (di t)),.box false (.p (dF v)),.box false (.p (.bool b)),.loop L]
theorem Qj(t:aC)(v:NV)(r:t.cs.length<=1000000)(e:∀p∈t.cs,dM p)(n:b7 3000 v.q):au prog 100 [di t,dF v] (.bool (decide (t.on v.q<0))):=by
 refine aM nf EH mix (by simp[f100]) ?_;obtain⟨k,hk,m,o⟩:=xw (fun i=>decide (0<=t.side i v.q)) t.cs.length;simp[f100,ad];refine c1 (Ez t) ?_;simp;refine O2 (DY t r e) rfl (by simp) (fun L i=>jq t v false L) (fun L i=>jq t v false L++ff t i) k (by simpa using hk) (fun L=>rfl) ?_ ?_ ?_
 ·intro L a i hi;refine⟨rfl,by simp[jq],fun _ hx=>?_⟩;simp[jq]at hx⊢;exact hx
 ·intro L a i x hi hx;rw[tv (by omega)]at hx;injection hx with hx
  subst hx;refine⟨?_,by simp,fun j _ h=>h,rfl,by simp[jq,ff]⟩;obtain⟨d,a2,a3⟩:=zE e n (show i<t.cs.length by omega);have hs:¬t.side i v.q<0:=by have:=m i hi;simp at this;omega
  have g:0<=t.side i v.q:=by omega
  refine nN nf mix a rfl rfl (by kernel_rfl) ?_;have b:=congrArg dD.env a;dsimp only at b;clear a;generalize v.sub (cF (t.at i))=U at*;generalize (t.b9 i).bF U=C at*;simp[jq,lX,ff,ad];refine e2 d ?_;simp[ad];refine e2 a2 ?_;simp[ad];refine e1 a3 ?_;simp[ad,hs,g];refine dd.og (by simp) (by simp) (by simp) (by simp) ?_;simp;exact o5 b (by simp)
 ·intro L a;rcases o with c|⟨c,l⟩
  ·refine .inl ⟨by simpa using c,?_⟩;have f:¬t.on v.q<0:=by
    rw[aC.on,aC.zM];rintro⟨i,s,u⟩;have:=m i (by omega);simp at this;omega
   simp[jq,f]
  ·have hs:t.side k v.q<0:=by simp at l;exact l
   have g:¬0<=t.side k v.q:=by omega
   have f:t.on v.q<0:=by
    rw[aC.on,aC.zM];exact⟨k,c,hs⟩
   obtain⟨d,a2,a3⟩:=zE e n c;refine .inr ⟨lX t k,.ret,jq t v true (L.dn .ret)++ff t k,jq t v true (L.dn .ret),tv c,rfl,?_,by simp[jq],fun j _ h=>?_,rfl,by simp[jq,ff],?_,?_⟩
   ·refine nN nf mix a rfl rfl (by kernel_rfl) ?_;have b:=congrArg dD.env a;dsimp only at b;clear a;generalize v.sub (cF (t.at k))=U at*;generalize (t.b9 k).bF U=C at*;simp[jq,lX,ff,ad];refine e2 d ?_;simp[ad];refine e2 a2 ?_;simp[ad];refine e1 a3 ?_;simp[ad,hs,g];refine dd.og (by simp) (by simp) (by simp) (by simp) ?_;simp;exact Ef b (by simp)
   ·have:=ay h;simp[jq,ff]at this
   ·have b:=congrArg dD.env a;dsimp only at b;simp[jq];exact Ef b (by simp)
   ·simp[jq,f,iW]
def NS.add(s t:NS):NS:=⟨s.a.add t.a,s.b.add t.b,s.d⟩
def NS.neg(s:NS):NS:=⟨s.a.neg,s.b.neg,s.d⟩
def NS.times(s:NS)(k:NF):NS:=⟨s.a.mul k,s.b.mul k,s.d⟩
def NB.bF(n:NB)(e:NV):NS:=⟨e.bF n.a,e.bF n.b,n.d⟩
theorem WS(s t:NS)(hs:iq 8000 s)(c:iq 8000 t):au prog 270 [il s,il t] (il (s.add t)):=by
 have d:=qK s.a t.a (hs.1.mono (by decide)) (c.1.mono (by decide));have e:=qK s.b t.b (hs.2.1.mono (by decide)) (c.2.1.mono (by decide));refine aM nf Es mix (by simp[f270]) ?_;rw[NS.add,sK];simp[f270,ad];refine e2 d ?_;simp[ad];refine e2 e ?_;simp[ad]
theorem EL(s:NS)(hs:iq 8000 s):au prog 187 [il s] (il s.neg):=by
 have c:=uY s.a (hs.1.mono (by decide));have d:=uY s.b (hs.2.1.mono (by decide));refine aM nf EU mix (by simp[f187]) ?_;rw[NS.neg,sK];simp[f187,ad];refine e1 c ?_;simp[ad];refine e1 d ?_;simp[ad]
theorem DT(s:NS)(k:NF)(hs:iq 8000 s)(hk:bt 8000 k.q):au prog 269 [il s,eF k] (il (s.times k)):=by
 have c:=iB s.a k (hs.1.mono (by decide)) (hk.mono (by decide));have d:=iB s.b k (hs.2.1.mono (by decide)) (hk.mono (by decide));refine aM nf Et mix (by simp[f269]) ?_;rw[NS.times,sK];simp[f269,ad];refine e2 c ?_;simp[ad];refine e2 d ?_;simp[ad]
theorem P9(n:NB)(e:NV)(d:okB 8000 n)(c:b7 8000 e.q):au prog 186 [qQ n,dF e] (il (n.bF e)):=by
 have f:=zD e n.a (c.mono (by decide)) (d.1.mono (by decide));have g:=zD e n.b (c.mono (by decide)) (d.2.1.mono (by decide));refine aM nf EV mix (by simp[f186]) ?_;rw[NB.bF,sK];simp[f186,ad];refine e2 f ?_;simp[ad];refine e2 g ?_;simp[ad]
theorem PR(v:NV):au prog 102 [dF v] (qQ ⟨v,⟨.int 0,.int 0⟩,.int 0⟩):=by
 have a:=mw 0 (by decide) (by decide);have b:=mw 0 (by decide) (by decide);have c:=mw 0 (by decide) (by decide);refine aM nf EF mix (by simp[f102]) ?_;rw[XU,sj (.int 0) (.int 0)];simp[f102,ad];refine e1 a ?_;simp[ad];refine e1 b ?_;simp[ad];refine e1 c ?_;simp[ad]
def NS.plain(a d:NF):NS:=⟨a,.int 0,d⟩
def NS.norm(s:NS):NF:=(s.a.mul s.a).sub ((s.b.mul s.b).mul s.d)
open Classical in
noncomputable def NS.under(s:NS)(k:NF):NS:=if s.norm.q=0 then .plain (k.div (s.a.add s.a)) s.d else⟨(k.mul s.a).div s.norm,(k.mul s.b).neg.div s.norm,s.d⟩
theorem WN(a d:NF):au prog 272 [eF a,eF d] (il (.plain a d)):=by
 have b:=mw 0 (by decide) (by decide);refine aM nf Er mix (by simp[f272]) ?_;rw[NS.plain,sK];simp[f272,ad];refine e1 b ?_;simp[ad]
theorem aGC{x:NF}(h:x.q≠0):(x.add x).q≠0:=by
 show x.q+x.q≠0;intro e;apply h
 grind
theorem W0(s:NS)(k:NF)(hs:iq 3000 s)(hk:bt 3000 k.q)(f:s.norm.q=0->s.a.q≠0):au prog 191 [il s,eF k] (il (s.under k)):=by
 have k1:=iB s.a s.a (hs.1.mono (by decide)) (hs.1.mono (by decide));have k2:=iB s.b s.b (hs.2.1.mono (by decide)) (hs.2.1.mono (by decide));have k3:=iB (s.b.mul s.b) s.d ((ic hs.2.1 hs.2.1).mono (by decide)) (hs.2.2.mono (by decide));have k4:=oK (s.a.mul s.a) ((s.b.mul s.b).mul s.d) ((ic hs.1 hs.1).mono (by decide)) ((ic (ic hs.2.1 hs.2.1) hs.2.2).mono (by decide));have k5:=oN s.norm;have k6:=qK s.a s.a (hs.1.mono (by decide)) (hs.1.mono (by decide));have k7:=fun h:s.norm.q=0=>yK k (s.a.add s.a) (hk.mono (by decide)) ((zP hs.1 hs.1).mono (by decide)) (aGC (f h));have k8:=WN (k.div (s.a.add s.a)) s.d;have j:=iB k s.a (hk.mono (by decide)) (hs.1.mono (by decide));have g:=fun h:¬s.norm.q=0=>yK (k.mul s.a) s.norm ((ic hk hs.1).mono (by decide)) ((show bt 15001 s.norm.q from(DN (ic hs.1 hs.1) (ic (ic hs.2.1 hs.2.1) hs.2.2))).mono (by decide)) h;have m:=iB k s.b (hk.mono (by decide)) (hs.2.1.mono (by decide));have o:=uY (k.mul s.b) ((ic hk hs.2.1).mono (by decide));have i:=fun h:¬s.norm.q=0=>yK ((k.mul s.b).neg) s.norm ((zO (ic hk hs.2.1)).mono (by decide)) ((show bt 15001 s.norm.q from(DN (ic hs.1 hs.1) (ic (ic hs.2.1 hs.2.1) hs.2.2))).mono (by decide)) h;rw[show(s.a.mul s.a).sub ((s.b.mul s.b).mul s.d)=s.norm from rfl]at k4;refine aM nf ER mix (by simp[f191]) ?_;rw[NS.under]
 by_cases c:s.norm.q=0
 ·have e:(if s.norm.q<0 then(-1:Int)else if s.norm.q=0 then 0 else 1)=0:=by rw[c];rfl
  rw[e]at k5;have t:=k7 c;rw[if_pos c];clear k7 g i f c e;generalize k.div (s.a.add s.a)=r at*;generalize s.a.add s.a=u at*;generalize s.norm=n at*;simp[f191,ad];refine e2 k1 ?_;simp[ad];refine e2 k2 ?_;simp[ad];refine e2 k3 ?_;simp[ad];refine e2 k4 ?_;simp[ad];refine⟨by repeat' first|rfl|apply am,?_⟩;refine c1 k5 ?_;simp[ad];refine e2 k6 ?_;simp[ad];refine e2 t ?_;simp[ad];refine e2 k8 ?_;simp[ad]
 ·have e:¬(if s.norm.q<0 then(-1:Int)else if s.norm.q=0 then 0 else 1)=0:=by
   split<;>decide
  have l:=g c;have p:=i c;rw[if_neg c,sK];clear k7 g i f;generalize (if s.norm.q<0 then(-1:Int)else if s.norm.q=0 then 0 else 1)=w at*;clear c;generalize (k.mul s.a).div s.norm=v at*;generalize (k.mul s.b).neg.div s.norm=u at*;generalize s.norm=n at*;simp[f191,ad];refine e2 k1 ?_;simp[ad];refine e2 k2 ?_;simp[ad];refine e2 k3 ?_;simp[ad];refine e2 k4 ?_;simp[ad];refine⟨by repeat' first|rfl|apply am,?_⟩;refine c1 k5 ?_;simp[e,ad];refine e2 j ?_;simp[ad];refine e2 l ?_;simp[ad];refine e2 m ?_;simp[ad];refine e1 o ?_;simp[ad];refine e2 p ?_;simp[ad]
structure XD where
 i:Nat
 a:NV
 w:NV
 g:NF
 s:NS
noncomputable def ij(x:XD):PV:=.st 168 [vj x.i x.a x.w,eF x.g,il x.s]
@[simp] theorem aJP(x:XD):aJ (ij x)=.agg 168:=rfl
@[simp] theorem aIw(x:XD):bV (ij x)=[vj x.i x.a x.w,eF x.g,il x.s]:=rfl
@[simp] theorem aHU:prog.cellsOf 168=33:=by kernel_rfl
def mA(x:XD):Prop:=x.i<=1000000/\bt 1900 x.g.q/\iq 1900 x.s
def qO(x y:XD):Int:=if jJ ((y.s.times x.g).add ((x.s.times y.g).neg)).q=0 then(x.i:Int)-y.i else jJ ((y.s.times x.g).add ((x.s.times y.g).neg)).q
theorem tu{a b:Nat}{s:NS}{k:NF}(hs:iq a s)(hk:bt b k.q):iq (a+b) (s.times k):=⟨ic hs.1 hk,ic hs.2.1 hk,hs.2.2.mono (by omega)⟩
theorem DM{a:Nat}{s:NS}(hs:iq a s):iq a s.neg:=⟨zO hs.1,zO hs.2.1,hs.2.2⟩
theorem aE9{a b:Nat}{s t:NS}(hs:iq a s)(c:iq b t):iq (a+b+1) (s.add t):=⟨zP hs.1 c.1,zP hs.2.1 c.2.1,hs.2.2.mono (by omega)⟩
theorem iq.mono{k l:Nat}{s:NS}(h:iq k s)(a:k<=l):iq l s:=⟨h.1.mono a,h.2.1.mono a,h.2.2.mono a⟩
theorem PQ(x y:XD)(hx:mA x)(d:mA y):au prog 189 [ij x,ij y] (.int .i64 (qO x y)):=by
 obtain⟨e,b,a⟩:=hx;obtain⟨y1,y2,y3⟩:=d;have k1:=DT y.s x.g (y3.mono (by decide)) (b.mono (by decide));have k2:=DT x.s y.g (a.mono (by decide)) (y2.mono (by decide));have k3:=EL (x.s.times y.g) ((tu a y2).mono (by decide));have k4:=WS (y.s.times x.g) (x.s.times y.g).neg ((tu y3 b).mono (by decide)) ((DM (tu a y2)).mono (by decide));have k5:=Ey ((y.s.times x.g).add (x.s.times y.g).neg) ((aE9 (tu y3 b) (DM (tu a y2))).mono (by decide));have w1:ao.wrap ((x.i:Int)-y.i)=(x.i:Int)-y.i:=aO _ (by omega) (by omega);refine aM nf ES mix (by simp[f189]) ?_;rw[qO];generalize jJ ((y.s.times x.g).add (x.s.times y.g).neg).q=r at*;generalize (y.s.times x.g).add (x.s.times y.g).neg=v1 at*;generalize (x.s.times y.g).neg=v2 at*;generalize x.s.times y.g=v3 at*;generalize y.s.times x.g=v4 at*
 by_cases c:r=0
 ·simp[f189,ad];refine e2 k1 ?_;simp[ad];refine e2 k2 ?_;simp[ad];refine e1 k3 ?_;simp[ad];refine e2 k4 ?_;simp[ad];refine e1 k5 ?_;simp[ad,c,w1]
 ·simp[f189,ad];refine e2 k1 ?_;simp[ad];refine e2 k2 ?_;simp[ad];refine e1 k3 ?_;simp[ad];refine e2 k4 ?_;simp[ad];refine e1 k5 ?_;simp[ad,c]
theorem W2(x:XD)(hx:mA x)(b:x.s.norm.q=0->x.s.a.q≠0):au prog 105 [ij x] (il (x.s.under x.g)):=by
 obtain⟨e,c,d⟩:=hx;have k1:=W0 x.s x.g (d.mono (by decide)) (c.mono (by decide)) b;refine aM nf ED mix (by simp[f105]) ?_;generalize x.s.under x.g=r at*;simp[f105,ad];refine c2 k1 ?_;simp[ad]
def sW(m x:XD):XD:=if qO x m<0 then x else m
def jE(m:XD)(l:List XD):XD:=l.foldl sW m
theorem zz(m:XD):jE m []=m:=List.foldl_nil
theorem D0(m x:XD)(r:List XD):jE m (x::r)=jE (sW m x) r:=List.foldl_cons ..
def zF:PV:=.st 130 [.st 128 [.int .i64 0,.aL],.st 128 [.int .i64 0,.aL]]
def zV:PV:=.st 132 [zF,zF]
def vG:PV:=.st 168 [.st 166 [.int .i64 0,zV,zV],zF,.st 149 [zF,zF,zF]]
@[simp] theorem aK9:ch prog 169=some vG:=by kernel_rfl
@[simp] theorem aKg:aJ vG=.agg 168:=rfl
theorem aE2{p:XD->Prop}(l:List XD):∀m:XD,p m->(∀x∈l,p x)->p (jE m l):=by
 induction l with
 |nil=>
  intro m h _;rw[zz];exact h
 |cons x r d=>
  intro m h a;rw[D0];refine d _ ?_ (fun y b=>a y (aT _ b));rw[sW]
  by_cases c:qO x m<0
  ·rw[if_pos c];exact a x a0
  ·rw[if_neg c];exact h
theorem Qk(a:XD)(l:List XD)(g:l.length<=1000000)(d:mA a)(hx:∀x∈l,mA x):
 au prog 188 [.seq ((a::l).map ij),.func 189 [] []] (ij (jE a l)):=by
 refine aM nf ET mix (by simp[f188]) ?_;have e:¬((l.length:Int)+1<1):=by omega
 simp[f188,e];refine lp (α:=Nat×XD) (fun(i,m)=>⟨[(6,.p (.int .i64 ((i+1:Nat):Int))),(5,.ptr 1 []),(4,.ptr 0 []),(0,.p (.seq (ij a::l.map ij))),(1,.p (.func 189 [] []))],[.box false (.p vG),.box false (.p (ij m))]⟩) (fun(i,m)=>i<=l.length/\mA m/\jE m (l.drop i)=jE a l) (fun(i,_)=>l.length-i) (0,a) (by simp;exact d) ?_ (he:=by simp);rintro⟨i,m⟩ ⟨g1,g2,g3⟩;dsimp only at g1 g2 g3⊢
 by_cases hi:i<l.length
 ·have b:ao.wrap ((i:Int)+1+1)=(i:Int)+1+1:=aO _ (by omega) (by omega);have f:=PQ l[i] m (hx _ (a6 hi)) g2;rw[ax hi,D0]at g3;simp[hi];refine⟨by omega,?_⟩;refine e2 f ?_;rw[sW]at g3
  by_cases c:qO l[i] m<0
  ·rw[if_pos c]at g3;simp[c,hi,b];exact⟨by omega,rd (i+1,l[i]) ⟨hi,hx _ (a6 hi),g3⟩⟩
  ·rw[if_neg c]at g3;simp[c,b];exact rd (i+1,m) ⟨hi,g2,g3⟩
 ·have:i=l.length:=by omega
  subst this;rw[List.drop_length,zz]at g3;subst g3;simp
@[simp] theorem aIQ:bV vG=[.st 166 [.int .i64 0,zV,zV],zF,.st 149 [zF,zF,zF]]:=rfl
def aC.dX(t:aC)(p:NV)(n:NB)(i:Nat):XD:=⟨i,cF (t.at i),t.b9 i,(t.b9 i).bF (p.sub (cF (t.at i))),(n.bF (t.b9 i)).neg⟩
def aC.pos(t:aC)(n:NB)(i:Nat):Bool:=decide (0<jJ ((n.bF (t.b9 i)).neg).q)
def aC.fY(t:aC)(p:NV)(n:NB)(m:Nat):List XD:=((a4 m).filter (t.pos n)).map (t.dX p n)
theorem aC.DS(t:aC)(p:NV)(n:NB)(m:Nat):t.fY p n (m+1)=if t.pos n m=true then t.fY p n m++[t.dX p n m]else t.fY p n m:=by
 rw[aC.fY,List.range_succ,List.filter_append,List.map_append]
 by_cases h:t.pos n m=true
 ·rw[if_pos h,List.filter_cons_of_pos h];rfl
 ·rw[if_neg h,List.filter_cons_of_neg h,List.filter_nil,b1,List.append_nil];rfl
theorem aC.Ew(t:aC)(p:NV)(n:NB)(m:Nat):(t.fY p n m).length<=m:=by
 rw[aC.fY,a7];have:=List.length_filter_le (t.pos n) (a4 m)
 rwa [a5]at this
theorem zG{t:aC}{p:NV}{n:NB}{i:Nat}(k:t.cs.length<=1000000)(e:∀c∈t.cs,dM c)(g:b7 800 p.q)(d:okB 900 n)(hi:i<t.cs.length):mA (t.dX p n i):=by
 have f:=iv (aC.eJ e hi);have h:=iv (aC.eJ e (t.jw (by omega) i));have q1:b7 29 (t.b9 i).q:=by rw[aC.b9,NV.iK];exact kL h f
 have j:b7 815 (p.sub (cF (t.at i))).q:=by rw[NV.iK];exact kL g f
 refine⟨?_,?_,sc ?_,sc ?_,d.2.2.mono (by decide)⟩
 ·show i<=1000000;omega
 ·show bt 1900 ((t.b9 i).bF (p.sub (cF (t.at i)))).q;rw[NV.lZ];exact(nK q1 j).mono (by decide)
 ·show bt 1900 ((t.b9 i).bF n.a).q;rw[NV.lZ];exact(nK q1 d.1).mono (by decide)
 ·show bt 1900 ((t.b9 i).bF n.b).q;rw[NV.lZ];exact(nK q1 d.2.1).mono (by decide)
noncomputable def fI(t:aC)(p:NV)(n:NB)(s:AV)(L:dD):aj:=[.box false (.p (di t)),.box false (.p (dF p)),.box false (.p (qQ n)),.box false (.p vG),.box false s,.loop L]
noncomputable def gN(t:aC)(p:NV)(n:NB)(L:dD):List XD->aj
 |[]=>fI t p n (.p .aL) L
 |x::r=>fI t p n (.sl 11 r.length 33 0 (r.length+1)) L++[.hole,.hole,.hole,.hole,.hole,.arr .grow r.length 33 ((x::r).map fun x=>.p (ij x))]
noncomputable def NJ(t:aC)(p:NV)(n:NB)(L:dD)(i:Nat):aj:=
 if t.pos n i=true then
  match t.fY p n i with
  |[]=>fI t p n (.sl 11 0 33 0 1) L++ff t i++[.hole,.hole,.hole,.arr .grow 0 33 [.p (ij (t.dX p n i))]]
  |x::r=>fI t p n (.sl 11 (r.length+1) 33 0 (r.length+2)) L++[.hole,.hole,.hole,.hole,.hole,.arr .grow (r.length+1) 33 ((x::r++[t.dX p n i]).map fun x=>.p (ij x))]++ff t i
 else gN t p n L (t.fY p n i)++ff t i
theorem WA(t:aC)(p:NV)(n:NB)(v:t.cs.length<=1000000)(d:∀c∈t.cs,dM c)(z:b7 800 p.q)(e:okB 900 n)(s:XD)(l:List XD)(y:t.fY p n t.cs.length=s::l):au prog 101 [di t,dF p,qQ n] (ij (jE s l)):=by
 refine aM nf EG mix (by simp[f101]) ?_;simp[f101,ad];refine c1 (Ez t) ?_;simp;refine O2 (DY t v d) rfl (by simp) (fun L i=>gN t p n L (t.fY p n i)) (fun L i=>NJ t p n L i) t.cs.length (by simp) (fun L=>rfl) ?_ ?_ ?_
 ·intro L a i hi;generalize t.fY p n i=A;cases A with
  |nil=>
   refine⟨rfl,by simp[gN,fI],fun _ hx=>?_⟩;simp[gN,fI]at hx⊢;exact hx
  |cons x r=>
   refine⟨rfl,by simp[gN,fI],fun _ hx=>?_⟩;simp[gN,fI]at hx⊢;exact hx
 ·intro L a i x hi hx;rw[tv (by omega)]at hx;injection hx with hx
  subst hx;have D:=zG v d z e hi;obtain⟨C,a2,a3⟩:=zE d (z.mono (by decide)) hi;have hs:=aC.DS t p n i;have w:=aC.Ew t p n i;have H:=iv (aC.eJ d hi);have I:=iv (aC.eJ d (t.jw (by omega) i));have q1:b7 29 (t.b9 i).q:=by rw[aC.b9,NV.iK];exact kL I H
  have J:iq 1900 (n.bF (t.b9 i)).neg:=D.2.2;have K:iq 1900 (n.bF (t.b9 i)):=⟨by rw[NB.bF,NV.lZ];exact(nK q1 e.1).mono (by decide),by rw[NB.bF,NV.lZ];exact(nK q1 e.2.1).mono (by decide),e.2.2.mono (by decide)⟩
  have k:=P9 n (t.b9 i) (e.mono (by decide)) (q1.mono (by decide));have m:=EL (n.bF (t.b9 i)) (K.mono (by decide));have o:=Ey (n.bF (t.b9 i)).neg (J.mono (by decide));have F:t.pos n i=decide (0<jJ ((n.bF (t.b9 i)).neg).q):=rfl;have M:t.dX p n i=⟨i,cF (t.at i),t.b9 i,(t.b9 i).bF (p.sub (cF (t.at i))),(n.bF (t.b9 i)).neg⟩:=rfl;rw[NJ];have f:=congrArg dD.env a;dsimp only at f;clear D J K q1 H I a3;generalize t.fY p n (i+1)=B at*;generalize t.fY p n i=A at*
  by_cases b:t.pos n i=true
  case neg=>
   rw[if_neg b]at hs⊢;subst hs;have g:¬0<jJ ((n.bF (t.b9 i)).neg).q:=by rw[F]at b;simpa using b
   have G:jJ ((n.bF (t.b9 i)).neg).q<=0:=by omega
   generalize jJ ((n.bF (t.b9 i)).neg).q=N at*;generalize (n.bF (t.b9 i)).neg=v2 at*;generalize n.bF (t.b9 i)=v1 at*;refine⟨?_,by simp,fun j _ h=>h,by cases B<;>rfl,?_⟩
   ·cases B with
    |nil=>
     refine nN nf mix a rfl rfl (by kernel_rfl) ?_;clear a;simp[gN,fI,lX,ff,ad];refine c2 k ?_;simp[ad];refine c1 m ?_;simp[ad];refine c1 o ?_;simp[ad,g,G];refine dd.og (by simp) (by simp) (by simp) (by simp) ?_;simp;exact o5 f (by simp)
    |cons x r=>
     refine nN nf mix a rfl rfl (by kernel_rfl) ?_;clear a;simp[gN,fI,lX,ff,ad];refine c2 k ?_;simp[ad];refine c1 m ?_;simp[ad];refine c1 o ?_;simp[ad,g,G];refine dd.og (by simp) (by simp) (by simp) (by simp) ?_;simp;exact o5 f (by simp)
   ·cases B with
    |nil=>simp[gN,fI,ff]
    |cons x r=>simp[gN,fI,ff]
  rw[if_pos b]at hs⊢;have g:0<jJ ((n.bF (t.b9 i)).neg).q:=by rw[F]at b;simpa using b
  rw[b,M]at*;generalize jJ ((n.bF (t.b9 i)).neg).q=N at*;generalize (n.bF (t.b9 i)).neg=v2 at*;generalize n.bF (t.b9 i)=v1 at*;generalize (t.b9 i).bF (p.sub (cF (t.at i)))=v3 at*;generalize p.sub (cF (t.at i))=v4 at*;cases A with
  |nil=>
   rw[List.nil_append]at hs;subst hs;refine⟨?_,by simp[gN,fI,ff],fun j u h=>?_,rfl,?_⟩
   ·refine nN nf mix a rfl rfl (by kernel_rfl) ?_;clear a;simp[gN,fI,lX,ff,ad];refine c2 k ?_;simp[ad];refine c1 m ?_;simp[ad];refine c1 o ?_;simp[ad,g];refine Go.az.e2 C ?_;simp[ad];refine Go.az.e2 a2 ?_;simp[ad];refine⟨by decide,⟨by repeat' first|rfl|apply am,by repeat' first|rfl|apply am⟩,?_⟩;refine dd.og (by simp) (by simp) (by simp[ij]) (by simp) ?_;simp;exact o5 f (by simp)
   ·rcases j with _|_|_|_|_|_|_|_|j
    all_goals first|(simp[fI,ff]at h;done)|(simp[gN,fI,ff]at u;omega)
   ·simp[gN,fI,ff]
  |cons x r=>
   have O:r.length+2<=cN:=by
    have:i<=1000000:=by omega
    rw[bo]at w;simp only[cN];omega
   rw[List.cons_append]at hs;subst hs;refine⟨?_,by simp[gN,fI,ff],fun j u h=>?_,by simp[gN,fI],?_⟩
   ·refine nN nf mix a rfl rfl (by kernel_rfl) ?_;clear a;simp[gN,fI,lX,ff,ad];refine c2 k ?_;simp[ad];refine c1 m ?_;simp[ad];refine c1 o ?_;simp[ad,g];refine Go.az.e2 C ?_;simp[ad];refine Go.az.e2 a2 ?_;simp[ad];refine⟨by omega,⟨by repeat' first|rfl|apply am,by repeat' first|rfl|apply am⟩,?_⟩;refine dd.og (by simp[ij]) (by simp) (by simp[ij]) (by simp) ?_;simp;exact o5 f (by simp)
   ·rcases j with _|_|_|_|_|_|_|_|_|_|_|_|_|_|j
    all_goals first|(simp[fI,ff]at h;done)|(simp[gN,fI,ff];done)|(simp[gN,fI,ff]at u;omega)
   ·simp[gN,fI,ff]
 ·intro L a;refine .inl ⟨by simp,?_⟩;rw[y];simp[gN,fI];have E:∀x∈s::l,mA x:=fun x hx=>by
   rw[<-y,aC.fY]at hx;obtain⟨i,hi,rfl⟩:=a9.1 hx;exact zG v d z e (bv.1 (bp.1 hi).1)
  have w:=aC.Ew t p n t.cs.length;rw[y,bo]at w;refine cp (Qk s l (by omega) (E _ a0) (fun x hx=>E x (aT _ hx))) (by simp[jH,iL,P1 (vs:=l.map ij) (l:=l.map fun x=>AV.p (ij x)) (by simp)];exact⟨rfl,rfl⟩) ?_;simp
theorem Wz(t:aC)(i:Nat)(hi:i<t.cs.length)(d:t.cs.length<=1000000)(b:∀p∈t.cs,dM p):au prog 113 [dj t,.int .i64 i] (.aA [eV (eK (t.at i)),eV (t.fP i)]):=by
 have a:=aC.get hi;have h:=iv (aC.eJ b hi);have j:=iv (aC.eJ b (t.jw (by omega) i));have e:=vM (t.at i) (aC.eJ b hi);have f:=zW t i hi d;have g:=vM (t.at (t.nx i)) (aC.eJ b (t.jw (by omega) i));have c:=yJ (eK (t.at (t.nx i))) (eK (t.at i)) (j.mono (by decide)) (h.mono (by decide));rw[show(eK (t.at (t.nx i))).sub (eK (t.at i))=t.fP i from rfl]at c;refine aM nf Fa mix (by simp[f113]) ?_;generalize t.fP i=w at*;simp[f113,ad,a,hi];refine e1 e ?_;simp[ad,a,hi];refine e2 f ?_;simp[ad,a,hi];refine e1 g ?_;simp[ad,a,hi];refine⟨by repeat' first|rfl|apply am,?_⟩;refine e2 c ?_;simp[ad,a,hi]
def aC.dI(t:aC)(d:V2)(i:Nat):Rat:=d.bF (t.fP i)
def aC.gu(t:aC)(p d:V2)(i:Nat):Rat:=(t.fP i).bF (p.sub (eK (t.at i)))/t.dI d i
def aC.fF(t:aC)(p d:V2):Nat->Int×Rat
 |0=>(-1,0)
 |m+1=>if cV (t.dI d m)<=0 then t.fF p d m else if(t.fF p d m).1<0\/dG (t.gu p d m) (t.fF p d m).2<0 then((m:Int),t.gu p d m)else t.fF p d m
theorem zN{t:aC}{p d:V2}{i:Nat}(e:∀c∈t.cs,dM c)(g:b7 90 p)(f:b7 90 d)(hi:i<t.cs.length):bt 239 (t.dI d i)/\bt 269 ((t.fP i).bF (p.sub (eK (t.at i))))/\bt 508 (t.gu p d i):=by
 have w:=aC.okW e hi;have h:=iv (aC.eJ e hi);have a:=nK f w;have b:=nK w (kL g h);exact⟨a.mono (by decide),b.mono (by decide),(U3 b a).mono (by decide)⟩
theorem DL{t:aC}{p d:V2}(b:∀c∈t.cs,dM c)(e:b7 90 p)(a:b7 90 d):∀m,m<=t.cs.length->bt 508 (t.fF p d m).2
 |0,_=>(show bt 1 (0:Rat)from⟨by decide,by decide⟩).mono (by decide)
 |m+1,h=>by
  have f:=DL b e a m (by omega);rw[aC.fF]
  split
  ·exact f
  ·split
   ·exact(zN b e a (by omega)).2.2
   ·exact f
theorem Wn(t:aC)(p d:V2)(q:t.cs.length<=1000000)(a:∀c∈t.cs,dM c)(f:b7 90 p)(h:b7 90 d):au prog 27 [dj t,eV p,eV d] (.aA [.int .i64 (t.fF p d t.cs.length).1,.str (br (t.fF p d t.cs.length).2)]):=by
 refine aM nf N9 mix (by simp[f27]) ?_;have m:br 0=[48]:=se;simp[f27,ad];refine lp (α:=Nat) (fun i=>⟨[(10,.p (.int .i64 i)),(9,.p (.str (br (t.fF p d i).2))),(8,.p (.int .i64 (t.fF p d i).1)),(5,.ptr 2 []),(4,.ptr 1 []),(3,.ptr 0 [])],[.box false (.p (dj t)),.box false (.p (eV p)),.box false (.p (eV d))]⟩) (fun i=>i<=t.cs.length) (fun i=>t.cs.length-i) 0 (by simp) ?_ (he:=by simp[aC.fF,m]);rintro i n
 by_cases hi:i<t.cs.length
 ·have g:=cQ (i:=i) (by omega);obtain⟨j,s,u⟩:=zN a f h hi;have v:=DL a f h i n;have w:=aC.okW a hi;have k:=iv (aC.eJ a hi);have k1:=Wz t i hi q a;have k2:=zt d (t.fP i) (h.mono (by decide)) (w.mono (by decide));have k3:=uJ (t.dI d i) (j.mono (by decide));have k4:=yJ p (eK (t.at i)) (f.mono (by decide)) (k.mono (by decide));have k5:=zt (t.fP i) (p.sub (eK (t.at i))) (w.mono (by decide)) ((kL f k).mono (by decide));rw[show d.bF (t.fP i)=t.dI d i from rfl]at k2;have hs:t.fF p d (i+1)=if cV (t.dI d i)<=0 then t.fF p d i else if(t.fF p d i).1<0\/dG (t.gu p d i) (t.fF p d i).2<0 then((i:Int),t.gu p d i)else t.fF p d i:=rfl
  by_cases c1:cV (t.dI d i)<=0
  ·rw[if_pos c1]at hs;simp[hi,ad];refine c2 k1 ?_;simp[ad];refine c2 k2 ?_;simp[ad];refine Go.az.c1 k3 ?_;simp[ad,c1,g];exact rd (i+1) hi (he:=by rw[hs];simp)
  ·rw[if_neg c1]at hs;have r:t.dI d i≠0:=fun e=>c1 (by rw[e];decide);have k6:=Wm ((t.fP i).bF (p.sub (eK (t.at i)))) (t.dI d i) (s.mono (by decide)) (j.mono (by decide)) r;rw[show(t.fP i).bF (p.sub (eK (t.at i)))/t.dI d i=t.gu p d i from rfl]at k6;have k7:=tz (t.gu p d i) (t.fF p d i).2 (u.mono (by decide)) (v.mono (by decide));generalize x:t.fF p d i=F at*;obtain⟨b,l⟩:=F;dsimp only at*;generalize dG (t.gu p d i) l=o at*
   by_cases c2:b<0
   ·rw[if_pos (.inl c2)]at hs;simp[hi,ad];refine Go.az.c2 k1 ?_;simp[ad];refine Go.az.c2 k2 ?_;simp[ad];refine Go.az.c1 k3 ?_;simp[ad,c1];refine Go.az.e2 k4 ?_;simp[ad];refine Go.az.e2 k5 ?_;simp[ad];refine Go.az.e2 k6 ?_;simp[ad,c2,g];exact rd (i+1) hi (he:=by rw[hs];simp)
   ·by_cases c3:o<0
    ·rw[if_pos (.inr c3)]at hs;simp[hi,ad];refine Go.az.c2 k1 ?_;simp[ad];refine Go.az.c2 k2 ?_;simp[ad];refine Go.az.c1 k3 ?_;simp[ad,c1];refine Go.az.e2 k4 ?_;simp[ad];refine Go.az.e2 k5 ?_;simp[ad];refine Go.az.e2 k6 ?_;simp[ad,c2];refine Go.az.c2 k7 ?_;simp[ad,c2,c3,g];exact rd (i+1) hi (he:=by rw[hs];simp)
    ·rw[if_neg (by omega)]at hs;simp[hi,ad];refine Go.az.c2 k1 ?_;simp[ad];refine Go.az.c2 k2 ?_;simp[ad];refine Go.az.c1 k3 ?_;simp[ad,c1];refine Go.az.e2 k4 ?_;simp[ad];refine Go.az.e2 k5 ?_;simp[ad];refine Go.az.e2 k6 ?_;simp[ad,c2];refine Go.az.c2 k7 ?_;simp[ad,c2,c3,g];exact rd (i+1) hi (he:=by rw[hs];simp)
 ·have:i=t.cs.length:=by omega
  subst this;simp
theorem Qb(p d:V2)(s:Rat)(c:b7 90 p)(a:b7 90 d)(hs:bt 508 s):au prog 28 [eV p,eV d,.str (br s)] (eV (p.add (d.mul s))):=by
 have k1:=PB d s (a.mono (by decide)) (hs.mono (by decide));have b:b7 598 (d.mul s):=⟨jz a.1 hs,jz a.2 hs⟩
 have k2:=Wo p (d.mul s) (c.mono (by decide)) (b.mono (by decide));refine aM nf Oa mix (by simp[f28]) ?_;generalize p.add (d.mul s)=r at*;generalize d.mul s=q at*;simp[f28,ad];refine e2 k1 ?_;simp[ad];refine e2 k2 ?_;simp[ad]
def fX(t:aC)(p:cW):Int:=bB [iM t,dE p]
def kO(t:aC)(p d:cW):Int:=bB [bf (decide (t.on (vP p)<0)) 16,ie d]
theorem zw{t:aC}(h:iM t=0):3<=t.cs.length/\t.cs.length<=12/\(∀p∈t.cs,dM p)/\t.fB=true:=by
 rw[DK]at h
 by_cases d:lV t=0
 ·rw[if_pos d]at h
  by_cases e:oZ t=0
  ·obtain⟨a,b,c⟩:=DE d;refine⟨a,b,c,?_⟩;rw[oZ,lB]at e;have f:=e (bf (!t.fB) 15) (by simp);cases hc:t.fB
   ·rw[hc]at f;simp[bf]at f
   ·rfl
  ·rw[if_neg e]at h;exact(e h).elim
 ·rw[if_neg d]at h;exact(d h).elim
theorem vO{t:aC}{p:cW}(h:fX t p=0):iM t=0/\dE p=0:=by
 rw[fX,lB]at h;exact⟨h _ (by simp),h _ (by simp)⟩
theorem Yc:CM prog 150 0=some (149,.agg 130):=by kernel_rfl
@[simp] theorem aIs(u:NS):sy prog 150 0 (.p (il u))=some (True,{v:=.p (eF u.a)}):=by
 simp[sy,Yc]
def vV:PV:=.st 23 [.str [],.str []]
noncomputable def kN(p d:cW)(x:XD):NV:=(NV.from p).add ((NV.from d).times (x.s.under x.g).a)
def cB(d:cW):NB:=⟨.from d,⟨.int 0,.int 0⟩,.int 0⟩
theorem zR(t:aC)(p d:cW)(N:o6 t)(M:ir p)(K:ir d)(x:XD)
 (hx:fX t p=0->kO t p d=0->b7 90 (vP p)/\b7 90 (vP d)/\(∃f l,t.fY (.from p) (cB d) t.cs.length=f::l/\jE f l=x)/\(x.s.norm.q=0->x.s.a.q≠0)/\bt 600 (x.s.under x.g).a.q):
 au prog 23 [di t,dA p,dA d] (.aA (if fX t p=0 then(if kO t p d=0 then[.int .i64 x.i,eV (kN p d x).q,.int .i64 0]else[.int .i64 0,vV,.int .i64 (kO t p d)])else[.int .i64 0,vV,.int .i64 (fX t p)])):=by
 have C:=N.cl;have k1:=PH t N;have k2:=v7 p M;have k3:=Ai [iM t,dE p] (by simp);have z1:=fun h:fX t p=0=>zw (vO h).1;have z2:=fun h:fX t p=0=>lA (vO h).2;have w:=fun h:fX t p=0=>KA p (z2 h).1 (z2 h).2 M;have k:=fun h:fX t p=0=>Qj t (.from p) C (z1 h).2.2.1 (l8 ⟨(gP (z2 h).1).mono (by decide),(gP (z2 h).2).mono (by decide)⟩);have Q:=Fg (decide (t.on (vP p)<0)) 16;have R:=Qt d K;have e:=Ai [bf (decide (t.on (vP p)<0)) 16,ie d] (by simp);rw[vc]at k;simp only[a8,b1]at k3 e;rw[show bB [iM t,dE p]=fX t p from rfl]at k3;rw[show bB [bf (decide (t.on (vP p)<0)) 16,ie d]=kO t p d from rfl]at e;have o:kO t p d=0->ie d=0:=fun h=>by
  rw[kO,lB]at h;exact h _ (by simp)
 by_cases b:fX t p=0
 case neg=>
  rw[if_neg b];clear z1 z2 w k hx o e;generalize fX t p=ae at*;generalize iM t=c1 at*;generalize dE p=c2 at*;refine aM nf vY mix (by simp[f23]) ?_;rw[vV];obtain⟨Y,Z⟩:=p;obtain⟨I,J⟩:=d;simp only[dA]at*;simp[f23,ad,-aH];rw[aH];simp[-aH,ad];rw[aH,aH];simp[-aH,ad];refine Go.az.e1 k1 ?_;simp[ad];refine Go.az.e1 k2 ?_;simp[ad];refine ep k3 (by simp;first|exact⟨rfl,rfl⟩|rfl) (by simp;first|exact⟨rfl,rfl⟩|rfl) ?_;simp[ad];refine⟨by repeat' first|rfl|apply am,?_⟩;simp[b,ad]
 have n:=w b;have H:=k b;rw[if_pos b]
 by_cases c:kO t p d=0
 case neg=>
  rw[if_neg c];rw[b]at k3;clear z1 z2 w k hx o;generalize kO t p d=af at*;clear b;generalize iM t=c1 at*;generalize dE p=c2 at*;generalize ie d=c3 at*;generalize decide (t.on (vP p)<0)=E at*;generalize bf E 16=w1 at*;generalize NV.from p=v1 at*;refine aM nf vY mix (by simp[f23]) ?_;rw[vV];obtain⟨Y,Z⟩:=p;obtain⟨I,J⟩:=d;simp only[dA]at*;simp[f23,ad,-aH];rw[aH];simp[-aH,ad];rw[aH,aH];simp[-aH,ad];refine Go.az.e1 k1 ?_;simp[ad,-aH];refine Go.az.e1 k2 ?_;simp[ad,-aH];refine ep k3 (by simp;first|exact⟨rfl,rfl⟩|rfl) (by simp;first|exact⟨rfl,rfl⟩|rfl) ?_;simp[ad,-aH];refine⟨by repeat' first|rfl|apply am,?_⟩;rw[aH];simp[ad,-aH];rw[aH,aH];simp[ad,-aH];refine Go.az.e1 n ?_;simp[ad,-aH];refine Go.az.e2 H ?_;simp[ad,-aH];refine Go.az.e2 Q ?_;simp[ad,-aH];refine Go.az.e1 R ?_;simp[ad,-aH];refine ep e (by simp;first|exact⟨rfl,rfl⟩|rfl) (by simp;first|exact⟨rfl,rfl⟩|rfl) ?_;simp[ad];refine⟨by repeat' first|rfl|apply am,?_⟩;simp[c,ad]
 rw[if_pos c];obtain⟨sp,m,⟨f,l,B,z⟩,P,r⟩:=hx b c;have G:=lA (xu (o c)).1;obtain⟨ag,ah,A,_⟩:=z1 b;have F:okB 900 (cB d):=⟨(l8 m).mono (by decide),⟨(show bt 1 (NF.int 0).q from⟨by decide,by decide⟩).mono (by decide),(show bt 1 (NF.int 0).q from⟨by decide,by decide⟩).mono (by decide)⟩,(show bt 1 (NF.int 0).q from⟨by decide,by decide⟩).mono (by decide)⟩
 have O:mA x:=by
  rw[<-z];have L:∀y∈f::l,mA y:=fun y v=>by
   rw[<-B,aC.fY]at v;obtain⟨i,hi,rfl⟩:=a9.1 v;exact zG C A ((l8 sp).mono (by decide)) F (bv.1 (bp.1 hi).1)
  exact aE2 l f (L _ a0) (fun y v=>L y (aT _ v))
 have S:=KA d G.1 G.2 K;have T:=PR (.from d);have U:=WA t (.from p) (cB d) C A ((l8 sp).mono (by decide)) F f l B;rw[z]at U;rw[show(⟨.from d,⟨.int 0,.int 0⟩,.int 0⟩:NB)=cB d from rfl]at T;have aa:=W2 x O P;have D:b7 690 ((NV.from d).times (x.s.under x.g).a).q:=by
  rw[NV.DW];exact⟨jz (l8 m).1 r,jz (l8 m).2 r⟩
 have ab:=V4 (.from d) (x.s.under x.g).a ((l8 m).mono (by decide)) (r.mono (by decide));have V:=W1 (.from p) ((NV.from d).times (x.s.under x.g).a) ((l8 sp).mono (by decide)) (D.mono (by decide));have j:b7 781 (kN p d x).q:=by
  rw[kN,NV.Ac];exact aFa (l8 sp) D
 rw[show(NV.from p).add ((NV.from d).times (x.s.under x.g).a)=kN p d x from rfl]at V;have W:=Bq (kN p d x).x (j.1.mono (by decide));have X:=Bq (kN p d x).y (j.2.mono (by decide));rw[OH (show bt 1800 (kN p d x).x.q from j.1.mono (by decide))]at W;rw[OH (show bt 1800 (kN p d x).y.q from j.2.mono (by decide))]at X;have ac:=V5 (kN p d x) (j.mono (by decide));rw[b]at k3;rw[c]at e;clear z1 z2 w k hx o z B P r F O D j sp m G A;generalize kN p d x=at_ at*;generalize (NV.from d).times (x.s.under x.g).a=v5 at*;generalize x.s.under x.g=u at*;generalize cB d=ai at*;generalize iM t=c1 at*;generalize dE p=c2 at*;generalize ie d=c3 at*;generalize decide (t.on (vP p)<0)=E at*;generalize bf E 16=w1 at*;generalize NV.from p=v1 at*;generalize NV.from d=v2 at*;refine aM nf vY mix (by simp[f23]) ?_;obtain⟨Y,Z⟩:=p;obtain⟨I,J⟩:=d;simp only[dA]at*;simp[f23,ad,-aH];rw[aH];simp[-aH,ad];rw[aH,aH];simp[-aH,ad];refine Go.az.e1 k1 ?_;simp[ad,-aH];refine Go.az.e1 k2 ?_;simp[ad,-aH];refine ep k3 (by simp;first|exact⟨rfl,rfl⟩|rfl) (by simp;first|exact⟨rfl,rfl⟩|rfl) ?_;simp[ad,-aH];refine⟨by repeat' first|rfl|apply am,?_⟩;rw[aH];simp[ad,-aH];rw[aH,aH];simp[ad,-aH];refine Go.az.e1 n ?_;simp[ad,-aH];refine Go.az.e2 H ?_;simp[ad,-aH];refine Go.az.e2 Q ?_;simp[ad,-aH];refine Go.az.e1 R ?_;simp[ad,-aH];refine ep e (by simp;first|exact⟨rfl,rfl⟩|rfl) (by simp;first|exact⟨rfl,rfl⟩|rfl) ?_;simp[ad,-aH];refine⟨by repeat' first|rfl|apply am,?_⟩;rw[aH];simp[ad,-aH];rw[aH];simp[ad];refine Go.az.e1 n ?_;simp[ad];refine Go.az.e1 S ?_;simp[ad];refine Go.az.e1 T ?_;simp[ad];refine Go.az.e3 U ?_;simp[ad];refine⟨by repeat' first|rfl|apply am,?_⟩;refine Go.az.e1 n ?_;simp[ad];refine Go.az.e1 S ?_;simp[ad];refine Go.az.e1 aa ?_;simp[ad];refine Go.az.e2 ab ?_;simp[ad];refine Go.az.e2 V ?_;simp[ad];refine⟨by repeat' first|rfl|apply am,?_⟩;refine Go.az.c1 W ?_;simp[ad];refine Go.az.c1 X ?_;simp[ad];refine Go.az.e1 ac ?_;simp[ad]
end Go.az
