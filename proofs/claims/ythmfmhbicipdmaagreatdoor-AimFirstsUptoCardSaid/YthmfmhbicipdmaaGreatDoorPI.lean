import Derived.Test.YthmfmhbicipdmaaGreatDoorPH
import Derived.Test.YthmfmhbicipdmaaGreatDoorPG
/- Parts of a proof. -/
set_option linter.unusedSimpArgs false
set_option linter.unusedVariables false
set_option linter.unusedSectionVars false
open Go.Proofs.Tryz
open Go.IntKind renaming i64->dp
open Int renaming natCast_nonneg->dq, tmod_eq_emod_of_nonneg->dx, tdiv_eq_ediv_of_nonneg->dy, ofNat_natAbs_of_nonpos->dz, natCast_emod->ea, natCast_ediv->eb, natAbs_of_nonneg->ec, natCast_mul->ed, le_of_lt->ee, natCast_add->ei, lt_or_le->ej, neg_neg->em
open List renaming getElem?_eq_getElem->en, range->eo, take_of_length_le->eq, getElem_range->er, getElem_map->ew, replicate->eP, length_pos_iff->e6, take->e7, ext_getElem->e8, map_cons->e9, drop->fa
open Nat renaming mul_comm->fb, mul_le_mul_right->fd, div_lt_iff_lt_mul->fl, mod_eq_of_lt->fm, lt_of_lt_of_le->fv, pow_pos->fw, pow_succ->gb, pow_le_pow_right->gc, mod_lt->ge, lt_or_ge->gg, mul_assoc->gi, div_add_mod->gj, lt_trans->gm, one_mul->gt, mul_add->gx, add_mul->gy, lt_of_le_of_lt->g0, div_div_eq_div_mul->g4, le_refl->g5, add_comm->g6, pow_zero->g7, pow_add->g8, mul_lt_mul_of_pos_right->g9, le_trans->ha, add_mul_mod_self_left->hb, div_eq_of_lt->hd, add_sub_cancel_left->hg, mul_le_mul_left->hj, mul_right_comm->hl, mod_mod_of_dvd->hm, gcd_comm->hn, mul_lt_mul''->ho, lt_of_not_le->hp, zero_le->hr, mul_one->ht, div_pos->hu, div_one->hv, pow_dvd_pow->hw, div_le_self->hz, gcd->hA, mul_le_mul->hB, add_mul_mod_self_right->hC, le_mul_of_pos_right->hD, le_of_lt->hE, le_div_iff_mul_le->hF, add_le_add_right->hG, div_mul_le_self->hH, div_eq_of_lt_le->hJ, sub_le->hK, gcd_zero_right->hL, add_sub_cancel->hM, sub_mul->hN, pow_one->hO, mul_pos->hP, mod_one->hQ, gcd_rec->hR
open Option.some renaming inj->hS
namespace Go.ak
open Go.Proofs
set_option maxHeartbeats 4000000
set_option maxRecDepth 100000
theorem Da(n:Nat)(f:Nat->Nat):du n f=((eo n).map f).map (AV.p∘fun x:Nat=>PV.int .i64 x):=by
 rw[du,List.map_map];rfl
theorem WI{n:Nat}{f:Nat->Nat}(h:∀j,f j=0):eP n (AV.p (.int .i64 0))=du n f:=by
 rw[LR];exact zN fun j _=>(h j).symm
theorem EB(a b:Nat)(w:(az bT a).length+(az bT b).length<=1000000):au prog 258 [eT a,eT b] (eT (a*b)):=by
 refine aG nf O6 mix (by simp[f258]) ?_;have Q:∀i(h:i<(az bT a).length),(az bT a)[i]=ae bT a i:=fun i h=>eO aZ h;have R:∀i(h:i<(az bT b).length),(az bT b)[i]=ae bT b i:=fun i h=>eO aZ h;have t:=cj aZ a;have e:=cj aZ b;have V:eJ ((eo ((az bT a).length+(az bT b).length)).map (ae bT (a*b)))=az bT (a*b):=jU aZ (by
  rw[g8];exact ho t e)
 have c:=uD ((eo ((az bT a).length+(az bT b).length)).map (ae bT (a*b))) (by simp;omega);rw[V]at c;have A:bT=1000000000:=rfl;simp only[eT];simp only[iP]at c;generalize az bT (a*b)=z at*;generalize az bT a=x at*;generalize az bT b=y at*;obtain⟨n,d⟩:∃n,x.length=n:=⟨_,rfl⟩
 obtain⟨m,g⟩:∃m,y.length=m:=⟨_,rfl⟩
 rw[d]at t c w;rw[g]at e c w;have B:=Da (n+m) (ae bT (a*b));have u:((eo (n+m)).map (ae bT (a*b))).length=n+m:=by simp
 generalize (eo (n+m)).map (ae bT (a*b))=l at c B u;have U:((n:Int)+m).toNat=n+m:=by omega
 have T:0<=(n:Int)+m:=by omega
 have Z:dp.wrap ((n:Int)+m)=(n:Int)+m:=aO _ (by omega) (by omega);simp[f258,d,g,Z,U,T];refine⟨by simp only[c8];omega,?_⟩;rw[WI (f:=dt bT a b 0 0) (by intro j;simp[pR,hQ,ae])];refine lp (α:=Nat) (fun i=>⟨[(6,.p (.int .i64 i)),(5,.sl 0 0 1 0 (n+m)),(1,.p (.seq (y.map fun x:Nat=>.int .i64 x))),(0,.p (.seq (x.map fun x:Nat=>.int .i64 x)))],[.arr .exact 0 1 (du (n+m) (dt bT a b i 0))]⟩)
  (fun i=>i<=n) (fun i=>n-i) 0 (by simp) ?_ (he:=by simp)
 intro i k1;have W:=ct (i:=i) (by omega)
 by_cases hi:i<n
 ·have r:i<x.length:=by rw[d];exact hi
  have hx:=Q i r;have ac:x[i]?=some (ae bT a i):=by rw[en r,hx]
  simp[d,hi];refine lp (α:=Nat) (fun j=>⟨[(8,.p (.int .i64 j)),(7,.p (.int .i64 (mulC bT a b i j:Nat))),(6,.p (.int .i64 i)),(5,.sl 0 0 1 0 (n+m)),(1,.p (.seq (y.map fun x:Nat=>.int .i64 x))),(0,.p (.seq (x.map fun x:Nat=>.int .i64 x)))],[.arr .exact 0 1 (du (n+m) (dt bT a b i j))]⟩)
   (fun j=>j<=m) (fun j=>m-j) 0 (by simp) ?_ (he:=by simp[CL])
  intro j k2;have Y:=ct (i:=j) (by omega);have H:((i:Int)+j).toNat=i+j:=by omega
  have G:0<=(i:Int)+j:=by omega
  have X:dp.wrap ((i:Int)+j)=(i:Int)+j:=aO _ (by omega) (by omega)
  by_cases F:j<m
  ·have s:j<y.length:=by rw[g];exact F
   have I:=R j s;have ad:y[j]?=some (ae bT b j):=by rw[en s,I]
   have E:i+j<n+m:=by omega
   have q:=um (dt bT a b i j) E;have o:=Dv aZ a b i j;have aj:=uu aZ a b i j;have v:=uu aZ a b i (j+1);have ak:dt bT a b i j (i+j)<bT:=by rw[dt];split<;>exact cr aZ _ _
   have ao:=cr aZ a i;have ap:=cr aZ b j;have hs:=DI (n:=n+m) (i:=i+j) (dt bT a b i j) (dt bT a b i (j+1)) (fun k _ hk=>KK aZ hk);rw[Mv]at hs;rw[<-o.1]at hs;have an:ae bT a i*ae bT b j<=999999999*999999999:=hB (by omega) (by omega);rw[<-o.2]at v;have M:=o.2;clear o;have N:((ae bT a i:Int)*(ae bT b j:Int))=((ae bT a i*ae bT b j:Nat):Int):=by push_cast;rfl
   generalize ae bT a i*ae bT b j=P at*;generalize dt bT a b i j (i+j)=O at*;generalize am:mulC bT a b i j=C at*;have w1:dp.wrap ((ae bT a i:Int)*(ae bT b j:Int))=P:=by rw[N];exact aO _ (by omega) (by omega)
   have ag:dp.wrap ((O:Int)+P)=O+P:=aO _ (by omega) (by omega);have ah:dp.wrap ((O:Int)+P+C)=O+P+C:=aO _ (by omega) (by omega);have J:((O:Int)+P+C).tmod 1000000000=((P+O+C)% bT:Nat):=by
    rw[dx (by omega),A];omega
   generalize (P+O+C)% bT=D at*;have K:((O:Int)+P+C).tdiv 1000000000=(mulC bT a b i (j+1):Nat):=by
    rw[dy (by omega),<-M,A];omega
   have L:dp.wrap ((mulC bT a b i (j+1):Nat):Int)=(mulC bT a b i (j+1):Nat):=aO _ (by omega) (by omega);simp[d,g,F,X,H,G,E,q,hx,ac,I,ad,r,s,w1,ag,ah,J,K,L,hs,aa];exact rd (j+1) (show j+1<=m by omega) (he:=by simp[Y])
  have:j=m:=by omega
  subst this;have ab:dp.wrap ((i:Int)+j)=(i:Int)+j:=aO _ (by omega) (by omega);have al:i+j<n+j:=by omega
  have af:dt bT a b i j (i+j)=0:=by
   rw[dt,if_neg (by omega)];exact jT (wQ aZ a i e)
  have q:=um (dt bT a b i j) al;rw[af]at q;have hs:=DI (n:=n+j) (i:=i+j) (dt bT a b i j) (dt bT a b (i+1) 0) (fun k _ hk=>by rw[pR,Mw aZ e hk]);rw[pR,<-Jy aZ e]at hs;have v:=uu aZ a b i j;have ai:dp.wrap ((mulC bT a b i j:Nat):Int)=(mulC bT a b i j:Nat):=aO _ (by omega) (by omega);simp[g,ab,H,G,hi,al,q,hs,ai,aa];exact rd (i+1) (show i+1<=n by omega) (he:=by simp[W])
 have:i=n:=by omega
 subst this;have S:du (i+m) (dt bT a b i 0)=du (i+m) (ae bT (a*b)):=zN fun k _=>by rw[pR,fm t]
 simp[d,S,B];refine cp c (by simp[u];exact⟨rfl,rfl⟩) ?_ (h1:=by simp[eq,u]);simp
theorem Xm{a b i:Nat}(c:0<b):(a/bT^(i+1)% b*bT+ae bT a i)/b=ae bT (a/b) i/\(a/bT^(i+1)% b*bT+ae bT a i)% b=a/bT^i% b:=by
 have e:=tN (B:=bT) a i;have g:=gj (a/bT^(i+1)) b;have f:a/bT^i=(a/bT^(i+1)% b*bT+ae bT a i)+a/bT^(i+1)/b*bT*b:=by
  rw[e];generalize ae bT a i=d;generalize a/bT^(i+1)/b=Q at*;generalize a/bT^(i+1)% b=R at*;rw[<-g,gy,fb b,hl Q b bT];omega
 have j:(a/bT^(i+1)% b*bT+ae bT a i)/b<bT:=by
  rw[fl c];have k:=cr aZ a i;have h:=fd bT (show a/bT^(i+1)% b+1<=b from ge _ c);rw[gy,gt]at h;rw[fb bT];omega
 constructor
 ·conv=>rhs;rw[ae,g4,fb b,<-g4,f,Nat.add_mul_div_right _ _ c,hC,fm j]
 ·rw[f,hC]
theorem A2(r x:Nat):(r:Int)*1000000000+x=((r*bT+x:Nat):Int):=by
 rw[ei,ed];rfl
def qT(Q i k:Nat):Nat:=if i<=k then ae bT Q k else 0
theorem Ep{m Q i:Nat}:(du m (qT Q (i+1))).set i (.p (.int .i64 (ae bT Q i:Nat)))=du m (qT Q i):=by
 have:=DI (n:=m) (i:=i) (qT Q (i+1)) (qT Q i) (fun k _ hk=>by
  rw[qT,qT]
  by_cases h:i<=k
  ·rw[if_pos h,if_pos (by omega)]
  ·rw[if_neg h,if_neg (by omega)])
 rw[<-this,qT,if_pos (g5 _)]
theorem Ny{m Q:Nat}:du m (qT Q 0)=du m (ae bT Q):=zN fun k _=>by rw[qT,if_pos (hr _)]
theorem Nz{m Q:Nat}:eP m (AV.p (.int .i64 0))=du m (qT Q m):=by
 rw[LR];exact zN fun k hk=>by rw[qT,if_neg (by omega)]
theorem Oi{m N:Nat}(h:N<bT^m)(b:m<=1048576):∃l:List Nat,l.length=m/\du m (ae bT N)=l.map (AV.p∘fun x:Nat=>PV.int .i64 x)/\au prog 309 [.seq (iP l)] (eT N):=by
 refine⟨(eo m).map (ae bT N),by simp,Da m _,?_⟩;have a:=uD ((eo m).map (ae bT N)) (by simp;omega);rw[show eJ ((eo m).map (ae bT N))=az bT N from jU aZ h]at a;exact a
theorem J4(a d:Nat)(t:0<d)(V:d<bT)(L:(az bT a).length<=1000000):au prog 308 [eT a,.int .i64 d] (.aC [eT (a/d),.int .i64 (a% d:Nat)]):=by
 refine aG nf OW mix (by simp[f308]) ?_;have J:∀i(h:i<(az bT a).length),(az bT a)[i]=ae bT a i:=fun i h=>eO aZ h;have v:=cj aZ a;obtain⟨l,j,w,e⟩:=Oi (m:=(az bT a).length) (N:=a/d) (g0 (hz _ _) v) (by omega);have g:a/bT^(az bT a).length% d=0:=by rw[hd v,Nat.zero_mod]
 have z:a/bT^0% d=a% d:=by rw[g7,hv]
 have U:bT=1000000000:=rfl;simp only[eT]at e⊢;simp only[iP]at e;generalize az bT (a/d)=Y at*;generalize az bT a=x at*;obtain⟨n,o⟩:∃n,x.length=n:=⟨_,rfl⟩
 rw[o]at j w g L;generalize X:a% d=rem at*;obtain⟨f,hf⟩:∃f:Nat->Nat,∀i,a/bT^i% d=f i:=⟨_,fun _=>rfl⟩
 have y:=fun i=>Xm (a:=a) (b:=d) (i:=i) t;have u:∀i,f i<d:=fun i=>by rw[<-hf];exact ge _ t
 simp only[hf]at g z y;have E:dp.wrap ((n:Int)-1)=n-1:=aO _ (by omega) (by omega);simp[f308,o,E];refine⟨by simp only[c8];omega,?_⟩;rw[Nz (Q:=a/d)];refine lp (α:=Nat) (fun i=>⟨[(8,.p (.int .i64 ((i:Int)-1))),(7,.p (.int .i64 (f i:Nat))),(6,.sl 0 0 1 0 n),(1,.p (.int .i64 d)),(0,.p (.seq (x.map fun x:Nat=>.int .i64 x)))],[.arr .exact 0 1 (du n (qT (a/d) i))]⟩)
  (fun i=>i<=n) (fun i=>i) n (g5 _) ?_ (he:=by simp[g])
 intro i k1
 by_cases hi:0<i
 ·obtain⟨k,rfl⟩:∃k,i=k+1:=⟨i-1,by omega⟩
  have F:dp.wrap ((k:Int)-1)=k-1:=aO _ (by omega) (by omega);have q:k<x.length:=by omega
  have hx:=J k q;have M:x[k]?=some (ae bT a k):=by rw[en q,hx]
  obtain⟨O,P⟩:=y k;have aM:=Ep (m:=n) (Q:=a/d) (i:=k);have gk:=um (qT (a/d) (k+1)) (show k<n by omega);have K:k<n:=by omega
  have S:=u (k+1);have W:=cr aZ a k;have hq:=cr aZ (a/d) k;have T:=u k;generalize f (k+1)=c at*;generalize G:f k=A at*;generalize ae bT a k=dk at*;generalize ae bT (a/d) k=r at*;have w1:dp.wrap ((c:Int)*1000000000)=c*1000000000:=aO _ (by omega) (by omega);have R:dp.wrap ((c:Int)*1000000000+dk)=c*1000000000+dk:=aO _ (by omega) (by omega);have s:(c:Int)*1000000000+dk=((c*bT+dk:Nat):Int):=A2 c dk;have B:((c:Int)*1000000000+dk).tdiv d=r:=by
   rw[s,dy (dq _),<-eb,O]
  have C:((c:Int)*1000000000+dk).tmod d=A:=by
   rw[s,dx (dq _),<-ea,P]
  have D:dp.wrap (r:Int)=r:=aO _ (by omega) (by omega);have H:¬(d:Int)=0:=by omega
  have I:¬d=0:=by omega
  simp[o,F,hx,M,K,q,w1,R,B,C,D,H,I,gk,aM,aa];exact rd k (show k<=n by omega) (he:=by simp[G])
 ·obtain rfl:i=0:=by omega
  simp[Ny,w,z];refine cp e (by simp[j];exact⟨rfl,rfl⟩) ?_ (h1:=by simp[eq,j]);simp
def lA(a b c:Nat):Nat->Nat->Nat
 |0,_=>0
 |t+1,r=>if bT<=t+1\/r*bT+c<(t+1)*b then(if bT<=r+a then t else lA a b c t (r+a))else t+1
theorem aAx{a b c t r:Nat}(h:0<t):lA a b c t r=if bT<=t\/r*bT+c<t*b then(if bT<=r+a then t-1 else lA a b c (t-1) (r+a))else t:=by
 cases t with
 |zero=>exact absurd h (Nat.lt_irrefl 0)
 |succ t=>rw[lA,hM]
theorem KI{a b:Nat}(c:a<bT)(d:b<bT):dp.wrap ((a:Int)*b)=(a:Int)*b:=by
 have e:a*b<=999999999*999999999:=hB (by simp only[bT]at c;omega) (by simp only[bT]at d;omega);rw[<-ed];generalize a*b=P at*;exact aO _ (by omega) (by omega)
theorem Sp{a b r w:Nat}:(r:Int)*1000000000+w<(a:Int)*b↔r*bT+w<a*b:=by
 rw[A2,<-ed];exact Int.ofNat_lt
theorem Bh{r v:Nat}:(1000000000:Int)<=(r:Int)+v↔bT<=r+v:=by simp only[bT];omega
theorem QU{t:Nat}:(1000000000:Int)<=(t:Int)↔bT<=t:=by simp only[bT];omega
theorem aLq{t:Nat}(h:0<t)(a:t<=bT+1):dp.wrap ((t:Int)-1)=((t-1:Nat):Int):=by
 simp only[bT]at a;rw[aO _ (by omega) (by omega)];omega
theorem PM{a v2 w0 w1 w2 Q:Nat}(u:bT<=2*a)(v:a<bT)(m:w0<=a)(w:w1<bT)(s:Q<bT)
 (d:∀q r,q*a+r=w0*bT+w1->q<bT->q*v2<=r*bT+w2->q<=Q+1)(k:∀q r,q*a+r=w0*bT+w1->r*bT+w2<q*v2->Q<q)
 (l:∀q r,bT<=r->q<bT->q*v2<=r*bT+w2):∀t r,t*a+r=w0*bT+w1->Q<=t->r<bT->t<=bT+1->Q<=lA a v2 w2 t r/\lA a v2 w2 t r<=Q+1/\lA a v2 w2 t r<bT
 |0,r,b,c,n,o=>by
  rw[lA];exact⟨c,by omega,by omega⟩
 |t+1,r,b,c,n,o=>by
  rw[lA]
  by_cases hc:bT<=t+1\/r*bT+w2<(t+1)*v2
  ·rw[if_pos hc];have hq:Q<=t:=by
    rcases hc with h|h
    ·omega
    ·have:=k _ _ b h;omega
   have i:t*a+(r+a)=w0*bT+w1:=by rw[gy,gt]at b;omega
   by_cases f:bT<=r+a
   ·rw[if_pos f];have g:t<bT:=by
     rcases gg t bT with h|h
     ·exact h
     ·have e:t=bT:=by omega
      subst e;have:=fd bT m;rw[fb a]at this;omega
    exact⟨hq,d _ _ i g (l _ _ f g),g⟩
   ·rw[if_neg f];exact PM u v m w s d k l t (r+a) i hq (by omega) (by omega)
  ·rw[if_neg hc];have j:t+1<bT:=by
    rcases gg (t+1) bT with h|h
    ·exact h
    ·exact(hc (.inl h)).elim
   have p:(t+1)*v2<=r*bT+w2:=by
    rcases gg (r*bT+w2) ((t+1)*v2)with h|h
    ·exact(hc (.inr h)).elim
    ·exact h
   exact⟨c,d _ _ b j p,j⟩
theorem aAq(W V N j n:Nat)(k:AK)(aA:Nat)(f:Nat->Nat)(ao:2<=n)(aB:(az bT V).length=n)(aQ:bT<=2*ae bT V (n-1))(aC:W<V*bT)(bb:N<=1000000)(aU:j+n<N)
 (hf:∀i,i<=n->f (j+i)=ae bT W i):∃t,W/V<=t/\t<=W/V+1/\t<bT/\
 cS prog 310 [.arr k aA 1 (du N f)] [.sl 0 aA 1 0 N,.p (eT V),.p (.int .i64 j)] [.arr k aA 1 (du N f)] (.p (.int .i64 t)):=by
 have aR:bT=1000000000:=rfl;have B:V<bT^n:=by rw[<-aB];exact cj aZ V
 have P:bT^(n-1)<=V:=by
  rcases gg V (bT^(n-1))with h|h
  ·have:=dT aZ (n-1) V h;omega
  ·exact h
 obtain⟨an,aT⟩:=DR aZ (show 1<=n by omega) B aC;have ar:W/bT^n=ae bT W n:=by
  rw[ae,fm];have:=cr aZ V (n-1);omega
 have s:W/bT^(n-1)=ae bT W n*bT+ae bT W (n-1):=by
  rw[tN,show n-1+1=n by omega,ar]
 have D:=Oa aZ ao P B (W:=W);have X:=fun q r=>E6 aZ ao P B (W:=W) (q:=q) (r:=r);have U:=fun q r=>PL aZ ao P B (W:=W) (q:=q) (r:=r);have aG:=fun q r=>N9 aZ (V:=V) (W:=W) (n:=n) (q:=q) (r:=r);rw[s]at D X U;have q1:=cr aZ W n;have a5:=cr aZ W (n-1);have bl:=cr aZ W (n-2);have q4:=cr aZ V (n-1);have a6:=cr aZ V (n-2);have ay:=hf n (g5 _);have f2:=hf (n-1) (by omega);have f3:=hf (n-2) (by omega);rw[ar]at an;have C:(az bT V)[n-1]?=some (ae bT V (n-1)):=by rw[en (by omega),eO aZ (by omega)]
 have S:(az bT V)[n-2]?=some (ae bT V (n-2)):=by rw[en (by omega),eO aZ (by omega)]
 have aE:∀h:n-1<(az bT V).length,(az bT V)[n-1]=ae bT V (n-1):=fun h=>eO aZ h;have aF:∀h:n-2<(az bT V).length,(az bT V)[n-2]=ae bT V (n-2):=fun h=>eO aZ h;simp only[eT];generalize az bT V=y at*;generalize bc:W/V=Q at*;generalize bg:ae bT W n=w0 at*;generalize bh:ae bT W (n-1)=w1 at*;generalize bi:ae bT W (n-2)=e at*;generalize be:ae bT V (n-1)=a at*;generalize bf:ae bT V (n-2)=v2 at*;clear s ar B P aC hf;have g1:=um f (show j+n<N by omega);have g2:=um f (show j+(n-1)<N by omega);have g3:=um f (show j+(n-2)<N by omega);rw[ay]at g1;rw[f2]at g2;rw[f3]at g3;have E:=wO N f;have au:∀aw:Nat×Nat->Prop,aS aw (du N f):=fun aw=>by simp
 generalize du N f=u at*;obtain⟨c,l⟩:∃c,c=w0*bT+w1:=⟨_,rfl⟩
 obtain⟨b,ab⟩:∃b,b=c/a:=⟨_,rfl⟩
 obtain⟨d,Y⟩:∃d,d=c% a:=⟨_,rfl⟩
 have aV:0<a:=by omega
 have aH:b*a+d=c:=by rw[ab,Y,fb];exact gj _ _
 have ap:d<bT:=gm (by rw[Y];exact ge _ aV) q4;have aq:b<=bT+1:=by
  have aN:=fd bT an;rw[fb a]at aN;rcases gg (bT+1) b with h|h
  ·have aP:=fd a (show bT+2<=b from h);rw[gy]at aP;omega
  ·exact h
 rw[<-l]at D X U;rw[<-ab]at D;have R:=PM (v2:=v2) (w2:=e) aQ q4 an a5 aT (by rw[<-l];exact X) (by rw[<-l];exact U) aG b d (by rw[<-l];exact aH) D ap aq;refine⟨lA a v2 e b d,R.1,R.2.1,R.2.2,?_⟩;obtain⟨T,s⟩:∃T,T=lA a v2 e b d:=⟨_,rfl⟩
 rw[<-s];clear R D X U aG;have m:y.length=n:=aB;have bm:dp.wrap ((j:Int)+n)=(j+n:Nat):=by rw[aO _ (by omega) (by omega)];omega
 have K:dp.wrap ((j:Int)+n)=(j:Int)+n:=aO _ (by omega) (by omega);have a9:dp.wrap ((j:Int)+n-1)=(j:Int)+n-1:=aO _ (by omega) (by omega);have z:dp.wrap ((n:Int)-1)=(n:Int)-1:=aO _ (by omega) (by omega);have aj:dp.wrap ((n:Int)-2)=(n:Int)-2:=aO _ (by omega) (by omega);have ak:dp.wrap ((j:Int)+n-2)=(j:Int)+n-2:=aO _ (by omega) (by omega);have a7:((j:Int)+n).toNat=j+n:=by omega
 have a8:((j:Int)+n-1).toNat=j+(n-1):=by omega
 have w:((n:Int)-1).toNat=n-1:=by omega
 have ah:((n:Int)-2).toNat=n-2:=by omega
 have ai:((j:Int)+n-2).toNat=j+(n-2):=by omega
 have wf:dp.wrap ((w0:Int)*1000000000)=(w0:Int)*1000000000:=aO _ (by omega) (by omega);have aD:(w0:Int)*1000000000+w1=(c:Nat):=by rw[l];exact A2 w0 w1
 have bd:c<1000000000000000000:=by rw[l,aR];omega
 have aJ:dp.wrap ((w0:Int)*1000000000+w1)=(c:Nat):=by rw[aD];exact aO _ (by omega) (by omega)
 have ax:((c:Nat):Int).tdiv a=b:=by rw[dy (dq _),<-eb,<-ab]
 have dr:((c:Nat):Int).tmod a=d:=by rw[dx (dq _),<-ea,<-Y]
 have aW:¬(a:Int)=0:=by omega
 have aX:¬a=0:=by omega
 have aK:dp.wrap (b:Int)=b:=aO _ (by omega) (by omega);have v:n-1<y.length:=by omega
 have H:n-2<y.length:=by omega
 have F:=aE v;have ac:=aF H;have aI:j+n<u.length:=by omega
 have aY:j+(n-1)<u.length:=by omega
 have G:j+(n-2)<u.length:=by omega
 have a0:j+(n-1)<N:=by omega
 have ad:j+(n-2)<N:=by omega
 have aL:u[j+n]=.p (.int .i64 w0):=by rw[en aI]at g1;exact hS g1
 have aM:u[j+(n-1)]=.p (.int .i64 w1):=by rw[en aY]at g2;exact hS g2
 have O:u[j+(n-2)]=.p (.int .i64 e):=by rw[en G]at g3;exact hS g3
 have J:¬u=[]:=by rintro rfl;simp at aI
 have a1:0<=(j:Int)+n:=by omega
 have a2:0<=(j:Int)+n-1:=by omega
 have bj:0<=(j:Int)+n-2:=by omega
 have a4:0<=(n:Int)-1:=by omega
 have bk:0<=(n:Int)-2:=by omega
 have a3:1<=(j:Int)+n:=by omega
 have af:2<=(j:Int)+n:=by omega
 have I:1<=(n:Int):=by omega
 have ag:2<=(n:Int):=by omega
 refine gM nf Is mix (by simp[f310]) ?_;simp[f310,m,K,a9,z,a7,a8,w,g1,g2,C,F,wf,aJ,ax,dr,aW,aX,aK,E,aU,v,aL,aM,J,a1,a2,a4,a3,I,a0,aa];refine lp (α:=Nat×Nat) (fun x=>⟨[(10,.p (.int .i64 x.2)),(9,.p (.int .i64 x.1)),(7,.p (.int .i64 n)),(2,.p (.int .i64 j)),(1,.p (.seq (y.map fun x:Nat=>.int .i64 x))),(0,.sl 0 aA 1 0 N)],[.arr k aA 1 u]⟩)
  (fun x=>T=lA a v2 e x.1 x.2/\x.2<bT/\x.1<=bT+1) (fun x=>x.1) (b,d) ⟨s,ap,aq⟩ ?_ (hr2:=by simp[au])
 clear l aH ab Y aD aJ ax dr s wf ap aq aK aE aF ay f2 f3;rintro⟨t,r⟩ ⟨k1,k2,k3⟩;dsimp only at k1 k2 k3;have al:dp.wrap ((r:Int)*1000000000)=(r:Int)*1000000000:=aO _ (by omega) (by omega);have am:dp.wrap ((r:Int)*1000000000+e)=(r:Int)*1000000000+e:=aO _ (by omega) (by omega);have L:dp.wrap ((r:Int)+a)=(r:Int)+a:=aO _ (by omega) (by omega);rcases Nat.eq_zero_or_pos t with A|A
 ·subst A;rw[lA]at k1;have c1:¬(r:Int)*1000000000+e<0:=by rw[A2];exact Int.not_lt.2 (dq _)
  have ba:dp.wrap 0=0:=rfl;simp[m,ba,aj,ah,al,am,L,ak,ai,S,ac,H,g3,O,G,ad,E,J,af,ag,K,c1,k1,aa]
 rw[aAx A]at k1;have Z:=aLq A k3;have k4:∀x,x<=bT+1->x-1<=bT+1:=fun x h=>ha (hK _ _) h;have k5:t-1<t:=Nat.sub_lt A (by decide)
 by_cases c0:bT<=t
 ·have o:=QU.2 c0;rw[if_pos (.inl c0)]at k1
  by_cases c2:bT<=r+a
  ·have g:=Bh.2 c2;rw[if_pos c2]at k1;simp[o,Z,m,z,w,C,F,v,I,L,g,k1]
  ·have g:=mt Bh.1 c2;rw[if_neg c2]at k1;simp[o,Z,m,z,w,C,F,v,I,L,g];exact rd (t-1,r+a) ⟨k1,hp c2,k4 _ k3⟩ k5 (he:=by simp) (hr2:=by simp[au])
 have o:=mt QU.1 c0;have av:=KI (hp c0) a6
 by_cases c1:r*bT+e<t*v2
 ·have M:=Sp.2 c1;rw[if_pos (.inr c1)]at k1
  by_cases c2:bT<=r+a
  ·have g:=Bh.2 c2;rw[if_pos c2]at k1;simp[o,Z,m,z,w,C,F,v,I,L,g,k1,aj,ah,al,am,av,ak,ai,S,ac,H,g3,O,G,ad,E,J,af,ag,K,M,aa]
   done
  ·have g:=mt Bh.1 c2;rw[if_neg c2]at k1;simp[o,Z,m,z,w,C,F,v,I,L,g,aj,ah,al,am,av,ak,ai,S,ac,H,g3,O,G,ad,E,J,af,ag,K,M,aa];exact rd (t-1,r+a) ⟨k1,hp c2,k4 _ k3⟩ k5 (he:=by simp) (hr2:=by simp[au])
 ·have M:=mt Sp.1 c1;rw[if_neg (fun h=>h.elim c0 c1)]at k1;simp[o,m,z,w,aj,ah,al,am,av,ak,ai,S,ac,H,g3,O,G,ad,E,J,af,ag,K,M,k1,aa]
theorem Ys{b k f d:Nat}(n:b<bT^(k+1))(h:d=b/bT^k)(p:0<d)(hf:f=bT/(d+1)):0<f/\f<bT/\b*f<bT^(k+1)/\bT^k<=b*f/\bT<=2*ae bT (b*f) k:=by
 have e:0<bT^k:=fw (by decide);have s:d<bT:=by
  rw[h,fl e,fb,<-gb];exact n
 have r:bT=1000000000:=rfl;have g:=hH bT (d+1);have j:=Nat.lt_div_mul_add (a:=bT) (show 0<d+1 by omega);rw[<-hf]at g j;have i:0<f:=by rw[hf];exact hu (by omega) (by omega)
 have q:f<bT:=by
  rw[hf];exact Nat.div_lt_self (by decide) (by omega)
 have o:b<(d+1)*bT^k:=by
  rw[<-fl e,<-h];omega
 have l:d*bT^k<=b:=by rw[h];exact hH _ _
 have m:b*f<bT^(k+1):=by
  rw[gb];have e1:b*f<(d+1)*bT^k*f:=g9 o i;have e2:(d+1)*bT^k*f=f*(d+1)*bT^k:=by rw[fb,<-gi]
  have e3:=fd (bT^k) g;rw[fb (bT^k) bT];omega
 refine⟨i,q,m,?_,?_⟩
 ·have e1:1*bT^k<=d*bT^k:=fd _ p;rw[gt]at e1;exact ha (ha e1 l) (hD _ i)
 ·have e1:b*f/bT^k=ae bT (b*f) k:=by
   rw[ae,fm];rw[fl e,fb bT,<-gb];exact m
  have e2:d*f<=b*f/bT^k:=by
   rw[hF e,hl];exact fd _ l
  rw[e1]at e2;have e3:d+f<=d*f+1:=by
   obtain⟨d',rfl⟩:∃d',d=d'+1:=⟨d-1,by omega⟩
   obtain⟨c,rfl⟩:∃c,f=c+1:=⟨f-1,by omega⟩
   have:(d'+1)*(c+1)=d'*c+d'+c+1:=by rw[gy,gx,gt,ht];omega
   omega
  have e4:f*(d+1)=d*f+f:=by rw[gx,ht,fb]
  rw[e4]at g j;generalize d*f=P at*;generalize ae bT (b*f) k=Z at*;omega
def gN(V R t i:Nat):Nat:=(t*(V% bT^i)+R% bT^i)/bT^i
theorem Zj{V R t:Nat}:gN V R t 0=0:=by simp[gN,hQ]
theorem L7{W V R t n i:Nat}(h:R+t*V=W+bT^(n+1))(hi:i<=n):ae bT R i+t*ae bT V i+gN V R t i=ae bT W i+gN V R t (i+1)*bT:=by
 have k:0<bT^i:=fw (by decide);have l:0<bT^(i+1):=fw (by decide);have d:(t*(V% bT^(i+1))+R% bT^(i+1))% bT^(i+1)=W% bT^(i+1):=by
  have e1:(t*V+R)% bT^(i+1)=(t*(V% bT^(i+1))+R% bT^(i+1))% bT^(i+1):=by
   have a:=gj V (bT^(i+1));have e:=gj R (bT^(i+1));have f:t*V+R=t*(V% bT^(i+1))+R% bT^(i+1)+bT^(i+1)*(t*(V/bT^(i+1))+R/bT^(i+1)):=by
    have g:t*V=t*(V% bT^(i+1))+bT^(i+1)*(t*(V/bT^(i+1))):=by
     conv=>lhs;rw[<-a]
     rw[gx,<-gi,fb t (bT^(i+1)),gi];omega
    rw[g,gx]
    conv=>lhs;rw[<-e]
    omega
   rw[f,hb]
  rw[<-e1,g6 (t*V),h];have:bT^(i+1)∣bT^(n+1):=hw _ (by omega);obtain⟨c,hc⟩:=this;rw[hc,hb]
 have e2:=gj (t*(V% bT^(i+1))+R% bT^(i+1)) (bT^(i+1));have e3:=gj (t*(V% bT^i)+R% bT^i) (bT^i);rw[d]at e2;rw[show(t*(V% bT^(i+1))+R% bT^(i+1))/bT^(i+1)=gN V R t (i+1)from rfl]at e2;rw[show(t*(V% bT^i)+R% bT^i)/bT^i=gN V R t i from rfl]at e3;have j:(t*(V% bT^i)+R% bT^i)% bT^i=W% bT^i:=by
  have:=congrArg (·% bT^i) d
  have b:bT^i∣bT^(i+1):=hw _ (by omega);rw[hm _ b,hm _ b]at this;rw[<-this,mod_pow_succ,mod_pow_succ];rw[gx];have:t*(V% bT^i)+t*(bT^i*ae bT V i)+(R% bT^i+bT^i*ae bT R i)=t*(V% bT^i)+R% bT^i+bT^i*(t*ae bT V i+ae bT R i):=by
   rw[gx,<-gi t,fb t (bT^i),gi];omega
  rw[this,hb]
 rw[j]at e3;rw[mod_pow_succ,mod_pow_succ,mod_pow_succ,gb]at e2;have e4:bT^i*(ae bT R i+t*ae bT V i+gN V R t i)=bT^i*(ae bT W i+gN V R t (i+1)*bT):=by
  have a:t*(V% bT^i+bT^i*ae bT V i)=t*(V% bT^i)+bT^i*(t*ae bT V i):=by
   rw[gx,<-gi t,fb t (bT^i),gi]
  rw[a]at e2;rw[gx,gx,gx];rw[gi (bT^i),fb bT]at e2;generalize bT^i*ae bT R i=m at*;generalize bT^i*(t*ae bT V i)=o at*;generalize bT^i*gN V R t i=p at*;generalize bT^i*ae bT W i=q at*;generalize bT^i*(gN V R t (i+1)*bT)=r at*;generalize t*(V% bT^i)=s at*;omega
 exact Nat.eq_of_mul_eq_mul_left k e4
theorem Zi{r p w b':Nat}(h:r+p=w+b'*bT)(j:r<bT)(k:w<bT):(w<p% bT/\r+p% bT=w+bT/\b'=p/bT+1)\/(p% bT<=w/\r+p% bT=w/\b'=p/bT):=by
 have e:=gj p bT;have i:=ge p (show 0<bT by decide);generalize p/bT=q at*;generalize p% bT=m at*;have b:r+m+bT*q=w+b'*bT:=by omega
 rw[fb bT]at b;rcases Nat.lt_trichotomy b' q with a|a|a
 ·have:=fd bT (show b'+1<=q from a);rw[gy,gt]at this;omega
 ·subst a;right;omega
 ·have d:=fd bT (show q+1<=b' from a);rw[gy,gt]at d;have f:b'=q+1:=by
   rcases gg (q+1) b' with c|c
   ·have g:=fd bT (show q+2<=b' from c);rw[gy]at g;omega
   ·omega
  subst f;rw[gy,gt]at b;left;omega
theorem ZQ{W V t n:Nat}(y:0<V)(j:V<bT^n)(l:W<bT^(n+1))(C:W/V<=t)(D:t<=W/V+1):
 ∃R,R+t*V=W+bT^(n+1)/\
 ((t=W/V/\gN V R t n=ae bT W n/\∀i,i<=n->ae bT R i=ae bT (W% V) i)\/
  (t=W/V+1/\gN V R t n=ae bT W n+1/\dj bT R V n=1/\∀i,i<=n->ae bT (R+V) i=ae bT (W% V) i)):=by
 have H:0<bT^n:=fw (by decide);have B:0<bT^(n+1):=fw (by decide);have k:V<bT^(n+1):=fv j (gc (by decide) (by omega));have z:=gj W V;have o:=ge W y;have d:bT^(n+1)=bT^n*bT:=gb _ _;have F:bT=1000000000:=rfl;have A:W% V<bT^n:=gm o j;have s:ae bT (W% V) n=0:=jT A;have q:ae bT V n=0:=jT j;have m:∀R,R+t*V=W+bT^(n+1)->ae bT R n+gN V R t n=ae bT W n+gN V R t (n+1)*bT:=fun R v=>by
  have:=L7 v (g5 n);rw[q,Nat.mul_zero,Nat.add_zero]at this;exact this
 rcases gg t (W/V+1)with u|u
 ·have b:t=W/V:=by omega
  have r:t*V+W% V=W:=by rw[b,fb];exact z
  refine⟨W% V+bT^(n+1),by omega,.inl ⟨b,?_,fun i hi=>?_⟩⟩
  ·have e:=m (W% V+bT^(n+1)) (by omega);have f:gN V (W% V+bT^(n+1)) t (n+1)=0:=by
    rw[gN,fm k,Nat.add_mod_right,fm (gm o k),r,hd l]
   have a:ae bT (W% V+bT^(n+1)) n=0:=by
    rw[<-s];exact wL (by omega)
   rw[f,a]at e;omega
  ·exact wL (by omega)
 ·have b:t=W/V+1:=by omega
  have r:t*V+W% V=W+V:=by rw[b,gy,gt,fb];omega
  have G:V<=bT^(n+1)+W% V:=by omega
  refine⟨bT^(n+1)+W% V-V,by omega,.inr ⟨b,?_,?_⟩⟩
  ·have e:=m (bT^(n+1)+W% V-V) (by omega);have w:bT^(n+1)+W% V-V<bT^(n+1):=by omega
   have f:gN V (bT^(n+1)+W% V-V) t (n+1)=1:=by
    rw[gN,fm k,fm w];have:t*V+(bT^(n+1)+W% V-V)=W+bT^(n+1):=by omega
    rw[this,Nat.add_div_right _ B,hd l]
   have a:ae bT (bT^(n+1)+W% V-V) n=bT-1:=by
    have g:(bT^(n+1)+W% V-V)/bT^n=bT-1:=by
     refine hJ ?_ ?_
     ·rw[hN,gt,fb bT,<-d];omega
     ·rw[show bT-1+1=bT by decide,fb bT,<-d];omega
    rw[ae,g];decide
   rw[f,a]at e;omega
  ·have x:bT^(n+1)+W% V-V+V=W% V+bT^(n+1):=by omega
   have p:∀i,i<=n->ae bT (bT^(n+1)+W% V-V+V) i=ae bT (W% V) i:=fun i hi=>by
    rw[x];exact wL (by omega)
   refine⟨?_,p⟩;have h:=(rz aZ (bT^(n+1)+W% V-V) V n).1;have E:=my aZ (bT^(n+1)+W% V-V) V n;rw[p n (g5 _),s,q]at h;have a:ae bT (bT^(n+1)+W% V-V) n=bT-1:=by
    have g:(bT^(n+1)+W% V-V)/bT^n=bT-1:=by
     refine hJ ?_ ?_
     ·rw[hN,gt,fb bT,<-d];omega
     ·rw[show bT-1+1=bT by decide,fb bT,<-d];omega
    rw[ae,g];decide
   rw[a]at h;generalize dj bT (bT^(n+1)+W% V-V) V n=c at*;rcases gg 0 c with hc|hc
   ·omega
   ·have:c=0:=by omega
    subst this;simp only[bT]at h;omega
theorem ZP{V R t i:Nat}:gN V R t i<=t:=by
 have a:0<bT^i:=fw (by decide);have b:=ge V a;have c:=ge R a;rw[gN];refine Nat.le_of_lt_succ ?_;rw[fl a];have d:=hj t (hE b);rw[Nat.succ_mul];omega
theorem aLr{t v a w r b':Nat}(h:r+(t*v+a)=w+b'*bT)(f:r<bT)(g:w<bT)(b:t<bT)(c:v<bT)(i:a<=t):
 ∃(p q m:Nat),dp.wrap ((t:Int)*v)=(t:Int)*v/\dp.wrap ((t:Int)*v+a)=p/\(p:Int).tmod 1000000000=m/\(p:Int).tdiv 1000000000=q/\q<bT/\m<bT/\
 (((w:Int)-m<0/\(w:Int)-m+1000000000=r/\b'=q+1)\/(¬(w:Int)-m<0/\(w:Int)-m=r/\b'=q)):=by
 have d:t*v<=999999999*999999999:=hB (by simp only[bT]at b;omega) (by simp only[bT]at c;omega);have j:=Zi h f g;have e:=ge (t*v+a) (show 0<bT by decide);have hq:(t*v+a)/bT<bT:=by
  rw[fl (by decide)];simp only[bT]at b⊢;omega
 refine⟨t*v+a,(t*v+a)/bT,(t*v+a)% bT,KI b c,?_,?_,?_,hq,e,?_⟩
 ·rw[<-ed,<-ei];generalize t*v=P at*;simp only[bT]at b;exact aO _ (by omega) (by omega)
 ·rw[dx (dq _),ea];rfl
 ·rw[dy (dq _),eb];rfl
 ·generalize (t*v+a)/bT=q at*;generalize (t*v+a)% bT=m at*;clear h d;simp only[bT]at*;omega
def cQ(n:Nat)(f:Nat->Int):List AV:=(eo n).map fun j=>.p (.int .i64 (f j))
theorem mz(n:Nat)(f:Nat->Int):(cQ n f).length=n:=by simp[cQ]
theorem Sh(n:Nat)(f:Nat->Nat):du n f=cQ n (fun k=>(f k:Nat)):=rfl
theorem aK1{n j:Nat}(f:Nat->Int)(h:j<n):(cQ n f)[j]?=some (.p (.int .i64 (f j))):=by
 rw[cQ,List.getElem?_map,List.getElem?_range h];rfl
theorem wW{n i:Nat}{v:Int}(f g:Nat->Int)(c:g i=v)(h:∀j,j<n->j≠i->g j=f j):(cQ n f).set i (.p (.int .i64 v))=cQ n g:=by
 apply e8 (by simp[cQ]);intro j d b;rw[mz]at b;rw[List.getElem_set];simp only[cQ,ew,er]
 by_cases a:i=j
 ·subst a;rw[if_pos rfl,c]
 ·rw[if_neg a,h j b (fun e=>a e.symm)]
@[simp] theorem aPd{N:Nat×Nat->Prop}{n:Nat}{f:Nat->Int}:aS N (cQ n f)=True:=by
 rw[c7,eq_iff_iff,iff_true];intro v a;simp only[cQ,List.mem_map]at a;obtain⟨x,_,rfl⟩:=a;trivial
theorem MY{n:Nat}{f g:Nat->Int}(h:∀j,j<n->f j=g j):cQ n f=cQ n g:=by
 rw[cQ,cQ];apply List.map_congr_left;intro j a;rw[h j (List.mem_range.1 a)]
def gG(X R j i k:Nat):Int:=if j<=k/\k<j+i then(ae bT R (k-j):Nat)else(ae bT X k:Nat)
theorem win_zero{X R j k:Nat}:gG X R j 0 k=(ae bT X k:Nat):=by rw[gG,if_neg (by omega)]
theorem Eg{X R j i:Nat}:gG X R j i (j+i)=(ae bT X (j+i):Nat):=by rw[gG,if_neg (by omega)]
theorem aMa{X R j i:Nat}:gG X R j (i+1) (j+i)=(ae bT R i:Nat):=by
 rw[gG,if_pos (by omega),hg]
theorem aMb{X R j i k:Nat}(h:k≠j+i):gG X R j (i+1) k=gG X R j i k:=by
 rw[gG,gG]
 by_cases a:j<=k/\k<j+i
 ·rw[if_pos a,if_pos (by omega)]
 ·rw[if_neg a,if_neg (by omega)]
def ig(X R S j n i k:Nat):Int:=if k=j+n then -1 else if j<=k/\k<j+i then(ae bT S (k-j):Nat)else gG X R j n k
theorem aL6{X R S j n i:Nat}(h:i<n):ig X R S j n i (j+i)=(ae bT R i:Nat):=by
 rw[ig,if_neg (by omega),if_neg (by omega),gG,if_pos (by omega),hg]
theorem aL7{X R S j n i:Nat}(h:i<n):ig X R S j n (i+1) (j+i)=(ae bT S i:Nat):=by
 rw[ig,if_neg (by omega),if_pos (by omega),hg]
theorem aL8{X R S j n i k:Nat}(h:k≠j+i):ig X R S j n (i+1) k=ig X R S j n i k:=by
 rw[ig,ig]
 by_cases a:k=j+n
 ·rw[if_pos a,if_pos a]
 ·rw[if_neg a,if_neg a]
  by_cases b:j<=k/\k<j+i
  ·rw[if_pos b,if_pos (by omega)]
  ·rw[if_neg b,if_neg (by omega)]
theorem YU{X V j n N:Nat}(d:0<V)(c:V<bT^n)(e:X<V*bT^(j+1)){g:Nat->Int}(h:∀k,k<N->g k=if k=j+n then 0 else if j<=k/\k<j+n then(ae bT (X/bT^j% V) (k-j):Nat)else(ae bT X k:Nat)):
 cQ N g=cQ N fun k=>(ae bT (X% (V*bT^j)) k:Nat):=by
 refine MY fun k hk=>?_;rw[h k hk,(ze (B:=bT) (R:=X) (V:=V) (j:=j)).1,KM aZ];have i:=ge (X/bT^j) d;have f:X<bT^(n+(j+1)):=by
  rw[g8];exact gm e (g9 c (fw (by decide)))
 by_cases a:k<j
 ·rw[if_pos a,if_neg (by omega),if_neg (by omega)]
 ·rw[if_neg a]
  by_cases m:k<j+n
  ·rw[if_neg (by omega),if_pos (by omega)]
  ·have l:ae bT (X/bT^j% V) (k-j)=0:=jT (fv (gm i c) (gc (by decide) (by omega)));rw[l]
   by_cases b:k=j+n
   ·rw[if_pos b]
   ·rw[if_neg b,if_neg (by omega)];have:ae bT X k=0:=jT (fv f (gc (by decide) (by omega)));rw[this]
theorem Er{f:Nat}(a:0<f)(h:f<bT):eT f=.seq [.int .i64 f]:=by rw[eT,ov a h];rfl
theorem Yc{r:Nat}(h:r<bT):eJ [r]=az bT r:=by
 have:=jU aZ (m:=1) (n:=r) (by rw[hO];exact h);rw[<-this,row,List.range_one,e9,List.map_nil,ae,g7,hv,fm h]
@[simp] theorem aO6{σ:Nat->Nat}{n:Nat}{f:Nat->Int}:cU σ (cQ n f)=cQ n f:=by
 have:∀l:List Nat,cU σ (l.map fun j=>AV.p (.int .i64 (f j)))=l.map fun j=>AV.p (.int .i64 (f j)):=by
  intro l
  induction l with
  |nil=>rfl
  |cons a r b=>simp only[e9,cU,b];rfl
 exact this _
@[simp] theorem aPb{n j:Nat}{f:Nat->Int}(h:j<(cQ n f).length):(cQ n f)[j]=.p (.int .i64 (f j)):=by
 simp only[cQ,ew,er]
@[simp] theorem aO8{n j:Nat}{f:Nat->Nat}(h:j<(du n f).length):(du n f)[j]=.p (.int .i64 (f j:Nat)):=by
 simp only[du,ew,er]
@[simp] theorem aPc{n:Nat}{f:Nat->Int}:(cQ (n+1) f=[])=False:=by
 rw[eq_iff_iff,iff_false];intro h;have:=congrArg List.length h;rw[mz]at this;simp at this
theorem ED(a b:Nat)(K:0<b)(c5:(az bT a).length<=400000)(b7:(az bT b).length<=400000):au prog 252 [eT a,eT b] (.aC [eT (a/b),eT (a% b)]):=by
 have bO:=J5 a b (by omega) (by omega);refine aG nf HK mix (by simp[f252]) ?_;simp[f252];refine c2 bO ?_
 by_cases S:a<b
 ·have G:=qe.2 S;simp[G,hd S,fm S,eT,A1]
 have G:¬gf a b<0:=fun h=>S (qe.1 h);have a6:∀i(h:i<(az bT b).length),(az bT b)[i]=ae bT b i:=fun i h=>eO aZ h;have C:=cj aZ b
 by_cases b5:(az bT b).length=1
 ·rw[b5,hO]at C;have L:=J4 a b K C (by omega);have cc:=ge a K;have ch:=Yc (gm cc C);have aq:=uD [a% b] (by simp);rw[ch]at aq;have cY:=ov K C;rw[Er K C];simp only[eT,iP]at L aq⊢;generalize az bT (a/b)=cR at*;generalize az bT (a% b)=cS at*;generalize az bT a=x at*;generalize a% b=di at*;simp[G];refine c2 L ?_;simp;refine cp aq (by simp;exact⟨rfl,rfl⟩) ?_;simp
 have c4:2<=(az bT b).length:=by
  rcases gg (az bT b).length 1 with h|h
  ·have e:(az bT b).length=0:=by omega
   rw[e,g7]at C;omega
  ·omega
 obtain⟨k,hk⟩:∃k,(az bT b).length=k+1:=⟨(az bT b).length-1,by omega⟩
 obtain⟨n,aD⟩:∃n,n=k+1:=⟨_,rfl⟩
 rw[hk]at C;obtain⟨d,Z⟩:∃d,d=b/bT^k:=⟨_,rfl⟩
 have ax:bT^k<=b:=by
  rcases gg b (bT^k)with h|h
  ·have:=dT aZ k b h;omega
  ·exact h
 have bf:0<bT^k:=fw (by decide);have bP:0<d:=by rw[Z];exact hu ax bf
 have bU:d<bT:=by rw[Z,fl bf,fb,<-gb];exact C
 have a7:ae bT b k=d:=by rw[ae,<-Z,fm bU]
 obtain⟨f,hf⟩:∃f,f=bT/(d+1):=⟨_,rfl⟩
 obtain⟨f0,f1,f2,f3,f4⟩:=Ys C Z bP hf;obtain⟨V,I⟩:∃V,V=b*f:=⟨_,rfl⟩
 rw[<-I]at f2 f3 f4;have a0:(az bT V).length=n:=by
  have H:=dT aZ (k+1) V f2;have bE:=Kp aZ f3;omega
 have ag:=EB b f (by rw[ov f0 f1];simp;omega);have ah:=EB a f (by rw[ov f0 f1];simp;omega);rw[Er f0 f1,<-I]at ag;rw[Er f0 f1]at ah;have bR:(az bT b)[k]?=some d:=by rw[en (by omega),a6 k (by omega),a7]
 have bS:∀h:k<(az bT b).length,(az bT b)[k]=d:=fun h=>by rw[a6 k h,a7]
 have c7:(az bT b).length<=400000:=b7;have cX:bT=1000000000:=rfl;have cI:dp.wrap ((d:Int)+1)=(d:Int)+1:=aO _ (by omega) (by omega);have bW:(1000000000:Int).tdiv ((d:Int)+1)=(f:Nat):=by
  rw[dy (by decide),hf,eb];rfl
 have bQ:¬(d:Int)+1=0:=by omega
 have cJ:dp.wrap (k:Int)=k:=aO _ (by omega) (by omega);have wf:dp.wrap (f:Int)=f:=aO _ (by omega) (by omega);have b6:¬(k:Int)+1=1:=by omega
 have b0:¬k=0:=by omega
 have bp:k<(az bT b).length:=by omega
 have b2:=bS bp;simp only[eT]at ag ah⊢;generalize cu:az bT (a/b)=cR at*;generalize cv:az bT (a% b)=cS at*;generalize aH:az bT a=x at*;generalize dd:az bT b=y at*;generalize aj:az bT V=s at*;simp[G,hk,b6,b0,cJ,bR,b2,bp,cI,bW,bQ,wf];refine cp ag (by simp;exact⟨rfl,rfl⟩) ?_;simp[a0];refine cp ah (by simp;exact⟨rfl,rfl⟩) ?_;obtain⟨u,D⟩:∃u,az bT (a*f)=u:=⟨_,rfl⟩
 obtain⟨c,M⟩:∃c,x.length=c:=⟨_,rfl⟩
 have bh:u.length<=c+1:=by
  rw[<-D,<-M,<-aH];refine dT aZ _ _ ?_;rw[gb];exact ho (cj aZ a) f1
 have cm:∀i(h:i<u.length),u[i]=ae bT (a*f) i:=fun i h=>by
  have:=eO aZ (n:=a*f) (i:=i) (by rw[D];exact h);simp only[D]at this;exact this
 rw[D];have cW:b<=a*f:=ha (Nat.le_of_not_lt S) (hD _ f0);have bj:¬u=[]:=by
  intro h;rw[h]at D;have:=wy.1 D;omega
 have a3:a*f<bT^u.length:=by rw[<-D];exact cj aZ _
 have ai:List.map (AV.p∘fun x:Nat=>PV.int dp x) u=cQ u.length fun k=>(ae bT (a*f) k:Nat):=by
  apply e8 (by simp[cQ]);intro i G cV;simp only[ew,Function.comp,cQ,er];rw[cm i (by simpa using G)]
 have ck:u.length<=400001:=by omega
 obtain⟨A,bi⟩:∃A,u.length=A:=⟨_,rfl⟩
 rw[bi]at a3 ai bh ck;clear ag ah;have cl:¬(cQ A fun k=>(ae bT (a*f) k:Nat))=[]:=by rw[<-ai];simpa using bj
 have ci:¬A=0:=by rw[<-bi];exact fun h=>bj (List.length_eq_zero_iff.1 h)
 simp[M,ai,cl,ci,mz];refine⟨⟨by rw[<-ai];exact Sk u,by simp only[c8];omega⟩,?_⟩;have c6:c<=400000:=by omega
 have bz:dp.wrap ((c:Int)+1)=c+1:=aO _ (by omega) (by omega);refine tg (fun s'=>∃l o,aN s'.env 8=.sl 0 0 1 0 1/\aN s'.env 9=.p (.seq (s.map fun x:Nat=>.int .i64 x))/\aN s'.env 10=.p (.int .i64 n)/\aN s'.env 11=.sl 2 l 1 0 (c+1)/\s'.heap=[.arr .frozen 0 1 [.p (.int .i64 f)],o,.arr .grow l 1 (cQ (c+1) fun k=>(ae bT (a*f) k:Nat))]) ?_ ?_
 ·refine lp (α:=Nat) (fun i=>⟨[(11,.sl 2 (i-A) 1 0 i),(10,.p (.int .i64 n)),(9,.p (.seq (s.map fun x:Nat=>.int .i64 x))),(8,.sl 0 0 1 0 1),(0,.p (.seq (x.map fun x:Nat=>.int .i64 x)))],[.arr .frozen 0 1 [.p (.int .i64 f)],.hole,.arr .grow (i-A) 1 (cQ i fun k=>(ae bT (a*f) k:Nat))]⟩)
   (fun i=>A<=i/\i<=c+1) (fun i=>c+1-i) A ⟨g5 _,bh⟩ ?_ (he:=by simp) (hh:=by simp)
  rintro i ⟨k1,k2⟩
  by_cases hi:i<c+1
  ·have bX:(i:Int)<c+1:=by omega
   have ct:ae bT (a*f) i=0:=jT (fv a3 (gc (by decide) k1));have ce:cQ (i+1) (fun k=>(ae bT (a*f) k:Nat))=cQ i (fun k=>(ae bT (a*f) k:Nat))++[.p (.int .i64 0)]:=by
    rw[cQ,List.range_succ,List.map_append];simp[ct,cQ]
   have bg:i+1-A=i-A+1:=by omega
   have cg:e7 i (cQ i fun k=>(ae bT (a*f) k:Nat))=cQ i fun k=>(ae bT (a*f) k:Nat):=eq (by rw[mz];exact g5 _);simp[M,bz,bX,mz,cg];refine⟨by simp only[c8];omega,?_⟩;exact rd (i+1) ⟨by omega,hi⟩ (he:=by simp[bg]) (hh:=by simp[bg,ce]) (hr2:=by simp)
  ·have ab:i=c+1:=by omega
   subst ab;simp[M,bz]
 rintro⟨bC,bV⟩ ⟨l,o,E,P,Q,F,T⟩;dsimp only at E P Q F T;subst T;have dc:n<=c:=by
  rw[aD];rcases gg c (k+1)with h|h
  ·have H:=cj aZ a;rw[aH,M]at H;have bE:=fv H (gc (show 0<bT by decide) (show c<=k by omega));omega
  ·exact h
 obtain⟨m,da⟩:∃m,m=c-n:=⟨_,rfl⟩
 have cM:dp.wrap ((c:Int)+1-n)=(m:Int)+1:=by rw[aO _ (by omega) (by omega)];omega
 have cN:((m:Int)+1).toNat=m+1:=by omega
 have cO:dp.wrap (m:Int)=m:=aO _ (by omega) (by omega);have ca:(m:Int)+1<=c8:=by simp only[c8];omega
 simp[E,P,Q,F,cM,cN,cO];refine⟨⟨by omega,ca⟩,?_⟩;have av:0<V:=by rw[I];exact hP K f0
 have W:V<bT^n:=by rw[aD];exact f2
 have a4:a<bT^c:=by rw[<-M,<-aH];exact cj aZ a
 have bL:a*f% (V*bT^(m+1))=a*f:=by
  refine fm ?_;rw[I,hl];refine g9 ?_ f0;refine fv a4 ?_;rw[show c=k+(m+1)by omega,g8];exact fd _ ax
 obtain⟨X,J⟩:∃X:Nat->Nat,∀j,X j=a*f% (V*bT^j):=⟨_,fun _=>rfl⟩
 have Y:∀j,X j<V*bT^j:=fun j=>by rw[J];exact ge _ (hP av (fw (by decide)))
 have bN:∀j,X (j+1)% (V*bT^j)=X j:=fun j=>by
  rw[J,J,hm];exact Nat.mul_dvd_mul_left _ (hw _ (by omega))
 have bM:∀j,X (j+1)/bT^j/V=ae bT (a/b) j:=fun j=>by
  rw[J,<-(ze (B:=bT) (R:=a*f% (V*bT^(j+1))) (V:=V) (j:=j)).2,gb,<-gi,Nat.mod_mul_right_div_self,<-g4,I,Nat.mul_div_mul_right _ _ f0,ae]
 have a9:=fun j(h:j<=m)=>aAq (X (j+1)/bT^j) V (c+1) j n .grow l (ae bT (X (j+1))) (by omega) (by rw[aj];exact a0) (by rw[aD,hM];exact f4) (by rw[fl (fw (by decide)),gi,fb bT,<-gb];exact Y (j+1)) (by omega) (by omega) (fun i hi=>(rN (B:=bT) _ _ _).symm);simp only[eT,Sh,aj]at a9;rw[show(eP (m+1) (AV.p (PV.int dp 0)))=du (m+1) (qT (a/b) (m+1))from Nz];rw[show(cQ (c+1) fun k=>(ae bT (a*f) k:Nat))=cQ (c+1) fun k=>(ae bT (X (m+1)) k:Nat)by rw[J,bL]];refine tg (fun s'=>∃br,aN s'.env 8=.sl 0 0 1 0 1/\aN s'.env 10=.p (.int .i64 n)/\aN s'.env 11=.sl 2 l 1 0 (c+1)/\aN s'.env 12=.sl 3 0 1 0 (m+1)/\s'.heap=[.arr .frozen 0 1 [.p (.int .i64 f)],br,.arr .grow l 1 (cQ (c+1) fun k=>(ae bT (X 0) k:Nat)),.arr .exact 0 1 (du (m+1) (ae bT (a/b)))]) ?_ ?_
 ·refine lp (α:=Nat) (fun j=>⟨[(13,.p (.int .i64 ((j:Int)-1))),(12,.sl 3 0 1 0 (m+1)),(11,.sl 2 l 1 0 (c+1)),(10,.p (.int .i64 n)),(9,.p (.seq (s.map fun x:Nat=>.int .i64 x))),(8,.sl 0 0 1 0 1)],[.arr .frozen 0 1 [.p (.int .i64 f)],.hole,.arr .grow l 1 (cQ (c+1) fun k=>(ae bT (X j) k:Nat)),.arr .exact 0 1 (du (m+1) (qT (a/b) j))]⟩)
   (fun j=>j<=m+1) (fun j=>j) (m+1) (g5 _) ?_ (he:=by simp[E,P,Q,F])
  intro j cZ;rcases j with _|j
  ·simp[Ny]
  ·obtain⟨t,aQ,an,ao,bF⟩:=a9 j (by omega);have bZ:¬(j:Int)<0:=by omega
   have bK:X (j+1)/bT^j<bT^(n+1):=by
    rw[fl (fw (by decide)),<-g8];refine fv (Y (j+1)) ?_;rw[show n+1+j=n+(j+1)by omega,g8 bT n (j+1)];exact fd _ (hE W)
   obtain⟨R,bI,bJ⟩:=ZQ av W bK aQ an;have iD:=fun i(hi:i<=n)=>L7 (i:=i) bI hi;have aw:∀i,ae bT (X (j+1)/bT^j) i=ae bT (X (j+1)) (j+i):=fun i=>rN _ _ _;have dm:((n:Nat):Int).toNat=n:=by omega
   simp[-aW];rw[aW,aW];simp[-aW,bZ];rw[aW,LX,aW];simp[-aW];refine cf bF [2] ?_;simp[-aW,sig,bm];rw[aW];simp[-aW];rw[aW,aW];simp[-aW];have aY:∀i(h:i<s.length),s[i]=ae bT V i:=fun i h=>by
    have:=eO aZ (n:=V) (i:=i) (by rw[aj];exact h);simp only[aj]at this;exact this
   have aV:X (j+1)/bT^j/V=ae bT (a/b) j:=bM j;have c0:(j:Int)<=400000:=by omega
   have db:(n:Int)<=400001:=by omega
   have a8:∀g:Nat->Int,(∀k,k<c+1->g k=if k=j+n then 0 else if j<=k/\k<j+n then(ae bT (X (j+1)/bT^j% V) (k-j):Nat)else(ae bT (X (j+1)) k:Nat))->cQ (c+1) g=cQ (c+1) fun k=>(ae bT (X j) k:Nat):=fun g ay=>by
    rw[YU av W (Y (j+1)) ay,bN]
   have co:cQ (c+1) (gG (X (j+1)) R j 0)=cQ (c+1) fun k=>(ae bT (X (j+1)) k:Nat):=MY fun k _=>win_zero;refine lp (α:=Nat) (fun i=>⟨[(16,.p (.int .i64 i)),(15,.p (.int .i64 (gN V R t i:Nat))),(14,.p (.int .i64 t)),(13,.p (.int .i64 j)),(12,.sl 3 0 1 0 (m+1)),(11,.sl 2 l 1 0 (c+1)),(10,.p (.int .i64 n)),(9,.p (.seq (s.map fun x:Nat=>.int .i64 x))),(8,.sl 0 0 1 0 1)],[.arr .frozen 0 1 [.p (.int .i64 f)],.hole,.arr .grow l 1 (cQ (c+1) (gG (X (j+1)) R j i)),.arr .exact 0 1 (du (m+1) (qT (a/b) (j+1)))]⟩)
    (fun i=>i<=n) (fun i=>n-i) 0 (hr _) ?_ (he:=by simp[Zj]) (hh:=by simp[co])
   intro i hi;have bx:dp.wrap ((i:Int)+j)=(i:Int)+j:=aO _ (by omega) (by omega);have bv:((i:Int)+j).toNat=i+j:=by omega
   have bq:¬((i:Int)+j<0):=by omega
   have bw:dp.wrap ((i:Int)+1)=(i:Int)+1:=aO _ (by omega) (by omega)
   by_cases al:i<n
   ·have bb:(i:Int)<n:=by omega
    have ac:i<s.length:=by omega
    have aF:=aY i ac;have aM:=iD i hi;rw[aw]at aM;have bs:=cr aZ (X (j+1)) (j+i);have cx:=cr aZ R i;have cy:=cr aZ V i;obtain⟨p,q,ak,s1,s2,bt,bu,dk,dl,cB⟩:=aLr (by rw[<-Nat.add_assoc];exact aM) cx bs ao cy ZP;have bo:gG (X (j+1)) R j i (i+j)=(ae bT (X (j+1)) (j+i):Nat):=by rw[g6 i j,Eg]
    have ba:0<=(i:Int)+j:=by omega
    have get:(cQ (c+1) (gG (X (j+1)) R j i))[i+j]?=some (.p (.int .i64 (ae bT (X (j+1)) (j+i):Nat))):=by
     rw[aK1 _ (by omega),g6 i j,Eg]
    have set:(cQ (c+1) (gG (X (j+1)) R j i)).set (i+j) (.p (.int .i64 (ae bT R i:Nat)))=cQ (c+1) (gG (X (j+1)) R j (i+1)):=by
     rw[g6 i j];exact wW _ _ aMa fun k _ hk=>aMb hk
    have ab:i+j<c+1:=by omega
    have bk:s[i]?=some (ae bT V i):=by rw[en ac,aF]
    generalize ae bT (X (j+1)) (j+i)=w at*;generalize ae bT V i=v at*;generalize ae bT R i=r at*;generalize gN V R t i=cT at*;generalize a5:gN V R t (i+1)=cU at*;have cd:¬(r:Int)<0:=by omega
    have bB:dp.wrap ((w:Int)-ak)=(w:Int)-ak:=aO _ (by omega) (by omega);have bA:dp.wrap (q:Int)=q:=aO _ (by omega) (by omega);have aU:dp.wrap ((q:Int)+1)=(q:Int)+1:=aO _ (by omega) (by omega);rcases cB with⟨c1,c2,c3⟩|⟨c1,c2,c3⟩
    ·have wr:dp.wrap ((w:Int)-ak+1000000000)=r:=by rw[c2];exact aO _ (by omega) (by omega)
     simp[bb,bx,bv,bq,ac,aF,bk,s1,s2,bt,bu,ab,get,bo,ba,mz,bB,c1,wr,aU,set,bw,aa,aI,bG];exact rd (i+1) (show i+1<=n by omega) (he:=by simp[a5,c3,bA,aU])
    ·have wr:dp.wrap ((w:Int)-ak)=r:=by rw[bB,c2]
     simp[bb,bx,bv,bq,ac,aF,bk,s1,s2,bt,bu,ab,get,bo,ba,mz,c1,wr,cd,set,bw,aa,aI,bG];exact rd (i+1) (show i+1<=n by omega) (he:=by simp[a5,c3,bA,aU])
   ·have bY:i=n:=by omega
    subst bY;have aT:dp.wrap ((j:Int)+i)=(j:Int)+i:=aO _ (by omega) (by omega);have aR:((j:Int)+i).toNat=j+i:=by omega
    have aJ:0<=(j:Int)+i:=by omega
    have aA:j+i<c+1:=by omega
    have bn:gG (X (j+1)) R j i (j+i)=(ae bT (X (j+1)) (j+i):Nat):=Eg;have bs:=cr aZ (X (j+1)) (j+i);have aS:dp.wrap ((j:Int)-1)=(j:Int)-1:=aO _ (by omega) (by omega);rcases bJ with⟨aL,U,aP⟩|⟨aL,U,aP,cA⟩
    ·rw[aw]at U;rw[U];generalize ae bT (X (j+1)) (j+i)=w at*;have ap:dp.wrap 0=0:=rfl;have am:dp.wrap ((w:Int)-w)=0:=by rw[Int.sub_self];rfl
     have aE:t=ae bT (a/b) j:=by rw[aL,aV]
     have aK:(du (m+1) (qT (a/b) (j+1))).set j (.p (.int .i64 t))=du (m+1) (qT (a/b) j):=by rw[aE];exact Ep
     have fs:(cQ (c+1) (gG (X (j+1)) R j i)).set (j+i) (.p (.int .i64 0))=cQ (c+1) fun k=>(ae bT (X j) k:Nat):=by
      rw[wW _ (fun k=>if k=j+i then 0 else gG (X (j+1)) R j i k) (if_pos rfl) (fun k _ hk=>if_neg hk)];refine a8 _ fun k _=>?_
      by_cases hk:k=j+i
      ·rw[if_pos hk,if_pos hk];rfl
      ·rw[if_neg hk,if_neg hk,gG]
       by_cases z:j<=k/\k<j+i
       ·rw[if_pos z,if_pos z,aP (k-j) (by omega)]
       ·rw[if_neg z,if_neg z]
     have ad:j<m+1:=by omega
     have cb:¬((ae bT (X j) (j+i):Nat):Int)<0:=by omega
     simp[aT,aR,aJ,aA,bn,mz,wO,am,ap,aS,ad,cb,fs,aK,aa,aI,bG];exact rd j (show j<=m+1 by omega)
    ·rw[aw]at U;rw[U];generalize ae bT (X (j+1)) (j+i)=w at*;have ap:dp.wrap 0=0:=rfl;have am:dp.wrap ((w:Int)-((w+1:Nat):Int))= -1:=by rw[show(w:Int)-((w+1:Nat):Int)= -1 by omega];rfl
     have cE:dp.wrap (-1)= -1:=rfl;have fs:(cQ (c+1) (gG (X (j+1)) R j i)).set (j+i) (.p (.int .i64 (-1)))=cQ (c+1) (ig (X (j+1)) R (R+V) j i 0):=by
      refine wW _ _ (by rw[ig,if_pos rfl]) fun k _ hk=>?_;rw[ig,if_neg hk,if_neg (by omega)]
     have aE:(t:Int)-1=ae bT (a/b) j:=by rw[aL,aV];omega
     have cP:dp.wrap ((t:Int)-1)=ae bT (a/b) j:=by rw[aE];have:=cr aZ (a/b) j;exact aO _ (by omega) (by omega)
     have ad:j<m+1:=by omega
     have cq:ig (X (j+1)) R (R+V) j i 0 (j+i)= -1:=by rw[ig,if_pos rfl]
     push_cast at am;simp[aT,aR,aJ,aA,bn,mz,wO,am,ap,cE,cP,aS,ad,fs,cq,aa,aI,bG];refine lp (α:=Nat) (fun k=>⟨[(20,.p (.int .i64 k)),(19,.p (.int .i64 (dj bT R V k:Nat))),(14,.p (.int .i64 (ae bT (a/b) j:Nat))),(13,.p (.int .i64 j)),(12,.sl 3 0 1 0 (m+1)),(11,.sl 2 l 1 0 (c+1)),(10,.p (.int .i64 i)),(9,.p (.seq (s.map fun x:Nat=>.int .i64 x))),(8,.sl 0 0 1 0 1)],[.arr .frozen 0 1 [.p (.int .i64 f)],.hole,.arr .grow l 1 (cQ (c+1) (ig (X (j+1)) R (R+V) j i k)),.arr .exact 0 1 (du (m+1) (qT (a/b) (j+1)))]⟩)
      (fun k=>k<=i) (fun k=>i-k) 0 (hr _) ?_ (he:=by simp[yW])
     intro k hk;have cL:dp.wrap ((k:Int)+j)=(k:Int)+j:=aO _ (by omega) (by omega);have cD:((k:Int)+j).toNat=k+j:=by omega
     have cw:0<=(k:Int)+j:=by omega
     have cK:dp.wrap ((k:Int)+1)=(k:Int)+1:=aO _ (by omega) (by omega);obtain⟨q1,cz⟩:=rz aZ R V k;have df:=my aZ R V k;have q4:=my aZ R V (k+1);have dg:=cr aZ R k;have dh:=cr aZ V k
     by_cases bc:k<i
     ·have b1:(k:Int)<i:=by omega
      have aB:k<s.length:=by omega
      have bl:=aY k aB;have cn:s[k]?=some (ae bT V k):=by rw[en aB,bl]
      have b4:k+j<c+1:=by omega
      have ay:ig (X (j+1)) R (R+V) j i k (k+j)=(ae bT R k:Nat):=by rw[g6 k j,aL6 bc]
      have aM:(cQ (c+1) (ig (X (j+1)) R (R+V) j i k)).set (k+j) (.p (.int .i64 (ae bT (R+V) k:Nat)))=cQ (c+1) (ig (X (j+1)) R (R+V) j i (k+1)):=by
       rw[g6 k j];exact wW _ _ (aL7 bc) fun x _ hx=>aL8 hx
      have aQ:((ae bT R k:Nat):Int)+(ae bT V k:Nat)+(dj bT R V k:Nat)=((ae bT R k+ae bT V k+dj bT R V k:Nat):Int):=by omega
      have an:((ae bT R k+ae bT V k+dj bT R V k:Nat):Int).tmod 1000000000=(ae bT (R+V) k:Nat):=by
       rw[<-q1,dx (dq _),ea];rfl
      have ao:((ae bT R k+ae bT V k+dj bT R V k:Nat):Int).tdiv 1000000000=(dj bT R V (k+1):Nat):=by
       rw[<-cz,dy (dq _),eb];rfl
      rw[<-aQ]at an ao;have w1:dp.wrap ((ae bT R k:Nat)+(ae bT V k:Nat))=(ae bT R k:Nat)+(ae bT V k:Nat):=aO _ (by omega) (by omega);have cF:dp.wrap ((ae bT R k:Nat)+(ae bT V k:Nat)+(dj bT R V k:Nat))=(ae bT R k:Nat)+(ae bT V k:Nat)+(dj bT R V k:Nat):=aO _ (by omega) (by omega);have cG:dp.wrap (ae bT (R+V) k:Nat)=(ae bT (R+V) k:Nat):=by have:=cr aZ (R+V) k;exact aO _ (by omega) (by omega)
      have cH:dp.wrap (dj bT R V (k+1):Nat)=(dj bT R V (k+1):Nat):=aO _ (by omega) (by omega);simp[b1,aB,bl,cn,cL,cD,cw,b4,ay,aM,mz,w1,cF,cG,cH,an,ao,cK,aa,aI,bG];exact rd (k+1) (show k+1<=i by omega)
     ·have b3:k=i:=by omega
      subst b3;have cs:ig (X (j+1)) R (R+V) j k k (j+k)= -1:=by rw[ig,if_pos rfl]
      have cC:dp.wrap (-1+1)=0:=rfl;have aK:(du (m+1) (qT (a/b) (j+1))).set j (.p (.int .i64 (ae bT (a/b) j:Nat)))=du (m+1) (qT (a/b) j):=Ep;have bD:(cQ (c+1) (ig (X (j+1)) R (R+V) j k k)).set (j+k) (.p (.int .i64 0))=cQ (c+1) fun k=>(ae bT (X j) k:Nat):=by
       rw[wW _ (fun x=>if x=j+k then 0 else ig (X (j+1)) R (R+V) j k k x) (if_pos rfl) (fun x _ hx=>if_neg hx)];refine a8 _ fun x _=>?_
       by_cases hk:x=j+k
       ·rw[if_pos hk,if_pos hk];rfl
       ·rw[if_neg hk,if_neg hk,ig,if_neg hk]
        by_cases z:j<=x/\x<j+k
        ·rw[if_pos z,if_pos z,cA (x-j) (by omega)]
        ·rw[if_neg z,if_neg z,gG,if_neg z]
      rw[aP];simp[aT,aR,aJ,aA,cs,mz,wO,cC,ap,aS,ad,bD,aK,aa,aI,bG];exact rd j (show j<=m+1 by omega)
 rintro⟨bC,bV⟩ ⟨br,E,P,Q,F,T⟩;dsimp only at E P Q F T;subst T;have a1:X 0=a% b*f:=by rw[J,g7,ht,I,Nat.mul_mod_mul_right]
 have bH:a/b<bT^(m+1):=by
  rw[fl K];refine fv a4 ?_;rw[show c=m+1+k by omega,g8];exact hj _ ax
 obtain⟨de,bd,b8,aX⟩:=Oi (m:=m+1) (N:=a/b) bH (by omega);have a2:X 0<bT^n:=fv (by have:=Y 0;rwa [g7,ht]at this) (hE W);obtain⟨O,c9,af,b9,ar⟩:∃O:List Nat,O=(eo (c+1)).map (ae bT (X 0))/\O.length=c+1/\du (c+1) (ae bT (X 0))=O.map (AV.p∘fun x:Nat=>PV.int .i64 x)/\au prog 309 [.seq (iP (O.take n))] (eT (X 0)):=by
  refine⟨_,rfl,by simp,Da _ _,?_⟩;have e:((eo (c+1)).map (ae bT (X 0))).take n=(eo n).map (ae bT (X 0)):=Nj (by omega) fun k hk=>rfl;rw[e];have H:=uD ((eo n).map (ae bT (X 0))) (by simp;omega);rw[show eJ ((eo n).map (ae bT (X 0)))=az bT (X 0)from jU aZ a2]at H;exact H
 have L:=J4 (X 0) f f0 f1 (by
  have:=dT aZ n (X 0) a2;omega)
 rw[a1,Nat.mul_div_cancel _ f0]at L;rw[a1]at ar;rw[<-Sh,b9,b8]at*;simp only[eT,cu,cv,iP]at aX ar L⊢;have aC:¬O=[]:=by intro h;rw[h]at af;simp at af
 have be:n<=c+1:=by omega
 simp[E,P,Q,F,af,aC,be];refine ep ar (by simp[af,be,aC];first|exact⟨rfl,rfl⟩|rfl) (by simp[aC];first|exact⟨rfl,rfl⟩|rfl) ?_ (h1:=by simp[List.map_take]);simp[E,aa,aI,bG];refine e2 L ?_;simp[F];refine⟨by repeat' first|rfl|apply And.intro,?_⟩;refine cp aX (by simp[bd];first|exact⟨rfl,rfl⟩|rfl) ?_ (h1:=by simp[eq,bd]);simp
theorem WQ(n:Nat):eJ (az bT n)=az bT n:=by
 have h:=DU aZ (l:=az bT n) (fun d a=>by
  obtain⟨i,hi,rfl⟩:=List.getElem_of_mem a;rw[eO aZ hi];exact cr aZ _ _)
 rw[<-h,LD aZ]
theorem ru(neg:Bool)(n:Nat)(h:(az bT n).length<=1048576):au prog 254 [.bool neg,eT n] (eG (if neg=true then -(n:Int)else n)):=Dl neg (az bT n) n (WQ n) h
theorem LZ(a b:Nat)(g:(az bT a).length<=400000)(h:(az bT b).length<=400000):au prog 251 [eT a,eT b] (eT (hA a b)):=by
 refine aG nf OL mix (by simp[f251]) ?_;simp[f251];refine lp (α:=Nat×Nat) (fun x=>⟨[(1,.p (eT x.2)),(0,.p (eT x.1))],[]⟩)
  (fun x=>(az bT x.1).length<=400000/\(az bT x.2).length<=400000/\hA x.1 x.2=hA a b) (fun x=>x.2) (a,b) ⟨g,h,rfl⟩ ?_
 rintro⟨x,y⟩ ⟨e,d,c⟩;dsimp only at e d c
 by_cases hy:y=0
 ·subst hy;rw[hL]at c;rw[<-c];simp[eT,A1]
 ·have i:0<(az bT y).length:=by
   rw[e6,Ne,wy];exact hy
  have f:=ED x y (by omega) e d;have j:=ge x (show 0<y by omega);simp[eT,i];refine c2 f ?_;simp;exact rd (y,x% y) ⟨d,by have:=dT aZ _ _ (gm j (cj aZ y));dsimp only;omega,by rw[<-c,hn y,<-hR,hn]⟩ (by dsimp only;omega) (he:=by simp[eT])
theorem ais(a b:Nat)(h:a<9223372036854775808)(i:b<9223372036854775808):au prog 247 [.int .i64 a,.int .i64 b] (.int .i64 (hA a b:Nat)):=by
 refine aG nf OO mix (by simp[f247]) ?_;simp[f247];refine lp (α:=Nat×Nat) (fun x=>⟨[(1,.p (.int .i64 x.2)),(0,.p (.int .i64 x.1))],[]⟩)
  (fun x=>x.1<9223372036854775808/\x.2<9223372036854775808/\hA x.1 x.2=hA a b) (fun x=>x.2) (a,b) ⟨h,i,rfl⟩ ?_
 rintro⟨x,y⟩ ⟨g,d,c⟩;dsimp only at g d c
 by_cases f:y=0
 ·subst f;rw[hL]at c;rw[<-c];simp
 ·have m:(0:Int)<y:=by omega
  have e:0<y:=by omega
  have o:¬(y:Int)=0:=by omega
  have n:=ge x e;have k:(x:Int).tmod y=(x% y:Nat):=by rw[dx (dq _),ea]
  have l:dp.wrap ((x% y:Nat):Int)=(x% y:Nat):=aO _ (by omega) (by omega);generalize j:x% y=r at*;simp[e,f,k,l];exact rd (y,r) ⟨d,by dsimp only;omega,by rw[<-c,<-j,hn y,<-hR,hn]⟩ (by dsimp only;omega)
theorem ZK{B a b x y K:Nat}(c:2<=B)(d:a<B^x)(e:b<B^y)(f:B^x<=B^K)(g:B^y<=B^K):a+b<B^(K+1):=by
 rw[gb];have:=hj (B^K) c;omega
theorem ZJ{a b K:Nat}(g:(az bT a).length<=K)(h:(az bT b).length<=K):(az bT (a+b)).length<=K+1:=by
 have c:=cj aZ a;have d:=cj aZ b;have e:=gc (show 0<bT by decide) g;have f:=gc (show 0<bT by decide) h;exact dT aZ (K+1) (a+b) (ZK aZ c d e f)
theorem arD(a b:Int)(l:(az bT a.natAbs).length<=400000)(o:(az bT b.natAbs).length<=400000):au prog 161 [eG a,eG b] (eG (a+b)):=by
 have m:=Z5 a.natAbs b.natAbs (by omega) (by omega);have k:=J5 a.natAbs b.natAbs (by omega) (by omega);have q:(az bT (a.natAbs+b.natAbs)).length<=1048576:=by
  have r:=ZJ l o;omega
 refine aG nf Hz mix (by simp[f161]) ?_
 by_cases hs:(a<0↔b<0)
 ·have t:(decide (a<0)==decide (b<0))=true:=by simp[hs]
  have d:=ru (decide (a<0)) (a.natAbs+b.natAbs) q;have f:(if decide (a<0)=true then -((a.natAbs+b.natAbs:Nat):Int)else((a.natAbs+b.natAbs:Nat):Int))=a+b:=by
   by_cases h:a<0
   ·have:=hs.1 h;simp[h];omega
   ·have:¬b<0:=fun c=>h (hs.2 c);simp[h];omega
  rw[f]at d;generalize a+b=s at*;generalize a.natAbs+b.natAbs=n at*;have g:(a<0↔b<0)=True:=eq_true hs;simp only[eG]at d⊢;simp[f161,g,aa];refine e2 m ?_;simp[aa];refine e2 d ?_;simp[aa]
 ·have g:(a<0↔b<0)=False:=eq_false hs
  by_cases p:b.natAbs<=a.natAbs
  ·have i:0<=gf a.natAbs b.natAbs:=by
    have:=qe (a:=a.natAbs) (b:=b.natAbs);omega
   have j:=Oj a.natAbs b.natAbs p (by omega);have d:=ru (decide (a<0)) (a.natAbs-b.natAbs) (by
    have:=dT aZ _ _ (g0 (hK a.natAbs b.natAbs) (cj aZ a.natAbs));omega)
   have f:(if decide (a<0)=true then -((a.natAbs-b.natAbs:Nat):Int)else((a.natAbs-b.natAbs:Nat):Int))=a+b:=by
    by_cases h:a<0
    ·have:¬b<0:=fun c=>hs ⟨fun _=>c,fun _=>h⟩;simp[h];omega
    ·have:b<0:=by
      rcases ej b 0 with c|c
      ·exact c
      ·exact(hs ⟨fun e=>(h e).elim,fun e=>by omega⟩).elim
     simp[h];omega
   rw[f]at d;generalize a+b=s at*;generalize a.natAbs-b.natAbs=n at*;simp only[eG]at d⊢;simp[f161,g,aa];refine c2 k ?_;simp[i,aa];refine e2 j ?_;simp[aa];refine e2 d ?_;simp[aa]
  ·have i:¬0<=gf a.natAbs b.natAbs:=by
    have:=qe (a:=a.natAbs) (b:=b.natAbs);omega
   have j:=Oj b.natAbs a.natAbs (by omega) (by omega);have d:=ru (decide (b<0)) (b.natAbs-a.natAbs) (by
    have:=dT aZ _ _ (g0 (hK b.natAbs a.natAbs) (cj aZ b.natAbs));omega)
   have f:(if decide (b<0)=true then -((b.natAbs-a.natAbs:Nat):Int)else((b.natAbs-a.natAbs:Nat):Int))=a+b:=by
    by_cases h:b<0
    ·have:¬a<0:=fun c=>hs ⟨fun _=>h,fun _=>c⟩;simp[h];omega
    ·have:a<0:=by
      rcases ej a 0 with c|c
      ·exact c
      ·exact(hs ⟨fun e=>by omega,fun e=>(h e).elim⟩).elim
     simp[h];omega
   rw[f]at d;generalize a+b=s at*;generalize b.natAbs-a.natAbs=n at*;simp only[eG]at d⊢;simp[f161,g,aa];refine c2 k ?_;simp[i,aa];refine e2 j ?_;simp[aa];refine e2 d ?_;simp[aa]
theorem Ok(a:Int)(d:(az bT a.natAbs).length<=400000):au prog 250 [eG a] (eG (-a)):=by
 have b:=ru (!decide (a<0)) a.natAbs (by omega);have c:(if(!decide (a<0))=true then -((a.natAbs:Nat):Int)else(a.natAbs:Nat))= -a:=by
  by_cases h:a<0
  ·simp[h];omega
  ·simp[h];omega
 rw[c]at b;refine aG nf OM mix (by simp[f250]) ?_;generalize -a=s at*;simp only[eG]at b⊢;simp[f250,aa];refine c2 b ?_;simp[aa]
theorem wY(a b:Int)(g:(az bT a.natAbs).length+(az bT b.natAbs).length<=1000000):au prog 162 [eG a,eG b] (eG (a*b)):=by
 have f:=EB a.natAbs b.natAbs g;have j:(az bT (a.natAbs*b.natAbs)).length<=1000000:=by
  have c:=cj aZ a.natAbs;have d:=cj aZ b.natAbs;have i:=dT aZ ((az bT a.natAbs).length+(az bT b.natAbs).length) (a.natAbs*b.natAbs) (by rw[g8];exact ho c d);omega
 have e:=ru ((!(decide (a<0)==decide (b<0)))) (a.natAbs*b.natAbs) (by omega);have h:(if(!(decide (a<0)==decide (b<0)))=true then -((a.natAbs*b.natAbs:Nat):Int)else((a.natAbs*b.natAbs:Nat):Int))=a*b:=by
  by_cases c:a<0<;>by_cases d:b<0
  ·simp[c,d];rw[dz (ee c),dz (ee d),Int.neg_mul_neg]
  ·simp[c,d];rw[dz (ee c),ec (by omega),Int.neg_mul,em]
  ·simp[c,d];rw[dz (ee d),ec (by omega),Int.mul_neg,em]
  ·simp[c,d];rw[ec (by omega),ec (by omega)]
 rw[h]at e;refine aG nf Qc mix (by simp[f162]) ?_;generalize a*b=s at*;generalize a.natAbs*b.natAbs=n at*;generalize hx:(!(decide (a<0)==decide (b<0)))=x at*;simp only[eG]at e⊢;simp[f162,aa];refine e2 f ?_;simp[hx,aa];refine e2 e ?_;simp[aa]
theorem XC:∀d:Nat,d<10->fa d (e7 (d+1) [48,49,50,51,52,53,54,55,56,57])=[48+d]:=by decide
theorem zf(n a:Nat)(D:n<9223372036854775808)(I:a<=1000):au prog 248 [.int .i64 n,.int .i64 a] (.str (low (max a (nd n)) n)):=by
 have K:nd n<=19:=sR (gm D (by decide));refine aG nf N4 mix (by simp[f248]) ?_;obtain⟨L,e⟩:∃L,L=max a (nd n):=⟨_,rfl⟩
 rw[<-e];obtain⟨g,b⟩:∃g:Nat->Nat,∀i,n/10^i=g i:=⟨_,fun _=>rfl⟩
 have A:g 0=n:=by rw[<-b,g7,hv]
 simp[f248];refine lp (α:=Nat) (fun i=>⟨[(0,.p (.int .i64 (g i:Nat))),(5,.p (.str (low i n))),(1,.p (.int .i64 a))],[]⟩)
  (fun i=>i<=L) (fun i=>L-i) 0 (hr _) ?_ (he:=by simp[low,A])
 intro i hi;have q:low (i+1) n=(48+g i% 10)::low i n:=by
  rw[g6,rV,b,ud];rfl
 have hq:g (i+1)=g i/10:=by rw[<-b,<-b,gb,g4]
 have M:g i<=n:=by rw[<-b];exact hz _ _
 have E:0<g i↔i<nd n:=by
  rw[<-b,oY,Nat.div_pos_iff];have:=fw (n:=i) (show 0<10 by decide);omega
 have l:=rU n i;have j:=XC (g i% 10) (ge _ (by decide));have f:i<L↔0<g i\/i<a:=by rw[E,e];omega
 have F:=ge (g i) (show 0<10 by decide);have r:(g i:Int).tmod 10=(g i% 10:Nat):=by rw[dx (dq _),ea];rfl
 have t:(g i:Int).tdiv 10=(g (i+1):Nat):=by rw[hq,dy (dq _),eb (g i)];rfl
 have G:L<=1000:=by rw[e];omega
 generalize g i% 10=d at*;have m:fa d (48::e7 d [49,50,51,52,53,54,55,56,57])=[48+d]:=j;generalize N:g i=z at*;generalize y:g (i+1)=z2 at*;generalize hs:low i n=s at*;have x:dp.wrap (z2:Int)=z2:=aO _ (by omega) (by omega);have v:dp.wrap (d:Int)=d:=aO _ (by omega) (by omega);have w:dp.wrap ((d:Int)+1)=d+1:=aO _ (by omega) (by omega);have u:((d:Int)+1).toNat=d+1:=by omega
 have J:min (d+1) 10-d+i<9223372036854775808:=by omega
 have H:(0:Int)<=d+1/\(d:Int)+1<=10/\(d:Int)<=max (d+1) 0:=by omega
 by_cases k:i<L
 ·by_cases c:0<z
  ·simp[c,r,t,x,v,w,u,j,l];refine⟨by omega,by omega,?_⟩;exact rd (i+1) (show i+1<=L by omega) (he:=by simp[y,q,m])
  ·have o:i<a:=by rcases f.1 k with h|h;exact(c h).elim;exact h
   simp[c,o,r,t,x,v,w,u,j,l];refine⟨by omega,by omega,?_⟩;exact rd (i+1) (show i+1<=L by omega) (he:=by simp[y,q,m])
 ·have c:¬0<z:=fun h=>k (f.2 (.inl h));have o:¬i<a:=fun h=>k (f.2 (.inr h));have B:s=low L n:=by rw[<-hs];congr 1;omega
  have C:¬L<a:=by omega
  simp[c,C,l,B,rU]
theorem X9{n i:Nat}(h:bT^(i+1)<=n):bd (n/bT^i)=bd (n/bT^(i+1))++low 9 (ae bT n i):=by
 have c:0<bT^i:=fw (by decide);have b:10^9<=n/bT^i:=by
  rw[hF c,fb];rw[gb]at h;exact h
 have a:=YH b;have e1:n/bT^i/10^9=n/bT^(i+1):=by rw[g4,gb];rfl
 have e2:n/bT^i% 10^9=ae bT n i:=rfl;rw[e1,e2]at a;have d:0<n/bT^i:=fv (by decide) b;have e:0<n/bT^(i+1):=hu h (fw (by decide));rw[bd,bd,show max 1 (nd (n/bT^i))=nd (n/bT^i)by have:=Az d;omega,show max 1 (nd (n/bT^(i+1)))=nd (n/bT^(i+1))by have:=Az e;omega,a]
theorem D3(z:Int)(B:(az bT z.natAbs).length<=1000000):au prog 253 [eG z] (.str (bN z)):=by
 refine aG nf OK mix (by simp[f253]) ?_
 by_cases G:z=0
 ·subst G;have v:bN 0=[48]:=by rw[show(0:Int)=((0:Nat):Int)from rfl,vW,rD]
  simp[f253,eG,eT,A1,aa,v]
 obtain⟨n,f⟩:∃n,z.natAbs=n:=⟨_,rfl⟩
 have M:0<n:=by omega
 have L:0<(az bT n).length:=by
  rw[e6,Ne,wy];omega
 obtain⟨k,hk⟩:∃k,(az bT n).length=k+1:=⟨(az bT n).length-1,by omega⟩
 have g:=cj aZ n;rw[hk]at g;have q:bT^k<=n:=by
  rcases gg n (bT^k)with h|h
  ·have:=dT aZ k n h;omega
  ·exact h
 have m:∀i(h:i<(az bT n).length),(az bT n)[i]=ae bT n i:=fun i h=>eO aZ h;have r:n/bT^k=ae bT n k:=by
  rw[ae,fm];rw[fl (fw (by decide)),fb,<-gb];exact g
 have O:0<ae bT n k:=by rw[<-r];exact hu q (fw (by decide))
 have c:=zf (ae bT n k) 1 (gm (cr aZ n k) (by decide)) (by decide);rw[show low (max 1 (nd (ae bT n k))) (ae bT n k)=bd (n/bT^k)by rw[r];rfl]at c;have w:∀i,au prog 248 [.int .i64 (ae bT n i:Nat),.int .i64 (9:Nat)] (.str (low 9 (ae bT n i))):=fun i=>by
  have h:=zf (ae bT n i) 9 (gm (cr aZ n i) (by decide)) (by decide);have J:nd (ae bT n i)<=9:=sR (cr aZ n i)
  rwa [show max 9 (nd (ae bT n i))=9 by omega]at h
 have a:bd (n/bT^0)=bd n:=by rw[g7,hv]
 have iD:∀i,i+1<=k->bd (n/bT^i)=bd (n/bT^(i+1))++low 9 (ae bT n i):=fun i hi=>X9 (ha (gc (by decide) hi) q);have K:k<=1000000:=by rw[f]at B;omega
 have D:bN z=if z<0 then 45::bd n else bd n:=by rw[bN,f]
 have N:ae bT n k<bT:=cr aZ n k;have C:∀i,ae bT n i<bT:=fun i=>cr aZ n i;obtain⟨T,j⟩:∃T:Nat->List Nat,∀i,bd (n/bT^i)=T i:=⟨_,fun _=>rfl⟩
 have l:∀i,(T i).length<=9000000+9:=fun i=>by
  rw[<-j];refine ha (vV (k:=9*(k+1)) ?_ (by omega)) (by omega);rw[Nat.pow_mul];exact g0 (hz _ _) g
 simp only[j]at c a iD;rw[D];simp only[eG,f,eT,<-a];generalize hx:az bT n=x at*;have w1:dp.wrap ((k:Int)+1-1)=k:=by rw[Int.add_sub_cancel];exact aO _ (by omega) (by omega)
 have H:dp.wrap (k:Int)=k:=aO _ (by omega) (by omega);have u:dp.wrap ((k:Int)+1-2)=(k:Int)-1:=by rw[aO _ (by omega) (by omega)];omega
 have A:¬(k:Int)+1=0:=by omega
 have e:k<x.length:=by omega
 have t:=m k e;have F:x[k]?=some (ae bT n k):=by rw[en e,t]
 simp[f253,aa,hk,A,w1,H,u,e,t,F];refine c2 c ?_;simp[aa,hk,u];refine lp (α:=Nat) (fun i=>⟨[(4,.p (.int .i64 ((i:Int)-1))),(3,.p (.str (T i))),(1,.ptr 0 [])],[.box false (.p (.st 235 [.bool (decide (z<0)),.seq (x.map fun x:Nat=>.int .i64 x)]))]⟩)
  (fun i=>i<=k) (fun i=>i) k (g5 _) ?_
 rintro i hi;have P:=C i;rcases i with _|i
 ·by_cases o:z<0
  ·have b:=g0 (hG (l 0) 1) (show 9000000+9+1<9223372036854775808 by decide);rw[a,g6]at b;simp[o,aa,a,b]
  ·simp[o,aa,a]
 ·have d:i<x.length:=by omega
  have s:=m i d;have E:x[i]?=some (ae bT n i):=by rw[en d,s]
  have y:¬(i:Int)<0:=by omega
  have I:dp.wrap ((i:Int)-1)=(i:Int)-1:=aO _ (by omega) (by omega);have b:=g0 (hG (l (i+1)) 9) (show 9000000+9+9<9223372036854775808 by decide);have aM:=iD i hi;simp[y,aa,d,s,E];refine c2 (w i) ?_;simp[I,rU];refine⟨b,?_⟩;exact rd i (show i<=k by omega) (he:=by simp[aM])
end Go.ak
