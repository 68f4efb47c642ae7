import Derived.Test.YtgpphcmkjhklgaaGreatDoorPH
import Derived.Test.YtgpphcmkjhklgaaGreatDoorPG
/- Parts of a proof. -/
set_option linter.unusedSimpArgs false
set_option linter.unusedVariables false
set_option linter.unusedSectionVars false
open Go.Proofs.Tryz
open Go.IntKind renaming i64->dp
open Int renaming natCast_nonneg->dq, tmod_eq_emod_of_nonneg->dz, tdiv_eq_ediv_of_nonneg->ea, ofNat_natAbs_of_nonpos->eb, natCast_emod->ec, natCast_ediv->ed, natAbs_of_nonneg->ee, natCast_mul->ei, le_of_lt->ej, natCast_add->em, lt_or_le->en, neg_neg->eo
open List renaming getElem?_eq_getElem->eq, range->ew, take_of_length_le->ey, getElem_range->e6, getElem_map->e7, replicate->e8, length_pos_iff->e9, take->fb, ext_getElem->fd, map_cons->fl, drop->fm
open Nat renaming mul_comm->fv, mul_le_mul_right->fJ, div_lt_iff_lt_mul->gb, mod_eq_of_lt->gc, lt_of_lt_of_le->ge, pow_pos->gg, pow_succ->gi, pow_le_pow_right->gj, mod_lt->gm, lt_or_ge->gt, mul_assoc->gx, div_add_mod->gy, lt_trans->g0, one_mul->g1, mul_add->g2, add_mul->g3, lt_of_le_of_lt->g4, div_div_eq_div_mul->g5, le_refl->g6, add_comm->g7, pow_zero->g8, pow_add->g9, mul_lt_mul_of_pos_right->ha, le_trans->hb, add_mul_mod_self_left->hd, div_eq_of_lt->hg, add_sub_cancel_left->hj, mul_le_mul_left->hl, mul_right_comm->hm, mod_mod_of_dvd->hn, gcd_comm->ho, mul_lt_mul''->hp, lt_of_not_le->hr, zero_le->ht, mul_one->hu, div_pos->hv, div_one->hw, pow_dvd_pow->hz, div_le_self->hA, gcd->hB, mul_le_mul->hC, add_mul_mod_self_right->hD, le_mul_of_pos_right->hE, le_of_lt->hF, le_div_iff_mul_le->hG, add_le_add_right->hH, div_mul_le_self->hK, div_eq_of_lt_le->hL, sub_le->hM, gcd_zero_right->hN, add_sub_cancel->hO, sub_mul->hP, pow_one->hQ, mul_pos->hR, mod_one->hS, gcd_rec->hT
open Option.some renaming inj->hU
namespace Go.al
open Go.Proofs
set_option maxHeartbeats 4000000
set_option maxRecDepth 100000
theorem A3(n:Nat)(f:Nat->Nat):cS n f=((ew n).map f).map (AV.p∘fun x:Nat=>PV.int .i64 x):=by
 rw[cS,List.map_map];rfl
theorem Th{n:Nat}{f:Nat->Nat}(h:∀j,f j=0):e8 n (AV.p (.int .i64 0))=cS n f:=by
 rw[I8];exact xH fun j _=>(h j).symm
theorem CD(a b:Nat)(w:(aq bT a).length+(aq bT b).length<=1000000):az prog 266 [eT a,eT b] (eT (a*b)):=by
 refine aM nf Ec mix (by simp[f266]) ?_;have L:∀i(h:i<(aq bT a).length),(aq bT a)[i]=ae bT a i:=fun i h=>dX aX h;have M:∀i(h:i<(aq bT b).length),(aq bT b)[i]=ae bT b i:=fun i h=>dX aX h;have t:=bY aX a;have e:=bY aX b;have S:dT ((ew ((aq bT a).length+(aq bT b).length)).map (ae bT (a*b)))=aq bT (a*b):=iV aX (by
  rw[g9];exact hp t e)
 have c:=sv ((ew ((aq bT a).length+(aq bT b).length)).map (ae bT (a*b))) (by simp;omega);rw[S]at c;have A:bT=1000000000:=rfl;simp only[eT];simp only[iP]at c;generalize aq bT (a*b)=z at*;generalize aq bT a=x at*;generalize aq bT b=y at*;obtain⟨n,d⟩:∃n,x.length=n:=⟨_,rfl⟩
 obtain⟨m,g⟩:∃m,y.length=m:=⟨_,rfl⟩
 rw[d]at t c w;rw[g]at e c w;have B:=A3 (n+m) (ae bT (a*b));have u:((ew (n+m)).map (ae bT (a*b))).length=n+m:=by simp
 generalize (ew (n+m)).map (ae bT (a*b))=l at c B u;have R:((n:Int)+m).toNat=n+m:=by omega
 have Q:0<=(n:Int)+m:=by omega
 have W:dp.wrap ((n:Int)+m)=(n:Int)+m:=aN _ (by omega) (by omega);simp[f266,d,g,W,R,Q];refine⟨by simp only[cU];omega,?_⟩;rw[Th (f:=cR bT a b 0 0) (by intro j;simp[nX,hS,ae])];refine lp (α:=Nat) (fun i=>⟨[(6,.p (.int .i64 i)),(5,.sl 0 0 1 0 (n+m)),(1,.p (.seq (y.map fun x:Nat=>.int .i64 x))),(0,.p (.seq (x.map fun x:Nat=>.int .i64 x)))],[.arr .exact 0 1 (cS (n+m) (cR bT a b i 0))]⟩)
  (fun i=>i<=n) (fun i=>n-i) 0 (by simp) ?_ (he:=by simp)
 intro i k1;have T:=cH (i:=i) (by omega)
 by_cases hi:i<n
 ·have r:i<x.length:=by rw[d];exact hi
  have hx:=L i r;have Y:x[i]?=some (ae bT a i):=by rw[eq r,hx]
  simp[d,hi];refine lp (α:=Nat) (fun j=>⟨[(8,.p (.int .i64 j)),(7,.p (.int .i64 (mulC bT a b i j:Nat))),(6,.p (.int .i64 i)),(5,.sl 0 0 1 0 (n+m)),(1,.p (.seq (y.map fun x:Nat=>.int .i64 x))),(0,.p (.seq (x.map fun x:Nat=>.int .i64 x)))],[.arr .exact 0 1 (cS (n+m) (cR bT a b i j))]⟩)
   (fun j=>j<=m) (fun j=>m-j) 0 (by simp) ?_ (he:=by simp[Az])
  intro j k2;have V:=cH (i:=j) (by omega);have H:((i:Int)+j).toNat=i+j:=by omega
  have G:0<=(i:Int)+j:=by omega
  have U:dp.wrap ((i:Int)+j)=(i:Int)+j:=aN _ (by omega) (by omega)
  by_cases F:j<m
  ·have s:j<y.length:=by rw[g];exact F
   have I:=M j s;have Z:y[j]?=some (ae bT b j):=by rw[eq s,I]
   have E:i+j<n+m:=by omega
   have q:=rZ (cR bT a b i j) E;have o:=Bo aX a b i j;have ah:=sj aX a b i j;have v:=sj aX a b i (j+1);have ai:cR bT a b i j (i+j)<bT:=by rw[cR];split<;>exact bZ aX _ _
   have am:=bZ aX a i;have an:=bZ aX b j;have hs:=BE (n:=n+m) (i:=i+j) (cR bT a b i j) (cR bT a b i (j+1)) (fun k _ hk=>H3 aX hk);rw[JJ]at hs;rw[<-o.1]at hs;have al:ae bT a i*ae bT b j<=999999999*999999999:=hC (by omega) (by omega);rw[<-o.2]at v;have J:=o.2;clear o;have K:((ae bT a i:Int)*(ae bT b j:Int))=((ae bT a i*ae bT b j:Nat):Int):=by push_cast;rfl
   generalize ae bT a i*ae bT b j=P at*;generalize cR bT a b i j (i+j)=O at*;generalize ak:mulC bT a b i j=C at*;have ab:dp.wrap ((ae bT a i:Int)*(ae bT b j:Int))=P:=by rw[K];exact aN _ (by omega) (by omega)
   have ac:dp.wrap ((O:Int)+P)=O+P:=aN _ (by omega) (by omega);have af:dp.wrap ((O:Int)+P+C)=O+P+C:=aN _ (by omega) (by omega);have d1:((O:Int)+P+C).tmod 1000000000=((P+O+C)% bT:Nat):=by
    rw[dz (by omega),A];omega
   generalize (P+O+C)% bT=D at*;have d2:((O:Int)+P+C).tdiv 1000000000=(mulC bT a b i (j+1):Nat):=by
    rw[ea (by omega),<-J,A];omega
   have d3:dp.wrap ((mulC bT a b i (j+1):Nat):Int)=(mulC bT a b i (j+1):Nat):=aN _ (by omega) (by omega);simp[d,g,F,U,H,G,E,q,hx,Y,I,Z,r,s,ab,ac,af,d1,d2,d3,hs,ad];exact rd (j+1) (show j+1<=m by omega) (he:=by simp[V])
  have:j=m:=by omega
  subst this;have X:dp.wrap ((i:Int)+j)=(i:Int)+j:=aN _ (by omega) (by omega);have aj:i+j<n+j:=by omega
  have aa:cR bT a b i j (i+j)=0:=by
   rw[cR,if_neg (by omega)];exact iT (uF aX a i e)
  have q:=rZ (cR bT a b i j) aj;rw[aa]at q;have hs:=BE (n:=n+j) (i:=i+j) (cR bT a b i j) (cR bT a b (i+1) 0) (fun k _ hk=>by rw[nX,JK aX e hk]);rw[nX,<-GF aX e]at hs;have v:=sj aX a b i j;have ag:dp.wrap ((mulC bT a b i j:Nat):Int)=(mulC bT a b i j:Nat):=aN _ (by omega) (by omega);simp[g,X,H,G,hi,aj,q,hs,ag,ad];exact rd (i+1) (show i+1<=n by omega) (he:=by simp[T])
 have:i=n:=by omega
 subst this;have N:cS (i+m) (cR bT a b i 0)=cS (i+m) (ae bT (a*b)):=xH fun k _=>by rw[nX,gc t]
 simp[d,N,B];refine cp c (by simp[u];exact⟨rfl,rfl⟩) ?_ (h1:=by simp[ey,u]);simp
theorem TU{a b i:Nat}(c:0<b):(a/bT^(i+1)% b*bT+ae bT a i)/b=ae bT (a/b) i/\(a/bT^(i+1)% b*bT+ae bT a i)% b=a/bT^i% b:=by
 have e:=rC (B:=bT) a i;have g:=gy (a/bT^(i+1)) b;have f:a/bT^i=(a/bT^(i+1)% b*bT+ae bT a i)+a/bT^(i+1)/b*bT*b:=by
  rw[e];generalize ae bT a i=d;generalize a/bT^(i+1)/b=Q at*;generalize a/bT^(i+1)% b=R at*;rw[<-g,g3,fv b,hm Q b bT];omega
 have j:(a/bT^(i+1)% b*bT+ae bT a i)/b<bT:=by
  rw[gb c];have k:=bZ aX a i;have h:=fJ bT (show a/bT^(i+1)% b+1<=b from gm _ c);rw[g3,g1]at h;rw[fv bT];omega
 constructor
 ·conv=>rhs;rw[ae,g5,fv b,<-g5,f,Nat.add_mul_div_right _ _ c,hD,gc j]
 ·rw[f,hD]
theorem yO(r x:Nat):(r:Int)*1000000000+x=((r*bT+x:Nat):Int):=by
 rw[em,ei];rfl
def qT(Q i k:Nat):Nat:=if i<=k then ae bT Q k else 0
theorem Cq{m Q i:Nat}:(cS m (qT Q (i+1))).set i (.p (.int .i64 (ae bT Q i:Nat)))=cS m (qT Q i):=by
 have:=BE (n:=m) (i:=i) (qT Q (i+1)) (qT Q i) (fun k _ hk=>by
  rw[qT,qT]
  by_cases h:i<=k
  ·rw[if_pos h,if_pos (by omega)]
  ·rw[if_neg h,if_neg (by omega)])
 rw[<-this,qT,if_pos (g6 _)]
theorem KE{m Q:Nat}:cS m (qT Q 0)=cS m (ae bT Q):=xH fun k _=>by rw[qT,if_pos (ht _)]
theorem KF{m Q:Nat}:e8 m (AV.p (.int .i64 0))=cS m (qT Q m):=by
 rw[I8];exact xH fun k hk=>by rw[qT,if_neg (by omega)]
theorem Lg{m N:Nat}(h:N<bT^m)(b:m<=1048576):∃l:List Nat,l.length=m/\cS m (ae bT N)=l.map (AV.p∘fun x:Nat=>PV.int .i64 x)/\az prog 265 [.seq (iP l)] (eT N):=by
 refine⟨(ew m).map (ae bT N),by simp,A3 m _,?_⟩;have a:=sv ((ew m).map (ae bT N)) (by simp;omega);rw[show dT ((ew m).map (ae bT N))=aq bT N from iV aX h]at a;exact a
theorem Hf(a d:Nat)(u:0<d)(U:d<bT)(J:(aq bT a).length<=1000000):az prog 264 [eT a,.int .i64 d] (.aE [eT (a/d),.int .i64 (a% d:Nat)]):=by
 refine aM nf Ee mix (by simp[f264]) ?_;have H:∀i(h:i<(aq bT a).length),(aq bT a)[i]=ae bT a i:=fun i h=>dX aX h;have w:=bY aX a;obtain⟨l,o,y,g⟩:=Lg (m:=(aq bT a).length) (N:=a/d) (g4 (hA _ _) w) (by omega);have j:a/bT^(aq bT a).length% d=0:=by rw[hg w,Nat.zero_mod]
 have A:a/bT^0% d=a% d:=by rw[g8,hw]
 have T:bT=1000000000:=rfl;simp only[eT]at g⊢;simp only[iP]at g;generalize aq bT (a/d)=X at*;generalize aq bT a=x at*;obtain⟨n,q⟩:∃n,x.length=n:=⟨_,rfl⟩
 rw[q]at o y j J;generalize W:a% d=rem at*;obtain⟨f,hf⟩:∃f:Nat->Nat,∀i,a/bT^i% d=f i:=⟨_,fun _=>rfl⟩
 have z:=fun i=>TU (a:=a) (b:=d) (i:=i) u;have v:∀i,f i<d:=fun i=>by rw[<-hf];exact gm _ u
 simp only[hf]at j A z;have C:dp.wrap ((n:Int)-1)=n-1:=aN _ (by omega) (by omega);simp[f264,q,C];refine⟨by simp only[cU];omega,?_⟩;rw[KF (Q:=a/d)];refine lp (α:=Nat) (fun i=>⟨[(8,.p (.int .i64 ((i:Int)-1))),(7,.p (.int .i64 (f i:Nat))),(6,.sl 0 0 1 0 n),(1,.p (.int .i64 d)),(0,.p (.seq (x.map fun x:Nat=>.int .i64 x)))],[.arr .exact 0 1 (cS n (qT (a/d) i))]⟩)
  (fun i=>i<=n) (fun i=>i) n (g6 _) ?_ (he:=by simp[j])
 intro i k1
 by_cases hi:0<i
 ·obtain⟨k,rfl⟩:∃k,i=k+1:=⟨i-1,by omega⟩
  have D:dp.wrap ((k:Int)-1)=k-1:=aN _ (by omega) (by omega);have r:k<x.length:=by omega
  have hx:=H k r;have K:x[k]?=some (ae bT a k):=by rw[eq r,hx]
  obtain⟨L,M⟩:=z k;have aH:=Cq (m:=n) (Q:=a/d) (i:=k);have gk:=rZ (qT (a/d) (k+1)) (show k<n by omega);have I:k<n:=by omega
  have R:=v (k+1);have V:=bZ aX a k;have hq:=bZ aX (a/d) k;have S:=v k;generalize f (k+1)=c at*;generalize E:f k=B at*;generalize ae bT a k=e at*;generalize ae bT (a/d) k=s at*;have O:dp.wrap ((c:Int)*1000000000)=c*1000000000:=aN _ (by omega) (by omega);have P:dp.wrap ((c:Int)*1000000000+e)=c*1000000000+e:=aN _ (by omega) (by omega);have t:(c:Int)*1000000000+e=((c*bT+e:Nat):Int):=yO c e;have d1:((c:Int)*1000000000+e).tdiv d=s:=by
   rw[t,ea (dq _),<-ed,L]
  have d2:((c:Int)*1000000000+e).tmod d=B:=by
   rw[t,dz (dq _),<-ec,M]
  have d3:dp.wrap (s:Int)=s:=aN _ (by omega) (by omega);have F:¬(d:Int)=0:=by omega
  have G:¬d=0:=by omega
  simp[q,D,hx,K,I,r,O,P,d1,d2,d3,F,G,gk,aH,ad];exact rd k (show k<=n by omega) (he:=by simp[E])
 ·obtain rfl:i=0:=by omega
  simp[KE,y,A];refine cp g (by simp[o];exact⟨rfl,rfl⟩) ?_ (h1:=by simp[ey,o]);simp
def jR(a b c:Nat):Nat->Nat->Nat
 |0,_=>0
 |t+1,r=>if bT<=t+1\/r*bT+c<(t+1)*b then(if bT<=r+a then t else jR a b c t (r+a))else t+1
theorem X7{a b c t r:Nat}(h:0<t):jR a b c t r=if bT<=t\/r*bT+c<t*b then(if bT<=r+a then t-1 else jR a b c (t-1) (r+a))else t:=by
 cases t with
 |zero=>exact absurd h (Nat.lt_irrefl 0)
 |succ t=>rw[jR,hO]
theorem HY{a b:Nat}(c:a<bT)(d:b<bT):dp.wrap ((a:Int)*b)=(a:Int)*b:=by
 have e:a*b<=999999999*999999999:=hC (by simp only[bT]at c;omega) (by simp only[bT]at d;omega);rw[<-ei];generalize a*b=P at*;exact aN _ (by omega) (by omega)
theorem Pb{a b r w:Nat}:(r:Int)*1000000000+w<(a:Int)*b↔r*bT+w<a*b:=by
 rw[yO,<-ei];exact Int.ofNat_lt
theorem yY{r v:Nat}:(1000000000:Int)<=(r:Int)+v↔bT<=r+v:=by simp only[bT];omega
theorem Nu{t:Nat}:(1000000000:Int)<=(t:Int)↔bT<=t:=by simp only[bT];omega
theorem aC2{t:Nat}(h:0<t)(a:t<=bT+1):dp.wrap ((t:Int)-1)=((t-1:Nat):Int):=by
 simp only[bT]at a;rw[aN _ (by omega) (by omega)];omega
theorem Mn{a v2 b c w2 Q:Nat}(w:bT<=2*a)(x:a<bT)(o:b<=a)(y:c<bT)(v:Q<bT)
 (g:∀q r,q*a+r=b*bT+c->q<bT->q*v2<=r*bT+w2->q<=Q+1)(m:∀q r,q*a+r=b*bT+c->r*bT+w2<q*v2->Q<q)
 (n:∀q r,bT<=r->q<bT->q*v2<=r*bT+w2):∀t r,t*a+r=b*bT+c->Q<=t->r<bT->t<=bT+1->Q<=jR a v2 w2 t r/\jR a v2 w2 t r<=Q+1/\jR a v2 w2 t r<bT
 |0,r,d,f,p,s=>by
  rw[jR];exact⟨f,by omega,by omega⟩
 |t+1,r,d,f,p,s=>by
  rw[jR]
  by_cases hc:bT<=t+1\/r*bT+w2<(t+1)*v2
  ·rw[if_pos hc];have hq:Q<=t:=by
    rcases hc with h|h
    ·omega
    ·have:=m _ _ d h;omega
   have k:t*a+(r+a)=b*bT+c:=by rw[g3,g1]at d;omega
   by_cases i:bT<=r+a
   ·rw[if_pos i];have j:t<bT:=by
     rcases gt t bT with h|h
     ·exact h
     ·have e:t=bT:=by omega
      subst e;have:=fJ bT o;rw[fv a]at this;omega
    exact⟨hq,g _ _ k j (n _ _ i j),j⟩
   ·rw[if_neg i];exact Mn w x o y v g m n t (r+a) k hq (by omega) (by omega)
  ·rw[if_neg hc];have l:t+1<bT:=by
    rcases gt (t+1) bT with h|h
    ·exact h
    ·exact(hc (.inl h)).elim
   have u:(t+1)*v2<=r*bT+w2:=by
    rcases gt (r*bT+w2) ((t+1)*v2)with h|h
    ·exact(hc (.inr h)).elim
    ·exact h
   exact⟨f,g _ _ d l u,l⟩
theorem XZ(W V N j n:Nat)(k:AK)(ar:Nat)(f:Nat->Nat)(ax:2<=n)(aG:(aq bT V).length=n)(aW:bT<=2*ae bT V (n-1))(aH:W<V*bT)(bg:N<=1000000)(a0:j+n<N)
 (hf:∀i,i<=n->f (j+i)=ae bT W i):∃t,W/V<=t/\t<=W/V+1/\t<bT/\
 cX prog 267 [.arr k ar 1 (cS N f)] [.sl 0 ar 1 0 N,.p (eT V),.p (.int .i64 j)] [.arr k ar 1 (cS N f)] (.p (.int .i64 t)):=by
 have aY:bT=1000000000:=rfl;have D:V<bT^n:=by rw[<-aG];exact bY aX V
 have Y:bT^(n-1)<=V:=by
  rcases gt V (bT^(n-1))with h|h
  ·have:=dE aX (n-1) V h;omega
  ·exact h
 obtain⟨aw,aZ⟩:=BM aX (show 1<=n by omega) D aH;have aA:W/bT^n=ae bT W n:=by
  rw[ae,gc];have:=bZ aX V (n-1);omega
 have w:W/bT^(n-1)=ae bT W n*bT+ae bT W (n-1):=by
  rw[rC,show n-1+1=n by omega,aA]
 have F:=K8 aX ax Y D (W:=W);have ac:=fun q r=>C3 aX ax Y D (W:=W) (q:=q) (r:=r);have ab:=fun q r=>Mm aX ax Y D (W:=W) (q:=q) (r:=r);have aL:=fun q r=>K7 aX (V:=V) (W:=W) (n:=n) (q:=q) (r:=r);rw[w]at F ac ab;have q1:=bZ aX W n;have ba:=bZ aX W (n-1);have bq:=bZ aX W (n-2);have q4:=bZ aX V (n-1);have bb:=bZ aX V (n-2);have aF:=hf n (g6 _);have f2:=hf (n-1) (by omega);have f3:=hf (n-2) (by omega);rw[aA]at aw;have E:(aq bT V)[n-1]?=some (ae bT V (n-1)):=by rw[eq (by omega),dX aX (by omega)]
 have aa:(aq bT V)[n-2]?=some (ae bT V (n-2)):=by rw[eq (by omega),dX aX (by omega)]
 have aJ:∀h:n-1<(aq bT V).length,(aq bT V)[n-1]=ae bT V (n-1):=fun h=>dX aX h;have aK:∀h:n-2<(aq bT V).length,(aq bT V)[n-2]=ae bT V (n-2):=fun h=>dX aX h;simp only[eT];generalize aq bT V=y at*;generalize bh:W/V=Q at*;generalize bl:ae bT W n=s at*;generalize bm:ae bT W (n-1)=M at*;generalize bn:ae bT W (n-2)=e at*;generalize bj:ae bT V (n-1)=a at*;generalize bk:ae bT V (n-2)=v2 at*;clear w aA D Y aH hf;have S:=rZ f (show j+n<N by omega);have U:=rZ f (show j+(n-1)<N by omega);have l:=rZ f (show j+(n-2)<N by omega);rw[aF]at S;rw[f2]at U;rw[f3]at l;have G:=uD N f;have aB:∀aD:Nat×Nat->Prop,aQ aD (cS N f):=fun aD=>by simp
 generalize cS N f=u at*;obtain⟨c,m⟩:∃c,c=s*bT+M:=⟨_,rfl⟩
 obtain⟨b,ah⟩:∃b,b=c/a:=⟨_,rfl⟩
 obtain⟨d,af⟩:∃d,d=c% a:=⟨_,rfl⟩
 have a1:0<a:=by omega
 have aM:b*a+d=c:=by rw[ah,af,fv];exact gy _ _
 have ay:d<bT:=g0 (by rw[af];exact gm _ a1) q4;have az:b<=bT+1:=by
  have aU:=fJ bT aw;rw[fv a]at aU;rcases gt (bT+1) b with h|h
  ·have aV:=fJ a (show bT+2<=b from h);rw[g3]at aV;omega
  ·exact h
 rw[<-m]at F ac ab;rw[<-ah]at F;have Z:=Mn (v2:=v2) (w2:=e) aW q4 aw ba aZ (by rw[<-m];exact ac) (by rw[<-m];exact ab) aL b d (by rw[<-m];exact aM) F ay az;refine⟨jR a v2 e b d,Z.1,Z.2.1,Z.2.2,?_⟩;obtain⟨T,w⟩:∃T,T=jR a v2 e b d:=⟨_,rfl⟩
 rw[<-w];clear Z F ac ab aL;have o:y.length=n:=aG;have br:dp.wrap ((j:Int)+n)=(j+n:Nat):=by rw[aN _ (by omega) (by omega)];omega
 have O:dp.wrap ((j:Int)+n)=(j:Int)+n:=aN _ (by omega) (by omega);have be:dp.wrap ((j:Int)+n-1)=(j:Int)+n-1:=aN _ (by omega) (by omega);have B:dp.wrap ((n:Int)-1)=(n:Int)-1:=aN _ (by omega) (by omega);have ao:dp.wrap ((n:Int)-2)=(n:Int)-2:=aN _ (by omega) (by omega);have ap:dp.wrap ((j:Int)+n-2)=(j:Int)+n-2:=aN _ (by omega) (by omega);have bc:((j:Int)+n).toNat=j+n:=by omega
 have bd:((j:Int)+n-1).toNat=j+(n-1):=by omega
 have A:((n:Int)-1).toNat=n-1:=by omega
 have am:((n:Int)-2).toNat=n-2:=by omega
 have an:((j:Int)+n-2).toNat=j+(n-2):=by omega
 have wf:dp.wrap ((s:Int)*1000000000)=(s:Int)*1000000000:=aN _ (by omega) (by omega);have aI:(s:Int)*1000000000+M=(c:Nat):=by rw[m];exact yO s M
 have bi:c<1000000000000000000:=by rw[m,aY];omega
 have aP:dp.wrap ((s:Int)*1000000000+M)=(c:Nat):=by rw[aI];exact aN _ (by omega) (by omega)
 have aE:((c:Nat):Int).tdiv a=b:=by rw[ea (dq _),<-ed,<-ah]
 have dr:((c:Nat):Int).tmod a=d:=by rw[dz (dq _),<-ec,<-af]
 have a2:¬(a:Int)=0:=by omega
 have a3:¬a=0:=by omega
 have aR:dp.wrap (b:Int)=b:=aN _ (by omega) (by omega);have z:n-1<y.length:=by omega
 have J:n-2<y.length:=by omega
 have H:=aJ z;have ai:=aK J;have aO:j+n<u.length:=by omega
 have a4:j+(n-1)<u.length:=by omega
 have I:j+(n-2)<u.length:=by omega
 have a5:j+(n-1)<N:=by omega
 have aj:j+(n-2)<N:=by omega
 have aS:u[j+n]=.p (.int .i64 s):=by rw[eq aO]at S;exact hU S
 have aT:u[j+(n-1)]=.p (.int .i64 M):=by rw[eq a4]at U;exact hU U
 have X:u[j+(n-2)]=.p (.int .i64 e):=by rw[eq I]at l;exact hU l
 have L:¬u=[]:=by rintro rfl;simp at aO
 have a6:0<=(j:Int)+n:=by omega
 have a7:0<=(j:Int)+n-1:=by omega
 have bo:0<=(j:Int)+n-2:=by omega
 have a9:0<=(n:Int)-1:=by omega
 have bp:0<=(n:Int)-2:=by omega
 have a8:1<=(j:Int)+n:=by omega
 have ak:2<=(j:Int)+n:=by omega
 have K:1<=(n:Int):=by omega
 have al:2<=(n:Int):=by omega
 refine jj nf Eb mix (by simp[f267]) ?_;simp[f267,o,O,be,B,bc,bd,A,S,U,E,H,wf,aP,aE,dr,a2,a3,aR,G,a0,z,aS,aT,L,a6,a7,a9,a8,K,a5,ad];refine lp (α:=Nat×Nat) (fun x=>⟨[(10,.p (.int .i64 x.2)),(9,.p (.int .i64 x.1)),(7,.p (.int .i64 n)),(2,.p (.int .i64 j)),(1,.p (.seq (y.map fun x:Nat=>.int .i64 x))),(0,.sl 0 ar 1 0 N)],[.arr k ar 1 u]⟩)
  (fun x=>T=jR a v2 e x.1 x.2/\x.2<bT/\x.1<=bT+1) (fun x=>x.1) (b,d) ⟨w,ay,az⟩ ?_ (hr2:=by simp[aB])
 clear m aM ah af aI aP aE dr w wf ay az aR aJ aK aF f2 f3;rintro⟨t,r⟩ ⟨k1,k2,k3⟩;dsimp only at k1 k2 k3;have au:dp.wrap ((r:Int)*1000000000)=(r:Int)*1000000000:=aN _ (by omega) (by omega);have av:dp.wrap ((r:Int)*1000000000+e)=(r:Int)*1000000000+e:=aN _ (by omega) (by omega);have P:dp.wrap ((r:Int)+a)=(r:Int)+a:=aN _ (by omega) (by omega);rcases Nat.eq_zero_or_pos t with C|C
 ·subst C;rw[jR]at k1;have c1:¬(r:Int)*1000000000+e<0:=by rw[yO];exact Int.not_lt.2 (dq _)
  have bf:dp.wrap 0=0:=rfl;simp[o,bf,ao,am,au,av,P,ap,an,aa,ai,J,l,X,I,aj,G,L,ak,al,O,c1,k1,ad]
 rw[X7 C]at k1;have ag:=aC2 C k3;have k4:∀x,x<=bT+1->x-1<=bT+1:=fun x h=>hb (hM _ _) h;have k5:t-1<t:=Nat.sub_lt C (by decide)
 by_cases c0:bT<=t
 ·have v:=Nu.2 c0;rw[if_pos (.inl c0)]at k1
  by_cases c2:bT<=r+a
  ·have g:=yY.2 c2;rw[if_pos c2]at k1;simp[v,ag,o,B,A,E,H,z,K,P,g,k1]
  ·have g:=mt yY.1 c2;rw[if_neg c2]at k1;simp[v,ag,o,B,A,E,H,z,K,P,g];exact rd (t-1,r+a) ⟨k1,hr c2,k4 _ k3⟩ k5 (he:=by simp) (hr2:=by simp[aB])
 have v:=mt Nu.1 c0;have aC:=HY (hr c0) bb
 by_cases c1:r*bT+e<t*v2
 ·have R:=Pb.2 c1;rw[if_pos (.inr c1)]at k1
  by_cases c2:bT<=r+a
  ·have g:=yY.2 c2;rw[if_pos c2]at k1;simp[v,ag,o,B,A,E,H,z,K,P,g,k1,ao,am,au,av,aC,ap,an,aa,ai,J,l,X,I,aj,G,L,ak,al,O,R,ad]
   done
  ·have g:=mt yY.1 c2;rw[if_neg c2]at k1;simp[v,ag,o,B,A,E,H,z,K,P,g,ao,am,au,av,aC,ap,an,aa,ai,J,l,X,I,aj,G,L,ak,al,O,R,ad];exact rd (t-1,r+a) ⟨k1,hr c2,k4 _ k3⟩ k5 (he:=by simp) (hr2:=by simp[aB])
 ·have R:=mt Pb.1 c1;rw[if_neg (fun h=>h.elim c0 c1)]at k1;simp[v,o,B,A,ao,am,au,av,aC,ap,an,aa,ai,J,l,X,I,aj,G,L,ak,al,O,R,k1,ad]
theorem UZ{b k f d:Nat}(n:b<bT^(k+1))(h:d=b/bT^k)(p:0<d)(hf:f=bT/(d+1)):0<f/\f<bT/\b*f<bT^(k+1)/\bT^k<=b*f/\bT<=2*ae bT (b*f) k:=by
 have e:0<bT^k:=gg (by decide);have s:d<bT:=by
  rw[h,gb e,fv,<-gi];exact n
 have r:bT=1000000000:=rfl;have g:=hK bT (d+1);have j:=Nat.lt_div_mul_add (a:=bT) (show 0<d+1 by omega);rw[<-hf]at g j;have i:0<f:=by rw[hf];exact hv (by omega) (by omega)
 have q:f<bT:=by
  rw[hf];exact Nat.div_lt_self (by decide) (by omega)
 have o:b<(d+1)*bT^k:=by
  rw[<-gb e,<-h];omega
 have l:d*bT^k<=b:=by rw[h];exact hK _ _
 have m:b*f<bT^(k+1):=by
  rw[gi];have e1:b*f<(d+1)*bT^k*f:=ha o i;have e2:(d+1)*bT^k*f=f*(d+1)*bT^k:=by rw[fv,<-gx]
  have e3:=fJ (bT^k) g;rw[fv (bT^k) bT];omega
 refine⟨i,q,m,?_,?_⟩
 ·have e1:1*bT^k<=d*bT^k:=fJ _ p;rw[g1]at e1;exact hb (hb e1 l) (hE _ i)
 ·have e1:b*f/bT^k=ae bT (b*f) k:=by
   rw[ae,gc];rw[gb e,fv bT,<-gi];exact m
  have e2:d*f<=b*f/bT^k:=by
   rw[hG e,hm];exact fJ _ l
  rw[e1]at e2;have e3:d+f<=d*f+1:=by
   obtain⟨d',rfl⟩:∃d',d=d'+1:=⟨d-1,by omega⟩
   obtain⟨c,rfl⟩:∃c,f=c+1:=⟨f-1,by omega⟩
   have:(d'+1)*(c+1)=d'*c+d'+c+1:=by rw[g3,g2,g1,hu];omega
   omega
  have e4:f*(d+1)=d*f+f:=by rw[g2,hu,fv]
  rw[e4]at g j;generalize d*f=P at*;generalize ae bT (b*f) k=Z at*;omega
def fQ(V R t i:Nat):Nat:=(t*(V% bT^i)+R% bT^i)/bT^i
theorem VP{V R t:Nat}:fQ V R t 0=0:=by simp[fQ,hS]
theorem Jm{W V R t n i:Nat}(h:R+t*V=W+bT^(n+1))(hi:i<=n):ae bT R i+t*ae bT V i+fQ V R t i=ae bT W i+fQ V R t (i+1)*bT:=by
 have k:0<bT^i:=gg (by decide);have l:0<bT^(i+1):=gg (by decide);have d:(t*(V% bT^(i+1))+R% bT^(i+1))% bT^(i+1)=W% bT^(i+1):=by
  have e1:(t*V+R)% bT^(i+1)=(t*(V% bT^(i+1))+R% bT^(i+1))% bT^(i+1):=by
   have a:=gy V (bT^(i+1));have e:=gy R (bT^(i+1));have f:t*V+R=t*(V% bT^(i+1))+R% bT^(i+1)+bT^(i+1)*(t*(V/bT^(i+1))+R/bT^(i+1)):=by
    have g:t*V=t*(V% bT^(i+1))+bT^(i+1)*(t*(V/bT^(i+1))):=by
     conv=>lhs;rw[<-a]
     rw[g2,<-gx,fv t (bT^(i+1)),gx];omega
    rw[g,g2]
    conv=>lhs;rw[<-e]
    omega
   rw[f,hd]
  rw[<-e1,g7 (t*V),h];have:bT^(i+1)∣bT^(n+1):=hz _ (by omega);obtain⟨c,hc⟩:=this;rw[hc,hd]
 have e2:=gy (t*(V% bT^(i+1))+R% bT^(i+1)) (bT^(i+1));have e3:=gy (t*(V% bT^i)+R% bT^i) (bT^i);rw[d]at e2;rw[show(t*(V% bT^(i+1))+R% bT^(i+1))/bT^(i+1)=fQ V R t (i+1)from rfl]at e2;rw[show(t*(V% bT^i)+R% bT^i)/bT^i=fQ V R t i from rfl]at e3;have j:(t*(V% bT^i)+R% bT^i)% bT^i=W% bT^i:=by
  have:=congrArg (·% bT^i) d
  have b:bT^i∣bT^(i+1):=hz _ (by omega);rw[hn _ b,hn _ b]at this;rw[<-this,mod_pow_succ,mod_pow_succ];rw[g2];have:t*(V% bT^i)+t*(bT^i*ae bT V i)+(R% bT^i+bT^i*ae bT R i)=t*(V% bT^i)+R% bT^i+bT^i*(t*ae bT V i+ae bT R i):=by
   rw[g2,<-gx t,fv t (bT^i),gx];omega
  rw[this,hd]
 rw[j]at e3;rw[mod_pow_succ,mod_pow_succ,mod_pow_succ,gi]at e2;have e4:bT^i*(ae bT R i+t*ae bT V i+fQ V R t i)=bT^i*(ae bT W i+fQ V R t (i+1)*bT):=by
  have a:t*(V% bT^i+bT^i*ae bT V i)=t*(V% bT^i)+bT^i*(t*ae bT V i):=by
   rw[g2,<-gx t,fv t (bT^i),gx]
  rw[a]at e2;rw[g2,g2,g2];rw[gx (bT^i),fv bT]at e2;generalize bT^i*ae bT R i=m at*;generalize bT^i*(t*ae bT V i)=o at*;generalize bT^i*fQ V R t i=p at*;generalize bT^i*ae bT W i=q at*;generalize bT^i*(fQ V R t (i+1)*bT)=r at*;generalize t*(V% bT^i)=s at*;omega
 exact Nat.eq_of_mul_eq_mul_left k e4
theorem VO{r p w b':Nat}(h:r+p=w+b'*bT)(j:r<bT)(k:w<bT):(w<p% bT/\r+p% bT=w+bT/\b'=p/bT+1)\/(p% bT<=w/\r+p% bT=w/\b'=p/bT):=by
 have e:=gy p bT;have i:=gm p (show 0<bT by decide);generalize p/bT=q at*;generalize p% bT=m at*;have b:r+m+bT*q=w+b'*bT:=by omega
 rw[fv bT]at b;rcases Nat.lt_trichotomy b' q with a|a|a
 ·have:=fJ bT (show b'+1<=q from a);rw[g3,g1]at this;omega
 ·subst a;right;omega
 ·have d:=fJ bT (show q+1<=b' from a);rw[g3,g1]at d;have f:b'=q+1:=by
   rcases gt (q+1) b' with c|c
   ·have g:=fJ bT (show q+2<=b' from c);rw[g3]at g;omega
   ·omega
  subst f;rw[g3,g1]at b;left;omega
theorem Wn{W V t n:Nat}(y:0<V)(j:V<bT^n)(l:W<bT^(n+1))(C:W/V<=t)(D:t<=W/V+1):
 ∃R,R+t*V=W+bT^(n+1)/\
 ((t=W/V/\fQ V R t n=ae bT W n/\∀i,i<=n->ae bT R i=ae bT (W% V) i)\/
  (t=W/V+1/\fQ V R t n=ae bT W n+1/\cQ bT R V n=1/\∀i,i<=n->ae bT (R+V) i=ae bT (W% V) i)):=by
 have H:0<bT^n:=gg (by decide);have B:0<bT^(n+1):=gg (by decide);have k:V<bT^(n+1):=ge j (gj (by decide) (by omega));have z:=gy W V;have o:=gm W y;have d:bT^(n+1)=bT^n*bT:=gi _ _;have F:bT=1000000000:=rfl;have A:W% V<bT^n:=g0 o j;have s:ae bT (W% V) n=0:=iT A;have q:ae bT V n=0:=iT j;have m:∀R,R+t*V=W+bT^(n+1)->ae bT R n+fQ V R t n=ae bT W n+fQ V R t (n+1)*bT:=fun R v=>by
  have:=Jm v (g6 n);rw[q,Nat.mul_zero,Nat.add_zero]at this;exact this
 rcases gt t (W/V+1)with u|u
 ·have b:t=W/V:=by omega
  have r:t*V+W% V=W:=by rw[b,fv];exact z
  refine⟨W% V+bT^(n+1),by omega,.inl ⟨b,?_,fun i hi=>?_⟩⟩
  ·have e:=m (W% V+bT^(n+1)) (by omega);have f:fQ V (W% V+bT^(n+1)) t (n+1)=0:=by
    rw[fQ,gc k,Nat.add_mod_right,gc (g0 o k),r,hg l]
   have a:ae bT (W% V+bT^(n+1)) n=0:=by
    rw[<-s];exact uz (by omega)
   rw[f,a]at e;omega
  ·exact uz (by omega)
 ·have b:t=W/V+1:=by omega
  have r:t*V+W% V=W+V:=by rw[b,g3,g1,fv];omega
  have G:V<=bT^(n+1)+W% V:=by omega
  refine⟨bT^(n+1)+W% V-V,by omega,.inr ⟨b,?_,?_⟩⟩
  ·have e:=m (bT^(n+1)+W% V-V) (by omega);have w:bT^(n+1)+W% V-V<bT^(n+1):=by omega
   have f:fQ V (bT^(n+1)+W% V-V) t (n+1)=1:=by
    rw[fQ,gc k,gc w];have:t*V+(bT^(n+1)+W% V-V)=W+bT^(n+1):=by omega
    rw[this,Nat.add_div_right _ B,hg l]
   have a:ae bT (bT^(n+1)+W% V-V) n=bT-1:=by
    have g:(bT^(n+1)+W% V-V)/bT^n=bT-1:=by
     refine hL ?_ ?_
     ·rw[hP,g1,fv bT,<-d];omega
     ·rw[show bT-1+1=bT by decide,fv bT,<-d];omega
    rw[ae,g];decide
   rw[f,a]at e;omega
  ·have x:bT^(n+1)+W% V-V+V=W% V+bT^(n+1):=by omega
   have p:∀i,i<=n->ae bT (bT^(n+1)+W% V-V+V) i=ae bT (W% V) i:=fun i hi=>by
    rw[x];exact uz (by omega)
   refine⟨?_,p⟩;have h:=(pq aX (bT^(n+1)+W% V-V) V n).1;have E:=kP aX (bT^(n+1)+W% V-V) V n;rw[p n (g6 _),s,q]at h;have a:ae bT (bT^(n+1)+W% V-V) n=bT-1:=by
    have g:(bT^(n+1)+W% V-V)/bT^n=bT-1:=by
     refine hL ?_ ?_
     ·rw[hP,g1,fv bT,<-d];omega
     ·rw[show bT-1+1=bT by decide,fv bT,<-d];omega
    rw[ae,g];decide
   rw[a]at h;generalize cQ bT (bT^(n+1)+W% V-V) V n=c at*;rcases gt 0 c with hc|hc
   ·omega
   ·have:c=0:=by omega
    subst this;simp only[bT]at h;omega
theorem Wm{V R t i:Nat}:fQ V R t i<=t:=by
 have a:0<bT^i:=gg (by decide);have b:=gm V a;have c:=gm R a;rw[fQ];refine Nat.le_of_lt_succ ?_;rw[gb a];have d:=hl t (hF b);rw[Nat.succ_mul];omega
theorem aC3{t v a w r b':Nat}(h:r+(t*v+a)=w+b'*bT)(f:r<bT)(g:w<bT)(b:t<bT)(c:v<bT)(i:a<=t):
 ∃(p q m:Nat),dp.wrap ((t:Int)*v)=(t:Int)*v/\dp.wrap ((t:Int)*v+a)=p/\(p:Int).tmod 1000000000=m/\(p:Int).tdiv 1000000000=q/\q<bT/\m<bT/\
 (((w:Int)-m<0/\(w:Int)-m+1000000000=r/\b'=q+1)\/(¬(w:Int)-m<0/\(w:Int)-m=r/\b'=q)):=by
 have d:t*v<=999999999*999999999:=hC (by simp only[bT]at b;omega) (by simp only[bT]at c;omega);have j:=VO h f g;have e:=gm (t*v+a) (show 0<bT by decide);have hq:(t*v+a)/bT<bT:=by
  rw[gb (by decide)];simp only[bT]at b⊢;omega
 refine⟨t*v+a,(t*v+a)/bT,(t*v+a)% bT,HY b c,?_,?_,?_,hq,e,?_⟩
 ·rw[<-ei,<-em];generalize t*v=P at*;simp only[bT]at b;exact aN _ (by omega) (by omega)
 ·rw[dz (dq _),ec];rfl
 ·rw[ea (dq _),ed];rfl
 ·generalize (t*v+a)/bT=q at*;generalize (t*v+a)% bT=m at*;clear h d;simp only[bT]at*;omega
def cA(n:Nat)(f:Nat->Int):List AV:=(ew n).map fun j=>.p (.int .i64 (f j))
theorem kS(n:Nat)(f:Nat->Int):(cA n f).length=n:=by simp[cA]
theorem O5(n:Nat)(f:Nat->Nat):cS n f=cA n (fun k=>(f k:Nat)):=rfl
theorem aCa{n j:Nat}(f:Nat->Int)(h:j<n):(cA n f)[j]?=some (.p (.int .i64 (f j))):=by
 rw[cA,List.getElem?_map,List.getElem?_range h];rfl
theorem uK{n i:Nat}{v:Int}(f g:Nat->Int)(c:g i=v)(h:∀j,j<n->j≠i->g j=f j):(cA n f).set i (.p (.int .i64 v))=cA n g:=by
 apply fd (by simp[cA]);intro j d b;rw[kS]at b;rw[List.getElem_set];simp only[cA,e7,e6]
 by_cases a:i=j
 ·subst a;rw[if_pos rfl,c]
 ·rw[if_neg a,h j b (fun e=>a e.symm)]
@[simp] theorem aHf{N:Nat×Nat->Prop}{n:Nat}{f:Nat->Int}:aQ N (cA n f)=True:=by
 rw[cq,eq_iff_iff,iff_true];intro v a;simp only[cA,List.mem_map]at a;obtain⟨x,_,rfl⟩:=a;trivial
theorem Ka{n:Nat}{f g:Nat->Int}(h:∀j,j<n->f j=g j):cA n f=cA n g:=by
 rw[cA,cA];apply List.map_congr_left;intro j a;rw[h j (List.mem_range.1 a)]
def fI(X R j i k:Nat):Int:=if j<=k/\k<j+i then(ae bT R (k-j):Nat)else(ae bT X k:Nat)
theorem win_zero{X R j k:Nat}:fI X R j 0 k=(ae bT X k:Nat):=by rw[fI,if_neg (by omega)]
theorem Ch{X R j i:Nat}:fI X R j i (j+i)=(ae bT X (j+i):Nat):=by rw[fI,if_neg (by omega)]
theorem aEV{X R j i:Nat}:fI X R j (i+1) (j+i)=(ae bT R i:Nat):=by
 rw[fI,if_pos (by omega),hj]
theorem aEX{X R j i k:Nat}(h:k≠j+i):fI X R j (i+1) k=fI X R j i k:=by
 rw[fI,fI]
 by_cases a:j<=k/\k<j+i
 ·rw[if_pos a,if_pos (by omega)]
 ·rw[if_neg a,if_neg (by omega)]
def gl(X R S j n i k:Nat):Int:=if k=j+n then -1 else if j<=k/\k<j+i then(ae bT S (k-j):Nat)else fI X R j n k
theorem aEQ{X R S j n i:Nat}(h:i<n):gl X R S j n i (j+i)=(ae bT R i:Nat):=by
 rw[gl,if_neg (by omega),if_neg (by omega),fI,if_pos (by omega),hj]
theorem aET{X R S j n i:Nat}(h:i<n):gl X R S j n (i+1) (j+i)=(ae bT S i:Nat):=by
 rw[gl,if_neg (by omega),if_pos (by omega),hj]
theorem aEU{X R S j n i k:Nat}(h:k≠j+i):gl X R S j n (i+1) k=gl X R S j n i k:=by
 rw[gl,gl]
 by_cases a:k=j+n
 ·rw[if_pos a,if_pos a]
 ·rw[if_neg a,if_neg a]
  by_cases b:j<=k/\k<j+i
  ·rw[if_pos b,if_pos (by omega)]
  ·rw[if_neg b,if_neg (by omega)]
theorem Vr{X V j n N:Nat}(d:0<V)(c:V<bT^n)(e:X<V*bT^(j+1)){g:Nat->Int}(h:∀k,k<N->g k=if k=j+n then 0 else if j<=k/\k<j+n then(ae bT (X/bT^j% V) (k-j):Nat)else(ae bT X k:Nat)):
 cA N g=cA N fun k=>(ae bT (X% (V*bT^j)) k:Nat):=by
 refine Ka fun k hk=>?_;rw[h k hk,(wZ (B:=bT) (R:=X) (V:=V) (j:=j)).1,H5 aX];have i:=gm (X/bT^j) d;have f:X<bT^(n+(j+1)):=by
  rw[g9];exact g0 e (ha c (gg (by decide)))
 by_cases a:k<j
 ·rw[if_pos a,if_neg (by omega),if_neg (by omega)]
 ·rw[if_neg a]
  by_cases m:k<j+n
  ·rw[if_neg (by omega),if_pos (by omega)]
  ·have l:ae bT (X/bT^j% V) (k-j)=0:=iT (ge (g0 i c) (gj (by decide) (by omega)));rw[l]
   by_cases b:k=j+n
   ·rw[if_pos b]
   ·rw[if_neg b,if_neg (by omega)];have:ae bT X k=0:=iT (ge f (gj (by decide) (by omega)));rw[this]
theorem Cs{f:Nat}(a:0<f)(h:f<bT):eT f=.seq [.int .i64 f]:=by rw[eT,mM a h];rfl
theorem UI{r:Nat}(h:r<bT):dT [r]=aq bT r:=by
 have:=iV aX (m:=1) (n:=r) (by rw[hQ];exact h);rw[<-this,row,List.range_one,fl,List.map_nil,ae,g8,hw,gc h]
@[simp] theorem aG5{σ:Nat->Nat}{n:Nat}{f:Nat->Int}:cC σ (cA n f)=cA n f:=by
 have:∀l:List Nat,cC σ (l.map fun j=>AV.p (.int .i64 (f j)))=l.map fun j=>AV.p (.int .i64 (f j)):=by
  intro l
  induction l with
  |nil=>rfl
  |cons a r b=>simp only[fl,cC,b];rfl
 exact this _
@[simp] theorem aHd{n j:Nat}{f:Nat->Int}(h:j<(cA n f).length):(cA n f)[j]=.p (.int .i64 (f j)):=by
 simp only[cA,e7,e6]
@[simp] theorem aG7{n j:Nat}{f:Nat->Nat}(h:j<(cS n f).length):(cS n f)[j]=.p (.int .i64 (f j:Nat)):=by
 simp only[cS,e7,e6]
@[simp] theorem aHe{n:Nat}{f:Nat->Int}:(cA (n+1) f=[])=False:=by
 rw[eq_iff_iff,iff_false];intro h;have:=congrArg List.length h;rw[kS]at this;simp at this
theorem CE(a b:Nat)(K:0<b)(c7:(aq bT a).length<=400000)(b8:(aq bT b).length<=400000):az prog 188 [eT a,eT b] (.aE [eT (a/b),eT (a% b)]):=by
 have bO:=Hg a b (by omega) (by omega);refine aM nf ED mix (by simp[f188]) ?_;simp[f188];refine c2 bO ?_
 by_cases S:a<b
 ·have G:=ot.2 S;simp[G,hg S,gc S,eT,yN]
 have G:¬fu a b<0:=fun h=>S (ot.1 h);have a5:∀i(h:i<(aq bT b).length),(aq bT b)[i]=ae bT b i:=fun i h=>dX aX h;have C:=bY aX b
 by_cases b6:(aq bT b).length=1
 ·rw[b6,hQ]at C;have L:=Hf a b K C (by omega);have cd:=gm a K;have ci:=UI (g0 cd C);have ar:=sv [a% b] (by simp);rw[ci]at ar;have c0:=mM K C;rw[Cs K C];simp only[eT,iP]at L ar⊢;generalize aq bT (a/b)=cR at*;generalize aq bT (a% b)=cT at*;generalize aq bT a=x at*;generalize a% b=dj at*;simp[G];refine c2 L ?_;simp;refine cp ar (by simp;exact⟨rfl,rfl⟩) ?_;simp
 have c6:2<=(aq bT b).length:=by
  rcases gt (aq bT b).length 1 with h|h
  ·have e:(aq bT b).length=0:=by omega
   rw[e,g8]at C;omega
  ·omega
 obtain⟨k,hk⟩:∃k,(aq bT b).length=k+1:=⟨(aq bT b).length-1,by omega⟩
 obtain⟨n,aD⟩:∃n,n=k+1:=⟨_,rfl⟩
 rw[hk]at C;obtain⟨d,Z⟩:∃d,d=b/bT^k:=⟨_,rfl⟩
 have ax:bT^k<=b:=by
  rcases gt b (bT^k)with h|h
  ·have:=dE aX k b h;omega
  ·exact h
 have be:0<bT^k:=gg (by decide);have bP:0<d:=by rw[Z];exact hv ax be
 have bU:d<bT:=by rw[Z,gb be,fv,<-gi];exact C
 have a6:ae bT b k=d:=by rw[ae,<-Z,gc bU]
 obtain⟨f,hf⟩:∃f,f=bT/(d+1):=⟨_,rfl⟩
 obtain⟨f0,f1,f2,f3,f4⟩:=UZ C Z bP hf;obtain⟨V,I⟩:∃V,V=b*f:=⟨_,rfl⟩
 rw[<-I]at f2 f3 f4;have aZ:(aq bT V).length=n:=by
  have H:=dE aX (k+1) V f2;have bF:=HC aX f3;omega
 have ag:=CD b f (by rw[mM f0 f1];simp;omega);have ah:=CD a f (by rw[mM f0 f1];simp;omega);rw[Cs f0 f1,<-I]at ag;rw[Cs f0 f1]at ah;have bR:(aq bT b)[k]?=some d:=by rw[eq (by omega),a5 k (by omega),a6]
 have bS:∀h:k<(aq bT b).length,(aq bT b)[k]=d:=fun h=>by rw[a5 k h,a6]
 have c9:(aq bT b).length<=400000:=b8;have cZ:bT=1000000000:=rfl;have cI:dp.wrap ((d:Int)+1)=(d:Int)+1:=aN _ (by omega) (by omega);have bW:(1000000000:Int).tdiv ((d:Int)+1)=(f:Nat):=by
  rw[ea (by decide),hf,ed];rfl
 have bQ:¬(d:Int)+1=0:=by omega
 have cJ:dp.wrap (k:Int)=k:=aN _ (by omega) (by omega);have wf:dp.wrap (f:Int)=f:=aN _ (by omega) (by omega);have b7:¬(k:Int)+1=1:=by omega
 have b2:¬k=0:=by omega
 have bo:k<(aq bT b).length:=by omega
 have b3:=bS bo;simp only[eT]at ag ah⊢;generalize ct:aq bT (a/b)=cR at*;generalize cu:aq bT (a% b)=cT at*;generalize aG:aq bT a=x at*;generalize de:aq bT b=y at*;generalize ak:aq bT V=s at*;simp[G,hk,b7,b2,cJ,bR,b3,bo,cI,bW,bQ,wf];refine cp ag (by simp;exact⟨rfl,rfl⟩) ?_;simp[aZ];refine cp ah (by simp;exact⟨rfl,rfl⟩) ?_;obtain⟨u,D⟩:∃u,aq bT (a*f)=u:=⟨_,rfl⟩
 obtain⟨c,M⟩:∃c,x.length=c:=⟨_,rfl⟩
 have bg:u.length<=c+1:=by
  rw[<-D,<-M,<-aG];refine dE aX _ _ ?_;rw[gi];exact hp (bY aX a) f1
 have cm:∀i(h:i<u.length),u[i]=ae bT (a*f) i:=fun i h=>by
  have:=dX aX (n:=a*f) (i:=i) (by rw[D];exact h);simp only[D]at this;exact this
 rw[D];have cY:b<=a*f:=hb (Nat.le_of_not_lt S) (hE _ f0);have bj:¬u=[]:=by
  intro h;rw[h]at D;have:=uo.1 D;omega
 have a2:a*f<bT^u.length:=by rw[<-D];exact bY aX _
 have ai:List.map (AV.p∘fun x:Nat=>PV.int dp x) u=cA u.length fun k=>(ae bT (a*f) k:Nat):=by
  apply fd (by simp[cA]);intro i G cX;simp only[e7,Function.comp,cA,e6];rw[cm i (by simpa using G)]
 have ck:u.length<=400001:=by omega
 obtain⟨A,bi⟩:∃A,u.length=A:=⟨_,rfl⟩
 rw[bi]at a2 ai bg ck;clear ag ah;have cl:¬(cA A fun k=>(ae bT (a*f) k:Nat))=[]:=by rw[<-ai];simpa using bj
 have cj:¬A=0:=by rw[<-bi];exact fun h=>bj (List.length_eq_zero_iff.1 h)
 simp[M,ai,cl,cj,kS];refine⟨⟨by rw[<-ai];exact O8 u,by simp only[cU];omega⟩,?_⟩;have c8:c<=400000:=by omega
 have bz:dp.wrap ((c:Int)+1)=c+1:=aN _ (by omega) (by omega);refine qO (fun s'=>∃l o,aK s'.env 8=.sl 0 0 1 0 1/\aK s'.env 9=.p (.seq (s.map fun x:Nat=>.int .i64 x))/\aK s'.env 10=.p (.int .i64 n)/\aK s'.env 11=.sl 2 l 1 0 (c+1)/\s'.heap=[.arr .frozen 0 1 [.p (.int .i64 f)],o,.arr .grow l 1 (cA (c+1) fun k=>(ae bT (a*f) k:Nat))]) ?_ ?_
 ·refine lp (α:=Nat) (fun i=>⟨[(11,.sl 2 (i-A) 1 0 i),(10,.p (.int .i64 n)),(9,.p (.seq (s.map fun x:Nat=>.int .i64 x))),(8,.sl 0 0 1 0 1),(0,.p (.seq (x.map fun x:Nat=>.int .i64 x)))],[.arr .frozen 0 1 [.p (.int .i64 f)],.hole,.arr .grow (i-A) 1 (cA i fun k=>(ae bT (a*f) k:Nat))]⟩)
   (fun i=>A<=i/\i<=c+1) (fun i=>c+1-i) A ⟨g6 _,bg⟩ ?_ (he:=by simp) (hh:=by simp)
  rintro i ⟨k1,k2⟩
  by_cases hi:i<c+1
  ·have bX:(i:Int)<c+1:=by omega
   have cs:ae bT (a*f) i=0:=iT (ge a2 (gj (by decide) k1));have cg:cA (i+1) (fun k=>(ae bT (a*f) k:Nat))=cA i (fun k=>(ae bT (a*f) k:Nat))++[.p (.int .i64 0)]:=by
    rw[cA,List.range_succ,List.map_append];simp[cs,cA]
   have bf:i+1-A=i-A+1:=by omega
   have ch:fb i (cA i fun k=>(ae bT (a*f) k:Nat))=cA i fun k=>(ae bT (a*f) k:Nat):=ey (by rw[kS];exact g6 _);simp[M,bz,bX,kS,ch];refine⟨by simp only[cU];omega,?_⟩;exact rd (i+1) ⟨by omega,hi⟩ (he:=by simp[bf]) (hh:=by simp[bf,cg]) (hr2:=by simp)
  ·have aa:i=c+1:=by omega
   subst aa;simp[M,bz]
 rintro⟨bD,bV⟩ ⟨l,o,E,P,Q,F,T⟩;dsimp only at E P Q F T;subst T;have dd:n<=c:=by
  rw[aD];rcases gt c (k+1)with h|h
  ·have H:=bY aX a;rw[aG,M]at H;have bF:=ge H (gj (show 0<bT by decide) (show c<=k by omega));omega
  ·exact h
 obtain⟨m,db⟩:∃m,m=c-n:=⟨_,rfl⟩
 have cM:dp.wrap ((c:Int)+1-n)=(m:Int)+1:=by rw[aN _ (by omega) (by omega)];omega
 have cN:((m:Int)+1).toNat=m+1:=by omega
 have cO:dp.wrap (m:Int)=m:=aN _ (by omega) (by omega);have cb:(m:Int)+1<=cU:=by simp only[cU];omega
 simp[E,P,Q,F,cM,cN,cO];refine⟨⟨by omega,cb⟩,?_⟩;have av:0<V:=by rw[I];exact hR K f0
 have W:V<bT^n:=by rw[aD];exact f2
 have a3:a<bT^c:=by rw[<-M,<-aG];exact bY aX a
 have bL:a*f% (V*bT^(m+1))=a*f:=by
  refine gc ?_;rw[I,hm];refine ha ?_ f0;refine ge a3 ?_;rw[show c=k+(m+1)by omega,g9];exact fJ _ ax
 obtain⟨X,J⟩:∃X:Nat->Nat,∀j,X j=a*f% (V*bT^j):=⟨_,fun _=>rfl⟩
 have Y:∀j,X j<V*bT^j:=fun j=>by rw[J];exact gm _ (hR av (gg (by decide)))
 have bN:∀j,X (j+1)% (V*bT^j)=X j:=fun j=>by
  rw[J,J,hn];exact Nat.mul_dvd_mul_left _ (hz _ (by omega))
 have bM:∀j,X (j+1)/bT^j/V=ae bT (a/b) j:=fun j=>by
  rw[J,<-(wZ (B:=bT) (R:=a*f% (V*bT^(j+1))) (V:=V) (j:=j)).2,gi,<-gx,Nat.mod_mul_right_div_self,<-g5,I,Nat.mul_div_mul_right _ _ f0,ae]
 have a8:=fun j(h:j<=m)=>XZ (X (j+1)/bT^j) V (c+1) j n .grow l (ae bT (X (j+1))) (by omega) (by rw[ak];exact aZ) (by rw[aD,hO];exact f4) (by rw[gb (gg (by decide)),gx,fv bT,<-gi];exact Y (j+1)) (by omega) (by omega) (fun i hi=>(pL (B:=bT) _ _ _).symm);simp only[eT,O5,ak]at a8;rw[show(e8 (m+1) (AV.p (PV.int dp 0)))=cS (m+1) (qT (a/b) (m+1))from KF];rw[show(cA (c+1) fun k=>(ae bT (a*f) k:Nat))=cA (c+1) fun k=>(ae bT (X (m+1)) k:Nat)by rw[J,bL]];refine qO (fun s'=>∃bq,aK s'.env 8=.sl 0 0 1 0 1/\aK s'.env 10=.p (.int .i64 n)/\aK s'.env 11=.sl 2 l 1 0 (c+1)/\aK s'.env 12=.sl 3 0 1 0 (m+1)/\s'.heap=[.arr .frozen 0 1 [.p (.int .i64 f)],bq,.arr .grow l 1 (cA (c+1) fun k=>(ae bT (X 0) k:Nat)),.arr .exact 0 1 (cS (m+1) (ae bT (a/b)))]) ?_ ?_
 ·refine lp (α:=Nat) (fun j=>⟨[(13,.p (.int .i64 ((j:Int)-1))),(12,.sl 3 0 1 0 (m+1)),(11,.sl 2 l 1 0 (c+1)),(10,.p (.int .i64 n)),(9,.p (.seq (s.map fun x:Nat=>.int .i64 x))),(8,.sl 0 0 1 0 1)],[.arr .frozen 0 1 [.p (.int .i64 f)],.hole,.arr .grow l 1 (cA (c+1) fun k=>(ae bT (X j) k:Nat)),.arr .exact 0 1 (cS (m+1) (qT (a/b) j))]⟩)
   (fun j=>j<=m+1) (fun j=>j) (m+1) (g6 _) ?_ (he:=by simp[E,P,Q,F])
  intro j c4;rcases j with _|j
  ·simp[KE]
  ·obtain⟨t,aQ,an,ao,bG⟩:=a8 j (by omega);have b1:¬(j:Int)<0:=by omega
   have bK:X (j+1)/bT^j<bT^(n+1):=by
    rw[gb (gg (by decide)),<-g9];refine ge (Y (j+1)) ?_;rw[show n+1+j=n+(j+1)by omega,g9 bT n (j+1)];exact fJ _ (hF W)
   obtain⟨R,bI,bJ⟩:=Wn av W bK aQ an;have gD:=fun i(hi:i<=n)=>Jm (i:=i) bI hi;have aw:∀i,ae bT (X (j+1)/bT^j) i=ae bT (X (j+1)) (j+i):=fun i=>pL _ _ _;have dm:((n:Nat):Int).toNat=n:=by omega
   simp[-bh];rw[bh,bh];simp[-bh,b1];rw[bh,Je,bh];simp[-bh];refine cf bG [2] ?_;simp[-bh,sig,br];rw[bh];simp[-bh];rw[bh,bh];simp[-bh];have aY:∀i(h:i<s.length),s[i]=ae bT V i:=fun i h=>by
    have:=dX aX (n:=V) (i:=i) (by rw[ak];exact h);simp only[ak]at this;exact this
   have aV:X (j+1)/bT^j/V=ae bT (a/b) j:=bM j;have c5:(j:Int)<=400000:=by omega
   have dc:(n:Int)<=400001:=by omega
   have a7:∀g:Nat->Int,(∀k,k<c+1->g k=if k=j+n then 0 else if j<=k/\k<j+n then(ae bT (X (j+1)/bT^j% V) (k-j):Nat)else(ae bT (X (j+1)) k:Nat))->cA (c+1) g=cA (c+1) fun k=>(ae bT (X j) k:Nat):=fun g ay=>by
    rw[Vr av W (Y (j+1)) ay,bN]
   have co:cA (c+1) (fI (X (j+1)) R j 0)=cA (c+1) fun k=>(ae bT (X (j+1)) k:Nat):=Ka fun k _=>win_zero;refine lp (α:=Nat) (fun i=>⟨[(16,.p (.int .i64 i)),(15,.p (.int .i64 (fQ V R t i:Nat))),(14,.p (.int .i64 t)),(13,.p (.int .i64 j)),(12,.sl 3 0 1 0 (m+1)),(11,.sl 2 l 1 0 (c+1)),(10,.p (.int .i64 n)),(9,.p (.seq (s.map fun x:Nat=>.int .i64 x))),(8,.sl 0 0 1 0 1)],[.arr .frozen 0 1 [.p (.int .i64 f)],.hole,.arr .grow l 1 (cA (c+1) (fI (X (j+1)) R j i)),.arr .exact 0 1 (cS (m+1) (qT (a/b) (j+1)))]⟩)
    (fun i=>i<=n) (fun i=>n-i) 0 (ht _) ?_ (he:=by simp[VP]) (hh:=by simp[co])
   intro i hi;have bx:dp.wrap ((i:Int)+j)=(i:Int)+j:=aN _ (by omega) (by omega);have bv:((i:Int)+j).toNat=i+j:=by omega
   have bp:¬((i:Int)+j<0):=by omega
   have bw:dp.wrap ((i:Int)+1)=(i:Int)+1:=aN _ (by omega) (by omega)
   by_cases aj:i<n
   ·have ba:(i:Int)<n:=by omega
    have ab:i<s.length:=by omega
    have aF:=aY i ab;have aH:=gD i hi;rw[aw]at aH;have bs:=bZ aX (X (j+1)) (j+i);have cw:=bZ aX R i;have pv:=bZ aX V i;obtain⟨p,q,al,s1,s2,bt,bu,dk,dl,cz⟩:=aC3 (by rw[<-Nat.add_assoc];exact aH) cw bs ao pv Wm;have bn:fI (X (j+1)) R j i (i+j)=(ae bT (X (j+1)) (j+i):Nat):=by rw[g7 i j,Ch]
    have a9:0<=(i:Int)+j:=by omega
    have get:(cA (c+1) (fI (X (j+1)) R j i))[i+j]?=some (.p (.int .i64 (ae bT (X (j+1)) (j+i):Nat))):=by
     rw[aCa _ (by omega),g7 i j,Ch]
    have set:(cA (c+1) (fI (X (j+1)) R j i)).set (i+j) (.p (.int .i64 (ae bT R i:Nat)))=cA (c+1) (fI (X (j+1)) R j (i+1)):=by
     rw[g7 i j];exact uK _ _ aEV fun k _ hk=>aEX hk
    have aa:i+j<c+1:=by omega
    have bk:s[i]?=some (ae bT V i):=by rw[eq ab,aF]
    generalize ae bT (X (j+1)) (j+i)=w at*;generalize ae bT V i=v at*;generalize ae bT R i=r at*;generalize fQ V R t i=cV at*;generalize a4:fQ V R t (i+1)=cW at*;have ce:¬(r:Int)<0:=by omega
    have bC:dp.wrap ((w:Int)-al)=(w:Int)-al:=aN _ (by omega) (by omega);have bA:dp.wrap (q:Int)=q:=aN _ (by omega) (by omega);have aU:dp.wrap ((q:Int)+1)=(q:Int)+1:=aN _ (by omega) (by omega);rcases cz with⟨c1,c2,c3⟩|⟨c1,c2,c3⟩
    ·have wr:dp.wrap ((w:Int)-al+1000000000)=r:=by rw[c2];exact aN _ (by omega) (by omega)
     simp[ba,bx,bv,bp,ab,aF,bk,s1,s2,bt,bu,aa,get,bn,a9,kS,bC,c1,wr,aU,set,bw,ad,aJ,bB];exact rd (i+1) (show i+1<=n by omega) (he:=by simp[a4,c3,bA,aU])
    ·have wr:dp.wrap ((w:Int)-al)=r:=by rw[bC,c2]
     simp[ba,bx,bv,bp,ab,aF,bk,s1,s2,bt,bu,aa,get,bn,a9,kS,c1,wr,ce,set,bw,ad,aJ,bB];exact rd (i+1) (show i+1<=n by omega) (he:=by simp[a4,c3,bA,aU])
   ·have b0:i=n:=by omega
    subst b0;have aT:dp.wrap ((j:Int)+i)=(j:Int)+i:=aN _ (by omega) (by omega);have aR:((j:Int)+i).toNat=j+i:=by omega
    have aI:0<=(j:Int)+i:=by omega
    have aA:j+i<c+1:=by omega
    have bm:fI (X (j+1)) R j i (j+i)=(ae bT (X (j+1)) (j+i):Nat):=Ch;have bs:=bZ aX (X (j+1)) (j+i);have aS:dp.wrap ((j:Int)-1)=(j:Int)-1:=aN _ (by omega) (by omega);rcases bJ with⟨aO,U,aP⟩|⟨aO,U,aP,cy⟩
    ·rw[aw]at U;rw[U];generalize ae bT (X (j+1)) (j+i)=w at*;have ap:dp.wrap 0=0:=rfl;have am:dp.wrap ((w:Int)-w)=0:=by rw[Int.sub_self];rfl
     have aE:t=ae bT (a/b) j:=by rw[aO,aV]
     have aL:(cS (m+1) (qT (a/b) (j+1))).set j (.p (.int .i64 t))=cS (m+1) (qT (a/b) j):=by rw[aE];exact Cq
     have fs:(cA (c+1) (fI (X (j+1)) R j i)).set (j+i) (.p (.int .i64 0))=cA (c+1) fun k=>(ae bT (X j) k:Nat):=by
      rw[uK _ (fun k=>if k=j+i then 0 else fI (X (j+1)) R j i k) (if_pos rfl) (fun k _ hk=>if_neg hk)];refine a7 _ fun k _=>?_
      by_cases hk:k=j+i
      ·rw[if_pos hk,if_pos hk];rfl
      ·rw[if_neg hk,if_neg hk,fI]
       by_cases z:j<=k/\k<j+i
       ·rw[if_pos z,if_pos z,aP (k-j) (by omega)]
       ·rw[if_neg z,if_neg z]
     have ac:j<m+1:=by omega
     have cc:¬((ae bT (X j) (j+i):Nat):Int)<0:=by omega
     simp[aT,aR,aI,aA,bm,kS,uD,am,ap,aS,ac,cc,fs,aL,ad,aJ,bB];exact rd j (show j<=m+1 by omega)
    ·rw[aw]at U;rw[U];generalize ae bT (X (j+1)) (j+i)=w at*;have ap:dp.wrap 0=0:=rfl;have am:dp.wrap ((w:Int)-((w+1:Nat):Int))= -1:=by rw[show(w:Int)-((w+1:Nat):Int)= -1 by omega];rfl
     have cD:dp.wrap (-1)= -1:=rfl;have fs:(cA (c+1) (fI (X (j+1)) R j i)).set (j+i) (.p (.int .i64 (-1)))=cA (c+1) (gl (X (j+1)) R (R+V) j i 0):=by
      refine uK _ _ (by rw[gl,if_pos rfl]) fun k _ hk=>?_;rw[gl,if_neg hk,if_neg (by omega)]
     have aE:(t:Int)-1=ae bT (a/b) j:=by rw[aO,aV];omega
     have cP:dp.wrap ((t:Int)-1)=ae bT (a/b) j:=by rw[aE];have:=bZ aX (a/b) j;exact aN _ (by omega) (by omega)
     have ac:j<m+1:=by omega
     have cq:gl (X (j+1)) R (R+V) j i 0 (j+i)= -1:=by rw[gl,if_pos rfl]
     push_cast at am;simp[aT,aR,aI,aA,bm,kS,uD,am,ap,cD,cP,aS,ac,fs,cq,ad,aJ,bB];refine lp (α:=Nat) (fun k=>⟨[(20,.p (.int .i64 k)),(19,.p (.int .i64 (cQ bT R V k:Nat))),(14,.p (.int .i64 (ae bT (a/b) j:Nat))),(13,.p (.int .i64 j)),(12,.sl 3 0 1 0 (m+1)),(11,.sl 2 l 1 0 (c+1)),(10,.p (.int .i64 i)),(9,.p (.seq (s.map fun x:Nat=>.int .i64 x))),(8,.sl 0 0 1 0 1)],[.arr .frozen 0 1 [.p (.int .i64 f)],.hole,.arr .grow l 1 (cA (c+1) (gl (X (j+1)) R (R+V) j i k)),.arr .exact 0 1 (cS (m+1) (qT (a/b) (j+1)))]⟩)
      (fun k=>k<=i) (fun k=>i-k) 0 (ht _) ?_ (he:=by simp[wR])
     intro k hk;have cL:dp.wrap ((k:Int)+j)=(k:Int)+j:=aN _ (by omega) (by omega);have cC:((k:Int)+j).toNat=k+j:=by omega
     have cv:0<=(k:Int)+j:=by omega
     have cK:dp.wrap ((k:Int)+1)=(k:Int)+1:=aN _ (by omega) (by omega);obtain⟨q1,cx⟩:=pq aX R V k;have dg:=kP aX R V k;have q4:=kP aX R V (k+1);have dh:=bZ aX R k;have di:=bZ aX V k
     by_cases bb:k<i
     ·have vH:(k:Int)<i:=by omega
      have aB:k<s.length:=by omega
      have bl:=aY k aB;have cn:s[k]?=some (ae bT V k):=by rw[eq aB,bl]
      have b5:k+j<c+1:=by omega
      have ay:gl (X (j+1)) R (R+V) j i k (k+j)=(ae bT R k:Nat):=by rw[g7 k j,aEQ bb]
      have aH:(cA (c+1) (gl (X (j+1)) R (R+V) j i k)).set (k+j) (.p (.int .i64 (ae bT (R+V) k:Nat)))=cA (c+1) (gl (X (j+1)) R (R+V) j i (k+1)):=by
       rw[g7 k j];exact uK _ _ (aET bb) fun x _ hx=>aEU hx
      have aQ:((ae bT R k:Nat):Int)+(ae bT V k:Nat)+(cQ bT R V k:Nat)=((ae bT R k+ae bT V k+cQ bT R V k:Nat):Int):=by omega
      have an:((ae bT R k+ae bT V k+cQ bT R V k:Nat):Int).tmod 1000000000=(ae bT (R+V) k:Nat):=by
       rw[<-q1,dz (dq _),ec];rfl
      have ao:((ae bT R k+ae bT V k+cQ bT R V k:Nat):Int).tdiv 1000000000=(cQ bT R V (k+1):Nat):=by
       rw[<-cx,ea (dq _),ed];rfl
      rw[<-aQ]at an ao;have cE:dp.wrap ((ae bT R k:Nat)+(ae bT V k:Nat))=(ae bT R k:Nat)+(ae bT V k:Nat):=aN _ (by omega) (by omega);have cF:dp.wrap ((ae bT R k:Nat)+(ae bT V k:Nat)+(cQ bT R V k:Nat))=(ae bT R k:Nat)+(ae bT V k:Nat)+(cQ bT R V k:Nat):=aN _ (by omega) (by omega);have cG:dp.wrap (ae bT (R+V) k:Nat)=(ae bT (R+V) k:Nat):=by have:=bZ aX (R+V) k;exact aN _ (by omega) (by omega)
      have cH:dp.wrap (cQ bT R V (k+1):Nat)=(cQ bT R V (k+1):Nat):=aN _ (by omega) (by omega);simp[vH,aB,bl,cn,cL,cC,cv,b5,ay,aH,kS,cE,cF,cG,cH,an,ao,cK,ad,aJ,bB];exact rd (k+1) (show k+1<=i by omega)
     ·have b4:k=i:=by omega
      subst b4;have cr:gl (X (j+1)) R (R+V) j k k (j+k)= -1:=by rw[gl,if_pos rfl]
      have cB:dp.wrap (-1+1)=0:=rfl;have aL:(cS (m+1) (qT (a/b) (j+1))).set j (.p (.int .i64 (ae bT (a/b) j:Nat)))=cS (m+1) (qT (a/b) j):=Cq;have bE:(cA (c+1) (gl (X (j+1)) R (R+V) j k k)).set (j+k) (.p (.int .i64 0))=cA (c+1) fun k=>(ae bT (X j) k:Nat):=by
       rw[uK _ (fun x=>if x=j+k then 0 else gl (X (j+1)) R (R+V) j k k x) (if_pos rfl) (fun x _ hx=>if_neg hx)];refine a7 _ fun x _=>?_
       by_cases hk:x=j+k
       ·rw[if_pos hk,if_pos hk];rfl
       ·rw[if_neg hk,if_neg hk,gl,if_neg hk]
        by_cases z:j<=x/\x<j+k
        ·rw[if_pos z,if_pos z,cy (x-j) (by omega)]
        ·rw[if_neg z,if_neg z,fI,if_neg z]
      rw[aP];simp[aT,aR,aI,aA,cr,kS,uD,cB,ap,aS,ac,bE,aL,ad,aJ,bB];exact rd j (show j<=m+1 by omega)
 rintro⟨bD,bV⟩ ⟨bq,E,P,Q,F,T⟩;dsimp only at E P Q F T;subst T;have a0:X 0=a% b*f:=by rw[J,g8,hu,I,Nat.mul_mod_mul_right]
 have bH:a/b<bT^(m+1):=by
  rw[gb K];refine ge a3 ?_;rw[show c=m+1+k by omega,g9];exact hl _ ax
 obtain⟨df,bc,b9,aW⟩:=Lg (m:=m+1) (N:=a/b) bH (by omega);have a1:X 0<bT^n:=ge (by have:=Y 0;rwa [g8,hu]at this) (hF W);obtain⟨O,da,af,ca,au⟩:∃O:List Nat,O=(ew (c+1)).map (ae bT (X 0))/\O.length=c+1/\cS (c+1) (ae bT (X 0))=O.map (AV.p∘fun x:Nat=>PV.int .i64 x)/\az prog 265 [.seq (iP (O.take n))] (eT (X 0)):=by
  refine⟨_,rfl,by simp,A3 _ _,?_⟩;have e:((ew (c+1)).map (ae bT (X 0))).take n=(ew n).map (ae bT (X 0)):=Kr (by omega) fun k hk=>rfl;rw[e];have H:=sv ((ew n).map (ae bT (X 0))) (by simp;omega);rw[show dT ((ew n).map (ae bT (X 0)))=aq bT (X 0)from iV aX a1]at H;exact H
 have L:=Hf (X 0) f f0 f1 (by
  have:=dE aX n (X 0) a1;omega)
 rw[a0,Nat.mul_div_cancel _ f0]at L;rw[a0]at au;rw[<-O5,ca,b9]at*;simp only[eT,ct,cu,iP]at aW au L⊢;have aC:¬O=[]:=by intro h;rw[h]at af;simp at af
 have bd:n<=c+1:=by omega
 simp[E,P,Q,F,af,aC,bd];refine ep au (by simp[af,bd,aC];first|exact⟨rfl,rfl⟩|rfl) (by simp[aC];first|exact⟨rfl,rfl⟩|rfl) ?_ (h1:=by simp[List.map_take]);simp[E,ad,aJ,bB];refine e2 L ?_;simp[F];refine⟨by repeat' first|rfl|apply And.intro,?_⟩;refine cp aW (by simp[bc];first|exact⟨rfl,rfl⟩|rfl) ?_ (h1:=by simp[ey,bc]);simp
theorem Tn(n:Nat):dT (aq bT n)=aq bT n:=by
 have h:=BP aX (l:=aq bT n) (fun d a=>by
  obtain⟨i,hi,rfl⟩:=List.getElem_of_mem a;rw[dX aX hi];exact bZ aX _ _)
 rw[<-h,IX aX]
theorem pj(neg:Bool)(n:Nat)(h:(aq bT n).length<=1048576):az prog 256 [.bool neg,eT n] (eG (if neg=true then -(n:Int)else n)):=Bf neg (aq bT n) n (Tn n) h
theorem Jg(a b:Nat)(g:(aq bT a).length<=400000)(h:(aq bT b).length<=400000):az prog 101 [eT a,eT b] (eT (hB a b)):=by
 refine aM nf Et mix (by simp[f101]) ?_;simp[f101];refine lp (α:=Nat×Nat) (fun x=>⟨[(1,.p (eT x.2)),(0,.p (eT x.1))],[]⟩)
  (fun x=>(aq bT x.1).length<=400000/\(aq bT x.2).length<=400000/\hB x.1 x.2=hB a b) (fun x=>x.2) (a,b) ⟨g,h,rfl⟩ ?_
 rintro⟨x,y⟩ ⟨e,d,c⟩;dsimp only at e d c
 by_cases hy:y=0
 ·subst hy;rw[hN]at c;rw[<-c];simp[eT,yN]
 ·have i:0<(aq bT y).length:=by
   rw[e9,Ne,uo];exact hy
  have f:=CE x y (by omega) e d;have j:=gm x (show 0<y by omega);simp[eT,i];refine c2 f ?_;simp;exact rd (y,x% y) ⟨d,by have:=dE aX _ _ (g0 j (bY aX y));dsimp only;omega,by rw[<-c,ho y,<-hT,ho]⟩ (by dsimp only;omega) (he:=by simp[eT])
theorem WE(a b:Nat)(h:a<9223372036854775808)(i:b<9223372036854775808):az prog 181 [.int .i64 a,.int .i64 b] (.int .i64 (hB a b:Nat)):=by
 refine aM nf EL mix (by simp[f181]) ?_;simp[f181];refine lp (α:=Nat×Nat) (fun x=>⟨[(1,.p (.int .i64 x.2)),(0,.p (.int .i64 x.1))],[]⟩)
  (fun x=>x.1<9223372036854775808/\x.2<9223372036854775808/\hB x.1 x.2=hB a b) (fun x=>x.2) (a,b) ⟨h,i,rfl⟩ ?_
 rintro⟨x,y⟩ ⟨g,d,c⟩;dsimp only at g d c
 by_cases f:y=0
 ·subst f;rw[hN]at c;rw[<-c];simp
 ·have m:(0:Int)<y:=by omega
  have e:0<y:=by omega
  have o:¬(y:Int)=0:=by omega
  have n:=gm x e;have k:(x:Int).tmod y=(x% y:Nat):=by rw[dz (dq _),ec]
  have l:dp.wrap ((x% y:Nat):Int)=(x% y:Nat):=aN _ (by omega) (by omega);generalize j:x% y=r at*;simp[e,f,k,l];exact rd (y,r) ⟨d,by dsimp only;omega,by rw[<-c,<-j,ho y,<-hT,ho]⟩ (by dsimp only;omega)
theorem Wg{B a b x y K:Nat}(c:2<=B)(d:a<B^x)(e:b<B^y)(f:B^x<=B^K)(g:B^y<=B^K):a+b<B^(K+1):=by
 rw[gi];have:=hl (B^K) c;omega
theorem Wf{a b K:Nat}(g:(aq bT a).length<=K)(h:(aq bT b).length<=K):(aq bT (a+b)).length<=K+1:=by
 have c:=bY aX a;have d:=bY aX b;have e:=gj (show 0<bT by decide) g;have f:=gj (show 0<bT by decide) h;exact dE aX (K+1) (a+b) (Wg aX c d e f)
theorem WM(a b:Int)(l:(aq bT a.natAbs).length<=400000)(o:(aq bT b.natAbs).length<=400000):az prog 213 [eG a,eG b] (eG (a+b)):=by
 have m:=Wy a.natAbs b.natAbs (by omega) (by omega);have k:=Hg a.natAbs b.natAbs (by omega) (by omega);have q:(aq bT (a.natAbs+b.natAbs)).length<=1048576:=by
  have r:=Wf l o;omega
 refine aM nf Fc mix (by simp[f213]) ?_
 by_cases hs:(a<0↔b<0)
 ·have t:(decide (a<0)==decide (b<0))=true:=by simp[hs]
  have d:=pj (decide (a<0)) (a.natAbs+b.natAbs) q;have f:(if decide (a<0)=true then -((a.natAbs+b.natAbs:Nat):Int)else((a.natAbs+b.natAbs:Nat):Int))=a+b:=by
   by_cases h:a<0
   ·have:=hs.1 h;simp[h];omega
   ·have:¬b<0:=fun c=>h (hs.2 c);simp[h];omega
  rw[f]at d;generalize a+b=s at*;generalize a.natAbs+b.natAbs=n at*;have g:(a<0↔b<0)=True:=eq_true hs;simp only[eG]at d⊢;simp[f213,g,ad];refine e2 m ?_;simp[ad];refine e2 d ?_;simp[ad]
 ·have g:(a<0↔b<0)=False:=eq_false hs
  by_cases p:b.natAbs<=a.natAbs
  ·have i:0<=fu a.natAbs b.natAbs:=by
    have:=ot (a:=a.natAbs) (b:=b.natAbs);omega
   have j:=Lh a.natAbs b.natAbs p (by omega);have d:=pj (decide (a<0)) (a.natAbs-b.natAbs) (by
    have:=dE aX _ _ (g4 (hM a.natAbs b.natAbs) (bY aX a.natAbs));omega)
   have f:(if decide (a<0)=true then -((a.natAbs-b.natAbs:Nat):Int)else((a.natAbs-b.natAbs:Nat):Int))=a+b:=by
    by_cases h:a<0
    ·have:¬b<0:=fun c=>hs ⟨fun _=>c,fun _=>h⟩;simp[h];omega
    ·have:b<0:=by
      rcases en b 0 with c|c
      ·exact c
      ·exact(hs ⟨fun e=>(h e).elim,fun e=>by omega⟩).elim
     simp[h];omega
   rw[f]at d;generalize a+b=s at*;generalize a.natAbs-b.natAbs=n at*;simp only[eG]at d⊢;simp[f213,g,ad];refine c2 k ?_;simp[i,ad];refine e2 j ?_;simp[ad];refine e2 d ?_;simp[ad]
  ·have i:¬0<=fu a.natAbs b.natAbs:=by
    have:=ot (a:=a.natAbs) (b:=b.natAbs);omega
   have j:=Lh b.natAbs a.natAbs (by omega) (by omega);have d:=pj (decide (b<0)) (b.natAbs-a.natAbs) (by
    have:=dE aX _ _ (g4 (hM b.natAbs a.natAbs) (bY aX b.natAbs));omega)
   have f:(if decide (b<0)=true then -((b.natAbs-a.natAbs:Nat):Int)else((b.natAbs-a.natAbs:Nat):Int))=a+b:=by
    by_cases h:b<0
    ·have:¬a<0:=fun c=>hs ⟨fun _=>h,fun _=>c⟩;simp[h];omega
    ·have:a<0:=by
      rcases en a 0 with c|c
      ·exact c
      ·exact(hs ⟨fun e=>by omega,fun e=>(h e).elim⟩).elim
     simp[h];omega
   rw[f]at d;generalize a+b=s at*;generalize b.natAbs-a.natAbs=n at*;simp only[eG]at d⊢;simp[f213,g,ad];refine c2 k ?_;simp[i,ad];refine e2 j ?_;simp[ad];refine e2 d ?_;simp[ad]
theorem Li(a:Int)(d:(aq bT a.natAbs).length<=400000):az prog 255 [eG a] (eG (-a)):=by
 have b:=pj (!decide (a<0)) a.natAbs (by omega);have c:(if(!decide (a<0))=true then -((a.natAbs:Nat):Int)else(a.natAbs:Nat))= -a:=by
  by_cases h:a<0
  ·simp[h];omega
  ·simp[h];omega
 rw[c]at b;refine aM nf HK mix (by simp[f255]) ?_;generalize -a=s at*;simp only[eG]at b⊢;simp[f255,ad];refine c2 b ?_;simp[ad]
theorem uL(a b:Int)(g:(aq bT a.natAbs).length+(aq bT b.natAbs).length<=1000000):az prog 214 [eG a,eG b] (eG (a*b)):=by
 have f:=CD a.natAbs b.natAbs g;have j:(aq bT (a.natAbs*b.natAbs)).length<=1000000:=by
  have c:=bY aX a.natAbs;have d:=bY aX b.natAbs;have i:=dE aX ((aq bT a.natAbs).length+(aq bT b.natAbs).length) (a.natAbs*b.natAbs) (by rw[g9];exact hp c d);omega
 have e:=pj ((!(decide (a<0)==decide (b<0)))) (a.natAbs*b.natAbs) (by omega);have h:(if(!(decide (a<0)==decide (b<0)))=true then -((a.natAbs*b.natAbs:Nat):Int)else((a.natAbs*b.natAbs:Nat):Int))=a*b:=by
  by_cases c:a<0<;>by_cases d:b<0
  ·simp[c,d];rw[eb (ej c),eb (ej d),Int.neg_mul_neg]
  ·simp[c,d];rw[eb (ej c),ee (by omega),Int.neg_mul,eo]
  ·simp[c,d];rw[eb (ej d),ee (by omega),Int.mul_neg,eo]
  ·simp[c,d];rw[ee (by omega),ee (by omega)]
 rw[h]at e;refine aM nf Fb mix (by simp[f214]) ?_;generalize a*b=s at*;generalize a.natAbs*b.natAbs=n at*;generalize hx:(!(decide (a<0)==decide (b<0)))=x at*;simp only[eG]at e⊢;simp[f214,ad];refine e2 f ?_;simp[hx,ad];refine e2 e ?_;simp[ad]
theorem Ub:∀d:Nat,d<10->fm d (fb (d+1) [48,49,50,51,52,53,54,55,56,57])=[48+d]:=by decide
theorem xa(n a:Nat)(E:n<9223372036854775808)(J:a<=1000):az prog 182 [.int .i64 n,.int .i64 a] (.str (low (max a (nd n)) n)):=by
 have M:nd n<=19:=qB (g0 E (by decide));refine aM nf EK mix (by simp[f182]) ?_;obtain⟨L,e⟩:∃L,L=max a (nd n):=⟨_,rfl⟩
 rw[<-e];obtain⟨g,b⟩:∃g:Nat->Nat,∀i,n/10^i=g i:=⟨_,fun _=>rfl⟩
 have B:g 0=n:=by rw[<-b,g8,hw]
 simp[f182];refine lp (α:=Nat) (fun i=>⟨[(0,.p (.int .i64 (g i:Nat))),(5,.p (.str (low i n))),(1,.p (.int .i64 a))],[]⟩)
  (fun i=>i<=L) (fun i=>L-i) 0 (ht _) ?_ (he:=by simp[low,B])
 intro i hi;have q:low (i+1) n=(48+g i% 10)::low i n:=by
  rw[g7,pQ,b,rS];rfl
 have hq:g (i+1)=g i/10:=by rw[<-b,<-b,gi,g5]
 have N:g i<=n:=by rw[<-b];exact hA _ _
 have F:0<g i↔i<nd n:=by
  rw[<-b,mi,Nat.div_pos_iff];have:=gg (n:=i) (show 0<10 by decide);omega
 have l:=pP n i;have j:=Ub (g i% 10) (gm _ (by decide));have f:i<L↔0<g i\/i<a:=by rw[F,e];omega
 have G:=gm (g i) (show 0<10 by decide);have r:(g i:Int).tmod 10=(g i% 10:Nat):=by rw[dz (dq _),ec];rfl
 have t:(g i:Int).tdiv 10=(g (i+1):Nat):=by rw[hq,ea (dq _),ed (g i)];rfl
 have H:L<=1000:=by rw[e];omega
 generalize g i% 10=d at*;have m:fm d (48::fb d [49,50,51,52,53,54,55,56,57])=[48+d]:=j;generalize O:g i=z at*;generalize y:g (i+1)=A at*;generalize hs:low i n=s at*;have x:dp.wrap (A:Int)=A:=aN _ (by omega) (by omega);have v:dp.wrap (d:Int)=d:=aN _ (by omega) (by omega);have w:dp.wrap ((d:Int)+1)=d+1:=aN _ (by omega) (by omega);have u:((d:Int)+1).toNat=d+1:=by omega
 have K:min (d+1) 10-d+i<9223372036854775808:=by omega
 have I:(0:Int)<=d+1/\(d:Int)+1<=10/\(d:Int)<=max (d+1) 0:=by omega
 by_cases k:i<L
 ·by_cases c:0<z
  ·simp[c,r,t,x,v,w,u,j,l];refine⟨by omega,by omega,?_⟩;exact rd (i+1) (show i+1<=L by omega) (he:=by simp[y,q,m])
  ·have o:i<a:=by rcases f.1 k with h|h;exact(c h).elim;exact h
   simp[c,o,r,t,x,v,w,u,j,l];refine⟨by omega,by omega,?_⟩;exact rd (i+1) (show i+1<=L by omega) (he:=by simp[y,q,m])
 ·have c:¬0<z:=fun h=>k (f.2 (.inl h));have o:¬i<a:=fun h=>k (f.2 (.inr h));have C:s=low L n:=by rw[<-hs];congr 1;omega
  have D:¬L<a:=by omega
  simp[c,D,l,C,pP]
theorem UF{n i:Nat}(h:bT^(i+1)<=n):aW (n/bT^i)=aW (n/bT^(i+1))++low 9 (ae bT n i):=by
 have c:0<bT^i:=gg (by decide);have b:10^9<=n/bT^i:=by
  rw[hG c,fv];rw[gi]at h;exact h
 have a:=Ve b;have e1:n/bT^i/10^9=n/bT^(i+1):=by rw[g5,gi];rfl
 have e2:n/bT^i% 10^9=ae bT n i:=rfl;rw[e1,e2]at a;have d:0<n/bT^i:=ge (by decide) b;have e:0<n/bT^(i+1):=hv h (gg (by decide));rw[aW,aW,show max 1 (nd (n/bT^i))=nd (n/bT^i)by have:=vg d;omega,show max 1 (nd (n/bT^(i+1)))=nd (n/bT^(i+1))by have:=vg e;omega,a]
theorem B3(z:Int)(B:(aq bT z.natAbs).length<=1000000):az prog 207 [eG z] (.str (bD z)):=by
 refine aM nf Fe mix (by simp[f207]) ?_
 by_cases G:z=0
 ·subst G;have v:bD 0=[48]:=by rw[show(0:Int)=((0:Nat):Int)from rfl,ub,lX]
  simp[f207,eG,eT,yN,ad,v]
 obtain⟨n,f⟩:∃n,z.natAbs=n:=⟨_,rfl⟩
 have N:0<n:=by omega
 have M:0<(aq bT n).length:=by
  rw[e9,Ne,uo];omega
 obtain⟨k,hk⟩:∃k,(aq bT n).length=k+1:=⟨(aq bT n).length-1,by omega⟩
 have g:=bY aX n;rw[hk]at g;have q:bT^k<=n:=by
  rcases gt n (bT^k)with h|h
  ·have:=dE aX k n h;omega
  ·exact h
 have m:∀i(h:i<(aq bT n).length),(aq bT n)[i]=ae bT n i:=fun i h=>dX aX h;have r:n/bT^k=ae bT n k:=by
  rw[ae,gc];rw[gb (gg (by decide)),fv,<-gi];exact g
 have P:0<ae bT n k:=by rw[<-r];exact hv q (gg (by decide))
 have c:=xa (ae bT n k) 1 (g0 (bZ aX n k) (by decide)) (by decide);rw[show low (max 1 (nd (ae bT n k))) (ae bT n k)=aW (n/bT^k)by rw[r];rfl]at c;have w:∀i,az prog 182 [.int .i64 (ae bT n i:Nat),.int .i64 (9:Nat)] (.str (low 9 (ae bT n i))):=fun i=>by
  have h:=xa (ae bT n i) 9 (g0 (bZ aX n i) (by decide)) (by decide);have K:nd (ae bT n i)<=9:=qB (bZ aX n i)
  rwa [show max 9 (nd (ae bT n i))=9 by omega]at h
 have a:aW (n/bT^0)=aW n:=by rw[g8,hw]
 have gD:∀i,i+1<=k->aW (n/bT^i)=aW (n/bT^(i+1))++low 9 (ae bT n i):=fun i hi=>UF (hb (gj (by decide) hi) q);have L:k<=1000000:=by rw[f]at B;omega
 have D:bD z=if z<0 then 45::aW n else aW n:=by rw[bD,f]
 have O:ae bT n k<bT:=bZ aX n k;have C:∀i,ae bT n i<bT:=fun i=>bZ aX n i;obtain⟨T,j⟩:∃T:Nat->List Nat,∀i,aW (n/bT^i)=T i:=⟨_,fun _=>rfl⟩
 have l:∀i,(T i).length<=9000000+9:=fun i=>by
  rw[<-j];refine hb (ua (k:=9*(k+1)) ?_ (by omega)) (by omega);rw[Nat.pow_mul];exact g4 (hA _ _) g
 simp only[j]at c a gD;rw[D];simp only[eG,f,eT,<-a];generalize hx:aq bT n=x at*;have H:dp.wrap ((k:Int)+1-1)=k:=by rw[Int.add_sub_cancel];exact aN _ (by omega) (by omega)
 have I:dp.wrap (k:Int)=k:=aN _ (by omega) (by omega);have u:dp.wrap ((k:Int)+1-2)=(k:Int)-1:=by rw[aN _ (by omega) (by omega)];omega
 have A:¬(k:Int)+1=0:=by omega
 have e:k<x.length:=by omega
 have t:=m k e;have F:x[k]?=some (ae bT n k):=by rw[eq e,t]
 simp[f207,ad,hk,A,H,I,u,e,t,F];refine c2 c ?_;simp[ad,hk,u];refine lp (α:=Nat) (fun i=>⟨[(4,.p (.int .i64 ((i:Int)-1))),(3,.p (.str (T i))),(1,.ptr 0 [])],[.box false (.p (.st 166 [.bool (decide (z<0)),.seq (x.map fun x:Nat=>.int .i64 x)]))]⟩)
  (fun i=>i<=k) (fun i=>i) k (g6 _) ?_
 rintro i hi;have Q:=C i;rcases i with _|i
 ·by_cases o:z<0
  ·have b:=g4 (hH (l 0) 1) (show 9000000+9+1<9223372036854775808 by decide);rw[a,g7]at b;simp[o,ad,a,b]
  ·simp[o,ad,a]
 ·have d:i<x.length:=by omega
  have s:=m i d;have E:x[i]?=some (ae bT n i):=by rw[eq d,s]
  have y:¬(i:Int)<0:=by omega
  have J:dp.wrap ((i:Int)-1)=(i:Int)-1:=aN _ (by omega) (by omega);have b:=g4 (hH (l (i+1)) 9) (show 9000000+9+9<9223372036854775808 by decide);have aH:=gD i hi;simp[y,ad,d,s,E];refine c2 (w i) ?_;simp[J,pP];refine⟨b,?_⟩;exact rd i (show i<=k by omega) (he:=by simp[aH])
end Go.al
