import Derived.Test.YtenbmieafgdjaaaGreatDoorRPH
import Derived.Test.YtenbmieafgdjaaaGreatDoorRPG
/- Parts of a proof. -/
set_option linter.unusedSimpArgs false
set_option linter.unusedVariables false
set_option linter.unusedSectionVars false
open Go.Proofs.Tryz
open Go.IntKind renaming i64->dp
open Int renaming natCast_nonneg->dq, tmod_eq_emod_of_nonneg->dz, tdiv_eq_ediv_of_nonneg->ea, ofNat_natAbs_of_nonpos->eb, natCast_emod->ec, natCast_ediv->ed, natAbs_of_nonneg->ee, natCast_mul->ei, le_of_lt->ej, natCast_add->em, lt_or_le->en, neg_neg->eo
open List renaming getElem?_eq_getElem->eq, range->ew, take_of_length_le->ey, getElem_range->e6, getElem_map->e7, replicate->e8, length_pos_iff->e9, take->fb, ext_getElem->fd, map_cons->fl, drop->fm
open Nat renaming mul_comm->fv, mul_le_mul_right->fV, div_lt_iff_lt_mul->gb, mod_eq_of_lt->gc, lt_of_lt_of_le->ge, pow_pos->gg, pow_succ->gi, pow_le_pow_right->gj, mod_lt->gm, lt_or_ge->gt, mul_assoc->gx, div_add_mod->gy, lt_trans->gA, one_mul->g0, mul_add->g1, add_mul->g2, lt_of_le_of_lt->g3, div_div_eq_div_mul->g4, le_refl->g5, add_comm->g6, pow_zero->g7, pow_add->g8, mul_lt_mul_of_pos_right->g9, le_trans->ha, add_mul_mod_self_left->hb, div_eq_of_lt->hd, add_sub_cancel_left->hg, mul_le_mul_left->hj, mul_right_comm->hl, mod_mod_of_dvd->hm, gcd_comm->hn, mul_lt_mul''->ho, lt_of_not_le->hp, zero_le->hr, mul_one->ht, div_pos->hu, div_one->hv, pow_dvd_pow->hw, div_le_self->hz, gcd->hA, mul_le_mul->hB, add_mul_mod_self_right->hC, le_mul_of_pos_right->hD, le_of_lt->hE, le_div_iff_mul_le->hF, add_le_add_right->hG, div_mul_le_self->hH, div_eq_of_lt_le->hK, sub_le->hL, gcd_zero_right->hM, add_sub_cancel->hN, sub_mul->hO, pow_one->hP, mul_pos->hQ, mod_one->hR, gcd_rec->hS
open Option.some renaming inj->hT
namespace Go.aj
open Go.Proofs
set_option maxHeartbeats 4000000
set_option maxRecDepth 100000
theorem BV(n:Nat)(f:Nat->Nat):dc n f=((ew n).map f).map (AV.p∘fun x:Nat=>PV.int .i64 x):=by
 rw[dc,List.map_map];rfl
theorem U2{n:Nat}{f:Nat->Nat}(h:∀j,f j=0):e8 n (AV.p (.int .i64 0))=dc n f:=by
 rw[KD];exact yv fun j _=>(h j).symm
theorem Dy(a b:Nat)(w:(aq bT a).length+(aq bT b).length<=1000000):aw prog 202 [eT a,eT b] (eT (a*b)):=by
 refine aI nf Ht mix (by simp[f202]) ?_;have L:∀i(h:i<(aq bT a).length),(aq bT a)[i]=ae bT a i:=fun i h=>ek aW h;have M:∀i(h:i<(aq bT b).length),(aq bT b)[i]=ae bT b i:=fun i h=>ek aW h;have t:=cj aW a;have e:=cj aW b;have S:dZ ((ew ((aq bT a).length+(aq bT b).length)).map (ae bT (a*b)))=aq bT (a*b):=jo aW (by
  rw[g8];exact ho t e)
 have c:=tt ((ew ((aq bT a).length+(aq bT b).length)).map (ae bT (a*b))) (by simp;omega);rw[S]at c;have A:bT=1000000000:=rfl;simp only[eT];simp only[iP]at c;generalize aq bT (a*b)=z at*;generalize aq bT a=x at*;generalize aq bT b=y at*;obtain⟨n,d⟩:∃n,x.length=n:=⟨_,rfl⟩
 obtain⟨m,g⟩:∃m,y.length=m:=⟨_,rfl⟩
 rw[d]at t c w;rw[g]at e c w;have B:=BV (n+m) (ae bT (a*b));have u:((ew (n+m)).map (ae bT (a*b))).length=n+m:=by simp
 generalize (ew (n+m)).map (ae bT (a*b))=l at c B u;have R:((n:Int)+m).toNat=n+m:=by omega
 have Q:0<=(n:Int)+m:=by omega
 have W:dp.wrap ((n:Int)+m)=(n:Int)+m:=aK _ (by omega) (by omega);simp[f202,d,g,W,R,Q];refine⟨by simp only[cO];omega,?_⟩;rw[U2 (f:=c8 bT a b 0 0) (by intro j;simp[o5,hR,ae])];refine lp (α:=Nat) (fun i=>⟨[(6,.p (.int .i64 i)),(5,.sl 0 0 1 0 (n+m)),(1,.p (.seq (y.map fun x:Nat=>.int .i64 x))),(0,.p (.seq (x.map fun x:Nat=>.int .i64 x)))],[.arr .exact 0 1 (dc (n+m) (c8 bT a b i 0))]⟩)
  (fun i=>i<=n) (fun i=>n-i) 0 (by simp) ?_ (he:=by simp)
 intro i k1;have T:=bX (i:=i) (by omega)
 by_cases hi:i<n
 ·have r:i<x.length:=by rw[d];exact hi
  have hx:=L i r;have Y:x[i]?=some (ae bT a i):=by rw[eq r,hx]
  simp[d,hi];refine lp (α:=Nat) (fun j=>⟨[(8,.p (.int .i64 j)),(7,.p (.int .i64 (mulC bT a b i j:Nat))),(6,.p (.int .i64 i)),(5,.sl 0 0 1 0 (n+m)),(1,.p (.seq (y.map fun x:Nat=>.int .i64 x))),(0,.p (.seq (x.map fun x:Nat=>.int .i64 x)))],[.arr .exact 0 1 (dc (n+m) (c8 bT a b i j))]⟩)
   (fun j=>j<=m) (fun j=>m-j) 0 (by simp) ?_ (he:=by simp[Bz])
  intro j k2;have V:=bX (i:=j) (by omega);have H:((i:Int)+j).toNat=i+j:=by omega
  have G:0<=(i:Int)+j:=by omega
  have U:dp.wrap ((i:Int)+j)=(i:Int)+j:=aK _ (by omega) (by omega)
  by_cases F:j<m
  ·have s:j<y.length:=by rw[g];exact F
   have I:=M j s;have Z:y[j]?=some (ae bT b j):=by rw[eq s,I]
   have E:i+j<n+m:=by omega
   have q:=sW (c8 bT a b i j) E;have o:=Ch aW a b i j;have ah:=tf aW a b i j;have v:=tf aW a b i (j+1);have ai:c8 bT a b i j (i+j)<bT:=by rw[c8];split<;>exact cm aW _ _
   have am:=cm aW a i;have an:=cm aW b j;have hs:=Cv (n:=n+m) (i:=i+j) (c8 bT a b i j) (c8 bT a b i (j+1)) (fun k _ hk=>JD aW hk);rw[Lg]at hs;rw[<-o.1]at hs;have al:ae bT a i*ae bT b j<=999999999*999999999:=hB (by omega) (by omega);rw[<-o.2]at v;have J:=o.2;clear o;have K:((ae bT a i:Int)*(ae bT b j:Int))=((ae bT a i*ae bT b j:Nat):Int):=by push_cast;rfl
   generalize ae bT a i*ae bT b j=P at*;generalize c8 bT a b i j (i+j)=O at*;generalize aj:mulC bT a b i j=C at*;have ac:dp.wrap ((ae bT a i:Int)*(ae bT b j:Int))=P:=by rw[K];exact aK _ (by omega) (by omega)
   have ad:dp.wrap ((O:Int)+P)=O+P:=aK _ (by omega) (by omega);have af:dp.wrap ((O:Int)+P+C)=O+P+C:=aK _ (by omega) (by omega);have d1:((O:Int)+P+C).tmod 1000000000=((P+O+C)% bT:Nat):=by
    rw[dz (by omega),A];omega
   generalize (P+O+C)% bT=D at*;have d2:((O:Int)+P+C).tdiv 1000000000=(mulC bT a b i (j+1):Nat):=by
    rw[ea (by omega),<-J,A];omega
   have d3:dp.wrap ((mulC bT a b i (j+1):Nat):Int)=(mulC bT a b i (j+1):Nat):=aK _ (by omega) (by omega);simp[d,g,F,U,H,G,E,q,hx,Y,I,Z,r,s,ac,ad,af,d1,d2,d3,hs,aa];exact rd (j+1) (show j+1<=m by omega) (he:=by simp[V])
  have:j=m:=by omega
  subst this;have X:dp.wrap ((i:Int)+j)=(i:Int)+j:=aK _ (by omega) (by omega);have ak:i+j<n+j:=by omega
  have ab:c8 bT a b i j (i+j)=0:=by
   rw[c8,if_neg (by omega)];exact jn (vq aW a i e)
  have q:=sW (c8 bT a b i j) ak;rw[ab]at q;have hs:=Cv (n:=n+j) (i:=i+j) (c8 bT a b i j) (c8 bT a b (i+1) 0) (fun k _ hk=>by rw[o5,Lh aW e hk]);rw[o5,<-Ii aW e]at hs;have v:=tf aW a b i j;have ag:dp.wrap ((mulC bT a b i j:Nat):Int)=(mulC bT a b i j:Nat):=aK _ (by omega) (by omega);simp[g,X,H,G,hi,ak,q,hs,ag,aa];exact rd (i+1) (show i+1<=n by omega) (he:=by simp[T])
 have:i=n:=by omega
 subst this;have N:dc (i+m) (c8 bT a b i 0)=dc (i+m) (ae bT (a*b)):=yv fun k _=>by rw[o5,gc t]
 simp[d,N,B];refine cp c (by simp[u];exact⟨rfl,rfl⟩) ?_ (h1:=by simp[ey,u]);simp
theorem VB{a b i:Nat}(c:0<b):(a/bT^(i+1)% b*bT+ae bT a i)/b=ae bT (a/b) i/\(a/bT^(i+1)% b*bT+ae bT a i)% b=a/bT^i% b:=by
 have e:=sv (B:=bT) a i;have g:=gy (a/bT^(i+1)) b;have f:a/bT^i=(a/bT^(i+1)% b*bT+ae bT a i)+a/bT^(i+1)/b*bT*b:=by
  rw[e];generalize ae bT a i=d;generalize a/bT^(i+1)/b=Q at*;generalize a/bT^(i+1)% b=R at*;rw[<-g,g2,fv b,hl Q b bT];omega
 have j:(a/bT^(i+1)% b*bT+ae bT a i)/b<bT:=by
  rw[gb c];have k:=cm aW a i;have h:=fV bT (show a/bT^(i+1)% b+1<=b from gm _ c);rw[g2,g0]at h;rw[fv bT];omega
 constructor
 ·conv=>rhs;rw[ae,g4,fv b,<-g4,f,Nat.add_mul_div_right _ _ c,hC,gc j]
 ·rw[f,hC]
theorem zC(r x:Nat):(r:Int)*1000000000+x=((r*bT+x:Nat):Int):=by
 rw[em,ei];rfl
def qT(Q i k:Nat):Nat:=if i<=k then ae bT Q k else 0
theorem Di{m Q i:Nat}:(dc m (qT Q (i+1))).set i (.p (.int .i64 (ae bT Q i:Nat)))=dc m (qT Q i):=by
 have:=Cv (n:=m) (i:=i) (qT Q (i+1)) (qT Q i) (fun k _ hk=>by
  rw[qT,qT]
  by_cases h:i<=k
  ·rw[if_pos h,if_pos (by omega)]
  ·rw[if_neg h,if_neg (by omega)])
 rw[<-this,qT,if_pos (g5 _)]
theorem Mk{m Q:Nat}:dc m (qT Q 0)=dc m (ae bT Q):=yv fun k _=>by rw[qT,if_pos (hr _)]
theorem Ml{m Q:Nat}:e8 m (AV.p (.int .i64 0))=dc m (qT Q m):=by
 rw[KD];exact yv fun k hk=>by rw[qT,if_neg (by omega)]
theorem MT{m N:Nat}(h:N<bT^m)(b:m<=1048576):∃l:List Nat,l.length=m/\dc m (ae bT N)=l.map (AV.p∘fun x:Nat=>PV.int .i64 x)/\aw prog 260 [.seq (iP l)] (eT N):=by
 refine⟨(ew m).map (ae bT N),by simp,BV m _,?_⟩;have a:=tt ((ew m).map (ae bT N)) (by simp;omega);rw[show dZ ((ew m).map (ae bT N))=aq bT N from jo aW h]at a;exact a
theorem IW(a d:Nat)(u:0<d)(U:d<bT)(J:(aq bT a).length<=1000000):aw prog 259 [eT a,.int .i64 d] (.aE [eT (a/d),.int .i64 (a% d:Nat)]):=by
 refine aI nf Nx mix (by simp[f259]) ?_;have H:∀i(h:i<(aq bT a).length),(aq bT a)[i]=ae bT a i:=fun i h=>ek aW h;have w:=cj aW a;obtain⟨l,o,y,g⟩:=MT (m:=(aq bT a).length) (N:=a/d) (g3 (hz _ _) w) (by omega);have j:a/bT^(aq bT a).length% d=0:=by rw[hd w,Nat.zero_mod]
 have A:a/bT^0% d=a% d:=by rw[g7,hv]
 have T:bT=1000000000:=rfl;simp only[eT]at g⊢;simp only[iP]at g;generalize aq bT (a/d)=X at*;generalize aq bT a=x at*;obtain⟨n,q⟩:∃n,x.length=n:=⟨_,rfl⟩
 rw[q]at o y j J;generalize W:a% d=rem at*;obtain⟨f,hf⟩:∃f:Nat->Nat,∀i,a/bT^i% d=f i:=⟨_,fun _=>rfl⟩
 have z:=fun i=>VB (a:=a) (b:=d) (i:=i) u;have v:∀i,f i<d:=fun i=>by rw[<-hf];exact gm _ u
 simp only[hf]at j A z;have C:dp.wrap ((n:Int)-1)=n-1:=aK _ (by omega) (by omega);simp[f259,q,C];refine⟨by simp only[cO];omega,?_⟩;rw[Ml (Q:=a/d)];refine lp (α:=Nat) (fun i=>⟨[(8,.p (.int .i64 ((i:Int)-1))),(7,.p (.int .i64 (f i:Nat))),(6,.sl 0 0 1 0 n),(1,.p (.int .i64 d)),(0,.p (.seq (x.map fun x:Nat=>.int .i64 x)))],[.arr .exact 0 1 (dc n (qT (a/d) i))]⟩)
  (fun i=>i<=n) (fun i=>i) n (g5 _) ?_ (he:=by simp[j])
 intro i k1
 by_cases hi:0<i
 ·obtain⟨k,rfl⟩:∃k,i=k+1:=⟨i-1,by omega⟩
  have D:dp.wrap ((k:Int)-1)=k-1:=aK _ (by omega) (by omega);have r:k<x.length:=by omega
  have hx:=H k r;have K:x[k]?=some (ae bT a k):=by rw[eq r,hx]
  obtain⟨L,M⟩:=z k;have aB:=Di (m:=n) (Q:=a/d) (i:=k);have gk:=sW (qT (a/d) (k+1)) (show k<n by omega);have I:k<n:=by omega
  have R:=v (k+1);have V:=cm aW a k;have hq:=cm aW (a/d) k;have S:=v k;generalize f (k+1)=c at*;generalize E:f k=B at*;generalize ae bT a k=e at*;generalize ae bT (a/d) k=s at*;have O:dp.wrap ((c:Int)*1000000000)=c*1000000000:=aK _ (by omega) (by omega);have P:dp.wrap ((c:Int)*1000000000+e)=c*1000000000+e:=aK _ (by omega) (by omega);have t:(c:Int)*1000000000+e=((c*bT+e:Nat):Int):=zC c e;have d1:((c:Int)*1000000000+e).tdiv d=s:=by
   rw[t,ea (dq _),<-ed,L]
  have d2:((c:Int)*1000000000+e).tmod d=B:=by
   rw[t,dz (dq _),<-ec,M]
  have d3:dp.wrap (s:Int)=s:=aK _ (by omega) (by omega);have F:¬(d:Int)=0:=by omega
  have G:¬d=0:=by omega
  simp[q,D,hx,K,I,r,O,P,d1,d2,d3,F,G,gk,aB,aa];exact rd k (show k<=n by omega) (he:=by simp[E])
 ·obtain rfl:i=0:=by omega
  simp[Mk,y,A];refine cp g (by simp[o];exact⟨rfl,rfl⟩) ?_ (h1:=by simp[ey,o]);simp
def kD(a b c:Nat):Nat->Nat->Nat
 |0,_=>0
 |t+1,r=>if bT<=t+1\/r*bT+c<(t+1)*b then(if bT<=r+a then t else kD a b c t (r+a))else t+1
theorem ZK{a b c t r:Nat}(h:0<t):kD a b c t r=if bT<=t\/r*bT+c<t*b then(if bT<=r+a then t-1 else kD a b c (t-1) (r+a))else t:=by
 cases t with
 |zero=>exact absurd h (Nat.lt_irrefl 0)
 |succ t=>rw[kD,hN]
theorem JB{a b:Nat}(c:a<bT)(d:b<bT):dp.wrap ((a:Int)*b)=(a:Int)*b:=by
 have e:a*b<=999999999*999999999:=hB (by simp only[bT]at c;omega) (by simp only[bT]at d;omega);rw[<-ei];generalize a*b=P at*;exact aK _ (by omega) (by omega)
theorem QV{a b r w:Nat}:(r:Int)*1000000000+w<(a:Int)*b↔r*bT+w<a*b:=by
 rw[zC,<-ei];exact Int.ofNat_lt
theorem zP{r v:Nat}:(1000000000:Int)<=(r:Int)+v↔bT<=r+v:=by simp only[bT];omega
theorem Pf{t:Nat}:(1000000000:Int)<=(t:Int)↔bT<=t:=by simp only[bT];omega
theorem aF6{t:Nat}(h:0<t)(a:t<=bT+1):dp.wrap ((t:Int)-1)=((t-1:Nat):Int):=by
 simp only[bT]at a;rw[aK _ (by omega) (by omega)];omega
theorem Og{a v2 b c w2 Q:Nat}(w:bT<=2*a)(x:a<bT)(o:b<=a)(y:c<bT)(v:Q<bT)
 (g:∀q r,q*a+r=b*bT+c->q<bT->q*v2<=r*bT+w2->q<=Q+1)(m:∀q r,q*a+r=b*bT+c->r*bT+w2<q*v2->Q<q)
 (n:∀q r,bT<=r->q<bT->q*v2<=r*bT+w2):∀t r,t*a+r=b*bT+c->Q<=t->r<bT->t<=bT+1->Q<=kD a v2 w2 t r/\kD a v2 w2 t r<=Q+1/\kD a v2 w2 t r<bT
 |0,r,d,f,p,s=>by
  rw[kD];exact⟨f,by omega,by omega⟩
 |t+1,r,d,f,p,s=>by
  rw[kD]
  by_cases hc:bT<=t+1\/r*bT+w2<(t+1)*v2
  ·rw[if_pos hc];have hq:Q<=t:=by
    rcases hc with h|h
    ·omega
    ·have:=m _ _ d h;omega
   have k:t*a+(r+a)=b*bT+c:=by rw[g2,g0]at d;omega
   by_cases i:bT<=r+a
   ·rw[if_pos i];have j:t<bT:=by
     rcases gt t bT with h|h
     ·exact h
     ·have e:t=bT:=by omega
      subst e;have:=fV bT o;rw[fv a]at this;omega
    exact⟨hq,g _ _ k j (n _ _ i j),j⟩
   ·rw[if_neg i];exact Og w x o y v g m n t (r+a) k hq (by omega) (by omega)
  ·rw[if_neg hc];have l:t+1<bT:=by
    rcases gt (t+1) bT with h|h
    ·exact h
    ·exact(hc (.inl h)).elim
   have u:(t+1)*v2<=r*bT+w2:=by
    rcases gt (r*bT+w2) ((t+1)*v2)with h|h
    ·exact(hc (.inr h)).elim
    ·exact h
   exact⟨f,g _ _ d l u,l⟩
theorem ZC(W V N j n:Nat)(k:AK)(ar:Nat)(f:Nat->Nat)(ax:2<=n)(aG:(aq bT V).length=n)(aX:bT<=2*ae bT V (n-1))(aH:W<V*bT)(bg:N<=1000000)(a0:j+n<N)
 (hf:∀i,i<=n->f (j+i)=ae bT W i):∃t,W/V<=t/\t<=W/V+1/\t<bT/\
 c7 prog 261 [.arr k ar 1 (dc N f)] [.sl 0 ar 1 0 N,.p (eT V),.p (.int .i64 j)] [.arr k ar 1 (dc N f)] (.p (.int .i64 t)):=by
 have aY:bT=1000000000:=rfl;have D:V<bT^n:=by rw[<-aG];exact cj aW V
 have Y:bT^(n-1)<=V:=by
  rcases gt V (bT^(n-1))with h|h
  ·have:=dK aW (n-1) V h;omega
  ·exact h
 obtain⟨aw,aZ⟩:=CE aW (show 1<=n by omega) D aH;have aA:W/bT^n=ae bT W n:=by
  rw[ae,gc];have:=cm aW V (n-1);omega
 have w:W/bT^(n-1)=ae bT W n*bT+ae bT W (n-1):=by
  rw[sv,show n-1+1=n by omega,aA]
 have F:=ML aW ax Y D (W:=W);have ad:=fun q r=>DZ aW ax Y D (W:=W) (q:=q) (r:=r);have ac:=fun q r=>Of aW ax Y D (W:=W) (q:=q) (r:=r);have aM:=fun q r=>MK aW (V:=V) (W:=W) (n:=n) (q:=q) (r:=r);rw[w]at F ad ac;have q1:=cm aW W n;have ba:=cm aW W (n-1);have bq:=cm aW W (n-2);have q4:=cm aW V (n-1);have bb:=cm aW V (n-2);have aF:=hf n (g5 _);have f2:=hf (n-1) (by omega);have f3:=hf (n-2) (by omega);rw[aA]at aw;have E:(aq bT V)[n-1]?=some (ae bT V (n-1)):=by rw[eq (by omega),ek aW (by omega)]
 have ab:(aq bT V)[n-2]?=some (ae bT V (n-2)):=by rw[eq (by omega),ek aW (by omega)]
 have aJ:∀h:n-1<(aq bT V).length,(aq bT V)[n-1]=ae bT V (n-1):=fun h=>ek aW h;have aL:∀h:n-2<(aq bT V).length,(aq bT V)[n-2]=ae bT V (n-2):=fun h=>ek aW h;simp only[eT];generalize aq bT V=y at*;generalize bh:W/V=Q at*;generalize bl:ae bT W n=s at*;generalize bm:ae bT W (n-1)=M at*;generalize bn:ae bT W (n-2)=e at*;generalize bj:ae bT V (n-1)=a at*;generalize bk:ae bT V (n-2)=v2 at*;clear w aA D Y aH hf;have S:=sW f (show j+n<N by omega);have U:=sW f (show j+(n-1)<N by omega);have l:=sW f (show j+(n-2)<N by omega);rw[aF]at S;rw[f2]at U;rw[f3]at l;have G:=vo N f;have aB:∀aD:Nat×Nat->Prop,aR aD (dc N f):=fun aD=>by simp
 generalize dc N f=u at*;obtain⟨c,m⟩:∃c,c=s*bT+M:=⟨_,rfl⟩
 obtain⟨b,ah⟩:∃b,b=c/a:=⟨_,rfl⟩
 obtain⟨d,af⟩:∃d,d=c% a:=⟨_,rfl⟩
 have a1:0<a:=by omega
 have aN:b*a+d=c:=by rw[ah,af,fv];exact gy _ _
 have ay:d<bT:=gA (by rw[af];exact gm _ a1) q4;have az:b<=bT+1:=by
  have aU:=fV bT aw;rw[fv a]at aU;rcases gt (bT+1) b with h|h
  ·have aV:=fV a (show bT+2<=b from h);rw[g2]at aV;omega
  ·exact h
 rw[<-m]at F ad ac;rw[<-ah]at F;have Z:=Og (v2:=v2) (w2:=e) aX q4 aw ba aZ (by rw[<-m];exact ad) (by rw[<-m];exact ac) aM b d (by rw[<-m];exact aN) F ay az;refine⟨kD a v2 e b d,Z.1,Z.2.1,Z.2.2,?_⟩;obtain⟨T,w⟩:∃T,T=kD a v2 e b d:=⟨_,rfl⟩
 rw[<-w];clear Z F ad ac aM;have o:y.length=n:=aG;have br:dp.wrap ((j:Int)+n)=(j+n:Nat):=by rw[aK _ (by omega) (by omega)];omega
 have O:dp.wrap ((j:Int)+n)=(j:Int)+n:=aK _ (by omega) (by omega);have be:dp.wrap ((j:Int)+n-1)=(j:Int)+n-1:=aK _ (by omega) (by omega);have B:dp.wrap ((n:Int)-1)=(n:Int)-1:=aK _ (by omega) (by omega);have ao:dp.wrap ((n:Int)-2)=(n:Int)-2:=aK _ (by omega) (by omega);have ap:dp.wrap ((j:Int)+n-2)=(j:Int)+n-2:=aK _ (by omega) (by omega);have bc:((j:Int)+n).toNat=j+n:=by omega
 have bd:((j:Int)+n-1).toNat=j+(n-1):=by omega
 have A:((n:Int)-1).toNat=n-1:=by omega
 have am:((n:Int)-2).toNat=n-2:=by omega
 have an:((j:Int)+n-2).toNat=j+(n-2):=by omega
 have wf:dp.wrap ((s:Int)*1000000000)=(s:Int)*1000000000:=aK _ (by omega) (by omega);have aI:(s:Int)*1000000000+M=(c:Nat):=by rw[m];exact zC s M
 have bi:c<1000000000000000000:=by rw[m,aY];omega
 have aP:dp.wrap ((s:Int)*1000000000+M)=(c:Nat):=by rw[aI];exact aK _ (by omega) (by omega)
 have aE:((c:Nat):Int).tdiv a=b:=by rw[ea (dq _),<-ed,<-ah]
 have dr:((c:Nat):Int).tmod a=d:=by rw[dz (dq _),<-ec,<-af]
 have a2:¬(a:Int)=0:=by omega
 have a3:¬a=0:=by omega
 have aQ:dp.wrap (b:Int)=b:=aK _ (by omega) (by omega);have z:n-1<y.length:=by omega
 have J:n-2<y.length:=by omega
 have H:=aJ z;have ai:=aL J;have aO:j+n<u.length:=by omega
 have a4:j+(n-1)<u.length:=by omega
 have I:j+(n-2)<u.length:=by omega
 have a5:j+(n-1)<N:=by omega
 have aj:j+(n-2)<N:=by omega
 have aS:u[j+n]=.p (.int .i64 s):=by rw[eq aO]at S;exact hT S
 have aT:u[j+(n-1)]=.p (.int .i64 M):=by rw[eq a4]at U;exact hT U
 have X:u[j+(n-2)]=.p (.int .i64 e):=by rw[eq I]at l;exact hT l
 have L:¬u=[]:=by rintro rfl;simp at aO
 have a6:0<=(j:Int)+n:=by omega
 have a7:0<=(j:Int)+n-1:=by omega
 have bo:0<=(j:Int)+n-2:=by omega
 have a9:0<=(n:Int)-1:=by omega
 have bp:0<=(n:Int)-2:=by omega
 have a8:1<=(j:Int)+n:=by omega
 have ak:2<=(j:Int)+n:=by omega
 have K:1<=(n:Int):=by omega
 have al:2<=(n:Int):=by omega
 refine jc nf Ft mix (by simp[f261]) ?_;simp[f261,o,O,be,B,bc,bd,A,S,U,E,H,wf,aP,aE,dr,a2,a3,aQ,G,a0,z,aS,aT,L,a6,a7,a9,a8,K,a5,aa];refine lp (α:=Nat×Nat) (fun x=>⟨[(10,.p (.int .i64 x.2)),(9,.p (.int .i64 x.1)),(7,.p (.int .i64 n)),(2,.p (.int .i64 j)),(1,.p (.seq (y.map fun x:Nat=>.int .i64 x))),(0,.sl 0 ar 1 0 N)],[.arr k ar 1 u]⟩)
  (fun x=>T=kD a v2 e x.1 x.2/\x.2<bT/\x.1<=bT+1) (fun x=>x.1) (b,d) ⟨w,ay,az⟩ ?_ (hr2:=by simp[aB])
 clear m aN ah af aI aP aE dr w wf ay az aQ aJ aL aF f2 f3;rintro⟨t,r⟩ ⟨k1,k2,k3⟩;dsimp only at k1 k2 k3;have au:dp.wrap ((r:Int)*1000000000)=(r:Int)*1000000000:=aK _ (by omega) (by omega);have av:dp.wrap ((r:Int)*1000000000+e)=(r:Int)*1000000000+e:=aK _ (by omega) (by omega);have P:dp.wrap ((r:Int)+a)=(r:Int)+a:=aK _ (by omega) (by omega);rcases Nat.eq_zero_or_pos t with C|C
 ·subst C;rw[kD]at k1;have c1:¬(r:Int)*1000000000+e<0:=by rw[zC];exact Int.not_lt.2 (dq _)
  have bf:dp.wrap 0=0:=rfl;simp[o,bf,ao,am,au,av,P,ap,an,ab,ai,J,l,X,I,aj,G,L,ak,al,O,c1,k1,aa]
 rw[ZK C]at k1;have ag:=aF6 C k3;have k4:∀x,x<=bT+1->x-1<=bT+1:=fun x h=>ha (hL _ _) h;have k5:t-1<t:=Nat.sub_lt C (by decide)
 by_cases c0:bT<=t
 ·have v:=Pf.2 c0;rw[if_pos (.inl c0)]at k1
  by_cases c2:bT<=r+a
  ·have g:=zP.2 c2;rw[if_pos c2]at k1;simp[v,ag,o,B,A,E,H,z,K,P,g,k1]
  ·have g:=mt zP.1 c2;rw[if_neg c2]at k1;simp[v,ag,o,B,A,E,H,z,K,P,g];exact rd (t-1,r+a) ⟨k1,hp c2,k4 _ k3⟩ k5 (he:=by simp) (hr2:=by simp[aB])
 have v:=mt Pf.1 c0;have aC:=JB (hp c0) bb
 by_cases c1:r*bT+e<t*v2
 ·have R:=QV.2 c1;rw[if_pos (.inr c1)]at k1
  by_cases c2:bT<=r+a
  ·have g:=zP.2 c2;rw[if_pos c2]at k1;simp[v,ag,o,B,A,E,H,z,K,P,g,k1,ao,am,au,av,aC,ap,an,ab,ai,J,l,X,I,aj,G,L,ak,al,O,R,aa]
   done
  ·have g:=mt zP.1 c2;rw[if_neg c2]at k1;simp[v,ag,o,B,A,E,H,z,K,P,g,ao,am,au,av,aC,ap,an,ab,ai,J,l,X,I,aj,G,L,ak,al,O,R,aa];exact rd (t-1,r+a) ⟨k1,hp c2,k4 _ k3⟩ k5 (he:=by simp) (hr2:=by simp[aB])
 ·have R:=mt QV.1 c1;rw[if_neg (fun h=>h.elim c0 c1)]at k1;simp[v,o,B,A,ao,am,au,av,aC,ap,an,ab,ai,J,l,X,I,aj,G,L,ak,al,O,R,k1,aa]
theorem WE{b k f d:Nat}(n:b<bT^(k+1))(h:d=b/bT^k)(p:0<d)(hf:f=bT/(d+1)):0<f/\f<bT/\b*f<bT^(k+1)/\bT^k<=b*f/\bT<=2*ae bT (b*f) k:=by
 have e:0<bT^k:=gg (by decide);have s:d<bT:=by
  rw[h,gb e,fv,<-gi];exact n
 have r:bT=1000000000:=rfl;have g:=hH bT (d+1);have j:=Nat.lt_div_mul_add (a:=bT) (show 0<d+1 by omega);rw[<-hf]at g j;have i:0<f:=by rw[hf];exact hu (by omega) (by omega)
 have q:f<bT:=by
  rw[hf];exact Nat.div_lt_self (by decide) (by omega)
 have o:b<(d+1)*bT^k:=by
  rw[<-gb e,<-h];omega
 have l:d*bT^k<=b:=by rw[h];exact hH _ _
 have m:b*f<bT^(k+1):=by
  rw[gi];have e1:b*f<(d+1)*bT^k*f:=g9 o i;have e2:(d+1)*bT^k*f=f*(d+1)*bT^k:=by rw[fv,<-gx]
  have e3:=fV (bT^k) g;rw[fv (bT^k) bT];omega
 refine⟨i,q,m,?_,?_⟩
 ·have e1:1*bT^k<=d*bT^k:=fV _ p;rw[g0]at e1;exact ha (ha e1 l) (hD _ i)
 ·have e1:b*f/bT^k=ae bT (b*f) k:=by
   rw[ae,gc];rw[gb e,fv bT,<-gi];exact m
  have e2:d*f<=b*f/bT^k:=by
   rw[hF e,hl];exact fV _ l
  rw[e1]at e2;have e3:d+f<=d*f+1:=by
   obtain⟨d',rfl⟩:∃d',d=d'+1:=⟨d-1,by omega⟩
   obtain⟨c,rfl⟩:∃c,f=c+1:=⟨f-1,by omega⟩
   have:(d'+1)*(c+1)=d'*c+d'+c+1:=by rw[g2,g1,g0,ht];omega
   omega
  have e4:f*(d+1)=d*f+f:=by rw[g1,ht,fv]
  rw[e4]at g j;generalize d*f=P at*;generalize ae bT (b*f) k=Z at*;omega
def gl(V R t i:Nat):Nat:=(t*(V% bT^i)+R% bT^i)/bT^i
theorem XA{V R t:Nat}:gl V R t 0=0:=by simp[gl,hR]
theorem KS{W V R t n i:Nat}(h:R+t*V=W+bT^(n+1))(hi:i<=n):ae bT R i+t*ae bT V i+gl V R t i=ae bT W i+gl V R t (i+1)*bT:=by
 have k:0<bT^i:=gg (by decide);have l:0<bT^(i+1):=gg (by decide);have d:(t*(V% bT^(i+1))+R% bT^(i+1))% bT^(i+1)=W% bT^(i+1):=by
  have e1:(t*V+R)% bT^(i+1)=(t*(V% bT^(i+1))+R% bT^(i+1))% bT^(i+1):=by
   have a:=gy V (bT^(i+1));have e:=gy R (bT^(i+1));have f:t*V+R=t*(V% bT^(i+1))+R% bT^(i+1)+bT^(i+1)*(t*(V/bT^(i+1))+R/bT^(i+1)):=by
    have g:t*V=t*(V% bT^(i+1))+bT^(i+1)*(t*(V/bT^(i+1))):=by
     conv=>lhs;rw[<-a]
     rw[g1,<-gx,fv t (bT^(i+1)),gx];omega
    rw[g,g1]
    conv=>lhs;rw[<-e]
    omega
   rw[f,hb]
  rw[<-e1,g6 (t*V),h];have:bT^(i+1)∣bT^(n+1):=hw _ (by omega);obtain⟨c,hc⟩:=this;rw[hc,hb]
 have e2:=gy (t*(V% bT^(i+1))+R% bT^(i+1)) (bT^(i+1));have e3:=gy (t*(V% bT^i)+R% bT^i) (bT^i);rw[d]at e2;rw[show(t*(V% bT^(i+1))+R% bT^(i+1))/bT^(i+1)=gl V R t (i+1)from rfl]at e2;rw[show(t*(V% bT^i)+R% bT^i)/bT^i=gl V R t i from rfl]at e3;have j:(t*(V% bT^i)+R% bT^i)% bT^i=W% bT^i:=by
  have:=congrArg (·% bT^i) d
  have b:bT^i∣bT^(i+1):=hw _ (by omega);rw[hm _ b,hm _ b]at this;rw[<-this,mod_pow_succ,mod_pow_succ];rw[g1];have:t*(V% bT^i)+t*(bT^i*ae bT V i)+(R% bT^i+bT^i*ae bT R i)=t*(V% bT^i)+R% bT^i+bT^i*(t*ae bT V i+ae bT R i):=by
   rw[g1,<-gx t,fv t (bT^i),gx];omega
  rw[this,hb]
 rw[j]at e3;rw[mod_pow_succ,mod_pow_succ,mod_pow_succ,gi]at e2;have e4:bT^i*(ae bT R i+t*ae bT V i+gl V R t i)=bT^i*(ae bT W i+gl V R t (i+1)*bT):=by
  have a:t*(V% bT^i+bT^i*ae bT V i)=t*(V% bT^i)+bT^i*(t*ae bT V i):=by
   rw[g1,<-gx t,fv t (bT^i),gx]
  rw[a]at e2;rw[g1,g1,g1];rw[gx (bT^i),fv bT]at e2;generalize bT^i*ae bT R i=m at*;generalize bT^i*(t*ae bT V i)=o at*;generalize bT^i*gl V R t i=p at*;generalize bT^i*ae bT W i=q at*;generalize bT^i*(gl V R t (i+1)*bT)=r at*;generalize t*(V% bT^i)=s at*;omega
 exact Nat.eq_of_mul_eq_mul_left k e4
theorem Xz{r p w b':Nat}(h:r+p=w+b'*bT)(j:r<bT)(k:w<bT):(w<p% bT/\r+p% bT=w+bT/\b'=p/bT+1)\/(p% bT<=w/\r+p% bT=w/\b'=p/bT):=by
 have e:=gy p bT;have i:=gm p (show 0<bT by decide);generalize p/bT=q at*;generalize p% bT=m at*;have b:r+m+bT*q=w+b'*bT:=by omega
 rw[fv bT]at b;rcases Nat.lt_trichotomy b' q with a|a|a
 ·have:=fV bT (show b'+1<=q from a);rw[g2,g0]at this;omega
 ·subst a;right;omega
 ·have d:=fV bT (show q+1<=b' from a);rw[g2,g0]at d;have f:b'=q+1:=by
   rcases gt (q+1) b' with c|c
   ·have g:=fV bT (show q+2<=b' from c);rw[g2]at g;omega
   ·omega
  subst f;rw[g2,g0]at b;left;omega
theorem X4{W V t n:Nat}(y:0<V)(j:V<bT^n)(l:W<bT^(n+1))(C:W/V<=t)(D:t<=W/V+1):
 ∃R,R+t*V=W+bT^(n+1)/\
 ((t=W/V/\gl V R t n=ae bT W n/\∀i,i<=n->ae bT R i=ae bT (W% V) i)\/
  (t=W/V+1/\gl V R t n=ae bT W n+1/\cZ bT R V n=1/\∀i,i<=n->ae bT (R+V) i=ae bT (W% V) i)):=by
 have H:0<bT^n:=gg (by decide);have B:0<bT^(n+1):=gg (by decide);have k:V<bT^(n+1):=ge j (gj (by decide) (by omega));have z:=gy W V;have o:=gm W y;have d:bT^(n+1)=bT^n*bT:=gi _ _;have F:bT=1000000000:=rfl;have A:W% V<bT^n:=gA o j;have s:ae bT (W% V) n=0:=jn A;have q:ae bT V n=0:=jn j;have m:∀R,R+t*V=W+bT^(n+1)->ae bT R n+gl V R t n=ae bT W n+gl V R t (n+1)*bT:=fun R v=>by
  have:=KS v (g5 n);rw[q,Nat.mul_zero,Nat.add_zero]at this;exact this
 rcases gt t (W/V+1)with u|u
 ·have b:t=W/V:=by omega
  have r:t*V+W% V=W:=by rw[b,fv];exact z
  refine⟨W% V+bT^(n+1),by omega,.inl ⟨b,?_,fun i hi=>?_⟩⟩
  ·have e:=m (W% V+bT^(n+1)) (by omega);have f:gl V (W% V+bT^(n+1)) t (n+1)=0:=by
    rw[gl,gc k,Nat.add_mod_right,gc (gA o k),r,hd l]
   have a:ae bT (W% V+bT^(n+1)) n=0:=by
    rw[<-s];exact vk (by omega)
   rw[f,a]at e;omega
  ·exact vk (by omega)
 ·have b:t=W/V+1:=by omega
  have r:t*V+W% V=W+V:=by rw[b,g2,g0,fv];omega
  have G:V<=bT^(n+1)+W% V:=by omega
  refine⟨bT^(n+1)+W% V-V,by omega,.inr ⟨b,?_,?_⟩⟩
  ·have e:=m (bT^(n+1)+W% V-V) (by omega);have w:bT^(n+1)+W% V-V<bT^(n+1):=by omega
   have f:gl V (bT^(n+1)+W% V-V) t (n+1)=1:=by
    rw[gl,gc k,gc w];have:t*V+(bT^(n+1)+W% V-V)=W+bT^(n+1):=by omega
    rw[this,Nat.add_div_right _ B,hd l]
   have a:ae bT (bT^(n+1)+W% V-V) n=bT-1:=by
    have g:(bT^(n+1)+W% V-V)/bT^n=bT-1:=by
     refine hK ?_ ?_
     ·rw[hO,g0,fv bT,<-d];omega
     ·rw[show bT-1+1=bT by decide,fv bT,<-d];omega
    rw[ae,g];decide
   rw[f,a]at e;omega
  ·have x:bT^(n+1)+W% V-V+V=W% V+bT^(n+1):=by omega
   have p:∀i,i<=n->ae bT (bT^(n+1)+W% V-V+V) i=ae bT (W% V) i:=fun i hi=>by
    rw[x];exact vk (by omega)
   refine⟨?_,p⟩;have h:=(qt aW (bT^(n+1)+W% V-V) V n).1;have E:=lN aW (bT^(n+1)+W% V-V) V n;rw[p n (g5 _),s,q]at h;have a:ae bT (bT^(n+1)+W% V-V) n=bT-1:=by
    have g:(bT^(n+1)+W% V-V)/bT^n=bT-1:=by
     refine hK ?_ ?_
     ·rw[hO,g0,fv bT,<-d];omega
     ·rw[show bT-1+1=bT by decide,fv bT,<-d];omega
    rw[ae,g];decide
   rw[a]at h;generalize cZ bT (bT^(n+1)+W% V-V) V n=c at*;rcases gt 0 c with hc|hc
   ·omega
   ·have:c=0:=by omega
    subst this;simp only[bT]at h;omega
theorem X3{V R t i:Nat}:gl V R t i<=t:=by
 have a:0<bT^i:=gg (by decide);have b:=gm V a;have c:=gm R a;rw[gl];refine Nat.le_of_lt_succ ?_;rw[gb a];have d:=hj t (hE b);rw[Nat.succ_mul];omega
theorem aF7{t v a w r b':Nat}(h:r+(t*v+a)=w+b'*bT)(f:r<bT)(g:w<bT)(b:t<bT)(c:v<bT)(i:a<=t):
 ∃(p q m:Nat),dp.wrap ((t:Int)*v)=(t:Int)*v/\dp.wrap ((t:Int)*v+a)=p/\(p:Int).tmod 1000000000=m/\(p:Int).tdiv 1000000000=q/\q<bT/\m<bT/\
 (((w:Int)-m<0/\(w:Int)-m+1000000000=r/\b'=q+1)\/(¬(w:Int)-m<0/\(w:Int)-m=r/\b'=q)):=by
 have d:t*v<=999999999*999999999:=hB (by simp only[bT]at b;omega) (by simp only[bT]at c;omega);have j:=Xz h f g;have e:=gm (t*v+a) (show 0<bT by decide);have hq:(t*v+a)/bT<bT:=by
  rw[gb (by decide)];simp only[bT]at b⊢;omega
 refine⟨t*v+a,(t*v+a)/bT,(t*v+a)% bT,JB b c,?_,?_,?_,hq,e,?_⟩
 ·rw[<-ei,<-em];generalize t*v=P at*;simp only[bT]at b;exact aK _ (by omega) (by omega)
 ·rw[dz (dq _),ec];rfl
 ·rw[ea (dq _),ed];rfl
 ·generalize (t*v+a)/bT=q at*;generalize (t*v+a)% bT=m at*;clear h d;simp only[bT]at*;omega
def cM(n:Nat)(f:Nat->Int):List AV:=(ew n).map fun j=>.p (.int .i64 (f j))
theorem lO(n:Nat)(f:Nat->Int):(cM n f).length=n:=by simp[cM]
theorem QP(n:Nat)(f:Nat->Nat):dc n f=cM n (fun k=>(f k:Nat)):=rfl
theorem aFj{n j:Nat}(f:Nat->Int)(h:j<n):(cM n f)[j]?=some (.p (.int .i64 (f j))):=by
 rw[cM,List.getElem?_map,List.getElem?_range h];rfl
theorem vy{n i:Nat}{v:Int}(f g:Nat->Int)(c:g i=v)(h:∀j,j<n->j≠i->g j=f j):(cM n f).set i (.p (.int .i64 v))=cM n g:=by
 apply fd (by simp[cM]);intro j d b;rw[lO]at b;rw[List.getElem_set];simp only[cM,e7,e6]
 by_cases a:i=j
 ·subst a;rw[if_pos rfl,c]
 ·rw[if_neg a,h j b (fun e=>a e.symm)]
@[simp] theorem aKK{N:Nat×Nat->Prop}{n:Nat}{f:Nat->Int}:aR N (cM n f)=True:=by
 rw[cG,eq_iff_iff,iff_true];intro v a;simp only[cM,List.mem_map]at a;obtain⟨x,_,rfl⟩:=a;trivial
theorem LM{n:Nat}{f g:Nat->Int}(h:∀j,j<n->f j=g j):cM n f=cM n g:=by
 rw[cM,cM];apply List.map_congr_left;intro j a;rw[h j (List.mem_range.1 a)]
def fU(X R j i k:Nat):Int:=if j<=k/\k<j+i then(ae bT R (k-j):Nat)else(ae bT X k:Nat)
theorem win_zero{X R j k:Nat}:fU X R j 0 k=(ae bT X k:Nat):=by rw[fU,if_neg (by omega)]
theorem C9{X R j i:Nat}:fU X R j i (j+i)=(ae bT X (j+i):Nat):=by rw[fU,if_neg (by omega)]
theorem aHu{X R j i:Nat}:fU X R j (i+1) (j+i)=(ae bT R i:Nat):=by
 rw[fU,if_pos (by omega),hg]
theorem aHw{X R j i k:Nat}(h:k≠j+i):fU X R j (i+1) k=fU X R j i k:=by
 rw[fU,fU]
 by_cases a:j<=k/\k<j+i
 ·rw[if_pos a,if_pos (by omega)]
 ·rw[if_neg a,if_neg (by omega)]
def gI(X R S j n i k:Nat):Int:=if k=j+n then -1 else if j<=k/\k<j+i then(ae bT S (k-j):Nat)else fU X R j n k
theorem aHr{X R S j n i:Nat}(h:i<n):gI X R S j n i (j+i)=(ae bT R i:Nat):=by
 rw[gI,if_neg (by omega),if_neg (by omega),fU,if_pos (by omega),hg]
theorem aHs{X R S j n i:Nat}(h:i<n):gI X R S j n (i+1) (j+i)=(ae bT S i:Nat):=by
 rw[gI,if_neg (by omega),if_pos (by omega),hg]
theorem aHt{X R S j n i k:Nat}(h:k≠j+i):gI X R S j n (i+1) k=gI X R S j n i k:=by
 rw[gI,gI]
 by_cases a:k=j+n
 ·rw[if_pos a,if_pos a]
 ·rw[if_neg a,if_neg a]
  by_cases b:j<=k/\k<j+i
  ·rw[if_pos b,if_pos (by omega)]
  ·rw[if_neg b,if_neg (by omega)]
theorem Xc{X V j n N:Nat}(d:0<V)(c:V<bT^n)(e:X<V*bT^(j+1)){g:Nat->Int}(h:∀k,k<N->g k=if k=j+n then 0 else if j<=k/\k<j+n then(ae bT (X/bT^j% V) (k-j):Nat)else(ae bT X k:Nat)):
 cM N g=cM N fun k=>(ae bT (X% (V*bT^j)) k:Nat):=by
 refine LM fun k hk=>?_;rw[h k hk,(xO (B:=bT) (R:=X) (V:=V) (j:=j)).1,JF aW];have i:=gm (X/bT^j) d;have f:X<bT^(n+(j+1)):=by
  rw[g8];exact gA e (g9 c (gg (by decide)))
 by_cases a:k<j
 ·rw[if_pos a,if_neg (by omega),if_neg (by omega)]
 ·rw[if_neg a]
  by_cases m:k<j+n
  ·rw[if_neg (by omega),if_pos (by omega)]
  ·have l:ae bT (X/bT^j% V) (k-j)=0:=jn (ge (gA i c) (gj (by decide) (by omega)));rw[l]
   by_cases b:k=j+n
   ·rw[if_pos b]
   ·rw[if_neg b,if_neg (by omega)];have:ae bT X k=0:=jn (ge f (gj (by decide) (by omega)));rw[this]
theorem Dk{f:Nat}(a:0<f)(h:f<bT):eT f=.seq [.int .i64 f]:=by rw[eT,nA a h];rfl
theorem Wo{r:Nat}(h:r<bT):dZ [r]=aq bT r:=by
 have:=jo aW (m:=1) (n:=r) (by rw[hP];exact h);rw[<-this,row,List.range_one,fl,List.map_nil,ae,g7,hv,gc h]
@[simp] theorem aKB{σ:Nat->Nat}{n:Nat}{f:Nat->Int}:cQ σ (cM n f)=cM n f:=by
 have:∀l:List Nat,cQ σ (l.map fun j=>AV.p (.int .i64 (f j)))=l.map fun j=>AV.p (.int .i64 (f j)):=by
  intro l
  induction l with
  |nil=>rfl
  |cons a r b=>simp only[fl,cQ,b];rfl
 exact this _
@[simp] theorem aKI{n j:Nat}{f:Nat->Int}(h:j<(cM n f).length):(cM n f)[j]=.p (.int .i64 (f j)):=by
 simp only[cM,e7,e6]
@[simp] theorem aKF{n j:Nat}{f:Nat->Nat}(h:j<(dc n f).length):(dc n f)[j]=.p (.int .i64 (f j:Nat)):=by
 simp only[dc,e7,e6]
@[simp] theorem aKJ{n:Nat}{f:Nat->Int}:(cM (n+1) f=[])=False:=by
 rw[eq_iff_iff,iff_false];intro h;have:=congrArg List.length h;rw[lO]at this;simp at this
theorem Dz(a b:Nat)(K:0<b)(c6:(aq bT a).length<=400000)(b6:(aq bT b).length<=400000):aw prog 195 [eT a,eT b] (.aE [eT (a/b),eT (a% b)]):=by
 have bO:=IX a b (by omega) (by omega);refine aI nf FV mix (by simp[f195]) ?_;simp[f195];refine c2 bO ?_
 by_cases S:a<b
 ·have G:=pq.2 S;simp[G,hd S,gc S,eT,zB]
 have G:¬fG a b<0:=fun h=>S (pq.1 h);have a5:∀i(h:i<(aq bT b).length),(aq bT b)[i]=ae bT b i:=fun i h=>ek aW h;have C:=cj aW b
 by_cases b4:(aq bT b).length=1
 ·rw[b4,hP]at C;have L:=IW a b K C (by omega);have cb:=gm a K;have cg:=Wo (gA cb C);have ar:=tt [a% b] (by simp);rw[cg]at ar;have cY:=nA K C;rw[Dk K C];simp only[eT,iP]at L ar⊢;generalize aq bT (a/b)=cR at*;generalize aq bT (a% b)=cS at*;generalize aq bT a=x at*;generalize a% b=dj at*;simp[G];refine c2 L ?_;simp;refine cp ar (by simp;exact⟨rfl,rfl⟩) ?_;simp
 have c5:2<=(aq bT b).length:=by
  rcases gt (aq bT b).length 1 with h|h
  ·have e:(aq bT b).length=0:=by omega
   rw[e,g7]at C;omega
  ·omega
 obtain⟨k,hk⟩:∃k,(aq bT b).length=k+1:=⟨(aq bT b).length-1,by omega⟩
 obtain⟨n,aE⟩:∃n,n=k+1:=⟨_,rfl⟩
 rw[hk]at C;obtain⟨d,Z⟩:∃d,d=b/bT^k:=⟨_,rfl⟩
 have ay:bT^k<=b:=by
  rcases gt b (bT^k)with h|h
  ·have:=dK aW k b h;omega
  ·exact h
 have be:0<bT^k:=gg (by decide);have bP:0<d:=by rw[Z];exact hu ay be
 have bU:d<bT:=by rw[Z,gb be,fv,<-gi];exact C
 have a6:ae bT b k=d:=by rw[ae,<-Z,gc bU]
 obtain⟨f,hf⟩:∃f,f=bT/(d+1):=⟨_,rfl⟩
 obtain⟨f0,f1,f2,f3,f4⟩:=WE C Z bP hf;obtain⟨V,I⟩:∃V,V=b*f:=⟨_,rfl⟩
 rw[<-I]at f2 f3 f4;have aZ:(aq bT V).length=n:=by
  have H:=dK aW (k+1) V f2;have bF:=Jh aW f3;omega
 have ag:=Dy b f (by rw[nA f0 f1];simp;omega);have ah:=Dy a f (by rw[nA f0 f1];simp;omega);rw[Dk f0 f1,<-I]at ag;rw[Dk f0 f1]at ah;have bR:(aq bT b)[k]?=some d:=by rw[eq (by omega),a5 k (by omega),a6]
 have bS:∀h:k<(aq bT b).length,(aq bT b)[k]=d:=fun h=>by rw[a5 k h,a6]
 have c8:(aq bT b).length<=400000:=b6;have cX:bT=1000000000:=rfl;have cH:dp.wrap ((d:Int)+1)=(d:Int)+1:=aK _ (by omega) (by omega);have bW:(1000000000:Int).tdiv ((d:Int)+1)=(f:Nat):=by
  rw[ea (by decide),hf,ed];rfl
 have bQ:¬(d:Int)+1=0:=by omega
 have cI:dp.wrap (k:Int)=k:=aK _ (by omega) (by omega);have wf:dp.wrap (f:Int)=f:=aK _ (by omega) (by omega);have b5:¬(k:Int)+1=1:=by omega
 have b0:¬k=0:=by omega
 have bp:k<(aq bT b).length:=by omega
 have b1:=bS bp;simp only[eT]at ag ah⊢;generalize ct:aq bT (a/b)=cR at*;generalize cu:aq bT (a% b)=cS at*;generalize aH:aq bT a=x at*;generalize de:aq bT b=y at*;generalize aj:aq bT V=s at*;simp[G,hk,b5,b0,cI,bR,b1,bp,cH,bW,bQ,wf];refine cp ag (by simp;exact⟨rfl,rfl⟩) ?_;simp[aZ];refine cp ah (by simp;exact⟨rfl,rfl⟩) ?_;obtain⟨u,D⟩:∃u,aq bT (a*f)=u:=⟨_,rfl⟩
 obtain⟨c,M⟩:∃c,x.length=c:=⟨_,rfl⟩
 have bg:u.length<=c+1:=by
  rw[<-D,<-M,<-aH];refine dK aW _ _ ?_;rw[gi];exact ho (cj aW a) f1
 have cl:∀i(h:i<u.length),u[i]=ae bT (a*f) i:=fun i h=>by
  have:=ek aW (n:=a*f) (i:=i) (by rw[D];exact h);simp only[D]at this;exact this
 rw[D];have cW:b<=a*f:=ha (Nat.le_of_not_lt S) (hD _ f0);have bj:¬u=[]:=by
  intro h;rw[h]at D;have:=u5.1 D;omega
 have a2:a*f<bT^u.length:=by rw[<-D];exact cj aW _
 have ai:List.map (AV.p∘fun x:Nat=>PV.int dp x) u=cM u.length fun k=>(ae bT (a*f) k:Nat):=by
  apply fd (by simp[cM]);intro i G cV;simp only[e7,Function.comp,cM,e6];rw[cl i (by simpa using G)]
 have ci:u.length<=400001:=by omega
 obtain⟨A,bi⟩:∃A,u.length=A:=⟨_,rfl⟩
 rw[bi]at a2 ai bg ci;clear ag ah;have ck:¬(cM A fun k=>(ae bT (a*f) k:Nat))=[]:=by rw[<-ai];simpa using bj
 have ch:¬A=0:=by rw[<-bi];exact fun h=>bj (List.length_eq_zero_iff.1 h)
 simp[M,ai,ck,ch,lO];refine⟨⟨by rw[<-ai];exact QS u,by simp only[cO];omega⟩,?_⟩;have c7:c<=400000:=by omega
 have bz:dp.wrap ((c:Int)+1)=c+1:=aK _ (by omega) (by omega);refine rL (fun s'=>∃l o,aM s'.env 8=.sl 0 0 1 0 1/\aM s'.env 9=.p (.seq (s.map fun x:Nat=>.int .i64 x))/\aM s'.env 10=.p (.int .i64 n)/\aM s'.env 11=.sl 2 l 1 0 (c+1)/\s'.heap=[.arr .frozen 0 1 [.p (.int .i64 f)],o,.arr .grow l 1 (cM (c+1) fun k=>(ae bT (a*f) k:Nat))]) ?_ ?_
 ·refine lp (α:=Nat) (fun i=>⟨[(11,.sl 2 (i-A) 1 0 i),(10,.p (.int .i64 n)),(9,.p (.seq (s.map fun x:Nat=>.int .i64 x))),(8,.sl 0 0 1 0 1),(0,.p (.seq (x.map fun x:Nat=>.int .i64 x)))],[.arr .frozen 0 1 [.p (.int .i64 f)],.hole,.arr .grow (i-A) 1 (cM i fun k=>(ae bT (a*f) k:Nat))]⟩)
   (fun i=>A<=i/\i<=c+1) (fun i=>c+1-i) A ⟨g5 _,bg⟩ ?_ (he:=by simp) (hh:=by simp)
  rintro i ⟨k1,k2⟩
  by_cases hi:i<c+1
  ·have bX:(i:Int)<c+1:=by omega
   have cs:ae bT (a*f) i=0:=jn (ge a2 (gj (by decide) k1));have cd:cM (i+1) (fun k=>(ae bT (a*f) k:Nat))=cM i (fun k=>(ae bT (a*f) k:Nat))++[.p (.int .i64 0)]:=by
    rw[cM,List.range_succ,List.map_append];simp[cs,cM]
   have bf:i+1-A=i-A+1:=by omega
   have ce:fb i (cM i fun k=>(ae bT (a*f) k:Nat))=cM i fun k=>(ae bT (a*f) k:Nat):=ey (by rw[lO];exact g5 _);simp[M,bz,bX,lO,ce];refine⟨by simp only[cO];omega,?_⟩;exact rd (i+1) ⟨by omega,hi⟩ (he:=by simp[bf]) (hh:=by simp[bf,cd]) (hr2:=by simp)
  ·have ab:i=c+1:=by omega
   subst ab;simp[M,bz]
 rintro⟨bC,bV⟩ ⟨l,o,E,P,Q,F,T⟩;dsimp only at E P Q F T;subst T;have dd:n<=c:=by
  rw[aE];rcases gt c (k+1)with h|h
  ·have H:=cj aW a;rw[aH,M]at H;have bF:=ge H (gj (show 0<bT by decide) (show c<=k by omega));omega
  ·exact h
 obtain⟨m,da⟩:∃m,m=c-n:=⟨_,rfl⟩
 have cL:dp.wrap ((c:Int)+1-n)=(m:Int)+1:=by rw[aK _ (by omega) (by omega)];omega
 have cN:((m:Int)+1).toNat=m+1:=by omega
 have cP:dp.wrap (m:Int)=m:=aK _ (by omega) (by omega);have b9:(m:Int)+1<=cO:=by simp only[cO];omega
 simp[E,P,Q,F,cL,cN,cP];refine⟨⟨by omega,b9⟩,?_⟩;have av:0<V:=by rw[I];exact hQ K f0
 have W:V<bT^n:=by rw[aE];exact f2
 have a3:a<bT^c:=by rw[<-M,<-aH];exact cj aW a
 have bL:a*f% (V*bT^(m+1))=a*f:=by
  refine gc ?_;rw[I,hl];refine g9 ?_ f0;refine ge a3 ?_;rw[show c=k+(m+1)by omega,g8];exact fV _ ay
 obtain⟨X,J⟩:∃X:Nat->Nat,∀j,X j=a*f% (V*bT^j):=⟨_,fun _=>rfl⟩
 have Y:∀j,X j<V*bT^j:=fun j=>by rw[J];exact gm _ (hQ av (gg (by decide)))
 have bN:∀j,X (j+1)% (V*bT^j)=X j:=fun j=>by
  rw[J,J,hm];exact Nat.mul_dvd_mul_left _ (hw _ (by omega))
 have bM:∀j,X (j+1)/bT^j/V=ae bT (a/b) j:=fun j=>by
  rw[J,<-(xO (B:=bT) (R:=a*f% (V*bT^(j+1))) (V:=V) (j:=j)).2,gi,<-gx,Nat.mod_mul_right_div_self,<-g4,I,Nat.mul_div_mul_right _ _ f0,ae]
 have a8:=fun j(h:j<=m)=>ZC (X (j+1)/bT^j) V (c+1) j n .grow l (ae bT (X (j+1))) (by omega) (by rw[aj];exact aZ) (by rw[aE,hN];exact f4) (by rw[gb (gg (by decide)),gx,fv bT,<-gi];exact Y (j+1)) (by omega) (by omega) (fun i hi=>(qI (B:=bT) _ _ _).symm);simp only[eT,QP,aj]at a8;rw[show(e8 (m+1) (AV.p (PV.int dp 0)))=dc (m+1) (qT (a/b) (m+1))from Ml];rw[show(cM (c+1) fun k=>(ae bT (a*f) k:Nat))=cM (c+1) fun k=>(ae bT (X (m+1)) k:Nat)by rw[J,bL]];refine rL (fun s'=>∃br,aM s'.env 8=.sl 0 0 1 0 1/\aM s'.env 10=.p (.int .i64 n)/\aM s'.env 11=.sl 2 l 1 0 (c+1)/\aM s'.env 12=.sl 3 0 1 0 (m+1)/\s'.heap=[.arr .frozen 0 1 [.p (.int .i64 f)],br,.arr .grow l 1 (cM (c+1) fun k=>(ae bT (X 0) k:Nat)),.arr .exact 0 1 (dc (m+1) (ae bT (a/b)))]) ?_ ?_
 ·refine lp (α:=Nat) (fun j=>⟨[(13,.p (.int .i64 ((j:Int)-1))),(12,.sl 3 0 1 0 (m+1)),(11,.sl 2 l 1 0 (c+1)),(10,.p (.int .i64 n)),(9,.p (.seq (s.map fun x:Nat=>.int .i64 x))),(8,.sl 0 0 1 0 1)],[.arr .frozen 0 1 [.p (.int .i64 f)],.hole,.arr .grow l 1 (cM (c+1) fun k=>(ae bT (X j) k:Nat)),.arr .exact 0 1 (dc (m+1) (qT (a/b) j))]⟩)
   (fun j=>j<=m+1) (fun j=>j) (m+1) (g5 _) ?_ (he:=by simp[E,P,Q,F])
  intro j c0;rcases j with _|j
  ·simp[Mk]
  ·obtain⟨t,aQ,an,ao,bG⟩:=a8 j (by omega);have bZ:¬(j:Int)<0:=by omega
   have bK:X (j+1)/bT^j<bT^(n+1):=by
    rw[gb (gg (by decide)),<-g8];refine ge (Y (j+1)) ?_;rw[show n+1+j=n+(j+1)by omega,g8 bT n (j+1)];exact fV _ (hE W)
   obtain⟨R,bI,bJ⟩:=X4 av W bK aQ an;have gT:=fun i(hi:i<=n)=>KS (i:=i) bI hi;have ax:∀i,ae bT (X (j+1)/bT^j) i=ae bT (X (j+1)) (j+i):=fun i=>qI _ _ _;have dm:((n:Nat):Int).toNat=n:=by omega
   simp[-bh];rw[bh,bh];simp[-bh,bZ];rw[bh,KJ,bh];simp[-bh];refine cf bG [2] ?_;simp[-bh,sig,bm];rw[bh];simp[-bh];rw[bh,bh];simp[-bh];have aY:∀i(h:i<s.length),s[i]=ae bT V i:=fun i h=>by
    have:=ek aW (n:=V) (i:=i) (by rw[aj];exact h);simp only[aj]at this;exact this
   have aV:X (j+1)/bT^j/V=ae bT (a/b) j:=bM j;have c4:(j:Int)<=400000:=by omega
   have db:(n:Int)<=400001:=by omega
   have a7:∀g:Nat->Int,(∀k,k<c+1->g k=if k=j+n then 0 else if j<=k/\k<j+n then(ae bT (X (j+1)/bT^j% V) (k-j):Nat)else(ae bT (X (j+1)) k:Nat))->cM (c+1) g=cM (c+1) fun k=>(ae bT (X j) k:Nat):=fun g az=>by
    rw[Xc av W (Y (j+1)) az,bN]
   have co:cM (c+1) (fU (X (j+1)) R j 0)=cM (c+1) fun k=>(ae bT (X (j+1)) k:Nat):=LM fun k _=>win_zero;refine lp (α:=Nat) (fun i=>⟨[(16,.p (.int .i64 i)),(15,.p (.int .i64 (gl V R t i:Nat))),(14,.p (.int .i64 t)),(13,.p (.int .i64 j)),(12,.sl 3 0 1 0 (m+1)),(11,.sl 2 l 1 0 (c+1)),(10,.p (.int .i64 n)),(9,.p (.seq (s.map fun x:Nat=>.int .i64 x))),(8,.sl 0 0 1 0 1)],[.arr .frozen 0 1 [.p (.int .i64 f)],.hole,.arr .grow l 1 (cM (c+1) (fU (X (j+1)) R j i)),.arr .exact 0 1 (dc (m+1) (qT (a/b) (j+1)))]⟩)
    (fun i=>i<=n) (fun i=>n-i) 0 (hr _) ?_ (he:=by simp[XA]) (hh:=by simp[co])
   intro i hi;have bx:dp.wrap ((i:Int)+j)=(i:Int)+j:=aK _ (by omega) (by omega);have bv:((i:Int)+j).toNat=i+j:=by omega
   have bq:¬((i:Int)+j<0):=by omega
   have bw:dp.wrap ((i:Int)+1)=(i:Int)+1:=aK _ (by omega) (by omega)
   by_cases ak:i<n
   ·have ba:(i:Int)<n:=by omega
    have ac:i<s.length:=by omega
    have aG:=aY i ac;have aB:=gT i hi;rw[ax]at aB;have bs:=cm aW (X (j+1)) (j+i);have cw:=cm aW R i;have pv:=cm aW V i;obtain⟨p,q,al,s1,s2,bt,bu,dk,dl,cz⟩:=aF7 (by rw[<-Nat.add_assoc];exact aB) cw bs ao pv X3;have bo:fU (X (j+1)) R j i (i+j)=(ae bT (X (j+1)) (j+i):Nat):=by rw[g6 i j,C9]
    have a9:0<=(i:Int)+j:=by omega
    have get:(cM (c+1) (fU (X (j+1)) R j i))[i+j]?=some (.p (.int .i64 (ae bT (X (j+1)) (j+i):Nat))):=by
     rw[aFj _ (by omega),g6 i j,C9]
    have set:(cM (c+1) (fU (X (j+1)) R j i)).set (i+j) (.p (.int .i64 (ae bT R i:Nat)))=cM (c+1) (fU (X (j+1)) R j (i+1)):=by
     rw[g6 i j];exact vy _ _ aHu fun k _ hk=>aHw hk
    have ab:i+j<c+1:=by omega
    have bk:s[i]?=some (ae bT V i):=by rw[eq ac,aG]
    generalize ae bT (X (j+1)) (j+i)=w at*;generalize ae bT V i=v at*;generalize ae bT R i=r at*;generalize gl V R t i=cT at*;generalize a4:gl V R t (i+1)=cU at*;have cc:¬(r:Int)<0:=by omega
    have bB:dp.wrap ((w:Int)-al)=(w:Int)-al:=aK _ (by omega) (by omega);have bA:dp.wrap (q:Int)=q:=aK _ (by omega) (by omega);have aU:dp.wrap ((q:Int)+1)=(q:Int)+1:=aK _ (by omega) (by omega);rcases cz with⟨c1,c2,c3⟩|⟨c1,c2,c3⟩
    ·have wr:dp.wrap ((w:Int)-al+1000000000)=r:=by rw[c2];exact aK _ (by omega) (by omega)
     simp[ba,bx,bv,bq,ac,aG,bk,s1,s2,bt,bu,ab,get,bo,a9,lO,bB,c1,wr,aU,set,bw,aa,aL,bD];exact rd (i+1) (show i+1<=n by omega) (he:=by simp[a4,c3,bA,aU])
    ·have wr:dp.wrap ((w:Int)-al)=r:=by rw[bB,c2]
     simp[ba,bx,bv,bq,ac,aG,bk,s1,s2,bt,bu,ab,get,bo,a9,lO,c1,wr,cc,set,bw,aa,aL,bD];exact rd (i+1) (show i+1<=n by omega) (he:=by simp[a4,c3,bA,aU])
   ·have bY:i=n:=by omega
    subst bY;have aT:dp.wrap ((j:Int)+i)=(j:Int)+i:=aK _ (by omega) (by omega);have aR:((j:Int)+i).toNat=j+i:=by omega
    have aJ:0<=(j:Int)+i:=by omega
    have aA:j+i<c+1:=by omega
    have bn:fU (X (j+1)) R j i (j+i)=(ae bT (X (j+1)) (j+i):Nat):=C9;have bs:=cm aW (X (j+1)) (j+i);have aS:dp.wrap ((j:Int)-1)=(j:Int)-1:=aK _ (by omega) (by omega);rcases bJ with⟨aO,U,aP⟩|⟨aO,U,aP,cy⟩
    ·rw[ax]at U;rw[U];generalize ae bT (X (j+1)) (j+i)=w at*;have ap:dp.wrap 0=0:=rfl;have am:dp.wrap ((w:Int)-w)=0:=by rw[Int.sub_self];rfl
     have aF:t=ae bT (a/b) j:=by rw[aO,aV]
     have aN:(dc (m+1) (qT (a/b) (j+1))).set j (.p (.int .i64 t))=dc (m+1) (qT (a/b) j):=by rw[aF];exact Di
     have fs:(cM (c+1) (fU (X (j+1)) R j i)).set (j+i) (.p (.int .i64 0))=cM (c+1) fun k=>(ae bT (X j) k:Nat):=by
      rw[vy _ (fun k=>if k=j+i then 0 else fU (X (j+1)) R j i k) (if_pos rfl) (fun k _ hk=>if_neg hk)];refine a7 _ fun k _=>?_
      by_cases hk:k=j+i
      ·rw[if_pos hk,if_pos hk];rfl
      ·rw[if_neg hk,if_neg hk,fU]
       by_cases z:j<=k/\k<j+i
       ·rw[if_pos z,if_pos z,aP (k-j) (by omega)]
       ·rw[if_neg z,if_neg z]
     have ad:j<m+1:=by omega
     have ca:¬((ae bT (X j) (j+i):Nat):Int)<0:=by omega
     simp[aT,aR,aJ,aA,bn,lO,vo,am,ap,aS,ad,ca,fs,aN,aa,aL,bD];exact rd j (show j<=m+1 by omega)
    ·rw[ax]at U;rw[U];generalize ae bT (X (j+1)) (j+i)=w at*;have ap:dp.wrap 0=0:=rfl;have am:dp.wrap ((w:Int)-((w+1:Nat):Int))= -1:=by rw[show(w:Int)-((w+1:Nat):Int)= -1 by omega];rfl
     have cC:dp.wrap (-1)= -1:=rfl;have fs:(cM (c+1) (fU (X (j+1)) R j i)).set (j+i) (.p (.int .i64 (-1)))=cM (c+1) (gI (X (j+1)) R (R+V) j i 0):=by
      refine vy _ _ (by rw[gI,if_pos rfl]) fun k _ hk=>?_;rw[gI,if_neg hk,if_neg (by omega)]
     have aF:(t:Int)-1=ae bT (a/b) j:=by rw[aO,aV];omega
     have cQ:dp.wrap ((t:Int)-1)=ae bT (a/b) j:=by rw[aF];have:=cm aW (a/b) j;exact aK _ (by omega) (by omega)
     have ad:j<m+1:=by omega
     have cq:gI (X (j+1)) R (R+V) j i 0 (j+i)= -1:=by rw[gI,if_pos rfl]
     push_cast at am;simp[aT,aR,aJ,aA,bn,lO,vo,am,ap,cC,cQ,aS,ad,fs,cq,aa,aL,bD];refine lp (α:=Nat) (fun k=>⟨[(20,.p (.int .i64 k)),(19,.p (.int .i64 (cZ bT R V k:Nat))),(14,.p (.int .i64 (ae bT (a/b) j:Nat))),(13,.p (.int .i64 j)),(12,.sl 3 0 1 0 (m+1)),(11,.sl 2 l 1 0 (c+1)),(10,.p (.int .i64 i)),(9,.p (.seq (s.map fun x:Nat=>.int .i64 x))),(8,.sl 0 0 1 0 1)],[.arr .frozen 0 1 [.p (.int .i64 f)],.hole,.arr .grow l 1 (cM (c+1) (gI (X (j+1)) R (R+V) j i k)),.arr .exact 0 1 (dc (m+1) (qT (a/b) (j+1)))]⟩)
      (fun k=>k<=i) (fun k=>i-k) 0 (hr _) ?_ (he:=by simp[xH])
     intro k hk;have cK:dp.wrap ((k:Int)+j)=(k:Int)+j:=aK _ (by omega) (by omega);have cB:((k:Int)+j).toNat=k+j:=by omega
     have cv:0<=(k:Int)+j:=by omega
     have cJ:dp.wrap ((k:Int)+1)=(k:Int)+1:=aK _ (by omega) (by omega);obtain⟨q1,cx⟩:=qt aW R V k;have dg:=lN aW R V k;have q4:=lN aW R V (k+1);have dh:=cm aW R k;have di:=cm aW V k
     by_cases bb:k<i
     ·have wK:(k:Int)<i:=by omega
      have aC:k<s.length:=by omega
      have bl:=aY k aC;have cn:s[k]?=some (ae bT V k):=by rw[eq aC,bl]
      have b3:k+j<c+1:=by omega
      have az:gI (X (j+1)) R (R+V) j i k (k+j)=(ae bT R k:Nat):=by rw[g6 k j,aHr bb]
      have aB:(cM (c+1) (gI (X (j+1)) R (R+V) j i k)).set (k+j) (.p (.int .i64 (ae bT (R+V) k:Nat)))=cM (c+1) (gI (X (j+1)) R (R+V) j i (k+1)):=by
       rw[g6 k j];exact vy _ _ (aHs bb) fun x _ hx=>aHt hx
      have aQ:((ae bT R k:Nat):Int)+(ae bT V k:Nat)+(cZ bT R V k:Nat)=((ae bT R k+ae bT V k+cZ bT R V k:Nat):Int):=by omega
      have an:((ae bT R k+ae bT V k+cZ bT R V k:Nat):Int).tmod 1000000000=(ae bT (R+V) k:Nat):=by
       rw[<-q1,dz (dq _),ec];rfl
      have ao:((ae bT R k+ae bT V k+cZ bT R V k:Nat):Int).tdiv 1000000000=(cZ bT R V (k+1):Nat):=by
       rw[<-cx,ea (dq _),ed];rfl
      rw[<-aQ]at an ao;have cD:dp.wrap ((ae bT R k:Nat)+(ae bT V k:Nat))=(ae bT R k:Nat)+(ae bT V k:Nat):=aK _ (by omega) (by omega);have cE:dp.wrap ((ae bT R k:Nat)+(ae bT V k:Nat)+(cZ bT R V k:Nat))=(ae bT R k:Nat)+(ae bT V k:Nat)+(cZ bT R V k:Nat):=aK _ (by omega) (by omega);have cF:dp.wrap (ae bT (R+V) k:Nat)=(ae bT (R+V) k:Nat):=by have:=cm aW (R+V) k;exact aK _ (by omega) (by omega)
      have cG:dp.wrap (cZ bT R V (k+1):Nat)=(cZ bT R V (k+1):Nat):=aK _ (by omega) (by omega);simp[wK,aC,bl,cn,cK,cB,cv,b3,az,aB,lO,cD,cE,cF,cG,an,ao,cJ,aa,aL,bD];exact rd (k+1) (show k+1<=i by omega)
     ·have b2:k=i:=by omega
      subst b2;have cr:gI (X (j+1)) R (R+V) j k k (j+k)= -1:=by rw[gI,if_pos rfl]
      have cA:dp.wrap (-1+1)=0:=rfl;have aN:(dc (m+1) (qT (a/b) (j+1))).set j (.p (.int .i64 (ae bT (a/b) j:Nat)))=dc (m+1) (qT (a/b) j):=Di;have bE:(cM (c+1) (gI (X (j+1)) R (R+V) j k k)).set (j+k) (.p (.int .i64 0))=cM (c+1) fun k=>(ae bT (X j) k:Nat):=by
       rw[vy _ (fun x=>if x=j+k then 0 else gI (X (j+1)) R (R+V) j k k x) (if_pos rfl) (fun x _ hx=>if_neg hx)];refine a7 _ fun x _=>?_
       by_cases hk:x=j+k
       ·rw[if_pos hk,if_pos hk];rfl
       ·rw[if_neg hk,if_neg hk,gI,if_neg hk]
        by_cases z:j<=x/\x<j+k
        ·rw[if_pos z,if_pos z,cy (x-j) (by omega)]
        ·rw[if_neg z,if_neg z,fU,if_neg z]
      rw[aP];simp[aT,aR,aJ,aA,cr,lO,vo,cA,ap,aS,ad,bE,aN,aa,aL,bD];exact rd j (show j<=m+1 by omega)
 rintro⟨bC,bV⟩ ⟨br,E,P,Q,F,T⟩;dsimp only at E P Q F T;subst T;have a0:X 0=a% b*f:=by rw[J,g7,ht,I,Nat.mul_mod_mul_right]
 have bH:a/b<bT^(m+1):=by
  rw[gb K];refine ge a3 ?_;rw[show c=m+1+k by omega,g8];exact hj _ ay
 obtain⟨df,bc,b7,aX⟩:=MT (m:=m+1) (N:=a/b) bH (by omega);have a1:X 0<bT^n:=ge (by have:=Y 0;rwa [g7,ht]at this) (hE W);obtain⟨O,c9,af,b8,au⟩:∃O:List Nat,O=(ew (c+1)).map (ae bT (X 0))/\O.length=c+1/\dc (c+1) (ae bT (X 0))=O.map (AV.p∘fun x:Nat=>PV.int .i64 x)/\aw prog 260 [.seq (iP (O.take n))] (eT (X 0)):=by
  refine⟨_,rfl,by simp,BV _ _,?_⟩;have e:((ew (c+1)).map (ae bT (X 0))).take n=(ew n).map (ae bT (X 0)):=L7 (by omega) fun k hk=>rfl;rw[e];have H:=tt ((ew n).map (ae bT (X 0))) (by simp;omega);rw[show dZ ((ew n).map (ae bT (X 0)))=aq bT (X 0)from jo aW a1]at H;exact H
 have L:=IW (X 0) f f0 f1 (by
  have:=dK aW n (X 0) a1;omega)
 rw[a0,Nat.mul_div_cancel _ f0]at L;rw[a0]at au;rw[<-QP,b8,b7]at*;simp only[eT,ct,cu,iP]at aX au L⊢;have aD:¬O=[]:=by intro h;rw[h]at af;simp at af
 have bd:n<=c+1:=by omega
 simp[E,P,Q,F,af,aD,bd];refine ep au (by simp[af,bd,aD];first|exact⟨rfl,rfl⟩|rfl) (by simp[aD];first|exact⟨rfl,rfl⟩|rfl) ?_ (h1:=by simp[List.map_take]);simp[E,aa,aL,bD];refine e2 L ?_;simp[F];refine⟨by repeat' first|rfl|apply And.intro,?_⟩;refine cp aX (by simp[bc];first|exact⟨rfl,rfl⟩|rfl) ?_ (h1:=by simp[ey,bc]);simp
theorem U8(n:Nat):dZ (aq bT n)=aq bT n:=by
 have h:=CH aW (l:=aq bT n) (fun d a=>by
  obtain⟨i,hi,rfl⟩:=List.getElem_of_mem a;rw[ek aW hi];exact cm aW _ _)
 rw[<-h,Ks aW]
theorem qp(neg:Bool)(n:Nat)(h:(aq bT n).length<=1048576):aw prog 198 [.bool neg,eT n] (eG (if neg=true then -(n:Int)else n)):=B8 neg (aq bT n) n (U8 n) h
theorem KL(a b:Nat)(g:(aq bT a).length<=400000)(h:(aq bT b).length<=400000):aw prog 97 [eT a,eT b] (eT (hA a b)):=by
 refine aI nf Qj mix (by simp[f97]) ?_;simp[f97];refine lp (α:=Nat×Nat) (fun x=>⟨[(1,.p (eT x.2)),(0,.p (eT x.1))],[]⟩)
  (fun x=>(aq bT x.1).length<=400000/\(aq bT x.2).length<=400000/\hA x.1 x.2=hA a b) (fun x=>x.2) (a,b) ⟨g,h,rfl⟩ ?_
 rintro⟨x,y⟩ ⟨e,d,c⟩;dsimp only at e d c
 by_cases hy:y=0
 ·subst hy;rw[hM]at c;rw[<-c];simp[eT,zB]
 ·have i:0<(aq bT y).length:=by
   rw[e9,Ne,u5];exact hy
  have f:=Dz x y (by omega) e d;have j:=gm x (show 0<y by omega);simp[eT,i];refine c2 f ?_;simp;exact rd (y,x% y) ⟨d,by have:=dK aW _ _ (gA j (cj aW y));dsimp only;omega,by rw[<-c,hn y,<-hS,hn]⟩ (by dsimp only;omega) (he:=by simp[eT])
theorem Yk(a b:Nat)(h:a<9223372036854775808)(i:b<9223372036854775808):aw prog 180 [.int .i64 a,.int .i64 b] (.int .i64 (hA a b:Nat)):=by
 refine aI nf F7 mix (by simp[f180]) ?_;simp[f180];refine lp (α:=Nat×Nat) (fun x=>⟨[(1,.p (.int .i64 x.2)),(0,.p (.int .i64 x.1))],[]⟩)
  (fun x=>x.1<9223372036854775808/\x.2<9223372036854775808/\hA x.1 x.2=hA a b) (fun x=>x.2) (a,b) ⟨h,i,rfl⟩ ?_
 rintro⟨x,y⟩ ⟨g,d,c⟩;dsimp only at g d c
 by_cases f:y=0
 ·subst f;rw[hM]at c;rw[<-c];simp
 ·have m:(0:Int)<y:=by omega
  have e:0<y:=by omega
  have o:¬(y:Int)=0:=by omega
  have n:=gm x e;have k:(x:Int).tmod y=(x% y:Nat):=by rw[dz (dq _),ec]
  have l:dp.wrap ((x% y:Nat):Int)=(x% y:Nat):=aK _ (by omega) (by omega);generalize j:x% y=r at*;simp[e,f,k,l];exact rd (y,r) ⟨d,by dsimp only;omega,by rw[<-c,<-j,hn y,<-hS,hn]⟩ (by dsimp only;omega)
theorem XY{B a b x y K:Nat}(c:2<=B)(d:a<B^x)(e:b<B^y)(f:B^x<=B^K)(g:B^y<=B^K):a+b<B^(K+1):=by
 rw[gi];have:=hj (B^K) c;omega
theorem XX{a b K:Nat}(g:(aq bT a).length<=K)(h:(aq bT b).length<=K):(aq bT (a+b)).length<=K+1:=by
 have c:=cj aW a;have d:=cj aW b;have e:=gj (show 0<bT by decide) g;have f:=gj (show 0<bT by decide) h;exact dK aW (K+1) (a+b) (XY aW c d e f)
theorem Yt(a b:Int)(l:(aq bT a.natAbs).length<=400000)(o:(aq bT b.natAbs).length<=400000):aw prog 100 [eG a,eG b] (eG (a+b)):=by
 have m:=Ye a.natAbs b.natAbs (by omega) (by omega);have k:=IX a.natAbs b.natAbs (by omega) (by omega);have q:(aq bT (a.natAbs+b.natAbs)).length<=1048576:=by
  have r:=XX l o;omega
 refine aI nf FP mix (by simp[f100]) ?_
 by_cases hs:(a<0↔b<0)
 ·have t:(decide (a<0)==decide (b<0))=true:=by simp[hs]
  have d:=qp (decide (a<0)) (a.natAbs+b.natAbs) q;have f:(if decide (a<0)=true then -((a.natAbs+b.natAbs:Nat):Int)else((a.natAbs+b.natAbs:Nat):Int))=a+b:=by
   by_cases h:a<0
   ·have:=hs.1 h;simp[h];omega
   ·have:¬b<0:=fun c=>h (hs.2 c);simp[h];omega
  rw[f]at d;generalize a+b=s at*;generalize a.natAbs+b.natAbs=n at*;have g:(a<0↔b<0)=True:=eq_true hs;simp only[eG]at d⊢;simp[f100,g,aa];refine e2 m ?_;simp[aa];refine e2 d ?_;simp[aa]
 ·have g:(a<0↔b<0)=False:=eq_false hs
  by_cases p:b.natAbs<=a.natAbs
  ·have i:0<=fG a.natAbs b.natAbs:=by
    have:=pq (a:=a.natAbs) (b:=b.natAbs);omega
   have j:=MU a.natAbs b.natAbs p (by omega);have d:=qp (decide (a<0)) (a.natAbs-b.natAbs) (by
    have:=dK aW _ _ (g3 (hL a.natAbs b.natAbs) (cj aW a.natAbs));omega)
   have f:(if decide (a<0)=true then -((a.natAbs-b.natAbs:Nat):Int)else((a.natAbs-b.natAbs:Nat):Int))=a+b:=by
    by_cases h:a<0
    ·have:¬b<0:=fun c=>hs ⟨fun _=>c,fun _=>h⟩;simp[h];omega
    ·have:b<0:=by
      rcases en b 0 with c|c
      ·exact c
      ·exact(hs ⟨fun e=>(h e).elim,fun e=>by omega⟩).elim
     simp[h];omega
   rw[f]at d;generalize a+b=s at*;generalize a.natAbs-b.natAbs=n at*;simp only[eG]at d⊢;simp[f100,g,aa];refine c2 k ?_;simp[i,aa];refine e2 j ?_;simp[aa];refine e2 d ?_;simp[aa]
  ·have i:¬0<=fG a.natAbs b.natAbs:=by
    have:=pq (a:=a.natAbs) (b:=b.natAbs);omega
   have j:=MU b.natAbs a.natAbs (by omega) (by omega);have d:=qp (decide (b<0)) (b.natAbs-a.natAbs) (by
    have:=dK aW _ _ (g3 (hL b.natAbs a.natAbs) (cj aW b.natAbs));omega)
   have f:(if decide (b<0)=true then -((b.natAbs-a.natAbs:Nat):Int)else((b.natAbs-a.natAbs:Nat):Int))=a+b:=by
    by_cases h:b<0
    ·have:¬a<0:=fun c=>hs ⟨fun _=>h,fun _=>c⟩;simp[h];omega
    ·have:a<0:=by
      rcases en a 0 with c|c
      ·exact c
      ·exact(hs ⟨fun e=>by omega,fun e=>(h e).elim⟩).elim
     simp[h];omega
   rw[f]at d;generalize a+b=s at*;generalize b.natAbs-a.natAbs=n at*;simp only[eG]at d⊢;simp[f100,g,aa];refine c2 k ?_;simp[i,aa];refine e2 j ?_;simp[aa];refine e2 d ?_;simp[aa]
theorem MV(a:Int)(d:(aq bT a.natAbs).length<=400000):aw prog 197 [eG a] (eG (-a)):=by
 have b:=qp (!decide (a<0)) a.natAbs (by omega);have c:(if(!decide (a<0))=true then -((a.natAbs:Nat):Int)else(a.natAbs:Nat))= -a:=by
  by_cases h:a<0
  ·simp[h];omega
  ·simp[h];omega
 rw[c]at b;refine aI nf Oq mix (by simp[f197]) ?_;generalize -a=s at*;simp only[eG]at b⊢;simp[f197,aa];refine c2 b ?_;simp[aa]
theorem vz(a b:Int)(g:(aq bT a.natAbs).length+(aq bT b.natAbs).length<=1000000):aw prog 101 [eG a,eG b] (eG (a*b)):=by
 have f:=Dy a.natAbs b.natAbs g;have j:(aq bT (a.natAbs*b.natAbs)).length<=1000000:=by
  have c:=cj aW a.natAbs;have d:=cj aW b.natAbs;have i:=dK aW ((aq bT a.natAbs).length+(aq bT b.natAbs).length) (a.natAbs*b.natAbs) (by rw[g8];exact ho c d);omega
 have e:=qp ((!(decide (a<0)==decide (b<0)))) (a.natAbs*b.natAbs) (by omega);have h:(if(!(decide (a<0)==decide (b<0)))=true then -((a.natAbs*b.natAbs:Nat):Int)else((a.natAbs*b.natAbs:Nat):Int))=a*b:=by
  by_cases c:a<0<;>by_cases d:b<0
  ·simp[c,d];rw[eb (ej c),eb (ej d),Int.neg_mul_neg]
  ·simp[c,d];rw[eb (ej c),ee (by omega),Int.neg_mul,eo]
  ·simp[c,d];rw[eb (ej d),ee (by omega),Int.mul_neg,eo]
  ·simp[c,d];rw[ee (by omega),ee (by omega)]
 rw[h]at e;refine aI nf FO mix (by simp[f101]) ?_;generalize a*b=s at*;generalize a.natAbs*b.natAbs=n at*;generalize hx:(!(decide (a<0)==decide (b<0)))=x at*;simp only[eG]at e⊢;simp[f101,aa];refine e2 f ?_;simp[hx,aa];refine e2 e ?_;simp[aa]
theorem VQ:∀d:Nat,d<10->fm d (fb (d+1) [48,49,50,51,52,53,54,55,56,57])=[48+d]:=by decide
theorem xQ(n a:Nat)(E:n<9223372036854775808)(J:a<=1000):aw prog 181 [.int .i64 n,.int .i64 a] (.str (low (max a (nd n)) n)):=by
 have M:nd n<=19:=rA (gA E (by decide));refine aI nf F6 mix (by simp[f181]) ?_;obtain⟨L,e⟩:∃L,L=max a (nd n):=⟨_,rfl⟩
 rw[<-e];obtain⟨g,b⟩:∃g:Nat->Nat,∀i,n/10^i=g i:=⟨_,fun _=>rfl⟩
 have B:g 0=n:=by rw[<-b,g7,hv]
 simp[f181];refine lp (α:=Nat) (fun i=>⟨[(0,.p (.int .i64 (g i:Nat))),(5,.p (.str (low i n))),(1,.p (.int .i64 a))],[]⟩)
  (fun i=>i<=L) (fun i=>L-i) 0 (hr _) ?_ (he:=by simp[low,B])
 intro i hi;have q:low (i+1) n=(48+g i% 10)::low i n:=by
  rw[g6,qN,b,sP];rfl
 have hq:g (i+1)=g i/10:=by rw[<-b,<-b,gi,g4]
 have N:g i<=n:=by rw[<-b];exact hz _ _
 have F:0<g i↔i<nd n:=by
  rw[<-b,mR,Nat.div_pos_iff];have:=gg (n:=i) (show 0<10 by decide);omega
 have l:=qM n i;have j:=VQ (g i% 10) (gm _ (by decide));have f:i<L↔0<g i\/i<a:=by rw[F,e];omega
 have G:=gm (g i) (show 0<10 by decide);have r:(g i:Int).tmod 10=(g i% 10:Nat):=by rw[dz (dq _),ec];rfl
 have t:(g i:Int).tdiv 10=(g (i+1):Nat):=by rw[hq,ea (dq _),ed (g i)];rfl
 have H:L<=1000:=by rw[e];omega
 generalize g i% 10=d at*;have m:fm d (48::fb d [49,50,51,52,53,54,55,56,57])=[48+d]:=j;generalize O:g i=z at*;generalize y:g (i+1)=A at*;generalize hs:low i n=s at*;have x:dp.wrap (A:Int)=A:=aK _ (by omega) (by omega);have v:dp.wrap (d:Int)=d:=aK _ (by omega) (by omega);have w:dp.wrap ((d:Int)+1)=d+1:=aK _ (by omega) (by omega);have u:((d:Int)+1).toNat=d+1:=by omega
 have K:min (d+1) 10-d+i<9223372036854775808:=by omega
 have I:(0:Int)<=d+1/\(d:Int)+1<=10/\(d:Int)<=max (d+1) 0:=by omega
 by_cases k:i<L
 ·by_cases c:0<z
  ·simp[c,r,t,x,v,w,u,j,l];refine⟨by omega,by omega,?_⟩;exact rd (i+1) (show i+1<=L by omega) (he:=by simp[y,q,m])
  ·have o:i<a:=by rcases f.1 k with h|h;exact(c h).elim;exact h
   simp[c,o,r,t,x,v,w,u,j,l];refine⟨by omega,by omega,?_⟩;exact rd (i+1) (show i+1<=L by omega) (he:=by simp[y,q,m])
 ·have c:¬0<z:=fun h=>k (f.2 (.inl h));have o:¬i<a:=fun h=>k (f.2 (.inr h));have C:s=low L n:=by rw[<-hs];congr 1;omega
  have D:¬L<a:=by omega
  simp[c,D,l,C,qM]
theorem Wl{n i:Nat}(h:bT^(i+1)<=n):aV (n/bT^i)=aV (n/bT^(i+1))++low 9 (ae bT n i):=by
 have c:0<bT^i:=gg (by decide);have b:10^9<=n/bT^i:=by
  rw[hF c,fv];rw[gi]at h;exact h
 have a:=WU b;have e1:n/bT^i/10^9=n/bT^(i+1):=by rw[g4,gi];rfl
 have e2:n/bT^i% 10^9=ae bT n i:=rfl;rw[e1,e2]at a;have d:0<n/bT^i:=ge (by decide) b;have e:0<n/bT^(i+1):=hu h (gg (by decide));rw[aV,aV,show max 1 (nd (n/bT^i))=nd (n/bT^i)by have:=vX d;omega,show max 1 (nd (n/bT^(i+1)))=nd (n/bT^(i+1))by have:=vX e;omega,a]
theorem CT(z:Int)(B:(aq bT z.natAbs).length<=1000000):aw prog 112 [eG z] (.str (bI z)):=by
 refine aI nf Ge mix (by simp[f112]) ?_
 by_cases G:z=0
 ·subst G;have v:bI 0=[48]:=by rw[show(0:Int)=((0:Nat):Int)from rfl,uS,mC]
  simp[f112,eG,eT,zB,aa,v]
 obtain⟨n,f⟩:∃n,z.natAbs=n:=⟨_,rfl⟩
 have N:0<n:=by omega
 have M:0<(aq bT n).length:=by
  rw[e9,Ne,u5];omega
 obtain⟨k,hk⟩:∃k,(aq bT n).length=k+1:=⟨(aq bT n).length-1,by omega⟩
 have g:=cj aW n;rw[hk]at g;have q:bT^k<=n:=by
  rcases gt n (bT^k)with h|h
  ·have:=dK aW k n h;omega
  ·exact h
 have m:∀i(h:i<(aq bT n).length),(aq bT n)[i]=ae bT n i:=fun i h=>ek aW h;have r:n/bT^k=ae bT n k:=by
  rw[ae,gc];rw[gb (gg (by decide)),fv,<-gi];exact g
 have P:0<ae bT n k:=by rw[<-r];exact hu q (gg (by decide))
 have c:=xQ (ae bT n k) 1 (gA (cm aW n k) (by decide)) (by decide);rw[show low (max 1 (nd (ae bT n k))) (ae bT n k)=aV (n/bT^k)by rw[r];rfl]at c;have w:∀i,aw prog 181 [.int .i64 (ae bT n i:Nat),.int .i64 (9:Nat)] (.str (low 9 (ae bT n i))):=fun i=>by
  have h:=xQ (ae bT n i) 9 (gA (cm aW n i) (by decide)) (by decide);have K:nd (ae bT n i)<=9:=rA (cm aW n i)
  rwa [show max 9 (nd (ae bT n i))=9 by omega]at h
 have a:aV (n/bT^0)=aV n:=by rw[g7,hv]
 have gT:∀i,i+1<=k->aV (n/bT^i)=aV (n/bT^(i+1))++low 9 (ae bT n i):=fun i hi=>Wl (ha (gj (by decide) hi) q);have L:k<=1000000:=by rw[f]at B;omega
 have D:bI z=if z<0 then 45::aV n else aV n:=by rw[bI,f]
 have O:ae bT n k<bT:=cm aW n k;have C:∀i,ae bT n i<bT:=fun i=>cm aW n i;obtain⟨T,j⟩:∃T:Nat->List Nat,∀i,aV (n/bT^i)=T i:=⟨_,fun _=>rfl⟩
 have l:∀i,(T i).length<=9000000+9:=fun i=>by
  rw[<-j];refine ha (uR (k:=9*(k+1)) ?_ (by omega)) (by omega);rw[Nat.pow_mul];exact g3 (hz _ _) g
 simp only[j]at c a gT;rw[D];simp only[eG,f,eT,<-a];generalize hx:aq bT n=x at*;have H:dp.wrap ((k:Int)+1-1)=k:=by rw[Int.add_sub_cancel];exact aK _ (by omega) (by omega)
 have I:dp.wrap (k:Int)=k:=aK _ (by omega) (by omega);have u:dp.wrap ((k:Int)+1-2)=(k:Int)-1:=by rw[aK _ (by omega) (by omega)];omega
 have A:¬(k:Int)+1=0:=by omega
 have e:k<x.length:=by omega
 have t:=m k e;have F:x[k]?=some (ae bT n k):=by rw[eq e,t]
 simp[f112,aa,hk,A,H,I,u,e,t,F];refine c2 c ?_;simp[aa,hk,u];refine lp (α:=Nat) (fun i=>⟨[(4,.p (.int .i64 ((i:Int)-1))),(3,.p (.str (T i))),(1,.ptr 0 [])],[.box false (.p (.st 169 [.bool (decide (z<0)),.seq (x.map fun x:Nat=>.int .i64 x)]))]⟩)
  (fun i=>i<=k) (fun i=>i) k (g5 _) ?_
 rintro i hi;have Q:=C i;rcases i with _|i
 ·by_cases o:z<0
  ·have b:=g3 (hG (l 0) 1) (show 9000000+9+1<9223372036854775808 by decide);rw[a,g6]at b;simp[o,aa,a,b]
  ·simp[o,aa,a]
 ·have d:i<x.length:=by omega
  have s:=m i d;have E:x[i]?=some (ae bT n i):=by rw[eq d,s]
  have y:¬(i:Int)<0:=by omega
  have J:dp.wrap ((i:Int)-1)=(i:Int)-1:=aK _ (by omega) (by omega);have b:=g3 (hG (l (i+1)) 9) (show 9000000+9+9<9223372036854775808 by decide);have aB:=gT i hi;simp[y,aa,d,s,E];refine c2 (w i) ?_;simp[J,qM];refine⟨b,?_⟩;exact rd i (show i<=k by omega) (he:=by simp[aB])
end Go.aj
