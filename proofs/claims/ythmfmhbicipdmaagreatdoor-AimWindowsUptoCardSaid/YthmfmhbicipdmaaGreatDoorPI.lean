import Derived.Test.YthmfmhbicipdmaaGreatDoorPH
import Derived.Test.YthmfmhbicipdmaaGreatDoorPG
/- Parts of a proof. -/
set_option linter.unusedSimpArgs false
set_option linter.unusedVariables false
set_option linter.unusedSectionVars false
open Go.Proofs.Tryz
open Go.IntKind renaming i64->dp
open Int renaming natCast_nonneg->dq, tmod_eq_emod_of_nonneg->dz, tdiv_eq_ediv_of_nonneg->ea, ofNat_natAbs_of_nonpos->eb, natCast_emod->ec, natCast_ediv->ed, natAbs_of_nonneg->ee, natCast_mul->ei, le_of_lt->ej, natCast_add->em, lt_or_le->en, neg_neg->eo
open List renaming getElem?_eq_getElem->eq, range->ew, take_of_length_le->e6, getElem_range->e7, getElem_map->e8, replicate->e9, length_pos_iff->fb, take->fd, ext_getElem->fl, map_cons->fm, drop->fv
open Nat renaming mul_comm->fw, mul_le_mul_right->gb, div_lt_iff_lt_mul->gc, mod_eq_of_lt->ge, lt_of_lt_of_le->gg, pow_pos->gi, pow_succ->gj, pow_le_pow_right->gm, mod_lt->gt, lt_or_ge->gw, mul_assoc->gx, div_add_mod->gy, lt_trans->gE, one_mul->g0, mul_add->g4, add_mul->g5, lt_of_le_of_lt->g6, div_div_eq_div_mul->g7, le_refl->g8, add_comm->g9, pow_zero->ha, pow_add->hb, mul_lt_mul_of_pos_right->hd, le_trans->hg, add_mul_mod_self_left->hj, div_eq_of_lt->hl, add_sub_cancel_left->hm, mul_le_mul_left->hn, mul_right_comm->ho, mod_mod_of_dvd->hp, gcd_comm->hr, mul_lt_mul''->ht, lt_of_not_le->hu, zero_le->hv, mul_one->hw, div_pos->hz, div_one->hA, pow_dvd_pow->hB, div_le_self->hC, gcd->hD, mul_le_mul->hE, add_mul_mod_self_right->hF, le_mul_of_pos_right->hG, le_of_lt->hH, le_div_iff_mul_le->hJ, add_le_add_right->hK, div_mul_le_self->hL, div_eq_of_lt_le->hM, sub_le->hN, gcd_zero_right->hO, add_sub_cancel->hP, sub_mul->hQ, pow_one->hR, mul_pos->hS, mod_one->hT, gcd_rec->hU
open Option.some renaming inj->hV
namespace Go.ah
open Go.Proofs
set_option maxHeartbeats 4000000
set_option maxRecDepth 100000
theorem CQ(n:Nat)(f:Nat->Nat):dt n f=((ew n).map f).map (AV.p∘fun x:Nat=>PV.int .i64 x):=by
 rw[dt,List.map_map];rfl
theorem W0{n:Nat}{f:Nat->Nat}(h:∀j,f j=0):e9 n (AV.p (.int .i64 0))=dt n f:=by
 rw[L8];exact zn fun j _=>(h j).symm
theorem Ei(a b:Nat)(w:(aB bT a).length+(aB bT b).length<=1000000):ar prog 258 [eT a,eT b] (eT (a*b)):=by
 refine aI nf Pq mix (by simp[f258]) ?_;have Q:∀i(h:i<(aB bT a).length),(aB bT a)[i]=ae bT a i:=fun i h=>eD bd h;have R:∀i(h:i<(aB bT b).length),(aB bT b)[i]=ae bT b i:=fun i h=>eD bd h;have t:=cm bd a;have e:=cm bd b;have V:ey ((ew ((aB bT a).length+(aB bT b).length)).map (ae bT (a*b)))=aB bT (a*b):=jH bd (by
  rw[hb];exact ht t e)
 have c:=tZ ((ew ((aB bT a).length+(aB bT b).length)).map (ae bT (a*b))) (by simp;omega);rw[V]at c;have A:bT=1000000000:=rfl;simp only[eT];simp only[iP]at c;generalize aB bT (a*b)=z at*;generalize aB bT a=x at*;generalize aB bT b=y at*;obtain⟨n,d⟩:∃n,x.length=n:=⟨_,rfl⟩
 obtain⟨m,g⟩:∃m,y.length=m:=⟨_,rfl⟩
 rw[d]at t c w;rw[g]at e c w;have B:=CQ (n+m) (ae bT (a*b));have u:((ew (n+m)).map (ae bT (a*b))).length=n+m:=by simp
 generalize (ew (n+m)).map (ae bT (a*b))=l at c B u;have U:((n:Int)+m).toNat=n+m:=by omega
 have T:0<=(n:Int)+m:=by omega
 have Z:dp.wrap ((n:Int)+m)=(n:Int)+m:=aQ _ (by omega) (by omega);simp[f258,d,g,Z,U,T];refine⟨by simp only[cN];omega,?_⟩;rw[W0 (f:=dm bT a b 0 0) (by intro j;simp[pG,hT,ae])];refine lp (α:=Nat) (fun i=>⟨[(6,.p (.int .i64 i)),(5,.sl 0 0 1 0 (n+m)),(1,.p (.seq (y.map fun x:Nat=>.int .i64 x))),(0,.p (.seq (x.map fun x:Nat=>.int .i64 x)))],[.arr .exact 0 1 (dt (n+m) (dm bT a b i 0))]⟩)
  (fun i=>i<=n) (fun i=>n-i) 0 (by simp) ?_ (he:=by simp)
 intro i k1;have W:=bR (i:=i) (by omega)
 by_cases hi:i<n
 ·have r:i<x.length:=by rw[d];exact hi
  have hx:=Q i r;have ac:x[i]?=some (ae bT a i):=by rw[eq r,hx]
  simp[d,hi];refine lp (α:=Nat) (fun j=>⟨[(8,.p (.int .i64 j)),(7,.p (.int .i64 (mulC bT a b i j:Nat))),(6,.p (.int .i64 i)),(5,.sl 0 0 1 0 (n+m)),(1,.p (.seq (y.map fun x:Nat=>.int .i64 x))),(0,.p (.seq (x.map fun x:Nat=>.int .i64 x)))],[.arr .exact 0 1 (dt (n+m) (dm bT a b i j))]⟩)
   (fun j=>j<=m) (fun j=>m-j) 0 (by simp) ?_ (he:=by simp[Cq])
  intro j k2;have Y:=bR (i:=j) (by omega);have H:((i:Int)+j).toNat=i+j:=by omega
  have G:0<=(i:Int)+j:=by omega
  have X:dp.wrap ((i:Int)+j)=(i:Int)+j:=aQ _ (by omega) (by omega)
  by_cases F:j<m
  ·have s:j<y.length:=by rw[g];exact F
   have I:=R j s;have ad:y[j]?=some (ae bT b j):=by rw[eq s,I]
   have E:i+j<n+m:=by omega
   have q:=tP (dm bT a b i j) E;have o:=C7 bd a b i j;have aj:=tU bd a b i j;have v:=tU bd a b i (j+1);have ak:dm bT a b i j (i+j)<bT:=by rw[dm];split<;>exact ct bd _ _
   have an:=ct bd a i;have ao:=ct bd b j;have hs:=Dk (n:=n+m) (i:=i+j) (dm bT a b i j) (dm bT a b i (j+1)) (fun k _ hk=>KY bd hk);rw[MI]at hs;rw[<-o.1]at hs;have am:ae bT a i*ae bT b j<=999999999*999999999:=hE (by omega) (by omega);rw[<-o.2]at v;have M:=o.2;clear o;have N:((ae bT a i:Int)*(ae bT b j:Int))=((ae bT a i*ae bT b j:Nat):Int):=by push_cast;rfl
   generalize ae bT a i*ae bT b j=P at*;generalize dm bT a b i j (i+j)=O at*;generalize al:mulC bT a b i j=C at*;have w1:dp.wrap ((ae bT a i:Int)*(ae bT b j:Int))=P:=by rw[N];exact aQ _ (by omega) (by omega)
   have ag:dp.wrap ((O:Int)+P)=O+P:=aQ _ (by omega) (by omega);have ah:dp.wrap ((O:Int)+P+C)=O+P+C:=aQ _ (by omega) (by omega);have J:((O:Int)+P+C).tmod 1000000000=((P+O+C)% bT:Nat):=by
    rw[dz (by omega),A];omega
   generalize (P+O+C)% bT=D at*;have K:((O:Int)+P+C).tdiv 1000000000=(mulC bT a b i (j+1):Nat):=by
    rw[ea (by omega),<-M,A];omega
   have L:dp.wrap ((mulC bT a b i (j+1):Nat):Int)=(mulC bT a b i (j+1):Nat):=aQ _ (by omega) (by omega);simp[d,g,F,X,H,G,E,q,hx,ac,I,ad,r,s,w1,ag,ah,J,K,L,hs,aa];exact rd (j+1) (show j+1<=m by omega) (he:=by simp[Y])
  have:j=m:=by omega
  subst this;have ab:dp.wrap ((i:Int)+j)=(i:Int)+j:=aQ _ (by omega) (by omega);have aq:i+j<n+j:=by omega
  have af:dm bT a b i j (i+j)=0:=by
   rw[dm,if_neg (by omega)];exact jG (vU bd a i e)
  have q:=tP (dm bT a b i j) aq;rw[af]at q;have hs:=Dk (n:=n+j) (i:=i+j) (dm bT a b i j) (dm bT a b (i+1) 0) (fun k _ hk=>by rw[pG,MJ bd e hk]);rw[pG,<-JF bd e]at hs;have v:=tU bd a b i j;have ai:dp.wrap ((mulC bT a b i j:Nat):Int)=(mulC bT a b i j:Nat):=aQ _ (by omega) (by omega);simp[g,ab,H,G,hi,aq,q,hs,ai,aa];exact rd (i+1) (show i+1<=n by omega) (he:=by simp[W])
 have:i=n:=by omega
 subst this;have S:dt (i+m) (dm bT a b i 0)=dt (i+m) (ae bT (a*b)):=zn fun k _=>by rw[pG,ge t]
 simp[d,S,B];refine cp c (by simp[u];exact⟨rfl,rfl⟩) ?_ (h1:=by simp[e6,u]);simp
theorem XB{a b i:Nat}(c:0<b):(a/bT^(i+1)% b*bT+ae bT a i)/b=ae bT (a/b) i/\(a/bT^(i+1)% b*bT+ae bT a i)% b=a/bT^i% b:=by
 have e:=tg (B:=bT) a i;have g:=gy (a/bT^(i+1)) b;have f:a/bT^i=(a/bT^(i+1)% b*bT+ae bT a i)+a/bT^(i+1)/b*bT*b:=by
  rw[e];generalize ae bT a i=d;generalize a/bT^(i+1)/b=Q at*;generalize a/bT^(i+1)% b=R at*;rw[<-g,g5,fw b,ho Q b bT];omega
 have j:(a/bT^(i+1)% b*bT+ae bT a i)/b<bT:=by
  rw[gc c];have k:=ct bd a i;have h:=gb bT (show a/bT^(i+1)% b+1<=b from gt _ c);rw[g5,g0]at h;rw[fw bT];omega
 constructor
 ·conv=>rhs;rw[ae,g7,fw b,<-g7,f,Nat.add_mul_div_right _ _ c,hF,ge j]
 ·rw[f,hF]
theorem Aw(r x:Nat):(r:Int)*1000000000+x=((r*bT+x:Nat):Int):=by
 rw[em,ei];rfl
def qT(Q i k:Nat):Nat:=if i<=k then ae bT Q k else 0
theorem D6{m Q i:Nat}:(dt m (qT Q (i+1))).set i (.p (.int .i64 (ae bT Q i:Nat)))=dt m (qT Q i):=by
 have:=Dk (n:=m) (i:=i) (qT Q (i+1)) (qT Q i) (fun k _ hk=>by
  rw[qT,qT]
  by_cases h:i<=k
  ·rw[if_pos h,if_pos (by omega)]
  ·rw[if_neg h,if_neg (by omega)])
 rw[<-this,qT,if_pos (g8 _)]
theorem NU{m Q:Nat}:dt m (qT Q 0)=dt m (ae bT Q):=zn fun k _=>by rw[qT,if_pos (hv _)]
theorem NW{m Q:Nat}:e9 m (AV.p (.int .i64 0))=dt m (qT Q m):=by
 rw[L8];exact zn fun k hk=>by rw[qT,if_neg (by omega)]
theorem Oz{m N:Nat}(h:N<bT^m)(b:m<=1048576):∃l:List Nat,l.length=m/\dt m (ae bT N)=l.map (AV.p∘fun x:Nat=>PV.int .i64 x)/\ar prog 309 [.seq (iP l)] (eT N):=by
 refine⟨(ew m).map (ae bT N),by simp,CQ m _,?_⟩;have a:=tZ ((ew m).map (ae bT N)) (by simp;omega);rw[show ey ((ew m).map (ae bT N))=aB bT N from jH bd h]at a;exact a
theorem Kc(a d:Nat)(u:0<d)(W:d<bT)(M:(aB bT a).length<=1000000):ar prog 308 [eT a,.int .i64 d] (.aE [eT (a/d),.int .i64 (a% d:Nat)]):=by
 refine aI nf Pc mix (by simp[f308]) ?_;have K:∀i(h:i<(aB bT a).length),(aB bT a)[i]=ae bT a i:=fun i h=>eD bd h;have w:=cm bd a;obtain⟨l,o,y,g⟩:=Oz (m:=(aB bT a).length) (N:=a/d) (g6 (hC _ _) w) (by omega);have j:a/bT^(aB bT a).length% d=0:=by rw[hl w,Nat.zero_mod]
 have A:a/bT^0% d=a% d:=by rw[ha,hA]
 have V:bT=1000000000:=rfl;simp only[eT]at g⊢;simp only[iP]at g;generalize aB bT (a/d)=Z at*;generalize aB bT a=x at*;obtain⟨n,q⟩:∃n,x.length=n:=⟨_,rfl⟩
 rw[q]at o y j M;generalize Y:a% d=rem at*;obtain⟨f,hf⟩:∃f:Nat->Nat,∀i,a/bT^i% d=f i:=⟨_,fun _=>rfl⟩
 have z:=fun i=>XB (a:=a) (b:=d) (i:=i) u;have v:∀i,f i<d:=fun i=>by rw[<-hf];exact gt _ u
 simp only[hf]at j A z;have F:dp.wrap ((n:Int)-1)=n-1:=aQ _ (by omega) (by omega);simp[f308,q,F];refine⟨by simp only[cN];omega,?_⟩;rw[NW (Q:=a/d)];refine lp (α:=Nat) (fun i=>⟨[(8,.p (.int .i64 ((i:Int)-1))),(7,.p (.int .i64 (f i:Nat))),(6,.sl 0 0 1 0 n),(1,.p (.int .i64 d)),(0,.p (.seq (x.map fun x:Nat=>.int .i64 x)))],[.arr .exact 0 1 (dt n (qT (a/d) i))]⟩)
  (fun i=>i<=n) (fun i=>i) n (g8 _) ?_ (he:=by simp[j])
 intro i k1
 by_cases hi:0<i
 ·obtain⟨k,rfl⟩:∃k,i=k+1:=⟨i-1,by omega⟩
  have G:dp.wrap ((k:Int)-1)=k-1:=aQ _ (by omega) (by omega);have r:k<x.length:=by omega
  have hx:=K k r;have O:x[k]?=some (ae bT a k):=by rw[eq r,hx]
  obtain⟨P,R⟩:=z k;have aO:=D6 (m:=n) (Q:=a/d) (i:=k);have gk:=tP (qT (a/d) (k+1)) (show k<n by omega);have L:k<n:=by omega
  have T:=v (k+1);have X:=ct bd a k;have hq:=ct bd (a/d) k;have U:=v k;generalize f (k+1)=c at*;generalize H:f k=B at*;generalize ae bT a k=e at*;generalize ae bT (a/d) k=s at*;have w1:dp.wrap ((c:Int)*1000000000)=c*1000000000:=aQ _ (by omega) (by omega);have S:dp.wrap ((c:Int)*1000000000+e)=c*1000000000+e:=aQ _ (by omega) (by omega);have t:(c:Int)*1000000000+e=((c*bT+e:Nat):Int):=Aw c e;have C:((c:Int)*1000000000+e).tdiv d=s:=by
   rw[t,ea (dq _),<-ed,P]
  have D:((c:Int)*1000000000+e).tmod d=B:=by
   rw[t,dz (dq _),<-ec,R]
  have E:dp.wrap (s:Int)=s:=aQ _ (by omega) (by omega);have I:¬(d:Int)=0:=by omega
  have J:¬d=0:=by omega
  simp[q,G,hx,O,L,r,w1,S,C,D,E,I,J,gk,aO,aa];exact rd k (show k<=n by omega) (he:=by simp[H])
 ·obtain rfl:i=0:=by omega
  simp[NU,y,A];refine cp g (by simp[o];exact⟨rfl,rfl⟩) ?_ (h1:=by simp[e6,o]);simp
def lj(a b c:Nat):Nat->Nat->Nat
 |0,_=>0
 |t+1,r=>if bT<=t+1\/r*bT+c<(t+1)*b then(if bT<=r+a then t else lj a b c t (r+a))else t+1
theorem aAb{a b c t r:Nat}(h:0<t):lj a b c t r=if bT<=t\/r*bT+c<t*b then(if bT<=r+a then t-1 else lj a b c (t-1) (r+a))else t:=by
 cases t with
 |zero=>exact absurd h (Nat.lt_irrefl 0)
 |succ t=>rw[lj,hP]
theorem KW{a b:Nat}(c:a<bT)(d:b<bT):dp.wrap ((a:Int)*b)=(a:Int)*b:=by
 have e:a*b<=999999999*999999999:=hE (by simp only[bT]at c;omega) (by simp only[bT]at d;omega);rw[<-ei];generalize a*b=P at*;exact aQ _ (by omega) (by omega)
theorem SD{a b r w:Nat}:(r:Int)*1000000000+w<(a:Int)*b↔r*bT+w<a*b:=by
 rw[Aw,<-ei];exact Int.ofNat_lt
theorem AN{r v:Nat}:(1000000000:Int)<=(r:Int)+v↔bT<=r+v:=by simp only[bT];omega
theorem Rc{t:Nat}:(1000000000:Int)<=(t:Int)↔bT<=t:=by simp only[bT];omega
theorem aKW{t:Nat}(h:0<t)(a:t<=bT+1):dp.wrap ((t:Int)-1)=((t-1:Nat):Int):=by
 simp only[bT]at a;rw[aQ _ (by omega) (by omega)];omega
theorem P8{a v2 w0 w1 w2 Q:Nat}(u:bT<=2*a)(v:a<bT)(m:w0<=a)(w:w1<bT)(s:Q<bT)
 (d:∀q r,q*a+r=w0*bT+w1->q<bT->q*v2<=r*bT+w2->q<=Q+1)(k:∀q r,q*a+r=w0*bT+w1->r*bT+w2<q*v2->Q<q)
 (l:∀q r,bT<=r->q<bT->q*v2<=r*bT+w2):∀t r,t*a+r=w0*bT+w1->Q<=t->r<bT->t<=bT+1->Q<=lj a v2 w2 t r/\lj a v2 w2 t r<=Q+1/\lj a v2 w2 t r<bT
 |0,r,b,c,n,o=>by
  rw[lj];exact⟨c,by omega,by omega⟩
 |t+1,r,b,c,n,o=>by
  rw[lj]
  by_cases hc:bT<=t+1\/r*bT+w2<(t+1)*v2
  ·rw[if_pos hc];have hq:Q<=t:=by
    rcases hc with h|h
    ·omega
    ·have:=k _ _ b h;omega
   have i:t*a+(r+a)=w0*bT+w1:=by rw[g5,g0]at b;omega
   by_cases f:bT<=r+a
   ·rw[if_pos f];have g:t<bT:=by
     rcases gw t bT with h|h
     ·exact h
     ·have e:t=bT:=by omega
      subst e;have:=gb bT m;rw[fw a]at this;omega
    exact⟨hq,d _ _ i g (l _ _ f g),g⟩
   ·rw[if_neg f];exact P8 u v m w s d k l t (r+a) i hq (by omega) (by omega)
  ·rw[if_neg hc];have j:t+1<bT:=by
    rcases gw (t+1) bT with h|h
    ·exact h
    ·exact(hc (.inl h)).elim
   have p:(t+1)*v2<=r*bT+w2:=by
    rcases gw (r*bT+w2) ((t+1)*v2)with h|h
    ·exact(hc (.inr h)).elim
    ·exact h
   exact⟨c,d _ _ b j p,j⟩
theorem azZ(W V N j n:Nat)(k:AK)(aC:Nat)(f:Nat->Nat)(ao:2<=n)(az:(aB bT V).length=n)(aP:bT<=2*ae bT V (n-1))(aA:W<V*bT)(a9:N<=1000000)(aT:j+n<N)
 (hf:∀i,i<=n->f (j+i)=ae bT W i):∃t,W/V<=t/\t<=W/V+1/\t<bT/\
 cA prog 310 [.arr k aC 1 (dt N f)] [.sl 0 aC 1 0 N,.p (eT V),.p (.int .i64 j)] [.arr k aC 1 (dt N f)] (.p (.int .i64 t)):=by
 have aR:bT=1000000000:=rfl;have B:V<bT^n:=by rw[<-az];exact cm bd V
 have P:bT^(n-1)<=V:=by
  rcases gw V (bT^(n-1))with h|h
  ·have:=dO bd (n-1) V h;omega
  ·exact h
 obtain⟨an,aS⟩:=Du bd (show 1<=n by omega) B aA;have ar:W/bT^n=ae bT W n:=by
  rw[ae,ge];have:=ct bd V (n-1);omega
 have s:W/bT^(n-1)=ae bT W n*bT+ae bT W (n-1):=by
  rw[tg,show n-1+1=n by omega,ar]
 have D:=Oo bd ao P B (W:=W);have X:=fun q r=>EG bd ao P B (W:=W) (q:=q) (r:=r);have U:=fun q r=>P7 bd ao P B (W:=W) (q:=q) (r:=r);have aG:=fun q r=>On bd (V:=V) (W:=W) (n:=n) (q:=q) (r:=r);rw[s]at D X U;have q1:=ct bd W n;have a3:=ct bd W (n-1);have bl:=ct bd W (n-2);have q4:=ct bd V (n-1);have a4:=ct bd V (n-2);have ay:=hf n (g8 _);have f2:=hf (n-1) (by omega);have f3:=hf (n-2) (by omega);rw[ar]at an;have C:(aB bT V)[n-1]?=some (ae bT V (n-1)):=by rw[eq (by omega),eD bd (by omega)]
 have S:(aB bT V)[n-2]?=some (ae bT V (n-2)):=by rw[eq (by omega),eD bd (by omega)]
 have aE:∀h:n-1<(aB bT V).length,(aB bT V)[n-1]=ae bT V (n-1):=fun h=>eD bd h;have aF:∀h:n-2<(aB bT V).length,(aB bT V)[n-2]=ae bT V (n-2):=fun h=>eD bd h;simp only[eT];generalize aB bT V=y at*;generalize bb:W/V=Q at*;generalize bg:ae bT W n=w0 at*;generalize bh:ae bT W (n-1)=w1 at*;generalize bi:ae bT W (n-2)=e at*;generalize be:ae bT V (n-1)=a at*;generalize bf:ae bT V (n-2)=v2 at*;clear s ar B P aA hf;have g1:=tP f (show j+n<N by omega);have g2:=tP f (show j+(n-1)<N by omega);have g3:=tP f (show j+(n-2)<N by omega);rw[ay]at g1;rw[f2]at g2;rw[f3]at g3;have E:=vS N f;have au:∀aw:Nat×Nat->Prop,ba aw (dt N f):=fun aw=>by simp
 generalize dt N f=u at*;obtain⟨c,l⟩:∃c,c=w0*bT+w1:=⟨_,rfl⟩
 obtain⟨b,ab⟩:∃b,b=c/a:=⟨_,rfl⟩
 obtain⟨d,Y⟩:∃d,d=c% a:=⟨_,rfl⟩
 have aU:0<a:=by omega
 have aH:b*a+d=c:=by rw[ab,Y,fw];exact gy _ _
 have ap:d<bT:=gE (by rw[Y];exact gt _ aU) q4;have aq:b<=bT+1:=by
  have aN:=gb bT an;rw[fw a]at aN;rcases gw (bT+1) b with h|h
  ·have aO:=gb a (show bT+2<=b from h);rw[g5]at aO;omega
  ·exact h
 rw[<-l]at D X U;rw[<-ab]at D;have R:=P8 (v2:=v2) (w2:=e) aP q4 an a3 aS (by rw[<-l];exact X) (by rw[<-l];exact U) aG b d (by rw[<-l];exact aH) D ap aq;refine⟨lj a v2 e b d,R.1,R.2.1,R.2.2,?_⟩;obtain⟨T,s⟩:∃T,T=lj a v2 e b d:=⟨_,rfl⟩
 rw[<-s];clear R D X U aG;have m:y.length=n:=az;have bm:dp.wrap ((j:Int)+n)=(j+n:Nat):=by rw[aQ _ (by omega) (by omega)];omega
 have K:dp.wrap ((j:Int)+n)=(j:Int)+n:=aQ _ (by omega) (by omega);have a7:dp.wrap ((j:Int)+n-1)=(j:Int)+n-1:=aQ _ (by omega) (by omega);have z:dp.wrap ((n:Int)-1)=(n:Int)-1:=aQ _ (by omega) (by omega);have aj:dp.wrap ((n:Int)-2)=(n:Int)-2:=aQ _ (by omega) (by omega);have ak:dp.wrap ((j:Int)+n-2)=(j:Int)+n-2:=aQ _ (by omega) (by omega);have a5:((j:Int)+n).toNat=j+n:=by omega
 have a6:((j:Int)+n-1).toNat=j+(n-1):=by omega
 have w:((n:Int)-1).toNat=n-1:=by omega
 have ah:((n:Int)-2).toNat=n-2:=by omega
 have ai:((j:Int)+n-2).toNat=j+(n-2):=by omega
 have wf:dp.wrap ((w0:Int)*1000000000)=(w0:Int)*1000000000:=aQ _ (by omega) (by omega);have aD:(w0:Int)*1000000000+w1=(c:Nat):=by rw[l];exact Aw w0 w1
 have bc:c<1000000000000000000:=by rw[l,aR];omega
 have aJ:dp.wrap ((w0:Int)*1000000000+w1)=(c:Nat):=by rw[aD];exact aQ _ (by omega) (by omega)
 have ax:((c:Nat):Int).tdiv a=b:=by rw[ea (dq _),<-ed,<-ab]
 have dr:((c:Nat):Int).tmod a=d:=by rw[dz (dq _),<-ec,<-Y]
 have aV:¬(a:Int)=0:=by omega
 have aW:¬a=0:=by omega
 have aK:dp.wrap (b:Int)=b:=aQ _ (by omega) (by omega);have v:n-1<y.length:=by omega
 have H:n-2<y.length:=by omega
 have F:=aE v;have ac:=aF H;have aI:j+n<u.length:=by omega
 have aX:j+(n-1)<u.length:=by omega
 have G:j+(n-2)<u.length:=by omega
 have aY:j+(n-1)<N:=by omega
 have ad:j+(n-2)<N:=by omega
 have aL:u[j+n]=.p (.int .i64 w0):=by rw[eq aI]at g1;exact hV g1
 have aM:u[j+(n-1)]=.p (.int .i64 w1):=by rw[eq aX]at g2;exact hV g2
 have O:u[j+(n-2)]=.p (.int .i64 e):=by rw[eq G]at g3;exact hV g3
 have J:¬u=[]:=by rintro rfl;simp at aI
 have aZ:0<=(j:Int)+n:=by omega
 have a0:0<=(j:Int)+n-1:=by omega
 have bj:0<=(j:Int)+n-2:=by omega
 have a2:0<=(n:Int)-1:=by omega
 have bk:0<=(n:Int)-2:=by omega
 have a1:1<=(j:Int)+n:=by omega
 have af:2<=(j:Int)+n:=by omega
 have I:1<=(n:Int):=by omega
 have ag:2<=(n:Int):=by omega
 refine fh nf IC mix (by simp[f310]) ?_;simp[f310,m,K,a7,z,a5,a6,w,g1,g2,C,F,wf,aJ,ax,dr,aV,aW,aK,E,aT,v,aL,aM,J,aZ,a0,a2,a1,I,aY,aa];refine lp (α:=Nat×Nat) (fun x=>⟨[(10,.p (.int .i64 x.2)),(9,.p (.int .i64 x.1)),(7,.p (.int .i64 n)),(2,.p (.int .i64 j)),(1,.p (.seq (y.map fun x:Nat=>.int .i64 x))),(0,.sl 0 aC 1 0 N)],[.arr k aC 1 u]⟩)
  (fun x=>T=lj a v2 e x.1 x.2/\x.2<bT/\x.1<=bT+1) (fun x=>x.1) (b,d) ⟨s,ap,aq⟩ ?_ (hr2:=by simp[au])
 clear l aH ab Y aD aJ ax dr s wf ap aq aK aE aF ay f2 f3;rintro⟨t,r⟩ ⟨k1,k2,k3⟩;dsimp only at k1 k2 k3;have al:dp.wrap ((r:Int)*1000000000)=(r:Int)*1000000000:=aQ _ (by omega) (by omega);have am:dp.wrap ((r:Int)*1000000000+e)=(r:Int)*1000000000+e:=aQ _ (by omega) (by omega);have L:dp.wrap ((r:Int)+a)=(r:Int)+a:=aQ _ (by omega) (by omega);rcases Nat.eq_zero_or_pos t with A|A
 ·subst A;rw[lj]at k1;have c1:¬(r:Int)*1000000000+e<0:=by rw[Aw];exact Int.not_lt.2 (dq _)
  have a8:dp.wrap 0=0:=rfl;simp[m,a8,aj,ah,al,am,L,ak,ai,S,ac,H,g3,O,G,ad,E,J,af,ag,K,c1,k1,aa]
 rw[aAb A]at k1;have Z:=aKW A k3;have k4:∀x,x<=bT+1->x-1<=bT+1:=fun x h=>hg (hN _ _) h;have k5:t-1<t:=Nat.sub_lt A (by decide)
 by_cases c0:bT<=t
 ·have o:=Rc.2 c0;rw[if_pos (.inl c0)]at k1
  by_cases c2:bT<=r+a
  ·have g:=AN.2 c2;rw[if_pos c2]at k1;simp[o,Z,m,z,w,C,F,v,I,L,g,k1]
  ·have g:=mt AN.1 c2;rw[if_neg c2]at k1;simp[o,Z,m,z,w,C,F,v,I,L,g];exact rd (t-1,r+a) ⟨k1,hu c2,k4 _ k3⟩ k5 (he:=by simp) (hr2:=by simp[au])
 have o:=mt Rc.1 c0;have av:=KW (hu c0) a4
 by_cases c1:r*bT+e<t*v2
 ·have M:=SD.2 c1;rw[if_pos (.inr c1)]at k1
  by_cases c2:bT<=r+a
  ·have g:=AN.2 c2;rw[if_pos c2]at k1;simp[o,Z,m,z,w,C,F,v,I,L,g,k1,aj,ah,al,am,av,ak,ai,S,ac,H,g3,O,G,ad,E,J,af,ag,K,M,aa]
   done
  ·have g:=mt AN.1 c2;rw[if_neg c2]at k1;simp[o,Z,m,z,w,C,F,v,I,L,g,aj,ah,al,am,av,ak,ai,S,ac,H,g3,O,G,ad,E,J,af,ag,K,M,aa];exact rd (t-1,r+a) ⟨k1,hu c2,k4 _ k3⟩ k5 (he:=by simp) (hr2:=by simp[au])
 ·have M:=mt SD.1 c1;rw[if_neg (fun h=>h.elim c0 c1)]at k1;simp[o,m,z,w,aj,ah,al,am,av,ak,ai,S,ac,H,g3,O,G,ad,E,J,af,ag,K,M,k1,aa]
theorem YF{b k f d:Nat}(n:b<bT^(k+1))(h:d=b/bT^k)(p:0<d)(hf:f=bT/(d+1)):0<f/\f<bT/\b*f<bT^(k+1)/\bT^k<=b*f/\bT<=2*ae bT (b*f) k:=by
 have e:0<bT^k:=gi (by decide);have s:d<bT:=by
  rw[h,gc e,fw,<-gj];exact n
 have r:bT=1000000000:=rfl;have g:=hL bT (d+1);have j:=Nat.lt_div_mul_add (a:=bT) (show 0<d+1 by omega);rw[<-hf]at g j;have i:0<f:=by rw[hf];exact hz (by omega) (by omega)
 have q:f<bT:=by
  rw[hf];exact Nat.div_lt_self (by decide) (by omega)
 have o:b<(d+1)*bT^k:=by
  rw[<-gc e,<-h];omega
 have l:d*bT^k<=b:=by rw[h];exact hL _ _
 have m:b*f<bT^(k+1):=by
  rw[gj];have e1:b*f<(d+1)*bT^k*f:=hd o i;have e2:(d+1)*bT^k*f=f*(d+1)*bT^k:=by rw[fw,<-gx]
  have e3:=gb (bT^k) g;rw[fw (bT^k) bT];omega
 refine⟨i,q,m,?_,?_⟩
 ·have e1:1*bT^k<=d*bT^k:=gb _ p;rw[g0]at e1;exact hg (hg e1 l) (hG _ i)
 ·have e1:b*f/bT^k=ae bT (b*f) k:=by
   rw[ae,ge];rw[gc e,fw bT,<-gj];exact m
  have e2:d*f<=b*f/bT^k:=by
   rw[hJ e,ho];exact gb _ l
  rw[e1]at e2;have e3:d+f<=d*f+1:=by
   obtain⟨d',rfl⟩:∃d',d=d'+1:=⟨d-1,by omega⟩
   obtain⟨c,rfl⟩:∃c,f=c+1:=⟨f-1,by omega⟩
   have:(d'+1)*(c+1)=d'*c+d'+c+1:=by rw[g5,g4,g0,hw];omega
   omega
  have e4:f*(d+1)=d*f+f:=by rw[g4,hw,fw]
  rw[e4]at g j;generalize d*f=P at*;generalize ae bT (b*f) k=Z at*;omega
def gA(V R t i:Nat):Nat:=(t*(V% bT^i)+R% bT^i)/bT^i
theorem Zt{V R t:Nat}:gA V R t 0=0:=by simp[gA,hT]
theorem Ml{W V R t n i:Nat}(h:R+t*V=W+bT^(n+1))(hi:i<=n):ae bT R i+t*ae bT V i+gA V R t i=ae bT W i+gA V R t (i+1)*bT:=by
 have j:0<bT^i:=gi (by decide);have k:0<bT^(i+1):=gi (by decide);have b:(t*(V% bT^(i+1))+R% bT^(i+1))% bT^(i+1)=W% bT^(i+1):=by
  have e1:(t*V+R)% bT^(i+1)=(t*(V% bT^(i+1))+R% bT^(i+1))% bT^(i+1):=by
   have a1:=gy V (bT^(i+1));have d:=gy R (bT^(i+1));have e:t*V+R=t*(V% bT^(i+1))+R% bT^(i+1)+bT^(i+1)*(t*(V/bT^(i+1))+R/bT^(i+1)):=by
    have f:t*V=t*(V% bT^(i+1))+bT^(i+1)*(t*(V/bT^(i+1))):=by
     conv=>lhs;rw[<-a1]
     rw[g4,<-gx,fw t (bT^(i+1)),gx];omega
    rw[f,g4]
    conv=>lhs;rw[<-d]
    omega
   rw[e,hj]
  rw[<-e1,g9 (t*V),h];have:bT^(i+1)∣bT^(n+1):=hB _ (by omega);obtain⟨c,hc⟩:=this;rw[hc,hj]
 have e2:=gy (t*(V% bT^(i+1))+R% bT^(i+1)) (bT^(i+1));have e3:=gy (t*(V% bT^i)+R% bT^i) (bT^i);rw[b]at e2;rw[show(t*(V% bT^(i+1))+R% bT^(i+1))/bT^(i+1)=gA V R t (i+1)from rfl]at e2;rw[show(t*(V% bT^i)+R% bT^i)/bT^i=gA V R t i from rfl]at e3;have g:(t*(V% bT^i)+R% bT^i)% bT^i=W% bT^i:=by
  have:=congrArg (·% bT^i) b
  have a:bT^i∣bT^(i+1):=hB _ (by omega);rw[hp _ a,hp _ a]at this;rw[<-this,mod_pow_succ,mod_pow_succ];rw[g4];have:t*(V% bT^i)+t*(bT^i*ae bT V i)+(R% bT^i+bT^i*ae bT R i)=t*(V% bT^i)+R% bT^i+bT^i*(t*ae bT V i+ae bT R i):=by
   rw[g4,<-gx t,fw t (bT^i),gx];omega
  rw[this,hj]
 rw[g]at e3;rw[mod_pow_succ,mod_pow_succ,mod_pow_succ,gj]at e2;have e4:bT^i*(ae bT R i+t*ae bT V i+gA V R t i)=bT^i*(ae bT W i+gA V R t (i+1)*bT):=by
  have a1:t*(V% bT^i+bT^i*ae bT V i)=t*(V% bT^i)+bT^i*(t*ae bT V i):=by
   rw[g4,<-gx t,fw t (bT^i),gx]
  rw[a1]at e2;rw[g4,g4,g4];rw[gx (bT^i),fw bT]at e2;generalize bT^i*ae bT R i=l at*;generalize bT^i*(t*ae bT V i)=m at*;generalize bT^i*gA V R t i=o at*;generalize bT^i*ae bT W i=p at*;generalize bT^i*(gA V R t (i+1)*bT)=q at*;generalize t*(V% bT^i)=r at*;omega
 exact Nat.eq_of_mul_eq_mul_left j e4
theorem Zs{r p w b':Nat}(h:r+p=w+b'*bT)(j:r<bT)(k:w<bT):(w<p% bT/\r+p% bT=w+bT/\b'=p/bT+1)\/(p% bT<=w/\r+p% bT=w/\b'=p/bT):=by
 have e:=gy p bT;have i:=gt p (show 0<bT by decide);generalize p/bT=q at*;generalize p% bT=m at*;have b:r+m+bT*q=w+b'*bT:=by omega
 rw[fw bT]at b;rcases Nat.lt_trichotomy b' q with a|a|a
 ·have:=gb bT (show b'+1<=q from a);rw[g5,g0]at this;omega
 ·subst a;right;omega
 ·have d:=gb bT (show q+1<=b' from a);rw[g5,g0]at d;have f:b'=q+1:=by
   rcases gw (q+1) b' with c|c
   ·have g:=gb bT (show q+2<=b' from c);rw[g5]at g;omega
   ·omega
  subst f;rw[g5,g0]at b;left;omega
theorem ZX{W V t n:Nat}(y:0<V)(j:V<bT^n)(l:W<bT^(n+1))(C:W/V<=t)(D:t<=W/V+1):
 ∃R,R+t*V=W+bT^(n+1)/\
 ((t=W/V/\gA V R t n=ae bT W n/\∀i,i<=n->ae bT R i=ae bT (W% V) i)\/
  (t=W/V+1/\gA V R t n=ae bT W n+1/\dj bT R V n=1/\∀i,i<=n->ae bT (R+V) i=ae bT (W% V) i)):=by
 have H:0<bT^n:=gi (by decide);have B:0<bT^(n+1):=gi (by decide);have k:V<bT^(n+1):=gg j (gm (by decide) (by omega));have z:=gy W V;have o:=gt W y;have d:bT^(n+1)=bT^n*bT:=gj _ _;have F:bT=1000000000:=rfl;have A:W% V<bT^n:=gE o j;have s:ae bT (W% V) n=0:=jG A;have q:ae bT V n=0:=jG j;have m:∀R,R+t*V=W+bT^(n+1)->ae bT R n+gA V R t n=ae bT W n+gA V R t (n+1)*bT:=fun R v=>by
  have:=Ml v (g8 n);rw[q,Nat.mul_zero,Nat.add_zero]at this;exact this
 rcases gw t (W/V+1)with u|u
 ·have b:t=W/V:=by omega
  have r:t*V+W% V=W:=by rw[b,fw];exact z
  refine⟨W% V+bT^(n+1),by omega,.inl ⟨b,?_,fun i hi=>?_⟩⟩
  ·have e:=m (W% V+bT^(n+1)) (by omega);have f:gA V (W% V+bT^(n+1)) t (n+1)=0:=by
    rw[gA,ge k,Nat.add_mod_right,ge (gE o k),r,hl l]
   have a:ae bT (W% V+bT^(n+1)) n=0:=by
    rw[<-s];exact vO (by omega)
   rw[f,a]at e;omega
  ·exact vO (by omega)
 ·have b:t=W/V+1:=by omega
  have r:t*V+W% V=W+V:=by rw[b,g5,g0,fw];omega
  have G:V<=bT^(n+1)+W% V:=by omega
  refine⟨bT^(n+1)+W% V-V,by omega,.inr ⟨b,?_,?_⟩⟩
  ·have e:=m (bT^(n+1)+W% V-V) (by omega);have w:bT^(n+1)+W% V-V<bT^(n+1):=by omega
   have f:gA V (bT^(n+1)+W% V-V) t (n+1)=1:=by
    rw[gA,ge k,ge w];have:t*V+(bT^(n+1)+W% V-V)=W+bT^(n+1):=by omega
    rw[this,Nat.add_div_right _ B,hl l]
   have a:ae bT (bT^(n+1)+W% V-V) n=bT-1:=by
    have g:(bT^(n+1)+W% V-V)/bT^n=bT-1:=by
     refine hM ?_ ?_
     ·rw[hQ,g0,fw bT,<-d];omega
     ·rw[show bT-1+1=bT by decide,fw bT,<-d];omega
    rw[ae,g];decide
   rw[f,a]at e;omega
  ·have x:bT^(n+1)+W% V-V+V=W% V+bT^(n+1):=by omega
   have p:∀i,i<=n->ae bT (bT^(n+1)+W% V-V+V) i=ae bT (W% V) i:=fun i hi=>by
    rw[x];exact vO (by omega)
   refine⟨?_,p⟩;have h:=(qW bd (bT^(n+1)+W% V-V) V n).1;have E:=mh bd (bT^(n+1)+W% V-V) V n;rw[p n (g8 _),s,q]at h;have a:ae bT (bT^(n+1)+W% V-V) n=bT-1:=by
    have g:(bT^(n+1)+W% V-V)/bT^n=bT-1:=by
     refine hM ?_ ?_
     ·rw[hQ,g0,fw bT,<-d];omega
     ·rw[show bT-1+1=bT by decide,fw bT,<-d];omega
    rw[ae,g];decide
   rw[a]at h;generalize dj bT (bT^(n+1)+W% V-V) V n=c at*;rcases gw 0 c with hc|hc
   ·omega
   ·have:c=0:=by omega
    subst this;simp only[bT]at h;omega
theorem ZW{V R t i:Nat}:gA V R t i<=t:=by
 have a:0<bT^i:=gi (by decide);have b:=gt V a;have c:=gt R a;rw[gA];refine Nat.le_of_lt_succ ?_;rw[gc a];have d:=hn t (hH b);rw[Nat.succ_mul];omega
theorem aKX{t v a w r b':Nat}(h:r+(t*v+a)=w+b'*bT)(f:r<bT)(g:w<bT)(b:t<bT)(c:v<bT)(i:a<=t):
 ∃(p q m:Nat),dp.wrap ((t:Int)*v)=(t:Int)*v/\dp.wrap ((t:Int)*v+a)=p/\(p:Int).tmod 1000000000=m/\(p:Int).tdiv 1000000000=q/\q<bT/\m<bT/\
 (((w:Int)-m<0/\(w:Int)-m+1000000000=r/\b'=q+1)\/(¬(w:Int)-m<0/\(w:Int)-m=r/\b'=q)):=by
 have d:t*v<=999999999*999999999:=hE (by simp only[bT]at b;omega) (by simp only[bT]at c;omega);have j:=Zs h f g;have e:=gt (t*v+a) (show 0<bT by decide);have hq:(t*v+a)/bT<bT:=by
  rw[gc (by decide)];simp only[bT]at b⊢;omega
 refine⟨t*v+a,(t*v+a)/bT,(t*v+a)% bT,KW b c,?_,?_,?_,hq,e,?_⟩
 ·rw[<-ei,<-em];generalize t*v=P at*;simp only[bT]at b;exact aQ _ (by omega) (by omega)
 ·rw[dz (dq _),ec];rfl
 ·rw[ea (dq _),ed];rfl
 ·generalize (t*v+a)/bT=q at*;generalize (t*v+a)% bT=m at*;clear h d;simp only[bT]at*;omega
def cR(n:Nat)(f:Nat->Int):List AV:=(ew n).map fun j=>.p (.int .i64 (f j))
theorem mi(n:Nat)(f:Nat->Int):(cR n f).length=n:=by simp[cR]
theorem Su(n:Nat)(f:Nat->Nat):dt n f=cR n (fun k=>(f k:Nat)):=rfl
theorem aKy{n j:Nat}(f:Nat->Int)(h:j<n):(cR n f)[j]?=some (.p (.int .i64 (f j))):=by
 rw[cR,List.getElem?_map,List.getElem?_range h];rfl
theorem vZ{n i:Nat}{v:Int}(f g:Nat->Int)(c:g i=v)(h:∀j,j<n->j≠i->g j=f j):(cR n f).set i (.p (.int .i64 v))=cR n g:=by
 apply fl (by simp[cR]);intro j d b;rw[mi]at b;rw[List.getElem_set];simp only[cR,e8,e7]
 by_cases a:i=j
 ·subst a;rw[if_pos rfl,c]
 ·rw[if_neg a,h j b (fun e=>a e.symm)]
@[simp] theorem aOz{N:Nat×Nat->Prop}{n:Nat}{f:Nat->Int}:ba N (cR n f)=True:=by
 rw[dc,eq_iff_iff,iff_true];intro v a;simp only[cR,List.mem_map]at a;obtain⟨x,_,rfl⟩:=a;trivial
theorem Ni{n:Nat}{f g:Nat->Int}(h:∀j,j<n->f j=g j):cR n f=cR n g:=by
 rw[cR,cR];apply List.map_congr_left;intro j a;rw[h j (List.mem_range.1 a)]
def gn(X R j i k:Nat):Int:=if j<=k/\k<j+i then(ae bT R (k-j):Nat)else(ae bT X k:Nat)
theorem win_zero{X R j k:Nat}:gn X R j 0 k=(ae bT X k:Nat):=by rw[gn,if_neg (by omega)]
theorem DW{X R j i:Nat}:gn X R j i (j+i)=(ae bT X (j+i):Nat):=by rw[gn,if_neg (by omega)]
theorem aLF{X R j i:Nat}:gn X R j (i+1) (j+i)=(ae bT R i:Nat):=by
 rw[gn,if_pos (by omega),hm]
theorem aLG{X R j i k:Nat}(h:k≠j+i):gn X R j (i+1) k=gn X R j i k:=by
 rw[gn,gn]
 by_cases a:j<=k/\k<j+i
 ·rw[if_pos a,if_pos (by omega)]
 ·rw[if_neg a,if_neg (by omega)]
def gR(X R S j n i k:Nat):Int:=if k=j+n then -1 else if j<=k/\k<j+i then(ae bT S (k-j):Nat)else gn X R j n k
theorem aLC{X R S j n i:Nat}(h:i<n):gR X R S j n i (j+i)=(ae bT R i:Nat):=by
 rw[gR,if_neg (by omega),if_neg (by omega),gn,if_pos (by omega),hm]
theorem aLD{X R S j n i:Nat}(h:i<n):gR X R S j n (i+1) (j+i)=(ae bT S i:Nat):=by
 rw[gR,if_neg (by omega),if_pos (by omega),hm]
theorem aLE{X R S j n i k:Nat}(h:k≠j+i):gR X R S j n (i+1) k=gR X R S j n i k:=by
 rw[gR,gR]
 by_cases a:k=j+n
 ·rw[if_pos a,if_pos a]
 ·rw[if_neg a,if_neg a]
  by_cases b:j<=k/\k<j+i
  ·rw[if_pos b,if_pos (by omega)]
  ·rw[if_neg b,if_neg (by omega)]
theorem Y5{X V j n N:Nat}(d:0<V)(c:V<bT^n)(e:X<V*bT^(j+1)){g:Nat->Int}(h:∀k,k<N->g k=if k=j+n then 0 else if j<=k/\k<j+n then(ae bT (X/bT^j% V) (k-j):Nat)else(ae bT X k:Nat)):
 cR N g=cR N fun k=>(ae bT (X% (V*bT^j)) k:Nat):=by
 refine Ni fun k hk=>?_;rw[h k hk,(yE (B:=bT) (R:=X) (V:=V) (j:=j)).1,K0 bd];have i:=gt (X/bT^j) d;have f:X<bT^(n+(j+1)):=by
  rw[hb];exact gE e (hd c (gi (by decide)))
 by_cases a:k<j
 ·rw[if_pos a,if_neg (by omega),if_neg (by omega)]
 ·rw[if_neg a]
  by_cases m:k<j+n
  ·rw[if_neg (by omega),if_pos (by omega)]
  ·have l:ae bT (X/bT^j% V) (k-j)=0:=jG (gg (gE i c) (gm (by decide) (by omega)));rw[l]
   by_cases b:k=j+n
   ·rw[if_pos b]
   ·rw[if_neg b,if_neg (by omega)];have:ae bT X k=0:=jG (gg f (gm (by decide) (by omega)));rw[this]
theorem D7{f:Nat}(a:0<f)(h:f<bT):eT f=.seq [.int .i64 f]:=by rw[eT,nV a h];rfl
theorem Yo{r:Nat}(h:r<bT):ey [r]=aB bT r:=by
 have:=jH bd (m:=1) (n:=r) (by rw[hR];exact h);rw[<-this,row,List.range_one,fm,List.map_nil,ae,ha,hA,ge h]
@[simp] theorem aOs{σ:Nat->Nat}{n:Nat}{f:Nat->Int}:cU σ (cR n f)=cR n f:=by
 have:∀l:List Nat,cU σ (l.map fun j=>AV.p (.int .i64 (f j)))=l.map fun j=>AV.p (.int .i64 (f j)):=by
  intro l
  induction l with
  |nil=>rfl
  |cons a r b=>simp only[fm,cU,b];rfl
 exact this _
@[simp] theorem aOx{n j:Nat}{f:Nat->Int}(h:j<(cR n f).length):(cR n f)[j]=.p (.int .i64 (f j)):=by
 simp only[cR,e8,e7]
@[simp] theorem aOu{n j:Nat}{f:Nat->Nat}(h:j<(dt n f).length):(dt n f)[j]=.p (.int .i64 (f j:Nat)):=by
 simp only[dt,e8,e7]
@[simp] theorem aOy{n:Nat}{f:Nat->Int}:(cR (n+1) f=[])=False:=by
 rw[eq_iff_iff,iff_false];intro h;have:=congrArg List.length h;rw[mi]at this;simp at this
theorem Ej(a b:Nat)(K:0<b)(c5:(aB bT a).length<=400000)(b7:(aB bT b).length<=400000):ar prog 252 [eT a,eT b] (.aE [eT (a/b),eT (a% b)]):=by
 have bO:=Kd a b (by omega) (by omega);refine aI nf IP mix (by simp[f252]) ?_;simp[f252];refine c2 bO ?_
 by_cases S:a<b
 ·have G:=pS.2 S;simp[G,hl S,ge S,eT,Av]
 have G:¬fS a b<0:=fun h=>S (pS.1 h);have a4:∀i(h:i<(aB bT b).length),(aB bT b)[i]=ae bT b i:=fun i h=>eD bd h;have C:=cm bd b
 by_cases b5:(aB bT b).length=1
 ·rw[b5,hR]at C;have L:=Kc a b K C (by omega);have cc:=gt a K;have ch:=Yo (gE cc C);have ap:=tZ [a% b] (by simp);rw[ch]at ap;have cY:=nV K C;rw[D7 K C];simp only[eT,iP]at L ap⊢;generalize aB bT (a/b)=cQ at*;generalize aB bT (a% b)=cS at*;generalize aB bT a=x at*;generalize a% b=dh at*;simp[G];refine c2 L ?_;simp;refine cp ap (by simp;exact⟨rfl,rfl⟩) ?_;simp
 have c4:2<=(aB bT b).length:=by
  rcases gw (aB bT b).length 1 with h|h
  ·have e:(aB bT b).length=0:=by omega
   rw[e,ha]at C;omega
  ·omega
 obtain⟨k,hk⟩:∃k,(aB bT b).length=k+1:=⟨(aB bT b).length-1,by omega⟩
 obtain⟨n,aD⟩:∃n,n=k+1:=⟨_,rfl⟩
 rw[hk]at C;obtain⟨d,Z⟩:∃d,d=b/bT^k:=⟨_,rfl⟩
 have ax:bT^k<=b:=by
  rcases gw b (bT^k)with h|h
  ·have:=dO bd k b h;omega
  ·exact h
 have be:0<bT^k:=gi (by decide);have bP:0<d:=by rw[Z];exact hz ax be
 have bU:d<bT:=by rw[Z,gc be,fw,<-gj];exact C
 have a5:ae bT b k=d:=by rw[ae,<-Z,ge bU]
 obtain⟨f,hf⟩:∃f,f=bT/(d+1):=⟨_,rfl⟩
 obtain⟨f0,f1,f2,f3,f4⟩:=YF C Z bP hf;obtain⟨V,I⟩:∃V,V=b*f:=⟨_,rfl⟩
 rw[<-I]at f2 f3 f4;have aY:(aB bT V).length=n:=by
  have H:=dO bd (k+1) V f2;have bE:=Kx bd f3;omega
 have ag:=Ei b f (by rw[nV f0 f1];simp;omega);have ah:=Ei a f (by rw[nV f0 f1];simp;omega);rw[D7 f0 f1,<-I]at ag;rw[D7 f0 f1]at ah;have bR:(aB bT b)[k]?=some d:=by rw[eq (by omega),a4 k (by omega),a5]
 have bS:∀h:k<(aB bT b).length,(aB bT b)[k]=d:=fun h=>by rw[a4 k h,a5]
 have c7:(aB bT b).length<=400000:=b7;have cX:bT=1000000000:=rfl;have cI:dp.wrap ((d:Int)+1)=(d:Int)+1:=aQ _ (by omega) (by omega);have bW:(1000000000:Int).tdiv ((d:Int)+1)=(f:Nat):=by
  rw[ea (by decide),hf,ed];rfl
 have bQ:¬(d:Int)+1=0:=by omega
 have wk:dp.wrap (k:Int)=k:=aQ _ (by omega) (by omega);have wf:dp.wrap (f:Int)=f:=aQ _ (by omega) (by omega);have b6:¬(k:Int)+1=1:=by omega
 have b0:¬k=0:=by omega
 have bo:k<(aB bT b).length:=by omega
 have b2:=bS bo;simp only[eT]at ag ah⊢;generalize cu:aB bT (a/b)=cQ at*;generalize cv:aB bT (a% b)=cS at*;generalize aG:aB bT a=x at*;generalize dc:aB bT b=y at*;generalize aj:aB bT V=s at*;simp[G,hk,b6,b0,wk,bR,b2,bo,cI,bW,bQ,wf];refine cp ag (by simp;exact⟨rfl,rfl⟩) ?_;simp[aY];refine cp ah (by simp;exact⟨rfl,rfl⟩) ?_;obtain⟨u,D⟩:∃u,aB bT (a*f)=u:=⟨_,rfl⟩
 obtain⟨c,M⟩:∃c,x.length=c:=⟨_,rfl⟩
 have bh:u.length<=c+1:=by
  rw[<-D,<-M,<-aG];refine dO bd _ _ ?_;rw[gj];exact ht (cm bd a) f1
 have cl:∀i(h:i<u.length),u[i]=ae bT (a*f) i:=fun i h=>by
  have:=eD bd (n:=a*f) (i:=i) (by rw[D];exact h);simp only[D]at this;exact this
 rw[D];have cW:b<=a*f:=hg (Nat.le_of_not_lt S) (hG _ f0);have bj:¬u=[]:=by
  intro h;rw[h]at D;have:=vE.1 D;omega
 have a1:a*f<bT^u.length:=by rw[<-D];exact cm bd _
 have ai:List.map (AV.p∘fun x:Nat=>PV.int dp x) u=cR u.length fun k=>(ae bT (a*f) k:Nat):=by
  apply fl (by simp[cR]);intro i G cV;simp only[e8,Function.comp,cR,e7];rw[cl i (by simpa using G)]
 have cj:u.length<=400001:=by omega
 obtain⟨A,bi⟩:∃A,u.length=A:=⟨_,rfl⟩
 rw[bi]at a1 ai bh cj;clear ag ah;have ck:¬(cR A fun k=>(ae bT (a*f) k:Nat))=[]:=by rw[<-ai];simpa using bj
 have ci:¬A=0:=by rw[<-bi];exact fun h=>bj (List.length_eq_zero_iff.1 h)
 simp[M,ai,ck,ci,mi];refine⟨⟨by rw[<-ai];exact Sy u,by simp only[cN];omega⟩,?_⟩;have c6:c<=400000:=by omega
 have bz:dp.wrap ((c:Int)+1)=c+1:=aQ _ (by omega) (by omega);refine sC (fun s'=>∃l o,aS s'.env 8=.sl 0 0 1 0 1/\aS s'.env 9=.p (.seq (s.map fun x:Nat=>.int .i64 x))/\aS s'.env 10=.p (.int .i64 n)/\aS s'.env 11=.sl 2 l 1 0 (c+1)/\s'.heap=[.arr .frozen 0 1 [.p (.int .i64 f)],o,.arr .grow l 1 (cR (c+1) fun k=>(ae bT (a*f) k:Nat))]) ?_ ?_
 ·refine lp (α:=Nat) (fun i=>⟨[(11,.sl 2 (i-A) 1 0 i),(10,.p (.int .i64 n)),(9,.p (.seq (s.map fun x:Nat=>.int .i64 x))),(8,.sl 0 0 1 0 1),(0,.p (.seq (x.map fun x:Nat=>.int .i64 x)))],[.arr .frozen 0 1 [.p (.int .i64 f)],.hole,.arr .grow (i-A) 1 (cR i fun k=>(ae bT (a*f) k:Nat))]⟩)
   (fun i=>A<=i/\i<=c+1) (fun i=>c+1-i) A ⟨g8 _,bh⟩ ?_ (he:=by simp) (hh:=by simp)
  rintro i ⟨k1,k2⟩
  by_cases hi:i<c+1
  ·have bX:(i:Int)<c+1:=by omega
   have cs:ae bT (a*f) i=0:=jG (gg a1 (gm (by decide) k1));have ce:cR (i+1) (fun k=>(ae bT (a*f) k:Nat))=cR i (fun k=>(ae bT (a*f) k:Nat))++[.p (.int .i64 0)]:=by
    rw[cR,List.range_succ,List.map_append];simp[cs,cR]
   have bg:i+1-A=i-A+1:=by omega
   have cg:fd i (cR i fun k=>(ae bT (a*f) k:Nat))=cR i fun k=>(ae bT (a*f) k:Nat):=e6 (by rw[mi];exact g8 _);simp[M,bz,bX,mi,cg];refine⟨by simp only[cN];omega,?_⟩;exact rd (i+1) ⟨by omega,hi⟩ (he:=by simp[bg]) (hh:=by simp[bg,ce]) (hr2:=by simp)
  ·have ab:i=c+1:=by omega
   subst ab;simp[M,bz]
 rintro⟨bC,bV⟩ ⟨l,o,E,P,Q,F,T⟩;dsimp only at E P Q F T;subst T;have db:n<=c:=by
  rw[aD];rcases gw c (k+1)with h|h
  ·have H:=cm bd a;rw[aG,M]at H;have bE:=gg H (gm (show 0<bT by decide) (show c<=k by omega));omega
  ·exact h
 obtain⟨m,c9⟩:∃m,m=c-n:=⟨_,rfl⟩
 have cL:dp.wrap ((c:Int)+1-n)=(m:Int)+1:=by rw[aQ _ (by omega) (by omega)];omega
 have cM:((m:Int)+1).toNat=m+1:=by omega
 have cO:dp.wrap (m:Int)=m:=aQ _ (by omega) (by omega);have ca:(m:Int)+1<=cN:=by simp only[cN];omega
 simp[E,P,Q,F,cL,cM,cO];refine⟨⟨by omega,ca⟩,?_⟩;have av:0<V:=by rw[I];exact hS K f0
 have W:V<bT^n:=by rw[aD];exact f2
 have a2:a<bT^c:=by rw[<-M,<-aG];exact cm bd a
 have bL:a*f% (V*bT^(m+1))=a*f:=by
  refine ge ?_;rw[I,ho];refine hd ?_ f0;refine gg a2 ?_;rw[show c=k+(m+1)by omega,hb];exact gb _ ax
 obtain⟨X,J⟩:∃X:Nat->Nat,∀j,X j=a*f% (V*bT^j):=⟨_,fun _=>rfl⟩
 have Y:∀j,X j<V*bT^j:=fun j=>by rw[J];exact gt _ (hS av (gi (by decide)))
 have bN:∀j,X (j+1)% (V*bT^j)=X j:=fun j=>by
  rw[J,J,hp];exact Nat.mul_dvd_mul_left _ (hB _ (by omega))
 have bM:∀j,X (j+1)/bT^j/V=ae bT (a/b) j:=fun j=>by
  rw[J,<-(yE (B:=bT) (R:=a*f% (V*bT^(j+1))) (V:=V) (j:=j)).2,gj,<-gx,Nat.mod_mul_right_div_self,<-g7,I,Nat.mul_div_mul_right _ _ f0,ae]
 have a7:=fun j(h:j<=m)=>azZ (X (j+1)/bT^j) V (c+1) j n .grow l (ae bT (X (j+1))) (by omega) (by rw[aj];exact aY) (by rw[aD,hP];exact f4) (by rw[gc (gi (by decide)),gx,fw bT,<-gj];exact Y (j+1)) (by omega) (by omega) (fun i hi=>(rr (B:=bT) _ _ _).symm);simp only[eT,Su,aj]at a7;rw[show(e9 (m+1) (AV.p (PV.int dp 0)))=dt (m+1) (qT (a/b) (m+1))from NW];rw[show(cR (c+1) fun k=>(ae bT (a*f) k:Nat))=cR (c+1) fun k=>(ae bT (X (m+1)) k:Nat)by rw[J,bL]];refine sC (fun s'=>∃bq,aS s'.env 8=.sl 0 0 1 0 1/\aS s'.env 10=.p (.int .i64 n)/\aS s'.env 11=.sl 2 l 1 0 (c+1)/\aS s'.env 12=.sl 3 0 1 0 (m+1)/\s'.heap=[.arr .frozen 0 1 [.p (.int .i64 f)],bq,.arr .grow l 1 (cR (c+1) fun k=>(ae bT (X 0) k:Nat)),.arr .exact 0 1 (dt (m+1) (ae bT (a/b)))]) ?_ ?_
 ·refine lp (α:=Nat) (fun j=>⟨[(13,.p (.int .i64 ((j:Int)-1))),(12,.sl 3 0 1 0 (m+1)),(11,.sl 2 l 1 0 (c+1)),(10,.p (.int .i64 n)),(9,.p (.seq (s.map fun x:Nat=>.int .i64 x))),(8,.sl 0 0 1 0 1)],[.arr .frozen 0 1 [.p (.int .i64 f)],.hole,.arr .grow l 1 (cR (c+1) fun k=>(ae bT (X j) k:Nat)),.arr .exact 0 1 (dt (m+1) (qT (a/b) j))]⟩)
   (fun j=>j<=m+1) (fun j=>j) (m+1) (g8 _) ?_ (he:=by simp[E,P,Q,F])
  intro j cZ;rcases j with _|j
  ·simp[NU]
  ·obtain⟨t,aN,am,an,bG⟩:=a7 j (by omega);have bZ:¬(j:Int)<0:=by omega
   have bK:X (j+1)/bT^j<bT^(n+1):=by
    rw[gc (gi (by decide)),<-hb];refine gg (Y (j+1)) ?_;rw[show n+1+j=n+(j+1)by omega,hb bT n (j+1)];exact gb _ (hH W)
   obtain⟨R,bI,bJ⟩:=ZX av W bK aN am;have ij:=fun i(hi:i<=n)=>Ml (i:=i) bI hi;have aw:∀i,ae bT (X (j+1)/bT^j) i=ae bT (X (j+1)) (j+i):=fun i=>rr _ _ _;have dl:((n:Nat):Int).toNat=n:=by omega
   simp[-bt];rw[bt,bt];simp[-bt,bZ];rw[bt,Me,bt];simp[-bt];refine cf bG [2] ?_;simp[-bt,sig,bf];rw[bt];simp[-bt];rw[bt,bt];simp[-bt];have aX:∀i(h:i<s.length),s[i]=ae bT V i:=fun i h=>by
    have:=eD bd (n:=V) (i:=i) (by rw[aj];exact h);simp only[aj]at this;exact this
   have aV:X (j+1)/bT^j/V=ae bT (a/b) j:=bM j;have c0:(j:Int)<=400000:=by omega
   have da:(n:Int)<=400001:=by omega
   have a6:∀g:Nat->Int,(∀k,k<c+1->g k=if k=j+n then 0 else if j<=k/\k<j+n then(ae bT (X (j+1)/bT^j% V) (k-j):Nat)else(ae bT (X (j+1)) k:Nat))->cR (c+1) g=cR (c+1) fun k=>(ae bT (X j) k:Nat):=fun g ay=>by
    rw[Y5 av W (Y (j+1)) ay,bN]
   have co:cR (c+1) (gn (X (j+1)) R j 0)=cR (c+1) fun k=>(ae bT (X (j+1)) k:Nat):=Ni fun k _=>win_zero;refine lp (α:=Nat) (fun i=>⟨[(16,.p (.int .i64 i)),(15,.p (.int .i64 (gA V R t i:Nat))),(14,.p (.int .i64 t)),(13,.p (.int .i64 j)),(12,.sl 3 0 1 0 (m+1)),(11,.sl 2 l 1 0 (c+1)),(10,.p (.int .i64 n)),(9,.p (.seq (s.map fun x:Nat=>.int .i64 x))),(8,.sl 0 0 1 0 1)],[.arr .frozen 0 1 [.p (.int .i64 f)],.hole,.arr .grow l 1 (cR (c+1) (gn (X (j+1)) R j i)),.arr .exact 0 1 (dt (m+1) (qT (a/b) (j+1)))]⟩)
    (fun i=>i<=n) (fun i=>n-i) 0 (hv _) ?_ (he:=by simp[Zt]) (hh:=by simp[co])
   intro i hi;have bx:dp.wrap ((i:Int)+j)=(i:Int)+j:=aQ _ (by omega) (by omega);have bv:((i:Int)+j).toNat=i+j:=by omega
   have bp:¬((i:Int)+j<0):=by omega
   have bw:dp.wrap ((i:Int)+1)=(i:Int)+1:=aQ _ (by omega) (by omega)
   by_cases aq:i<n
   ·have a9:(i:Int)<n:=by omega
    have ac:i<s.length:=by omega
    have aF:=aX i ac;have aO:=ij i hi;rw[aw]at aO;have br:=ct bd (X (j+1)) (j+i);have cx:=ct bd R i;have cy:=ct bd V i;obtain⟨p,q,ak,s1,s2,bs,bu,di,dk,cB⟩:=aKX (by rw[<-Nat.add_assoc];exact aO) cx br an cy ZW;have bn:gn (X (j+1)) R j i (i+j)=(ae bT (X (j+1)) (j+i):Nat):=by rw[g9 i j,DW]
    have a8:0<=(i:Int)+j:=by omega
    have get:(cR (c+1) (gn (X (j+1)) R j i))[i+j]?=some (.p (.int .i64 (ae bT (X (j+1)) (j+i):Nat))):=by
     rw[aKy _ (by omega),g9 i j,DW]
    have set:(cR (c+1) (gn (X (j+1)) R j i)).set (i+j) (.p (.int .i64 (ae bT R i:Nat)))=cR (c+1) (gn (X (j+1)) R j (i+1)):=by
     rw[g9 i j];exact vZ _ _ aLF fun k _ hk=>aLG hk
    have ab:i+j<c+1:=by omega
    have bk:s[i]?=some (ae bT V i):=by rw[eq ac,aF]
    generalize ae bT (X (j+1)) (j+i)=w at*;generalize ae bT V i=v at*;generalize ae bT R i=r at*;generalize gA V R t i=cT at*;generalize a3:gA V R t (i+1)=cU at*;have cd:¬(r:Int)<0:=by omega
    have bB:dp.wrap ((w:Int)-ak)=(w:Int)-ak:=aQ _ (by omega) (by omega);have bA:dp.wrap (q:Int)=q:=aQ _ (by omega) (by omega);have aU:dp.wrap ((q:Int)+1)=(q:Int)+1:=aQ _ (by omega) (by omega);rcases cB with⟨c1,c2,c3⟩|⟨c1,c2,c3⟩
    ·have wr:dp.wrap ((w:Int)-ak+1000000000)=r:=by rw[c2];exact aQ _ (by omega) (by omega)
     simp[a9,bx,bv,bp,ac,aF,bk,s1,s2,bs,bu,ab,get,bn,a8,mi,bB,c1,wr,aU,set,bw,aa,aL,bF];exact rd (i+1) (show i+1<=n by omega) (he:=by simp[a3,c3,bA,aU])
    ·have wr:dp.wrap ((w:Int)-ak)=r:=by rw[bB,c2]
     simp[a9,bx,bv,bp,ac,aF,bk,s1,s2,bs,bu,ab,get,bn,a8,mi,c1,wr,cd,set,bw,aa,aL,bF];exact rd (i+1) (show i+1<=n by omega) (he:=by simp[a3,c3,bA,aU])
   ·have bY:i=n:=by omega
    subst bY;have aT:dp.wrap ((j:Int)+i)=(j:Int)+i:=aQ _ (by omega) (by omega);have aP:((j:Int)+i).toNat=j+i:=by omega
    have aH:0<=(j:Int)+i:=by omega
    have az:j+i<c+1:=by omega
    have bm:gn (X (j+1)) R j i (j+i)=(ae bT (X (j+1)) (j+i):Nat):=DW;have br:=ct bd (X (j+1)) (j+i);have aR:dp.wrap ((j:Int)-1)=(j:Int)-1:=aQ _ (by omega) (by omega);rcases bJ with⟨aK,U,aM⟩|⟨aK,U,aM,cA⟩
    ·rw[aw]at U;rw[U];generalize ae bT (X (j+1)) (j+i)=w at*;have ao:dp.wrap 0=0:=rfl;have al:dp.wrap ((w:Int)-w)=0:=by rw[Int.sub_self];rfl
     have aE:t=ae bT (a/b) j:=by rw[aK,aV]
     have aJ:(dt (m+1) (qT (a/b) (j+1))).set j (.p (.int .i64 t))=dt (m+1) (qT (a/b) j):=by rw[aE];exact D6
     have fs:(cR (c+1) (gn (X (j+1)) R j i)).set (j+i) (.p (.int .i64 0))=cR (c+1) fun k=>(ae bT (X j) k:Nat):=by
      rw[vZ _ (fun k=>if k=j+i then 0 else gn (X (j+1)) R j i k) (if_pos rfl) (fun k _ hk=>if_neg hk)];refine a6 _ fun k _=>?_
      by_cases hk:k=j+i
      ·rw[if_pos hk,if_pos hk];rfl
      ·rw[if_neg hk,if_neg hk,gn]
       by_cases z:j<=k/\k<j+i
       ·rw[if_pos z,if_pos z,aM (k-j) (by omega)]
       ·rw[if_neg z,if_neg z]
     have ad:j<m+1:=by omega
     have cb:¬((ae bT (X j) (j+i):Nat):Int)<0:=by omega
     simp[aT,aP,aH,az,bm,mi,vS,al,ao,aR,ad,cb,fs,aJ,aa,aL,bF];exact rd j (show j<=m+1 by omega)
    ·rw[aw]at U;rw[U];generalize ae bT (X (j+1)) (j+i)=w at*;have ao:dp.wrap 0=0:=rfl;have al:dp.wrap ((w:Int)-((w+1:Nat):Int))= -1:=by rw[show(w:Int)-((w+1:Nat):Int)= -1 by omega];rfl
     have cE:dp.wrap (-1)= -1:=rfl;have fs:(cR (c+1) (gn (X (j+1)) R j i)).set (j+i) (.p (.int .i64 (-1)))=cR (c+1) (gR (X (j+1)) R (R+V) j i 0):=by
      refine vZ _ _ (by rw[gR,if_pos rfl]) fun k _ hk=>?_;rw[gR,if_neg hk,if_neg (by omega)]
     have aE:(t:Int)-1=ae bT (a/b) j:=by rw[aK,aV];omega
     have cP:dp.wrap ((t:Int)-1)=ae bT (a/b) j:=by rw[aE];have:=ct bd (a/b) j;exact aQ _ (by omega) (by omega)
     have ad:j<m+1:=by omega
     have cq:gR (X (j+1)) R (R+V) j i 0 (j+i)= -1:=by rw[gR,if_pos rfl]
     push_cast at al;simp[aT,aP,aH,az,bm,mi,vS,al,ao,cE,cP,aR,ad,fs,cq,aa,aL,bF];refine lp (α:=Nat) (fun k=>⟨[(20,.p (.int .i64 k)),(19,.p (.int .i64 (dj bT R V k:Nat))),(14,.p (.int .i64 (ae bT (a/b) j:Nat))),(13,.p (.int .i64 j)),(12,.sl 3 0 1 0 (m+1)),(11,.sl 2 l 1 0 (c+1)),(10,.p (.int .i64 i)),(9,.p (.seq (s.map fun x:Nat=>.int .i64 x))),(8,.sl 0 0 1 0 1)],[.arr .frozen 0 1 [.p (.int .i64 f)],.hole,.arr .grow l 1 (cR (c+1) (gR (X (j+1)) R (R+V) j i k)),.arr .exact 0 1 (dt (m+1) (qT (a/b) (j+1)))]⟩)
      (fun k=>k<=i) (fun k=>i-k) 0 (hv _) ?_ (he:=by simp[yx])
     intro k hk;have cK:dp.wrap ((k:Int)+j)=(k:Int)+j:=aQ _ (by omega) (by omega);have cD:((k:Int)+j).toNat=k+j:=by omega
     have cw:0<=(k:Int)+j:=by omega
     have cJ:dp.wrap ((k:Int)+1)=(k:Int)+1:=aQ _ (by omega) (by omega);obtain⟨q1,cz⟩:=qW bd R V k;have de:=mh bd R V k;have q4:=mh bd R V (k+1);have df:=ct bd R k;have dg:=ct bd V k
     by_cases ba:k<i
     ·have b1:(k:Int)<i:=by omega
      have aA:k<s.length:=by omega
      have bl:=aX k aA;have cn:s[k]?=some (ae bT V k):=by rw[eq aA,bl]
      have b4:k+j<c+1:=by omega
      have ay:gR (X (j+1)) R (R+V) j i k (k+j)=(ae bT R k:Nat):=by rw[g9 k j,aLC ba]
      have aO:(cR (c+1) (gR (X (j+1)) R (R+V) j i k)).set (k+j) (.p (.int .i64 (ae bT (R+V) k:Nat)))=cR (c+1) (gR (X (j+1)) R (R+V) j i (k+1)):=by
       rw[g9 k j];exact vZ _ _ (aLD ba) fun x _ hx=>aLE hx
      have aN:((ae bT R k:Nat):Int)+(ae bT V k:Nat)+(dj bT R V k:Nat)=((ae bT R k+ae bT V k+dj bT R V k:Nat):Int):=by omega
      have am:((ae bT R k+ae bT V k+dj bT R V k:Nat):Int).tmod 1000000000=(ae bT (R+V) k:Nat):=by
       rw[<-q1,dz (dq _),ec];rfl
      have an:((ae bT R k+ae bT V k+dj bT R V k:Nat):Int).tdiv 1000000000=(dj bT R V (k+1):Nat):=by
       rw[<-cz,ea (dq _),ed];rfl
      rw[<-aN]at am an;have w1:dp.wrap ((ae bT R k:Nat)+(ae bT V k:Nat))=(ae bT R k:Nat)+(ae bT V k:Nat):=aQ _ (by omega) (by omega);have cF:dp.wrap ((ae bT R k:Nat)+(ae bT V k:Nat)+(dj bT R V k:Nat))=(ae bT R k:Nat)+(ae bT V k:Nat)+(dj bT R V k:Nat):=aQ _ (by omega) (by omega);have cG:dp.wrap (ae bT (R+V) k:Nat)=(ae bT (R+V) k:Nat):=by have:=ct bd (R+V) k;exact aQ _ (by omega) (by omega)
      have cH:dp.wrap (dj bT R V (k+1):Nat)=(dj bT R V (k+1):Nat):=aQ _ (by omega) (by omega);simp[b1,aA,bl,cn,cK,cD,cw,b4,ay,aO,mi,w1,cF,cG,cH,am,an,cJ,aa,aL,bF];exact rd (k+1) (show k+1<=i by omega)
     ·have b3:k=i:=by omega
      subst b3;have cr:gR (X (j+1)) R (R+V) j k k (j+k)= -1:=by rw[gR,if_pos rfl]
      have cC:dp.wrap (-1+1)=0:=rfl;have aJ:(dt (m+1) (qT (a/b) (j+1))).set j (.p (.int .i64 (ae bT (a/b) j:Nat)))=dt (m+1) (qT (a/b) j):=D6;have bD:(cR (c+1) (gR (X (j+1)) R (R+V) j k k)).set (j+k) (.p (.int .i64 0))=cR (c+1) fun k=>(ae bT (X j) k:Nat):=by
       rw[vZ _ (fun x=>if x=j+k then 0 else gR (X (j+1)) R (R+V) j k k x) (if_pos rfl) (fun x _ hx=>if_neg hx)];refine a6 _ fun x _=>?_
       by_cases hk:x=j+k
       ·rw[if_pos hk,if_pos hk];rfl
       ·rw[if_neg hk,if_neg hk,gR,if_neg hk]
        by_cases z:j<=x/\x<j+k
        ·rw[if_pos z,if_pos z,cA (x-j) (by omega)]
        ·rw[if_neg z,if_neg z,gn,if_neg z]
      rw[aM];simp[aT,aP,aH,az,cr,mi,vS,cC,ao,aR,ad,bD,aJ,aa,aL,bF];exact rd j (show j<=m+1 by omega)
 rintro⟨bC,bV⟩ ⟨bq,E,P,Q,F,T⟩;dsimp only at E P Q F T;subst T;have aZ:X 0=a% b*f:=by rw[J,ha,hw,I,Nat.mul_mod_mul_right]
 have bH:a/b<bT^(m+1):=by
  rw[gc K];refine gg a2 ?_;rw[show c=m+1+k by omega,hb];exact hn _ ax
 obtain⟨dd,bb,b8,aW⟩:=Oz (m:=m+1) (N:=a/b) bH (by omega);have a0:X 0<bT^n:=gg (by have:=Y 0;rwa [ha,hw]at this) (hH W);obtain⟨O,c8,af,b9,au⟩:∃O:List Nat,O=(ew (c+1)).map (ae bT (X 0))/\O.length=c+1/\dt (c+1) (ae bT (X 0))=O.map (AV.p∘fun x:Nat=>PV.int .i64 x)/\ar prog 309 [.seq (iP (O.take n))] (eT (X 0)):=by
  refine⟨_,rfl,by simp,CQ _ _,?_⟩;have e:((ew (c+1)).map (ae bT (X 0))).take n=(ew n).map (ae bT (X 0)):=NA (by omega) fun k hk=>rfl;rw[e];have H:=tZ ((ew n).map (ae bT (X 0))) (by simp;omega);rw[show ey ((ew n).map (ae bT (X 0)))=aB bT (X 0)from jH bd a0]at H;exact H
 have L:=Kc (X 0) f f0 f1 (by
  have:=dO bd n (X 0) a0;omega)
 rw[aZ,Nat.mul_div_cancel _ f0]at L;rw[aZ]at au;rw[<-Su,b9,b8]at*;simp only[eT,cu,cv,iP]at aW au L⊢;have aC:¬O=[]:=by intro h;rw[h]at af;simp at af
 have bc:n<=c+1:=by omega
 simp[E,P,Q,F,af,aC,bc];refine ep au (by simp[af,bc,aC];first|exact⟨rfl,rfl⟩|rfl) (by simp[aC];first|exact⟨rfl,rfl⟩|rfl) ?_ (h1:=by simp[List.map_take]);simp[E,aa,aL,bF];refine e2 L ?_;simp[F];refine⟨by repeat' first|rfl|apply And.intro,?_⟩;refine cp aW (by simp[bb];first|exact⟨rfl,rfl⟩|rfl) ?_ (h1:=by simp[e6,bb]);simp
theorem W7(n:Nat):ey (aB bT n)=aB bT n:=by
 have h:=Dx bd (l:=aB bT n) (fun d a=>by
  obtain⟨i,hi,rfl⟩:=List.getElem_of_mem a;rw[eD bd hi];exact ct bd _ _)
 rw[<-h,LR bd]
theorem qU(neg:Bool)(n:Nat)(h:(aB bT n).length<=1048576):ar prog 254 [.bool neg,eT n] (eG (if neg=true then -(n:Int)else n)):=C0 neg (aB bT n) n (W7 n) h
theorem Mg(a b:Nat)(g:(aB bT a).length<=400000)(h:(aB bT b).length<=400000):ar prog 251 [eT a,eT b] (eT (hD a b)):=by
 refine aI nf O1 mix (by simp[f251]) ?_;simp[f251];refine lp (α:=Nat×Nat) (fun x=>⟨[(1,.p (eT x.2)),(0,.p (eT x.1))],[]⟩)
  (fun x=>(aB bT x.1).length<=400000/\(aB bT x.2).length<=400000/\hD x.1 x.2=hD a b) (fun x=>x.2) (a,b) ⟨g,h,rfl⟩ ?_
 rintro⟨x,y⟩ ⟨e,d,c⟩;dsimp only at e d c
 by_cases hy:y=0
 ·subst hy;rw[hO]at c;rw[<-c];simp[eT,Av]
 ·have i:0<(aB bT y).length:=by
   rw[fb,Ne,vE];exact hy
  have f:=Ej x y (by omega) e d;have j:=gt x (show 0<y by omega);simp[eT,i];refine c2 f ?_;simp;exact rd (y,x% y) ⟨d,by have:=dO bd _ _ (gE j (cm bd y));dsimp only;omega,by rw[<-c,hr y,<-hU,hr]⟩ (by dsimp only;omega) (he:=by simp[eT])
theorem anS(a b:Nat)(h:a<9223372036854775808)(i:b<9223372036854775808):ar prog 247 [.int .i64 a,.int .i64 b] (.int .i64 (hD a b:Nat)):=by
 refine aI nf O4 mix (by simp[f247]) ?_;simp[f247];refine lp (α:=Nat×Nat) (fun x=>⟨[(1,.p (.int .i64 x.2)),(0,.p (.int .i64 x.1))],[]⟩)
  (fun x=>x.1<9223372036854775808/\x.2<9223372036854775808/\hD x.1 x.2=hD a b) (fun x=>x.2) (a,b) ⟨h,i,rfl⟩ ?_
 rintro⟨x,y⟩ ⟨g,d,c⟩;dsimp only at g d c
 by_cases f:y=0
 ·subst f;rw[hO]at c;rw[<-c];simp
 ·have m:(0:Int)<y:=by omega
  have e:0<y:=by omega
  have o:¬(y:Int)=0:=by omega
  have n:=gt x e;have k:(x:Int).tmod y=(x% y:Nat):=by rw[dz (dq _),ec]
  have l:dp.wrap ((x% y:Nat):Int)=(x% y:Nat):=aQ _ (by omega) (by omega);generalize j:x% y=r at*;simp[e,f,k,l];exact rd (y,r) ⟨d,by dsimp only;omega,by rw[<-c,<-j,hr y,<-hU,hr]⟩ (by dsimp only;omega)
theorem ZS{B a b x y K:Nat}(c:2<=B)(d:a<B^x)(e:b<B^y)(f:B^x<=B^K)(g:B^y<=B^K):a+b<B^(K+1):=by
 rw[gj];have:=hn (B^K) c;omega
theorem ZR{a b K:Nat}(g:(aB bT a).length<=K)(h:(aB bT b).length<=K):(aB bT (a+b)).length<=K+1:=by
 have c:=cm bd a;have d:=cm bd b;have e:=gm (show 0<bT by decide) g;have f:=gm (show 0<bT by decide) h;exact dO bd (K+1) (a+b) (ZS bd c d e f)
theorem arX(a b:Int)(l:(aB bT a.natAbs).length<=400000)(o:(aB bT b.natAbs).length<=400000):ar prog 161 [eG a,eG b] (eG (a+b)):=by
 have m:=afO a.natAbs b.natAbs (by omega) (by omega);have k:=Kd a.natAbs b.natAbs (by omega) (by omega);have q:(aB bT (a.natAbs+b.natAbs)).length<=1048576:=by
  have r:=ZR l o;omega
 refine aI nf H8 mix (by simp[f161]) ?_
 by_cases hs:(a<0↔b<0)
 ·have t:(decide (a<0)==decide (b<0))=true:=by simp[hs]
  have d:=qU (decide (a<0)) (a.natAbs+b.natAbs) q;have f:(if decide (a<0)=true then -((a.natAbs+b.natAbs:Nat):Int)else((a.natAbs+b.natAbs:Nat):Int))=a+b:=by
   by_cases h:a<0
   ·have:=hs.1 h;simp[h];omega
   ·have:¬b<0:=fun c=>h (hs.2 c);simp[h];omega
  rw[f]at d;generalize a+b=s at*;generalize a.natAbs+b.natAbs=n at*;have g:(a<0↔b<0)=True:=eq_true hs;simp only[eG]at d⊢;simp[f161,g,aa];refine e2 m ?_;simp[aa];refine e2 d ?_;simp[aa]
 ·have g:(a<0↔b<0)=False:=eq_false hs
  by_cases p:b.natAbs<=a.natAbs
  ·have i:0<=fS a.natAbs b.natAbs:=by
    have:=pS (a:=a.natAbs) (b:=b.natAbs);omega
   have j:=OA a.natAbs b.natAbs p (by omega);have d:=qU (decide (a<0)) (a.natAbs-b.natAbs) (by
    have:=dO bd _ _ (g6 (hN a.natAbs b.natAbs) (cm bd a.natAbs));omega)
   have f:(if decide (a<0)=true then -((a.natAbs-b.natAbs:Nat):Int)else((a.natAbs-b.natAbs:Nat):Int))=a+b:=by
    by_cases h:a<0
    ·have:¬b<0:=fun c=>hs ⟨fun _=>c,fun _=>h⟩;simp[h];omega
    ·have:b<0:=by
      rcases en b 0 with c|c
      ·exact c
      ·exact(hs ⟨fun e=>(h e).elim,fun e=>by omega⟩).elim
     simp[h];omega
   rw[f]at d;generalize a+b=s at*;generalize a.natAbs-b.natAbs=n at*;simp only[eG]at d⊢;simp[f161,g,aa];refine c2 k ?_;simp[i,aa];refine e2 j ?_;simp[aa];refine e2 d ?_;simp[aa]
  ·have i:¬0<=fS a.natAbs b.natAbs:=by
    have:=pS (a:=a.natAbs) (b:=b.natAbs);omega
   have j:=OA b.natAbs a.natAbs (by omega) (by omega);have d:=qU (decide (b<0)) (b.natAbs-a.natAbs) (by
    have:=dO bd _ _ (g6 (hN b.natAbs a.natAbs) (cm bd b.natAbs));omega)
   have f:(if decide (b<0)=true then -((b.natAbs-a.natAbs:Nat):Int)else((b.natAbs-a.natAbs:Nat):Int))=a+b:=by
    by_cases h:b<0
    ·have:¬a<0:=fun c=>hs ⟨fun _=>h,fun _=>c⟩;simp[h];omega
    ·have:a<0:=by
      rcases en a 0 with c|c
      ·exact c
      ·exact(hs ⟨fun e=>by omega,fun e=>(h e).elim⟩).elim
     simp[h];omega
   rw[f]at d;generalize a+b=s at*;generalize b.natAbs-a.natAbs=n at*;simp only[eG]at d⊢;simp[f161,g,aa];refine c2 k ?_;simp[i,aa];refine e2 j ?_;simp[aa];refine e2 d ?_;simp[aa]
theorem OB(a:Int)(d:(aB bT a.natAbs).length<=400000):ar prog 250 [eG a] (eG (-a)):=by
 have b:=qU (!decide (a<0)) a.natAbs (by omega);have c:(if(!decide (a<0))=true then -((a.natAbs:Nat):Int)else(a.natAbs:Nat))= -a:=by
  by_cases h:a<0
  ·simp[h];omega
  ·simp[h];omega
 rw[c]at b;refine aI nf O2 mix (by simp[f250]) ?_;generalize -a=s at*;simp only[eG]at b⊢;simp[f250,aa];refine c2 b ?_;simp[aa]
theorem v7(a b:Int)(g:(aB bT a.natAbs).length+(aB bT b.natAbs).length<=1000000):ar prog 162 [eG a,eG b] (eG (a*b)):=by
 have f:=Ei a.natAbs b.natAbs g;have j:(aB bT (a.natAbs*b.natAbs)).length<=1000000:=by
  have c:=cm bd a.natAbs;have d:=cm bd b.natAbs;have i:=dO bd ((aB bT a.natAbs).length+(aB bT b.natAbs).length) (a.natAbs*b.natAbs) (by rw[hb];exact ht c d);omega
 have e:=qU ((!(decide (a<0)==decide (b<0)))) (a.natAbs*b.natAbs) (by omega);have h:(if(!(decide (a<0)==decide (b<0)))=true then -((a.natAbs*b.natAbs:Nat):Int)else((a.natAbs*b.natAbs:Nat):Int))=a*b:=by
  by_cases c:a<0<;>by_cases d:b<0
  ·simp[c,d];rw[eb (ej c),eb (ej d),Int.neg_mul_neg]
  ·simp[c,d];rw[eb (ej c),ee (by omega),Int.neg_mul,eo]
  ·simp[c,d];rw[eb (ej d),ee (by omega),Int.mul_neg,eo]
  ·simp[c,d];rw[ee (by omega),ee (by omega)]
 rw[h]at e;refine aI nf Qx mix (by simp[f162]) ?_;generalize a*b=s at*;generalize a.natAbs*b.natAbs=n at*;generalize hx:(!(decide (a<0)==decide (b<0)))=x at*;simp only[eG]at e⊢;simp[f162,aa];refine e2 f ?_;simp[hx,aa];refine e2 e ?_;simp[aa]
theorem XR:∀d:Nat,d<10->fv d (fd (d+1) [48,49,50,51,52,53,54,55,56,57])=[48+d]:=by decide
theorem yF(n a:Nat)(D:n<9223372036854775808)(I:a<=1000):ar prog 248 [.int .i64 n,.int .i64 a] (.str (low (max a (nd n)) n)):=by
 have K:nd n<=19:=sd (gE D (by decide));refine aI nf Oi mix (by simp[f248]) ?_;obtain⟨L,e⟩:∃L,L=max a (nd n):=⟨_,rfl⟩
 rw[<-e];obtain⟨g,b⟩:∃g:Nat->Nat,∀i,n/10^i=g i:=⟨_,fun _=>rfl⟩
 have A:g 0=n:=by rw[<-b,ha,hA]
 simp[f248];refine lp (α:=Nat) (fun i=>⟨[(0,.p (.int .i64 (g i:Nat))),(5,.p (.str (low i n))),(1,.p (.int .i64 a))],[]⟩)
  (fun i=>i<=L) (fun i=>L-i) 0 (hv _) ?_ (he:=by simp[low,A])
 intro i hi;have q:low (i+1) n=(48+g i% 10)::low i n:=by
  rw[g9,rC,b,tI];rfl
 have hq:g (i+1)=g i/10:=by rw[<-b,<-b,gj,g7]
 have M:g i<=n:=by rw[<-b];exact hC _ _
 have E:0<g i↔i<nd n:=by
  rw[<-b,oO,Nat.div_pos_iff];have:=gi (n:=i) (show 0<10 by decide);omega
 have l:=rB n i;have j:=XR (g i% 10) (gt _ (by decide));have f:i<L↔0<g i\/i<a:=by rw[E,e];omega
 have F:=gt (g i) (show 0<10 by decide);have r:(g i:Int).tmod 10=(g i% 10:Nat):=by rw[dz (dq _),ec];rfl
 have t:(g i:Int).tdiv 10=(g (i+1):Nat):=by rw[hq,ea (dq _),ed (g i)];rfl
 have G:L<=1000:=by rw[e];omega
 generalize g i% 10=d at*;have m:fv d (48::fd d [49,50,51,52,53,54,55,56,57])=[48+d]:=j;generalize N:g i=z at*;generalize y:g (i+1)=z2 at*;generalize hs:low i n=s at*;have x:dp.wrap (z2:Int)=z2:=aQ _ (by omega) (by omega);have v:dp.wrap (d:Int)=d:=aQ _ (by omega) (by omega);have w:dp.wrap ((d:Int)+1)=d+1:=aQ _ (by omega) (by omega);have u:((d:Int)+1).toNat=d+1:=by omega
 have J:min (d+1) 10-d+i<9223372036854775808:=by omega
 have H:(0:Int)<=d+1/\(d:Int)+1<=10/\(d:Int)<=max (d+1) 0:=by omega
 by_cases k:i<L
 ·by_cases c:0<z
  ·simp[c,r,t,x,v,w,u,j,l];refine⟨by omega,by omega,?_⟩;exact rd (i+1) (show i+1<=L by omega) (he:=by simp[y,q,m])
  ·have o:i<a:=by rcases f.1 k with h|h;exact(c h).elim;exact h
   simp[c,o,r,t,x,v,w,u,j,l];refine⟨by omega,by omega,?_⟩;exact rd (i+1) (show i+1<=L by omega) (he:=by simp[y,q,m])
 ·have c:¬0<z:=fun h=>k (f.2 (.inl h));have o:¬i<a:=fun h=>k (f.2 (.inr h));have B:s=low L n:=by rw[<-hs];congr 1;omega
  have C:¬L<a:=by omega
  simp[c,C,l,B,rB]
theorem Yl{n i:Nat}(h:bT^(i+1)<=n):bh (n/bT^i)=bh (n/bT^(i+1))++low 9 (ae bT n i):=by
 have c:0<bT^i:=gi (by decide);have b:10^9<=n/bT^i:=by
  rw[hJ c,fw];rw[gj]at h;exact h
 have a:=YT b;have e1:n/bT^i/10^9=n/bT^(i+1):=by rw[g7,gj];rfl
 have e2:n/bT^i% 10^9=ae bT n i:=rfl;rw[e1,e2]at a;have d:0<n/bT^i:=gg (by decide) b;have e:0<n/bT^(i+1):=hz h (gi (by decide));rw[bh,bh,show max 1 (nd (n/bT^i))=nd (n/bT^i)by have:=zZ d;omega,show max 1 (nd (n/bT^(i+1)))=nd (n/bT^(i+1))by have:=zZ e;omega,a]
theorem DG(z:Int)(B:(aB bT z.natAbs).length<=1000000):ar prog 253 [eG z] (.str (bN z)):=by
 refine aI nf O0 mix (by simp[f253]) ?_
 by_cases G:z=0
 ·subst G;have v:bN 0=[48]:=by rw[show(0:Int)=((0:Nat):Int)from rfl,vr,q7]
  simp[f253,eG,eT,Av,aa,v]
 obtain⟨n,f⟩:∃n,z.natAbs=n:=⟨_,rfl⟩
 have M:0<n:=by omega
 have L:0<(aB bT n).length:=by
  rw[fb,Ne,vE];omega
 obtain⟨k,hk⟩:∃k,(aB bT n).length=k+1:=⟨(aB bT n).length-1,by omega⟩
 have g:=cm bd n;rw[hk]at g;have q:bT^k<=n:=by
  rcases gw n (bT^k)with h|h
  ·have:=dO bd k n h;omega
  ·exact h
 have m:∀i(h:i<(aB bT n).length),(aB bT n)[i]=ae bT n i:=fun i h=>eD bd h;have r:n/bT^k=ae bT n k:=by
  rw[ae,ge];rw[gc (gi (by decide)),fw,<-gj];exact g
 have O:0<ae bT n k:=by rw[<-r];exact hz q (gi (by decide))
 have c:=yF (ae bT n k) 1 (gE (ct bd n k) (by decide)) (by decide);rw[show low (max 1 (nd (ae bT n k))) (ae bT n k)=bh (n/bT^k)by rw[r];rfl]at c;have w:∀i,ar prog 248 [.int .i64 (ae bT n i:Nat),.int .i64 (9:Nat)] (.str (low 9 (ae bT n i))):=fun i=>by
  have h:=yF (ae bT n i) 9 (gE (ct bd n i) (by decide)) (by decide);have J:nd (ae bT n i)<=9:=sd (ct bd n i)
  rwa [show max 9 (nd (ae bT n i))=9 by omega]at h
 have a:bh (n/bT^0)=bh n:=by rw[ha,hA]
 have ij:∀i,i+1<=k->bh (n/bT^i)=bh (n/bT^(i+1))++low 9 (ae bT n i):=fun i hi=>Yl (hg (gm (by decide) hi) q);have K:k<=1000000:=by rw[f]at B;omega
 have D:bN z=if z<0 then 45::bh n else bh n:=by rw[bN,f]
 have N:ae bT n k<bT:=ct bd n k;have C:∀i,ae bT n i<bT:=fun i=>ct bd n i;obtain⟨T,j⟩:∃T:Nat->List Nat,∀i,bh (n/bT^i)=T i:=⟨_,fun _=>rfl⟩
 have l:∀i,(T i).length<=9000000+9:=fun i=>by
  rw[<-j];refine hg (vq (k:=9*(k+1)) ?_ (by omega)) (by omega);rw[Nat.pow_mul];exact g6 (hC _ _) g
 simp only[j]at c a ij;rw[D];simp only[eG,f,eT,<-a];generalize hx:aB bT n=x at*;have w1:dp.wrap ((k:Int)+1-1)=k:=by rw[Int.add_sub_cancel];exact aQ _ (by omega) (by omega)
 have H:dp.wrap (k:Int)=k:=aQ _ (by omega) (by omega);have u:dp.wrap ((k:Int)+1-2)=(k:Int)-1:=by rw[aQ _ (by omega) (by omega)];omega
 have A:¬(k:Int)+1=0:=by omega
 have e:k<x.length:=by omega
 have t:=m k e;have F:x[k]?=some (ae bT n k):=by rw[eq e,t]
 simp[f253,aa,hk,A,w1,H,u,e,t,F];refine c2 c ?_;simp[aa,hk,u];refine lp (α:=Nat) (fun i=>⟨[(4,.p (.int .i64 ((i:Int)-1))),(3,.p (.str (T i))),(1,.ptr 0 [])],[.box false (.p (.st 235 [.bool (decide (z<0)),.seq (x.map fun x:Nat=>.int .i64 x)]))]⟩)
  (fun i=>i<=k) (fun i=>i) k (g8 _) ?_
 rintro i hi;have P:=C i;rcases i with _|i
 ·by_cases o:z<0
  ·have b:=g6 (hK (l 0) 1) (show 9000000+9+1<9223372036854775808 by decide);rw[a,g9]at b;simp[o,aa,a,b]
  ·simp[o,aa,a]
 ·have d:i<x.length:=by omega
  have s:=m i d;have E:x[i]?=some (ae bT n i):=by rw[eq d,s]
  have y:¬(i:Int)<0:=by omega
  have I:dp.wrap ((i:Int)-1)=(i:Int)-1:=aQ _ (by omega) (by omega);have b:=g6 (hK (l (i+1)) 9) (show 9000000+9+9<9223372036854775808 by decide);have aO:=ij i hi;simp[y,aa,d,s,E];refine c2 (w i) ?_;simp[I,rB];refine⟨b,?_⟩;exact rd i (show i<=k by omega) (he:=by simp[aO])
end Go.ah
