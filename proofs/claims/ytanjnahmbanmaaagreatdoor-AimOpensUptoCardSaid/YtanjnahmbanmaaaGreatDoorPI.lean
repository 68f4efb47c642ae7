import Derived.Test.YtanjnahmbanmaaaGreatDoorPH
import Derived.Test.YtanjnahmbanmaaaGreatDoorPG
/- Parts of a proof. -/
set_option linter.unusedSimpArgs false
set_option linter.unusedVariables false
set_option linter.unusedSectionVars false
open Go.Proofs.Tryz
open Go.IntKind renaming i64->dp
open Int renaming natCast_nonneg->dq, tmod_eq_emod_of_nonneg->dz, tdiv_eq_ediv_of_nonneg->ea, ofNat_natAbs_of_nonpos->eb, natCast_emod->ec, natCast_ediv->ed, natAbs_of_nonneg->ee, natCast_mul->ei, le_of_lt->ej, natCast_add->em, lt_or_le->en, neg_neg->eo
open List renaming getElem?_eq_getElem->eq, range->ew, take_of_length_le->e6, getElem_range->e7, getElem_map->e8, replicate->e9, length_pos_iff->fb, take->fd, ext_getElem->fl, map_cons->fm, drop->fv
open Nat renaming mul_comm->fw, mul_le_mul_right->gb, div_lt_iff_lt_mul->gc, mod_eq_of_lt->ge, lt_of_lt_of_le->gg, pow_pos->gi, pow_succ->gj, pow_le_pow_right->gm, mod_lt->gt, lt_or_ge->gx, mul_assoc->gy, div_add_mod->g0, lt_trans->g4, one_mul->g5, mul_add->g6, add_mul->g7, lt_of_le_of_lt->g8, div_div_eq_div_mul->g9, le_refl->ha, add_comm->hb, pow_zero->hd, pow_add->hg, mul_lt_mul_of_pos_right->hj, le_trans->hl, add_mul_mod_self_left->hm, div_eq_of_lt->hn, add_sub_cancel_left->ho, mul_le_mul_left->hp, mul_right_comm->hr, mod_mod_of_dvd->ht, gcd_comm->hu, mul_lt_mul''->hv, lt_of_not_le->hw, zero_le->hz, mul_one->hA, div_pos->hB, div_one->hC, pow_dvd_pow->hD, div_le_self->hE, gcd->hF, mul_le_mul->hG, add_mul_mod_self_right->hH, le_mul_of_pos_right->hJ, le_of_lt->hK, le_div_iff_mul_le->hL, add_le_add_right->hM, div_mul_le_self->hN, div_eq_of_lt_le->hO, sub_le->hP, gcd_zero_right->hQ, add_sub_cancel->hR, sub_mul->hS, pow_one->hT, mul_pos->hU, mod_one->hV, gcd_rec->hW
open Option.some renaming inj->hX
namespace Go.ak
open Go.Proofs
set_option maxHeartbeats 4000000
set_option maxRecDepth 100000
theorem BN(n:Nat)(f:Nat->Nat):dh n f=((ew n).map f).map (AV.p∘fun x:Nat=>PV.int .i64 x):=by
 rw[dh,List.map_map];rfl
theorem UP{n:Nat}{f:Nat->Nat}(h:∀j,f j=0):e9 n (AV.p (.int .i64 0))=dh n f:=by
 rw[Jz];exact ye fun j _=>(h j).symm
theorem Dl(a b:Nat)(w:(aw bT a).length+(aw bT b).length<=1000000):au prog 240 [eT a,eT b] (eT (a*b)):=by
 refine aI nf Mi mix (by simp[f240]) ?_;have Q:∀i(h:i<(aw bT a).length),(aw bT a)[i]=ae bT a i:=fun i h=>ey ba h;have R:∀i(h:i<(aw bT b).length),(aw bT b)[i]=ae bT b i:=fun i h=>ey ba h;have t:=ch ba a;have e:=ch ba b;have V:eg ((ew ((aw bT a).length+(aw bT b).length)).map (ae bT (a*b)))=aw bT (a*b):=jo ba (by
  rw[hg];exact hv t e)
 have c:=sT ((ew ((aw bT a).length+(aw bT b).length)).map (ae bT (a*b))) (by simp;omega);rw[V]at c;have A:bT=1000000000:=rfl;simp only[eT];simp only[iP]at c;generalize aw bT (a*b)=z at*;generalize aw bT a=x at*;generalize aw bT b=y at*;obtain⟨n,d⟩:∃n,x.length=n:=⟨_,rfl⟩
 obtain⟨m,g⟩:∃m,y.length=m:=⟨_,rfl⟩
 rw[d]at t c w;rw[g]at e c w;have B:=BN (n+m) (ae bT (a*b));have u:((ew (n+m)).map (ae bT (a*b))).length=n+m:=by simp
 generalize (ew (n+m)).map (ae bT (a*b))=l at c B u;have U:((n:Int)+m).toNat=n+m:=by omega
 have T:0<=(n:Int)+m:=by omega
 have Z:dp.wrap ((n:Int)+m)=(n:Int)+m:=aP _ (by omega) (by omega);simp[f240,d,g,Z,U,T];refine⟨by simp only[cW];omega,?_⟩;rw[UP (f:=df bT a b 0 0) (by intro j;simp[oJ,hV,ae])];refine lp (α:=Nat) (fun i=>⟨[(6,.p (.int .i64 i)),(5,.sl 0 0 1 0 (n+m)),(1,.p (.seq (y.map fun x:Nat=>.int .i64 x))),(0,.p (.seq (x.map fun x:Nat=>.int .i64 x)))],[.arr .exact 0 1 (dh (n+m) (df bT a b i 0))]⟩)
  (fun i=>i<=n) (fun i=>n-i) 0 (by simp) ?_ (he:=by simp)
 intro i k1;have W:=b9 (i:=i) (by omega)
 by_cases hi:i<n
 ·have r:i<x.length:=by rw[d];exact hi
  have hx:=Q i r;have ac:x[i]?=some (ae bT a i):=by rw[eq r,hx]
  simp[d,hi];refine lp (α:=Nat) (fun j=>⟨[(8,.p (.int .i64 j)),(7,.p (.int .i64 (mulC bT a b i j:Nat))),(6,.p (.int .i64 i)),(5,.sl 0 0 1 0 (n+m)),(1,.p (.seq (y.map fun x:Nat=>.int .i64 x))),(0,.p (.seq (x.map fun x:Nat=>.int .i64 x)))],[.arr .exact 0 1 (dh (n+m) (df bT a b i j))]⟩)
   (fun j=>j<=m) (fun j=>m-j) 0 (by simp) ?_ (he:=by simp[Bn])
  intro j k2;have Y:=b9 (i:=j) (by omega);have H:((i:Int)+j).toNat=i+j:=by omega
  have G:0<=(i:Int)+j:=by omega
  have X:dp.wrap ((i:Int)+j)=(i:Int)+j:=aP _ (by omega) (by omega)
  by_cases F:j<m
  ·have s:j<y.length:=by rw[g];exact F
   have I:=R j s;have ad:y[j]?=some (ae bT b j):=by rw[eq s,I]
   have E:i+j<n+m:=by omega
   have q:=sK (df bT a b i j) E;have o:=B7 ba a b i j;have aj:=sO ba a b i j;have v:=sO ba a b i (j+1);have ak:df bT a b i j (i+j)<bT:=by rw[df];split<;>exact cr ba _ _
   have ao:=cr ba a i;have ap:=cr ba b j;have hs:=Ck (n:=n+m) (i:=i+j) (df bT a b i j) (df bT a b i (j+1)) (fun k _ hk=>It ba hk);rw[J9]at hs;rw[<-o.1]at hs;have an:ae bT a i*ae bT b j<=999999999*999999999:=hG (by omega) (by omega);rw[<-o.2]at v;have M:=o.2;clear o;have N:((ae bT a i:Int)*(ae bT b j:Int))=((ae bT a i*ae bT b j:Nat):Int):=by push_cast;rfl
   generalize ae bT a i*ae bT b j=P at*;generalize df bT a b i j (i+j)=O at*;generalize am:mulC bT a b i j=C at*;have w1:dp.wrap ((ae bT a i:Int)*(ae bT b j:Int))=P:=by rw[N];exact aP _ (by omega) (by omega)
   have ag:dp.wrap ((O:Int)+P)=O+P:=aP _ (by omega) (by omega);have ah:dp.wrap ((O:Int)+P+C)=O+P+C:=aP _ (by omega) (by omega);have J:((O:Int)+P+C).tmod 1000000000=((P+O+C)% bT:Nat):=by
    rw[dz (by omega),A];omega
   generalize (P+O+C)% bT=D at*;have K:((O:Int)+P+C).tdiv 1000000000=(mulC bT a b i (j+1):Nat):=by
    rw[ea (by omega),<-M,A];omega
   have L:dp.wrap ((mulC bT a b i (j+1):Nat):Int)=(mulC bT a b i (j+1):Nat):=aP _ (by omega) (by omega);simp[d,g,F,X,H,G,E,q,hx,ac,I,ad,r,s,w1,ag,ah,J,K,L,hs,aa];exact rd (j+1) (show j+1<=m by omega) (he:=by simp[Y])
  have:j=m:=by omega
  subst this;have ab:dp.wrap ((i:Int)+j)=(i:Int)+j:=aP _ (by omega) (by omega);have al:i+j<n+j:=by omega
  have af:df bT a b i j (i+j)=0:=by
   rw[df,if_neg (by omega)];exact jn (uS ba a i e)
  have q:=sK (df bT a b i j) al;rw[af]at q;have hs:=Ck (n:=n+j) (i:=i+j) (df bT a b i j) (df bT a b (i+1) 0) (fun k _ hk=>by rw[oJ,Ka ba e hk]);rw[oJ,<-G2 ba e]at hs;have v:=sO ba a b i j;have ai:dp.wrap ((mulC bT a b i j:Nat):Int)=(mulC bT a b i j:Nat):=aP _ (by omega) (by omega);simp[g,ab,H,G,hi,al,q,hs,ai,aa];exact rd (i+1) (show i+1<=n by omega) (he:=by simp[W])
 have:i=n:=by omega
 subst this;have S:dh (i+m) (df bT a b i 0)=dh (i+m) (ae bT (a*b)):=ye fun k _=>by rw[oJ,ge t]
 simp[d,S,B];refine cp c (by simp[u];exact⟨rfl,rfl⟩) ?_ (h1:=by simp[e6,u]);simp
theorem Vr{a b i:Nat}(c:0<b):(a/bT^(i+1)% b*bT+ae bT a i)/b=ae bT (a/b) i/\(a/bT^(i+1)% b*bT+ae bT a i)% b=a/bT^i% b:=by
 have e:=rY (B:=bT) a i;have g:=g0 (a/bT^(i+1)) b;have f:a/bT^i=(a/bT^(i+1)% b*bT+ae bT a i)+a/bT^(i+1)/b*bT*b:=by
  rw[e];generalize ae bT a i=d;generalize a/bT^(i+1)/b=Q at*;generalize a/bT^(i+1)% b=R at*;rw[<-g,g7,fw b,hr Q b bT];omega
 have j:(a/bT^(i+1)% b*bT+ae bT a i)/b<bT:=by
  rw[gc c];have k:=cr ba a i;have h:=gb bT (show a/bT^(i+1)% b+1<=b from gt _ c);rw[g7,g5]at h;rw[fw bT];omega
 constructor
 ·conv=>rhs;rw[ae,g9,fw b,<-g9,f,Nat.add_mul_div_right _ _ c,hH,ge j]
 ·rw[f,hH]
theorem zt(r x:Nat):(r:Int)*1000000000+x=((r*bT+x:Nat):Int):=by
 rw[em,ei];rfl
def qT(Q i k:Nat):Nat:=if i<=k then ae bT Q k else 0
theorem C6{m Q i:Nat}:(dh m (qT Q (i+1))).set i (.p (.int .i64 (ae bT Q i:Nat)))=dh m (qT Q i):=by
 have:=Ck (n:=m) (i:=i) (qT Q (i+1)) (qT Q i) (fun k _ hk=>by
  rw[qT,qT]
  by_cases h:i<=k
  ·rw[if_pos h,if_pos (by omega)]
  ·rw[if_neg h,if_neg (by omega)])
 rw[<-this,qT,if_pos (ha _)]
theorem La{m Q:Nat}:dh m (qT Q 0)=dh m (ae bT Q):=ye fun k _=>by rw[qT,if_pos (hz _)]
theorem Lb{m Q:Nat}:e9 m (AV.p (.int .i64 0))=dh m (qT Q m):=by
 rw[Jz];exact ye fun k hk=>by rw[qT,if_neg (by omega)]
theorem LJ{m N:Nat}(h:N<bT^m)(b:m<=1048576):∃l:List Nat,l.length=m/\dh m (ae bT N)=l.map (AV.p∘fun x:Nat=>PV.int .i64 x)/\au prog 296 [.seq (iP l)] (eT N):=by
 refine⟨(ew m).map (ae bT N),by simp,BN m _,?_⟩;have a:=sT ((ew m).map (ae bT N)) (by simp;omega);rw[show eg ((ew m).map (ae bT N))=aw bT N from jo ba h]at a;exact a
theorem HF(a d:Nat)(u:0<d)(W:d<bT)(M:(aw bT a).length<=1000000):au prog 295 [eT a,.int .i64 d] (.aC [eT (a/d),.int .i64 (a% d:Nat)]):=by
 refine aI nf MB mix (by simp[f295]) ?_;have K:∀i(h:i<(aw bT a).length),(aw bT a)[i]=ae bT a i:=fun i h=>ey ba h;have w:=ch ba a;obtain⟨l,o,y,g⟩:=LJ (m:=(aw bT a).length) (N:=a/d) (g8 (hE _ _) w) (by omega);have j:a/bT^(aw bT a).length% d=0:=by rw[hn w,Nat.zero_mod]
 have A:a/bT^0% d=a% d:=by rw[hd,hC]
 have V:bT=1000000000:=rfl;simp only[eT]at g⊢;simp only[iP]at g;generalize aw bT (a/d)=Z at*;generalize aw bT a=x at*;obtain⟨n,q⟩:∃n,x.length=n:=⟨_,rfl⟩
 rw[q]at o y j M;generalize Y:a% d=rem at*;obtain⟨f,hf⟩:∃f:Nat->Nat,∀i,a/bT^i% d=f i:=⟨_,fun _=>rfl⟩
 have z:=fun i=>Vr (a:=a) (b:=d) (i:=i) u;have v:∀i,f i<d:=fun i=>by rw[<-hf];exact gt _ u
 simp only[hf]at j A z;have F:dp.wrap ((n:Int)-1)=n-1:=aP _ (by omega) (by omega);simp[f295,q,F];refine⟨by simp only[cW];omega,?_⟩;rw[Lb (Q:=a/d)];refine lp (α:=Nat) (fun i=>⟨[(8,.p (.int .i64 ((i:Int)-1))),(7,.p (.int .i64 (f i:Nat))),(6,.sl 0 0 1 0 n),(1,.p (.int .i64 d)),(0,.p (.seq (x.map fun x:Nat=>.int .i64 x)))],[.arr .exact 0 1 (dh n (qT (a/d) i))]⟩)
  (fun i=>i<=n) (fun i=>i) n (ha _) ?_ (he:=by simp[j])
 intro i k1
 by_cases hi:0<i
 ·obtain⟨k,rfl⟩:∃k,i=k+1:=⟨i-1,by omega⟩
  have G:dp.wrap ((k:Int)-1)=k-1:=aP _ (by omega) (by omega);have r:k<x.length:=by omega
  have hx:=K k r;have O:x[k]?=some (ae bT a k):=by rw[eq r,hx]
  obtain⟨P,R⟩:=z k;have aN:=C6 (m:=n) (Q:=a/d) (i:=k);have gk:=sK (qT (a/d) (k+1)) (show k<n by omega);have L:k<n:=by omega
  have T:=v (k+1);have X:=cr ba a k;have hq:=cr ba (a/d) k;have U:=v k;generalize f (k+1)=c at*;generalize H:f k=B at*;generalize ae bT a k=e at*;generalize ae bT (a/d) k=s at*;have w1:dp.wrap ((c:Int)*1000000000)=c*1000000000:=aP _ (by omega) (by omega);have S:dp.wrap ((c:Int)*1000000000+e)=c*1000000000+e:=aP _ (by omega) (by omega);have t:(c:Int)*1000000000+e=((c*bT+e:Nat):Int):=zt c e;have C:((c:Int)*1000000000+e).tdiv d=s:=by
   rw[t,ea (dq _),<-ed,P]
  have D:((c:Int)*1000000000+e).tmod d=B:=by
   rw[t,dz (dq _),<-ec,R]
  have E:dp.wrap (s:Int)=s:=aP _ (by omega) (by omega);have I:¬(d:Int)=0:=by omega
  have J:¬d=0:=by omega
  simp[q,G,hx,O,L,r,w1,S,C,D,E,I,J,gk,aN,aa];exact rd k (show k<=n by omega) (he:=by simp[H])
 ·obtain rfl:i=0:=by omega
  simp[La,y,A];refine cp g (by simp[o];exact⟨rfl,rfl⟩) ?_ (h1:=by simp[e6,o]);simp
def ks(a b c:Nat):Nat->Nat->Nat
 |0,_=>0
 |t+1,r=>if bT<=t+1\/r*bT+c<(t+1)*b then(if bT<=r+a then t else ks a b c t (r+a))else t+1
theorem Z6{a b c t r:Nat}(h:0<t):ks a b c t r=if bT<=t\/r*bT+c<t*b then(if bT<=r+a then t-1 else ks a b c (t-1) (r+a))else t:=by
 cases t with
 |zero=>exact absurd h (Nat.lt_irrefl 0)
 |succ t=>rw[ks,hR]
theorem Ir{a b:Nat}(c:a<bT)(d:b<bT):dp.wrap ((a:Int)*b)=(a:Int)*b:=by
 have e:a*b<=999999999*999999999:=hG (by simp only[bT]at c;omega) (by simp only[bT]at d;omega);rw[<-ei];generalize a*b=P at*;exact aP _ (by omega) (by omega)
theorem Qu{a b r w:Nat}:(r:Int)*1000000000+w<(a:Int)*b↔r*bT+w<a*b:=by
 rw[zt,<-ei];exact Int.ofNat_lt
theorem zH{r v:Nat}:(1000000000:Int)<=(r:Int)+v↔bT<=r+v:=by simp only[bT];omega
theorem O2{t:Nat}:(1000000000:Int)<=(t:Int)↔bT<=t:=by simp only[bT];omega
theorem aID{t:Nat}(h:0<t)(a:t<=bT+1):dp.wrap ((t:Int)-1)=((t-1:Nat):Int):=by
 simp only[bT]at a;rw[aP _ (by omega) (by omega)];omega
theorem NL{a v2 w0 w1 w2 Q:Nat}(u:bT<=2*a)(v:a<bT)(m:w0<=a)(w:w1<bT)(s:Q<bT)
 (d:∀q r,q*a+r=w0*bT+w1->q<bT->q*v2<=r*bT+w2->q<=Q+1)(k:∀q r,q*a+r=w0*bT+w1->r*bT+w2<q*v2->Q<q)
 (l:∀q r,bT<=r->q<bT->q*v2<=r*bT+w2):∀t r,t*a+r=w0*bT+w1->Q<=t->r<bT->t<=bT+1->Q<=ks a v2 w2 t r/\ks a v2 w2 t r<=Q+1/\ks a v2 w2 t r<bT
 |0,r,b,c,n,o=>by
  rw[ks];exact⟨c,by omega,by omega⟩
 |t+1,r,b,c,n,o=>by
  rw[ks]
  by_cases hc:bT<=t+1\/r*bT+w2<(t+1)*v2
  ·rw[if_pos hc];have hq:Q<=t:=by
    rcases hc with h|h
    ·omega
    ·have:=k _ _ b h;omega
   have i:t*a+(r+a)=w0*bT+w1:=by rw[g7,g5]at b;omega
   by_cases f:bT<=r+a
   ·rw[if_pos f];have g:t<bT:=by
     rcases gx t bT with h|h
     ·exact h
     ·have e:t=bT:=by omega
      subst e;have:=gb bT m;rw[fw a]at this;omega
    exact⟨hq,d _ _ i g (l _ _ f g),g⟩
   ·rw[if_neg f];exact NL u v m w s d k l t (r+a) i hq (by omega) (by omega)
  ·rw[if_neg hc];have j:t+1<bT:=by
    rcases gx (t+1) bT with h|h
    ·exact h
    ·exact(hc (.inl h)).elim
   have p:(t+1)*v2<=r*bT+w2:=by
    rcases gx (r*bT+w2) ((t+1)*v2)with h|h
    ·exact(hc (.inr h)).elim
    ·exact h
   exact⟨c,d _ _ b j p,j⟩
theorem ZW(W V N j n:Nat)(k:AK)(az:Nat)(f:Nat->Nat)(ao:2<=n)(aB:(aw bT V).length=n)(aQ:bT<=2*ae bT V (n-1))(aC:W<V*bT)(bb:N<=1000000)(aT:j+n<N)
 (hf:∀i,i<=n->f (j+i)=ae bT W i):∃t,W/V<=t/\t<=W/V+1/\t<bT/\
 cE prog 297 [.arr k az 1 (dh N f)] [.sl 0 az 1 0 N,.p (eT V),.p (.int .i64 j)] [.arr k az 1 (dh N f)] (.p (.int .i64 t)):=by
 have aR:bT=1000000000:=rfl;have B:V<bT^n:=by rw[<-aB];exact ch ba V
 have P:bT^(n-1)<=V:=by
  rcases gx V (bT^(n-1))with h|h
  ·have:=dJ ba (n-1) V h;omega
  ·exact h
 obtain⟨an,aS⟩:=Ct ba (show 1<=n by omega) B aC;have ar:W/bT^n=ae bT W n:=by
  rw[ae,ge];have:=cr ba V (n-1);omega
 have s:W/bT^(n-1)=ae bT W n*bT+ae bT W (n-1):=by
  rw[rY,show n-1+1=n by omega,ar]
 have D:=LA ba ao P B (W:=W);have X:=fun q r=>DE ba ao P B (W:=W) (q:=q) (r:=r);have U:=fun q r=>NK ba ao P B (W:=W) (q:=q) (r:=r);have aG:=fun q r=>Lz ba (V:=V) (W:=W) (n:=n) (q:=q) (r:=r);rw[s]at D X U;have q1:=cr ba W n;have a4:=cr ba W (n-1);have bl:=cr ba W (n-2);have q4:=cr ba V (n-1);have a5:=cr ba V (n-2);have aA:=hf n (ha _);have f2:=hf (n-1) (by omega);have f3:=hf (n-2) (by omega);rw[ar]at an;have C:(aw bT V)[n-1]?=some (ae bT V (n-1)):=by rw[eq (by omega),ey ba (by omega)]
 have S:(aw bT V)[n-2]?=some (ae bT V (n-2)):=by rw[eq (by omega),ey ba (by omega)]
 have aE:∀h:n-1<(aw bT V).length,(aw bT V)[n-1]=ae bT V (n-1):=fun h=>ey ba h;have aF:∀h:n-2<(aw bT V).length,(aw bT V)[n-2]=ae bT V (n-2):=fun h=>ey ba h;simp only[eT];generalize aw bT V=y at*;generalize bc:W/V=Q at*;generalize bg:ae bT W n=w0 at*;generalize bh:ae bT W (n-1)=w1 at*;generalize bi:ae bT W (n-2)=e at*;generalize be:ae bT V (n-1)=a at*;generalize bf:ae bT V (n-2)=v2 at*;clear s ar B P aC hf;have g1:=sK f (show j+n<N by omega);have g2:=sK f (show j+(n-1)<N by omega);have g3:=sK f (show j+(n-2)<N by omega);rw[aA]at g1;rw[f2]at g2;rw[f3]at g3;have E:=uQ N f;have au:∀ax:Nat×Nat->Prop,aX ax (dh N f):=fun ax=>by simp
 generalize dh N f=u at*;obtain⟨c,l⟩:∃c,c=w0*bT+w1:=⟨_,rfl⟩
 obtain⟨b,ab⟩:∃b,b=c/a:=⟨_,rfl⟩
 obtain⟨d,Y⟩:∃d,d=c% a:=⟨_,rfl⟩
 have aU:0<a:=by omega
 have aH:b*a+d=c:=by rw[ab,Y,fw];exact g0 _ _
 have ap:d<bT:=g4 (by rw[Y];exact gt _ aU) q4;have aq:b<=bT+1:=by
  have aN:=gb bT an;rw[fw a]at aN;rcases gx (bT+1) b with h|h
  ·have aO:=gb a (show bT+2<=b from h);rw[g7]at aO;omega
  ·exact h
 rw[<-l]at D X U;rw[<-ab]at D;have R:=NL (v2:=v2) (w2:=e) aQ q4 an a4 aS (by rw[<-l];exact X) (by rw[<-l];exact U) aG b d (by rw[<-l];exact aH) D ap aq;refine⟨ks a v2 e b d,R.1,R.2.1,R.2.2,?_⟩;obtain⟨T,s⟩:∃T,T=ks a v2 e b d:=⟨_,rfl⟩
 rw[<-s];clear R D X U aG;have m:y.length=n:=aB;have bm:dp.wrap ((j:Int)+n)=(j+n:Nat):=by rw[aP _ (by omega) (by omega)];omega
 have K:dp.wrap ((j:Int)+n)=(j:Int)+n:=aP _ (by omega) (by omega);have a8:dp.wrap ((j:Int)+n-1)=(j:Int)+n-1:=aP _ (by omega) (by omega);have z:dp.wrap ((n:Int)-1)=(n:Int)-1:=aP _ (by omega) (by omega);have aj:dp.wrap ((n:Int)-2)=(n:Int)-2:=aP _ (by omega) (by omega);have ak:dp.wrap ((j:Int)+n-2)=(j:Int)+n-2:=aP _ (by omega) (by omega);have a6:((j:Int)+n).toNat=j+n:=by omega
 have a7:((j:Int)+n-1).toNat=j+(n-1):=by omega
 have w:((n:Int)-1).toNat=n-1:=by omega
 have ah:((n:Int)-2).toNat=n-2:=by omega
 have ai:((j:Int)+n-2).toNat=j+(n-2):=by omega
 have wf:dp.wrap ((w0:Int)*1000000000)=(w0:Int)*1000000000:=aP _ (by omega) (by omega);have aD:(w0:Int)*1000000000+w1=(c:Nat):=by rw[l];exact zt w0 w1
 have bd:c<1000000000000000000:=by rw[l,aR];omega
 have aJ:dp.wrap ((w0:Int)*1000000000+w1)=(c:Nat):=by rw[aD];exact aP _ (by omega) (by omega)
 have ay:((c:Nat):Int).tdiv a=b:=by rw[ea (dq _),<-ed,<-ab]
 have dr:((c:Nat):Int).tmod a=d:=by rw[dz (dq _),<-ec,<-Y]
 have aV:¬(a:Int)=0:=by omega
 have aW:¬a=0:=by omega
 have aK:dp.wrap (b:Int)=b:=aP _ (by omega) (by omega);have v:n-1<y.length:=by omega
 have H:n-2<y.length:=by omega
 have F:=aE v;have ac:=aF H;have aI:j+n<u.length:=by omega
 have aY:j+(n-1)<u.length:=by omega
 have G:j+(n-2)<u.length:=by omega
 have aZ:j+(n-1)<N:=by omega
 have ad:j+(n-2)<N:=by omega
 have aL:u[j+n]=.p (.int .i64 w0):=by rw[eq aI]at g1;exact hX g1
 have aM:u[j+(n-1)]=.p (.int .i64 w1):=by rw[eq aY]at g2;exact hX g2
 have O:u[j+(n-2)]=.p (.int .i64 e):=by rw[eq G]at g3;exact hX g3
 have J:¬u=[]:=by rintro rfl;simp at aI
 have a0:0<=(j:Int)+n:=by omega
 have a1:0<=(j:Int)+n-1:=by omega
 have bj:0<=(j:Int)+n-2:=by omega
 have a3:0<=(n:Int)-1:=by omega
 have bk:0<=(n:Int)-2:=by omega
 have a2:1<=(j:Int)+n:=by omega
 have af:2<=(j:Int)+n:=by omega
 have I:1<=(n:Int):=by omega
 have ag:2<=(n:Int):=by omega
 refine fF nf Mz mix (by simp[f297]) ?_;simp[f297,m,K,a8,z,a6,a7,w,g1,g2,C,F,wf,aJ,ay,dr,aV,aW,aK,E,aT,v,aL,aM,J,a0,a1,a3,a2,I,aZ,aa];refine lp (α:=Nat×Nat) (fun x=>⟨[(10,.p (.int .i64 x.2)),(9,.p (.int .i64 x.1)),(7,.p (.int .i64 n)),(2,.p (.int .i64 j)),(1,.p (.seq (y.map fun x:Nat=>.int .i64 x))),(0,.sl 0 az 1 0 N)],[.arr k az 1 u]⟩)
  (fun x=>T=ks a v2 e x.1 x.2/\x.2<bT/\x.1<=bT+1) (fun x=>x.1) (b,d) ⟨s,ap,aq⟩ ?_ (hr2:=by simp[au])
 clear l aH ab Y aD aJ ay dr s wf ap aq aK aE aF aA f2 f3;rintro⟨t,r⟩ ⟨k1,k2,k3⟩;dsimp only at k1 k2 k3;have al:dp.wrap ((r:Int)*1000000000)=(r:Int)*1000000000:=aP _ (by omega) (by omega);have am:dp.wrap ((r:Int)*1000000000+e)=(r:Int)*1000000000+e:=aP _ (by omega) (by omega);have L:dp.wrap ((r:Int)+a)=(r:Int)+a:=aP _ (by omega) (by omega);rcases Nat.eq_zero_or_pos t with A|A
 ·subst A;rw[ks]at k1;have c1:¬(r:Int)*1000000000+e<0:=by rw[zt];exact Int.not_lt.2 (dq _)
  have a9:dp.wrap 0=0:=rfl;simp[m,a9,aj,ah,al,am,L,ak,ai,S,ac,H,g3,O,G,ad,E,J,af,ag,K,c1,k1,aa]
 rw[Z6 A]at k1;have Z:=aID A k3;have k4:∀x,x<=bT+1->x-1<=bT+1:=fun x h=>hl (hP _ _) h;have k5:t-1<t:=Nat.sub_lt A (by decide)
 by_cases c0:bT<=t
 ·have o:=O2.2 c0;rw[if_pos (.inl c0)]at k1
  by_cases c2:bT<=r+a
  ·have g:=zH.2 c2;rw[if_pos c2]at k1;simp[o,Z,m,z,w,C,F,v,I,L,g,k1]
  ·have g:=mt zH.1 c2;rw[if_neg c2]at k1;simp[o,Z,m,z,w,C,F,v,I,L,g];exact rd (t-1,r+a) ⟨k1,hw c2,k4 _ k3⟩ k5 (he:=by simp) (hr2:=by simp[au])
 have o:=mt O2.1 c0;have av:=Ir (hw c0) a5
 by_cases c1:r*bT+e<t*v2
 ·have M:=Qu.2 c1;rw[if_pos (.inr c1)]at k1
  by_cases c2:bT<=r+a
  ·have g:=zH.2 c2;rw[if_pos c2]at k1;simp[o,Z,m,z,w,C,F,v,I,L,g,k1,aj,ah,al,am,av,ak,ai,S,ac,H,g3,O,G,ad,E,J,af,ag,K,M,aa]
   done
  ·have g:=mt zH.1 c2;rw[if_neg c2]at k1;simp[o,Z,m,z,w,C,F,v,I,L,g,aj,ah,al,am,av,ak,ai,S,ac,H,g3,O,G,ad,E,J,af,ag,K,M,aa];exact rd (t-1,r+a) ⟨k1,hw c2,k4 _ k3⟩ k5 (he:=by simp) (hr2:=by simp[au])
 ·have M:=mt Qu.1 c1;rw[if_neg (fun h=>h.elim c0 c1)]at k1;simp[o,m,z,w,aj,ah,al,am,av,ak,ai,S,ac,H,g3,O,G,ad,E,J,af,ag,K,M,k1,aa]
theorem Ww{b k f d:Nat}(n:b<bT^(k+1))(h:d=b/bT^k)(p:0<d)(hf:f=bT/(d+1)):0<f/\f<bT/\b*f<bT^(k+1)/\bT^k<=b*f/\bT<=2*ae bT (b*f) k:=by
 have e:0<bT^k:=gi (by decide);have s:d<bT:=by
  rw[h,gc e,fw,<-gj];exact n
 have r:bT=1000000000:=rfl;have g:=hN bT (d+1);have j:=Nat.lt_div_mul_add (a:=bT) (show 0<d+1 by omega);rw[<-hf]at g j;have i:0<f:=by rw[hf];exact hB (by omega) (by omega)
 have q:f<bT:=by
  rw[hf];exact Nat.div_lt_self (by decide) (by omega)
 have o:b<(d+1)*bT^k:=by
  rw[<-gc e,<-h];omega
 have l:d*bT^k<=b:=by rw[h];exact hN _ _
 have m:b*f<bT^(k+1):=by
  rw[gj];have e1:b*f<(d+1)*bT^k*f:=hj o i;have e2:(d+1)*bT^k*f=f*(d+1)*bT^k:=by rw[fw,<-gy]
  have e3:=gb (bT^k) g;rw[fw (bT^k) bT];omega
 refine⟨i,q,m,?_,?_⟩
 ·have e1:1*bT^k<=d*bT^k:=gb _ p;rw[g5]at e1;exact hl (hl e1 l) (hJ _ i)
 ·have e1:b*f/bT^k=ae bT (b*f) k:=by
   rw[ae,ge];rw[gc e,fw bT,<-gj];exact m
  have e2:d*f<=b*f/bT^k:=by
   rw[hL e,hr];exact gb _ l
  rw[e1]at e2;have e3:d+f<=d*f+1:=by
   obtain⟨d',rfl⟩:∃d',d=d'+1:=⟨d-1,by omega⟩
   obtain⟨c,rfl⟩:∃c,f=c+1:=⟨f-1,by omega⟩
   have:(d'+1)*(c+1)=d'*c+d'+c+1:=by rw[g7,g6,g5,hA];omega
   omega
  have e4:f*(d+1)=d*f+f:=by rw[g6,hA,fw]
  rw[e4]at g j;generalize d*f=P at*;generalize ae bT (b*f) k=Z at*;omega
def fY(V R t i:Nat):Nat:=(t*(V% bT^i)+R% bT^i)/bT^i
theorem Xq{V R t:Nat}:fY V R t 0=0:=by simp[fY,hV]
theorem JM{W V R t n i:Nat}(h:R+t*V=W+bT^(n+1))(hi:i<=n):ae bT R i+t*ae bT V i+fY V R t i=ae bT W i+fY V R t (i+1)*bT:=by
 have k:0<bT^i:=gi (by decide);have l:0<bT^(i+1):=gi (by decide);have d:(t*(V% bT^(i+1))+R% bT^(i+1))% bT^(i+1)=W% bT^(i+1):=by
  have e1:(t*V+R)% bT^(i+1)=(t*(V% bT^(i+1))+R% bT^(i+1))% bT^(i+1):=by
   have a:=g0 V (bT^(i+1));have e:=g0 R (bT^(i+1));have f:t*V+R=t*(V% bT^(i+1))+R% bT^(i+1)+bT^(i+1)*(t*(V/bT^(i+1))+R/bT^(i+1)):=by
    have g:t*V=t*(V% bT^(i+1))+bT^(i+1)*(t*(V/bT^(i+1))):=by
     conv=>lhs;rw[<-a]
     rw[g6,<-gy,fw t (bT^(i+1)),gy];omega
    rw[g,g6]
    conv=>lhs;rw[<-e]
    omega
   rw[f,hm]
  rw[<-e1,hb (t*V),h];have:bT^(i+1)∣bT^(n+1):=hD _ (by omega);obtain⟨c,hc⟩:=this;rw[hc,hm]
 have e2:=g0 (t*(V% bT^(i+1))+R% bT^(i+1)) (bT^(i+1));have e3:=g0 (t*(V% bT^i)+R% bT^i) (bT^i);rw[d]at e2;rw[show(t*(V% bT^(i+1))+R% bT^(i+1))/bT^(i+1)=fY V R t (i+1)from rfl]at e2;rw[show(t*(V% bT^i)+R% bT^i)/bT^i=fY V R t i from rfl]at e3;have j:(t*(V% bT^i)+R% bT^i)% bT^i=W% bT^i:=by
  have:=congrArg (·% bT^i) d
  have b:bT^i∣bT^(i+1):=hD _ (by omega);rw[ht _ b,ht _ b]at this;rw[<-this,mod_pow_succ,mod_pow_succ];rw[g6];have:t*(V% bT^i)+t*(bT^i*ae bT V i)+(R% bT^i+bT^i*ae bT R i)=t*(V% bT^i)+R% bT^i+bT^i*(t*ae bT V i+ae bT R i):=by
   rw[g6,<-gy t,fw t (bT^i),gy];omega
  rw[this,hm]
 rw[j]at e3;rw[mod_pow_succ,mod_pow_succ,mod_pow_succ,gj]at e2;have e4:bT^i*(ae bT R i+t*ae bT V i+fY V R t i)=bT^i*(ae bT W i+fY V R t (i+1)*bT):=by
  have a:t*(V% bT^i+bT^i*ae bT V i)=t*(V% bT^i)+bT^i*(t*ae bT V i):=by
   rw[g6,<-gy t,fw t (bT^i),gy]
  rw[a]at e2;rw[g6,g6,g6];rw[gy (bT^i),fw bT]at e2;generalize bT^i*ae bT R i=m at*;generalize bT^i*(t*ae bT V i)=o at*;generalize bT^i*fY V R t i=p at*;generalize bT^i*ae bT W i=q at*;generalize bT^i*(fY V R t (i+1)*bT)=r at*;generalize t*(V% bT^i)=s at*;omega
 exact Nat.eq_of_mul_eq_mul_left k e4
theorem Xp{r p w b':Nat}(h:r+p=w+b'*bT)(j:r<bT)(k:w<bT):(w<p% bT/\r+p% bT=w+bT/\b'=p/bT+1)\/(p% bT<=w/\r+p% bT=w/\b'=p/bT):=by
 have e:=g0 p bT;have i:=gt p (show 0<bT by decide);generalize p/bT=q at*;generalize p% bT=m at*;have b:r+m+bT*q=w+b'*bT:=by omega
 rw[fw bT]at b;rcases Nat.lt_trichotomy b' q with a|a|a
 ·have:=gb bT (show b'+1<=q from a);rw[g7,g5]at this;omega
 ·subst a;right;omega
 ·have d:=gb bT (show q+1<=b' from a);rw[g7,g5]at d;have f:b'=q+1:=by
   rcases gx (q+1) b' with c|c
   ·have g:=gb bT (show q+2<=b' from c);rw[g7]at g;omega
   ·omega
  subst f;rw[g7,g5]at b;left;omega
theorem XU{W V t n:Nat}(y:0<V)(j:V<bT^n)(l:W<bT^(n+1))(C:W/V<=t)(D:t<=W/V+1):
 ∃R,R+t*V=W+bT^(n+1)/\
 ((t=W/V/\fY V R t n=ae bT W n/\∀i,i<=n->ae bT R i=ae bT (W% V) i)\/
  (t=W/V+1/\fY V R t n=ae bT W n+1/\de bT R V n=1/\∀i,i<=n->ae bT (R+V) i=ae bT (W% V) i)):=by
 have H:0<bT^n:=gi (by decide);have B:0<bT^(n+1):=gi (by decide);have k:V<bT^(n+1):=gg j (gm (by decide) (by omega));have z:=g0 W V;have o:=gt W y;have d:bT^(n+1)=bT^n*bT:=gj _ _;have F:bT=1000000000:=rfl;have A:W% V<bT^n:=g4 o j;have s:ae bT (W% V) n=0:=jn A;have q:ae bT V n=0:=jn j;have m:∀R,R+t*V=W+bT^(n+1)->ae bT R n+fY V R t n=ae bT W n+fY V R t (n+1)*bT:=fun R v=>by
  have:=JM v (ha n);rw[q,Nat.mul_zero,Nat.add_zero]at this;exact this
 rcases gx t (W/V+1)with u|u
 ·have b:t=W/V:=by omega
  have r:t*V+W% V=W:=by rw[b,fw];exact z
  refine⟨W% V+bT^(n+1),by omega,.inl ⟨b,?_,fun i hi=>?_⟩⟩
  ·have e:=m (W% V+bT^(n+1)) (by omega);have f:fY V (W% V+bT^(n+1)) t (n+1)=0:=by
    rw[fY,ge k,Nat.add_mod_right,ge (g4 o k),r,hn l]
   have a:ae bT (W% V+bT^(n+1)) n=0:=by
    rw[<-s];exact uN (by omega)
   rw[f,a]at e;omega
  ·exact uN (by omega)
 ·have b:t=W/V+1:=by omega
  have r:t*V+W% V=W+V:=by rw[b,g7,g5,fw];omega
  have G:V<=bT^(n+1)+W% V:=by omega
  refine⟨bT^(n+1)+W% V-V,by omega,.inr ⟨b,?_,?_⟩⟩
  ·have e:=m (bT^(n+1)+W% V-V) (by omega);have w:bT^(n+1)+W% V-V<bT^(n+1):=by omega
   have f:fY V (bT^(n+1)+W% V-V) t (n+1)=1:=by
    rw[fY,ge k,ge w];have:t*V+(bT^(n+1)+W% V-V)=W+bT^(n+1):=by omega
    rw[this,Nat.add_div_right _ B,hn l]
   have a:ae bT (bT^(n+1)+W% V-V) n=bT-1:=by
    have g:(bT^(n+1)+W% V-V)/bT^n=bT-1:=by
     refine hO ?_ ?_
     ·rw[hS,g5,fw bT,<-d];omega
     ·rw[show bT-1+1=bT by decide,fw bT,<-d];omega
    rw[ae,g];decide
   rw[f,a]at e;omega
  ·have x:bT^(n+1)+W% V-V+V=W% V+bT^(n+1):=by omega
   have p:∀i,i<=n->ae bT (bT^(n+1)+W% V-V+V) i=ae bT (W% V) i:=fun i hi=>by
    rw[x];exact uN (by omega)
   refine⟨?_,p⟩;have h:=(p0 ba (bT^(n+1)+W% V-V) V n).1;have E:=lG ba (bT^(n+1)+W% V-V) V n;rw[p n (ha _),s,q]at h;have a:ae bT (bT^(n+1)+W% V-V) n=bT-1:=by
    have g:(bT^(n+1)+W% V-V)/bT^n=bT-1:=by
     refine hO ?_ ?_
     ·rw[hS,g5,fw bT,<-d];omega
     ·rw[show bT-1+1=bT by decide,fw bT,<-d];omega
    rw[ae,g];decide
   rw[a]at h;generalize de bT (bT^(n+1)+W% V-V) V n=c at*;rcases gx 0 c with hc|hc
   ·omega
   ·have:c=0:=by omega
    subst this;simp only[bT]at h;omega
theorem XT{V R t i:Nat}:fY V R t i<=t:=by
 have a:0<bT^i:=gi (by decide);have b:=gt V a;have c:=gt R a;rw[fY];refine Nat.le_of_lt_succ ?_;rw[gc a];have d:=hp t (hK b);rw[Nat.succ_mul];omega
theorem aIE{t v a w r b':Nat}(h:r+(t*v+a)=w+b'*bT)(f:r<bT)(g:w<bT)(b:t<bT)(c:v<bT)(i:a<=t):
 ∃(p q m:Nat),dp.wrap ((t:Int)*v)=(t:Int)*v/\dp.wrap ((t:Int)*v+a)=p/\(p:Int).tmod 1000000000=m/\(p:Int).tdiv 1000000000=q/\q<bT/\m<bT/\
 (((w:Int)-m<0/\(w:Int)-m+1000000000=r/\b'=q+1)\/(¬(w:Int)-m<0/\(w:Int)-m=r/\b'=q)):=by
 have d:t*v<=999999999*999999999:=hG (by simp only[bT]at b;omega) (by simp only[bT]at c;omega);have j:=Xp h f g;have e:=gt (t*v+a) (show 0<bT by decide);have hq:(t*v+a)/bT<bT:=by
  rw[gc (by decide)];simp only[bT]at b⊢;omega
 refine⟨t*v+a,(t*v+a)/bT,(t*v+a)% bT,Ir b c,?_,?_,?_,hq,e,?_⟩
 ·rw[<-ei,<-em];generalize t*v=P at*;simp only[bT]at b;exact aP _ (by omega) (by omega)
 ·rw[dz (dq _),ec];rfl
 ·rw[ea (dq _),ed];rfl
 ·generalize (t*v+a)/bT=q at*;generalize (t*v+a)% bT=m at*;clear h d;simp only[bT]at*;omega
def cL(n:Nat)(f:Nat->Int):List AV:=(ew n).map fun j=>.p (.int .i64 (f j))
theorem lH(n:Nat)(f:Nat->Int):(cL n f).length=n:=by simp[cL]
theorem Qm(n:Nat)(f:Nat->Nat):dh n f=cL n (fun k=>(f k:Nat)):=rfl
theorem aIg{n j:Nat}(f:Nat->Int)(h:j<n):(cL n f)[j]?=some (.p (.int .i64 (f j))):=by
 rw[cL,List.getElem?_map,List.getElem?_range h];rfl
theorem uX{n i:Nat}{v:Int}(f g:Nat->Int)(c:g i=v)(h:∀j,j<n->j≠i->g j=f j):(cL n f).set i (.p (.int .i64 v))=cL n g:=by
 apply fl (by simp[cL]);intro j d b;rw[lH]at b;rw[List.getElem_set];simp only[cL,e8,e7]
 by_cases a:i=j
 ·subst a;rw[if_pos rfl,c]
 ·rw[if_neg a,h j b (fun e=>a e.symm)]
@[simp] theorem aMf{N:Nat×Nat->Prop}{n:Nat}{f:Nat->Int}:aX N (cL n f)=True:=by
 rw[cV,eq_iff_iff,iff_true];intro v a;simp only[cL,List.mem_map]at a;obtain⟨x,_,rfl⟩:=a;trivial
theorem KB{n:Nat}{f g:Nat->Int}(h:∀j,j<n->f j=g j):cL n f=cL n g:=by
 rw[cL,cL];apply List.map_congr_left;intro j a;rw[h j (List.mem_range.1 a)]
def fS(X R j i k:Nat):Int:=if j<=k/\k<j+i then(ae bT R (k-j):Nat)else(ae bT X k:Nat)
theorem win_zero{X R j k:Nat}:fS X R j 0 k=(ae bT X k:Nat):=by rw[fS,if_neg (by omega)]
theorem CX{X R j i:Nat}:fS X R j i (j+i)=(ae bT X (j+i):Nat):=by rw[fS,if_neg (by omega)]
theorem aJm{X R j i:Nat}:fS X R j (i+1) (j+i)=(ae bT R i:Nat):=by
 rw[fS,if_pos (by omega),ho]
theorem aJn{X R j i k:Nat}(h:k≠j+i):fS X R j (i+1) k=fS X R j i k:=by
 rw[fS,fS]
 by_cases a:j<=k/\k<j+i
 ·rw[if_pos a,if_pos (by omega)]
 ·rw[if_neg a,if_neg (by omega)]
def gE(X R S j n i k:Nat):Int:=if k=j+n then -1 else if j<=k/\k<j+i then(ae bT S (k-j):Nat)else fS X R j n k
theorem aJj{X R S j n i:Nat}(h:i<n):gE X R S j n i (j+i)=(ae bT R i:Nat):=by
 rw[gE,if_neg (by omega),if_neg (by omega),fS,if_pos (by omega),ho]
theorem aJk{X R S j n i:Nat}(h:i<n):gE X R S j n (i+1) (j+i)=(ae bT S i:Nat):=by
 rw[gE,if_neg (by omega),if_pos (by omega),ho]
theorem aJl{X R S j n i k:Nat}(h:k≠j+i):gE X R S j n (i+1) k=gE X R S j n i k:=by
 rw[gE,gE]
 by_cases a:k=j+n
 ·rw[if_pos a,if_pos a]
 ·rw[if_neg a,if_neg a]
  by_cases b:j<=k/\k<j+i
  ·rw[if_pos b,if_pos (by omega)]
  ·rw[if_neg b,if_neg (by omega)]
theorem W1{X V j n N:Nat}(d:0<V)(c:V<bT^n)(e:X<V*bT^(j+1)){g:Nat->Int}(h:∀k,k<N->g k=if k=j+n then 0 else if j<=k/\k<j+n then(ae bT (X/bT^j% V) (k-j):Nat)else(ae bT X k:Nat)):
 cL N g=cL N fun k=>(ae bT (X% (V*bT^j)) k:Nat):=by
 refine KB fun k hk=>?_;rw[h k hk,(xy (B:=bT) (R:=X) (V:=V) (j:=j)).1,Iv ba];have i:=gt (X/bT^j) d;have f:X<bT^(n+(j+1)):=by
  rw[hg];exact g4 e (hj c (gi (by decide)))
 by_cases a:k<j
 ·rw[if_pos a,if_neg (by omega),if_neg (by omega)]
 ·rw[if_neg a]
  by_cases m:k<j+n
  ·rw[if_neg (by omega),if_pos (by omega)]
  ·have l:ae bT (X/bT^j% V) (k-j)=0:=jn (gg (g4 i c) (gm (by decide) (by omega)));rw[l]
   by_cases b:k=j+n
   ·rw[if_pos b]
   ·rw[if_neg b,if_neg (by omega)];have:ae bT X k=0:=jn (gg f (gm (by decide) (by omega)));rw[this]
theorem C7{f:Nat}(a:0<f)(h:f<bT):eT f=.seq [.int .i64 f]:=by rw[eT,nj a h];rfl
theorem Wf{r:Nat}(h:r<bT):eg [r]=aw bT r:=by
 have:=jo ba (m:=1) (n:=r) (by rw[hT];exact h);rw[<-this,row,List.range_one,fm,List.map_nil,ae,hd,hC,ge h]
@[simp] theorem aL8{σ:Nat->Nat}{n:Nat}{f:Nat->Int}:cO σ (cL n f)=cL n f:=by
 have:∀l:List Nat,cO σ (l.map fun j=>AV.p (.int .i64 (f j)))=l.map fun j=>AV.p (.int .i64 (f j)):=by
  intro l
  induction l with
  |nil=>rfl
  |cons a r b=>simp only[fm,cO,b];rfl
 exact this _
@[simp] theorem aMd{n j:Nat}{f:Nat->Int}(h:j<(cL n f).length):(cL n f)[j]=.p (.int .i64 (f j)):=by
 simp only[cL,e8,e7]
@[simp] theorem aMa{n j:Nat}{f:Nat->Nat}(h:j<(dh n f).length):(dh n f)[j]=.p (.int .i64 (f j:Nat)):=by
 simp only[dh,e8,e7]
@[simp] theorem aMe{n:Nat}{f:Nat->Int}:(cL (n+1) f=[])=False:=by
 rw[eq_iff_iff,iff_false];intro h;have:=congrArg List.length h;rw[lH]at this;simp at this
theorem Dm(a b:Nat)(K:0<b)(c6:(aw bT a).length<=400000)(b7:(aw bT b).length<=400000):au prog 238 [eT a,eT b] (.aC [eT (a/b),eT (a% b)]):=by
 have bO:=HG a b (by omega) (by omega);refine aI nf Mk mix (by simp[f238]) ?_;simp[f238];refine c2 bO ?_
 by_cases S:a<b
 ·have G:=oV.2 S;simp[G,hn S,ge S,eT,zp]
 have G:¬fH a b<0:=fun h=>S (oV.1 h);have a4:∀i(h:i<(aw bT b).length),(aw bT b)[i]=ae bT b i:=fun i h=>ey ba h;have C:=ch ba b
 by_cases b5:(aw bT b).length=1
 ·rw[b5,hT]at C;have L:=HF a b K C (by omega);have cc:=gt a K;have ci:=Wf (g4 cc C);have aq:=sT [a% b] (by simp);rw[ci]at aq;have cZ:=nj K C;rw[C7 K C];simp only[eT,iP]at L aq⊢;generalize aw bT (a/b)=cR at*;generalize aw bT (a% b)=cS at*;generalize aw bT a=x at*;generalize a% b=dk at*;simp[G];refine c2 L ?_;simp;refine cp aq (by simp;exact⟨rfl,rfl⟩) ?_;simp
 have c5:2<=(aw bT b).length:=by
  rcases gx (aw bT b).length 1 with h|h
  ·have e:(aw bT b).length=0:=by omega
   rw[e,hd]at C;omega
  ·omega
 obtain⟨k,hk⟩:∃k,(aw bT b).length=k+1:=⟨(aw bT b).length-1,by omega⟩
 obtain⟨n,aD⟩:∃n,n=k+1:=⟨_,rfl⟩
 rw[hk]at C;obtain⟨d,Z⟩:∃d,d=b/bT^k:=⟨_,rfl⟩
 have ay:bT^k<=b:=by
  rcases gx b (bT^k)with h|h
  ·have:=dJ ba k b h;omega
  ·exact h
 have bf:0<bT^k:=gi (by decide);have bP:0<d:=by rw[Z];exact hB ay bf
 have bU:d<bT:=by rw[Z,gc bf,fw,<-gj];exact C
 have a5:ae bT b k=d:=by rw[ae,<-Z,ge bU]
 obtain⟨f,hf⟩:∃f,f=bT/(d+1):=⟨_,rfl⟩
 obtain⟨f0,f1,f2,f3,f4⟩:=Ww C Z bP hf;obtain⟨V,I⟩:∃V,V=b*f:=⟨_,rfl⟩
 rw[<-I]at f2 f3 f4;have aY:(aw bT V).length=n:=by
  have H:=dJ ba (k+1) V f2;have bF:=H5 ba f3;omega
 have ag:=Dl b f (by rw[nj f0 f1];simp;omega);have ah:=Dl a f (by rw[nj f0 f1];simp;omega);rw[C7 f0 f1,<-I]at ag;rw[C7 f0 f1]at ah;have bR:(aw bT b)[k]?=some d:=by rw[eq (by omega),a4 k (by omega),a5]
 have bS:∀h:k<(aw bT b).length,(aw bT b)[k]=d:=fun h=>by rw[a4 k h,a5]
 have c8:(aw bT b).length<=400000:=b7;have cY:bT=1000000000:=rfl;have cI:dp.wrap ((d:Int)+1)=(d:Int)+1:=aP _ (by omega) (by omega);have bW:(1000000000:Int).tdiv ((d:Int)+1)=(f:Nat):=by
  rw[ea (by decide),hf,ed];rfl
 have bQ:¬(d:Int)+1=0:=by omega
 have cJ:dp.wrap (k:Int)=k:=aP _ (by omega) (by omega);have wf:dp.wrap (f:Int)=f:=aP _ (by omega) (by omega);have b6:¬(k:Int)+1=1:=by omega
 have b0:¬k=0:=by omega
 have bo:k<(aw bT b).length:=by omega
 have b2:=bS bo;simp only[eT]at ag ah⊢;generalize cu:aw bT (a/b)=cR at*;generalize cv:aw bT (a% b)=cS at*;generalize aG:aw bT a=x at*;generalize dd:aw bT b=y at*;generalize aj:aw bT V=s at*;simp[G,hk,b6,b0,cJ,bR,b2,bo,cI,bW,bQ,wf];refine cp ag (by simp;exact⟨rfl,rfl⟩) ?_;simp[aY];refine cp ah (by simp;exact⟨rfl,rfl⟩) ?_;obtain⟨u,D⟩:∃u,aw bT (a*f)=u:=⟨_,rfl⟩
 obtain⟨c,M⟩:∃c,x.length=c:=⟨_,rfl⟩
 have bh:u.length<=c+1:=by
  rw[<-D,<-M,<-aG];refine dJ ba _ _ ?_;rw[gj];exact hv (ch ba a) f1
 have cm:∀i(h:i<u.length),u[i]=ae bT (a*f) i:=fun i h=>by
  have:=ey ba (n:=a*f) (i:=i) (by rw[D];exact h);simp only[D]at this;exact this
 rw[D];have cX:b<=a*f:=hl (Nat.le_of_not_lt S) (hJ _ f0);have bj:¬u=[]:=by
  intro h;rw[h]at D;have:=uD.1 D;omega
 have a1:a*f<bT^u.length:=by rw[<-D];exact ch ba _
 have ai:List.map (AV.p∘fun x:Nat=>PV.int dp x) u=cL u.length fun k=>(ae bT (a*f) k:Nat):=by
  apply fl (by simp[cL]);intro i G cV;simp only[e8,Function.comp,cL,e7];rw[cm i (by simpa using G)]
 have ck:u.length<=400001:=by omega
 obtain⟨A,bi⟩:∃A,u.length=A:=⟨_,rfl⟩
 rw[bi]at a1 ai bh ck;clear ag ah;have cl:¬(cL A fun k=>(ae bT (a*f) k:Nat))=[]:=by rw[<-ai];simpa using bj
 have cj:¬A=0:=by rw[<-bi];exact fun h=>bj (List.length_eq_zero_iff.1 h)
 simp[M,ai,cl,cj,lH];refine⟨⟨by rw[<-ai];exact Qp u,by simp only[cW];omega⟩,?_⟩;have c7:c<=400000:=by omega
 have bz:dp.wrap ((c:Int)+1)=c+1:=aP _ (by omega) (by omega);refine rC (fun s'=>∃l o,aQ s'.env 8=.sl 0 0 1 0 1/\aQ s'.env 9=.p (.seq (s.map fun x:Nat=>.int .i64 x))/\aQ s'.env 10=.p (.int .i64 n)/\aQ s'.env 11=.sl 2 l 1 0 (c+1)/\s'.heap=[.arr .frozen 0 1 [.p (.int .i64 f)],o,.arr .grow l 1 (cL (c+1) fun k=>(ae bT (a*f) k:Nat))]) ?_ ?_
 ·refine lp (α:=Nat) (fun i=>⟨[(11,.sl 2 (i-A) 1 0 i),(10,.p (.int .i64 n)),(9,.p (.seq (s.map fun x:Nat=>.int .i64 x))),(8,.sl 0 0 1 0 1),(0,.p (.seq (x.map fun x:Nat=>.int .i64 x)))],[.arr .frozen 0 1 [.p (.int .i64 f)],.hole,.arr .grow (i-A) 1 (cL i fun k=>(ae bT (a*f) k:Nat))]⟩)
   (fun i=>A<=i/\i<=c+1) (fun i=>c+1-i) A ⟨ha _,bh⟩ ?_ (he:=by simp) (hh:=by simp)
  rintro i ⟨k1,k2⟩
  by_cases hi:i<c+1
  ·have bX:(i:Int)<c+1:=by omega
   have ct:ae bT (a*f) i=0:=jn (gg a1 (gm (by decide) k1));have ce:cL (i+1) (fun k=>(ae bT (a*f) k:Nat))=cL i (fun k=>(ae bT (a*f) k:Nat))++[.p (.int .i64 0)]:=by
    rw[cL,List.range_succ,List.map_append];simp[ct,cL]
   have bg:i+1-A=i-A+1:=by omega
   have cg:fd i (cL i fun k=>(ae bT (a*f) k:Nat))=cL i fun k=>(ae bT (a*f) k:Nat):=e6 (by rw[lH];exact ha _);simp[M,bz,bX,lH,cg];refine⟨by simp only[cW];omega,?_⟩;exact rd (i+1) ⟨by omega,hi⟩ (he:=by simp[bg]) (hh:=by simp[bg,ce]) (hr2:=by simp)
  ·have ab:i=c+1:=by omega
   subst ab;simp[M,bz]
 rintro⟨bC,bV⟩ ⟨l,o,E,P,Q,F,T⟩;dsimp only at E P Q F T;subst T;have dc:n<=c:=by
  rw[aD];rcases gx c (k+1)with h|h
  ·have H:=ch ba a;rw[aG,M]at H;have bF:=gg H (gm (show 0<bT by decide) (show c<=k by omega));omega
  ·exact h
 obtain⟨m,da⟩:∃m,m=c-n:=⟨_,rfl⟩
 have cN:dp.wrap ((c:Int)+1-n)=(m:Int)+1:=by rw[aP _ (by omega) (by omega)];omega
 have cO:((m:Int)+1).toNat=m+1:=by omega
 have cP:dp.wrap (m:Int)=m:=aP _ (by omega) (by omega);have ca:(m:Int)+1<=cW:=by simp only[cW];omega
 simp[E,P,Q,F,cN,cO,cP];refine⟨⟨by omega,ca⟩,?_⟩;have av:0<V:=by rw[I];exact hU K f0
 have W:V<bT^n:=by rw[aD];exact f2
 have a2:a<bT^c:=by rw[<-M,<-aG];exact ch ba a
 have bL:a*f% (V*bT^(m+1))=a*f:=by
  refine ge ?_;rw[I,hr];refine hj ?_ f0;refine gg a2 ?_;rw[show c=k+(m+1)by omega,hg];exact gb _ ay
 obtain⟨X,J⟩:∃X:Nat->Nat,∀j,X j=a*f% (V*bT^j):=⟨_,fun _=>rfl⟩
 have Y:∀j,X j<V*bT^j:=fun j=>by rw[J];exact gt _ (hU av (gi (by decide)))
 have bN:∀j,X (j+1)% (V*bT^j)=X j:=fun j=>by
  rw[J,J,ht];exact Nat.mul_dvd_mul_left _ (hD _ (by omega))
 have bM:∀j,X (j+1)/bT^j/V=ae bT (a/b) j:=fun j=>by
  rw[J,<-(xy (B:=bT) (R:=a*f% (V*bT^(j+1))) (V:=V) (j:=j)).2,gj,<-gy,Nat.mod_mul_right_div_self,<-g9,I,Nat.mul_div_mul_right _ _ f0,ae]
 have a7:=fun j(h:j<=m)=>ZW (X (j+1)/bT^j) V (c+1) j n .grow l (ae bT (X (j+1))) (by omega) (by rw[aj];exact aY) (by rw[aD,hR];exact f4) (by rw[gc (gi (by decide)),gy,fw bT,<-gj];exact Y (j+1)) (by omega) (by omega) (fun i hi=>(qu (B:=bT) _ _ _).symm);simp only[eT,Qm,aj]at a7;rw[show(e9 (m+1) (AV.p (PV.int dp 0)))=dh (m+1) (qT (a/b) (m+1))from Lb];rw[show(cL (c+1) fun k=>(ae bT (a*f) k:Nat))=cL (c+1) fun k=>(ae bT (X (m+1)) k:Nat)by rw[J,bL]];refine rC (fun s'=>∃bq,aQ s'.env 8=.sl 0 0 1 0 1/\aQ s'.env 10=.p (.int .i64 n)/\aQ s'.env 11=.sl 2 l 1 0 (c+1)/\aQ s'.env 12=.sl 3 0 1 0 (m+1)/\s'.heap=[.arr .frozen 0 1 [.p (.int .i64 f)],bq,.arr .grow l 1 (cL (c+1) fun k=>(ae bT (X 0) k:Nat)),.arr .exact 0 1 (dh (m+1) (ae bT (a/b)))]) ?_ ?_
 ·refine lp (α:=Nat) (fun j=>⟨[(13,.p (.int .i64 ((j:Int)-1))),(12,.sl 3 0 1 0 (m+1)),(11,.sl 2 l 1 0 (c+1)),(10,.p (.int .i64 n)),(9,.p (.seq (s.map fun x:Nat=>.int .i64 x))),(8,.sl 0 0 1 0 1)],[.arr .frozen 0 1 [.p (.int .i64 f)],.hole,.arr .grow l 1 (cL (c+1) fun k=>(ae bT (X j) k:Nat)),.arr .exact 0 1 (dh (m+1) (qT (a/b) j))]⟩)
   (fun j=>j<=m+1) (fun j=>j) (m+1) (ha _) ?_ (he:=by simp[E,P,Q,F])
  intro j c0;rcases j with _|j
  ·simp[La]
  ·obtain⟨t,aO,an,ao,bG⟩:=a7 j (by omega);have bZ:¬(j:Int)<0:=by omega
   have bK:X (j+1)/bT^j<bT^(n+1):=by
    rw[gc (gi (by decide)),<-hg];refine gg (Y (j+1)) ?_;rw[show n+1+j=n+(j+1)by omega,hg bT n (j+1)];exact gb _ (hK W)
   obtain⟨R,bI,bJ⟩:=XU av W bK aO an;have gS:=fun i(hi:i<=n)=>JM (i:=i) bI hi;have ax:∀i,ae bT (X (j+1)/bT^j) i=ae bT (X (j+1)) (j+i):=fun i=>qu _ _ _;have dn:((n:Nat):Int).toNat=n:=by omega
   simp[-bt];rw[bt,bt];simp[-bt,bZ];rw[bt,JF,bt];simp[-bt];refine cf bG [2] ?_;simp[-bt,sig,bc];rw[bt];simp[-bt];rw[bt,bt];simp[-bt];have aX:∀i(h:i<s.length),s[i]=ae bT V i:=fun i h=>by
    have:=ey ba (n:=V) (i:=i) (by rw[aj];exact h);simp only[aj]at this;exact this
   have aV:X (j+1)/bT^j/V=ae bT (a/b) j:=bM j;have c4:(j:Int)<=400000:=by omega
   have db:(n:Int)<=400001:=by omega
   have a6:∀g:Nat->Int,(∀k,k<c+1->g k=if k=j+n then 0 else if j<=k/\k<j+n then(ae bT (X (j+1)/bT^j% V) (k-j):Nat)else(ae bT (X (j+1)) k:Nat))->cL (c+1) g=cL (c+1) fun k=>(ae bT (X j) k:Nat):=fun g az=>by
    rw[W1 av W (Y (j+1)) az,bN]
   have co:cL (c+1) (fS (X (j+1)) R j 0)=cL (c+1) fun k=>(ae bT (X (j+1)) k:Nat):=KB fun k _=>win_zero;refine lp (α:=Nat) (fun i=>⟨[(16,.p (.int .i64 i)),(15,.p (.int .i64 (fY V R t i:Nat))),(14,.p (.int .i64 t)),(13,.p (.int .i64 j)),(12,.sl 3 0 1 0 (m+1)),(11,.sl 2 l 1 0 (c+1)),(10,.p (.int .i64 n)),(9,.p (.seq (s.map fun x:Nat=>.int .i64 x))),(8,.sl 0 0 1 0 1)],[.arr .frozen 0 1 [.p (.int .i64 f)],.hole,.arr .grow l 1 (cL (c+1) (fS (X (j+1)) R j i)),.arr .exact 0 1 (dh (m+1) (qT (a/b) (j+1)))]⟩)
    (fun i=>i<=n) (fun i=>n-i) 0 (hz _) ?_ (he:=by simp[Xq]) (hh:=by simp[co])
   intro i hi;have bx:dp.wrap ((i:Int)+j)=(i:Int)+j:=aP _ (by omega) (by omega);have bv:((i:Int)+j).toNat=i+j:=by omega
   have bp:¬((i:Int)+j<0):=by omega
   have bw:dp.wrap ((i:Int)+1)=(i:Int)+1:=aP _ (by omega) (by omega)
   by_cases al:i<n
   ·have a9:(i:Int)<n:=by omega
    have ac:i<s.length:=by omega
    have aF:=aX i ac;have aN:=gS i hi;rw[ax]at aN;have br:=cr ba (X (j+1)) (j+i);have cx:=cr ba R i;have cy:=cr ba V i;obtain⟨p,q,ak,s1,s2,bs,bu,dl,dm,cB⟩:=aIE (by rw[<-Nat.add_assoc];exact aN) cx br ao cy XT;have bn:fS (X (j+1)) R j i (i+j)=(ae bT (X (j+1)) (j+i):Nat):=by rw[hb i j,CX]
    have a8:0<=(i:Int)+j:=by omega
    have get:(cL (c+1) (fS (X (j+1)) R j i))[i+j]?=some (.p (.int .i64 (ae bT (X (j+1)) (j+i):Nat))):=by
     rw[aIg _ (by omega),hb i j,CX]
    have set:(cL (c+1) (fS (X (j+1)) R j i)).set (i+j) (.p (.int .i64 (ae bT R i:Nat)))=cL (c+1) (fS (X (j+1)) R j (i+1)):=by
     rw[hb i j];exact uX _ _ aJm fun k _ hk=>aJn hk
    have ab:i+j<c+1:=by omega
    have bk:s[i]?=some (ae bT V i):=by rw[eq ac,aF]
    generalize ae bT (X (j+1)) (j+i)=w at*;generalize ae bT V i=v at*;generalize ae bT R i=r at*;generalize fY V R t i=cT at*;generalize a3:fY V R t (i+1)=cU at*;have cd:¬(r:Int)<0:=by omega
    have bB:dp.wrap ((w:Int)-ak)=(w:Int)-ak:=aP _ (by omega) (by omega);have bA:dp.wrap (q:Int)=q:=aP _ (by omega) (by omega);have aU:dp.wrap ((q:Int)+1)=(q:Int)+1:=aP _ (by omega) (by omega);rcases cB with⟨c1,c2,c3⟩|⟨c1,c2,c3⟩
    ·have wr:dp.wrap ((w:Int)-ak+1000000000)=r:=by rw[c2];exact aP _ (by omega) (by omega)
     simp[a9,bx,bv,bp,ac,aF,bk,s1,s2,bs,bu,ab,get,bn,a8,lH,bB,c1,wr,aU,set,bw,aa,aL,bD];exact rd (i+1) (show i+1<=n by omega) (he:=by simp[a3,c3,bA,aU])
    ·have wr:dp.wrap ((w:Int)-ak)=r:=by rw[bB,c2]
     simp[a9,bx,bv,bp,ac,aF,bk,s1,s2,bs,bu,ab,get,bn,a8,lH,c1,wr,cd,set,bw,aa,aL,bD];exact rd (i+1) (show i+1<=n by omega) (he:=by simp[a3,c3,bA,aU])
   ·have bY:i=n:=by omega
    subst bY;have aT:dp.wrap ((j:Int)+i)=(j:Int)+i:=aP _ (by omega) (by omega);have aR:((j:Int)+i).toNat=j+i:=by omega
    have aH:0<=(j:Int)+i:=by omega
    have aA:j+i<c+1:=by omega
    have bm:fS (X (j+1)) R j i (j+i)=(ae bT (X (j+1)) (j+i):Nat):=CX;have br:=cr ba (X (j+1)) (j+i);have aS:dp.wrap ((j:Int)-1)=(j:Int)-1:=aP _ (by omega) (by omega);rcases bJ with⟨aK,U,aM⟩|⟨aK,U,aM,cA⟩
    ·rw[ax]at U;rw[U];generalize ae bT (X (j+1)) (j+i)=w at*;have ap:dp.wrap 0=0:=rfl;have am:dp.wrap ((w:Int)-w)=0:=by rw[Int.sub_self];rfl
     have aE:t=ae bT (a/b) j:=by rw[aK,aV]
     have aJ:(dh (m+1) (qT (a/b) (j+1))).set j (.p (.int .i64 t))=dh (m+1) (qT (a/b) j):=by rw[aE];exact C6
     have fs:(cL (c+1) (fS (X (j+1)) R j i)).set (j+i) (.p (.int .i64 0))=cL (c+1) fun k=>(ae bT (X j) k:Nat):=by
      rw[uX _ (fun k=>if k=j+i then 0 else fS (X (j+1)) R j i k) (if_pos rfl) (fun k _ hk=>if_neg hk)];refine a6 _ fun k _=>?_
      by_cases hk:k=j+i
      ·rw[if_pos hk,if_pos hk];rfl
      ·rw[if_neg hk,if_neg hk,fS]
       by_cases z:j<=k/\k<j+i
       ·rw[if_pos z,if_pos z,aM (k-j) (by omega)]
       ·rw[if_neg z,if_neg z]
     have ad:j<m+1:=by omega
     have cb:¬((ae bT (X j) (j+i):Nat):Int)<0:=by omega
     simp[aT,aR,aH,aA,bm,lH,uQ,am,ap,aS,ad,cb,fs,aJ,aa,aL,bD];exact rd j (show j<=m+1 by omega)
    ·rw[ax]at U;rw[U];generalize ae bT (X (j+1)) (j+i)=w at*;have ap:dp.wrap 0=0:=rfl;have am:dp.wrap ((w:Int)-((w+1:Nat):Int))= -1:=by rw[show(w:Int)-((w+1:Nat):Int)= -1 by omega];rfl
     have cE:dp.wrap (-1)= -1:=rfl;have fs:(cL (c+1) (fS (X (j+1)) R j i)).set (j+i) (.p (.int .i64 (-1)))=cL (c+1) (gE (X (j+1)) R (R+V) j i 0):=by
      refine uX _ _ (by rw[gE,if_pos rfl]) fun k _ hk=>?_;rw[gE,if_neg hk,if_neg (by omega)]
     have aE:(t:Int)-1=ae bT (a/b) j:=by rw[aK,aV];omega
     have cQ:dp.wrap ((t:Int)-1)=ae bT (a/b) j:=by rw[aE];have:=cr ba (a/b) j;exact aP _ (by omega) (by omega)
     have ad:j<m+1:=by omega
     have cq:gE (X (j+1)) R (R+V) j i 0 (j+i)= -1:=by rw[gE,if_pos rfl]
     push_cast at am;simp[aT,aR,aH,aA,bm,lH,uQ,am,ap,cE,cQ,aS,ad,fs,cq,aa,aL,bD];refine lp (α:=Nat) (fun k=>⟨[(20,.p (.int .i64 k)),(19,.p (.int .i64 (de bT R V k:Nat))),(14,.p (.int .i64 (ae bT (a/b) j:Nat))),(13,.p (.int .i64 j)),(12,.sl 3 0 1 0 (m+1)),(11,.sl 2 l 1 0 (c+1)),(10,.p (.int .i64 i)),(9,.p (.seq (s.map fun x:Nat=>.int .i64 x))),(8,.sl 0 0 1 0 1)],[.arr .frozen 0 1 [.p (.int .i64 f)],.hole,.arr .grow l 1 (cL (c+1) (gE (X (j+1)) R (R+V) j i k)),.arr .exact 0 1 (dh (m+1) (qT (a/b) (j+1)))]⟩)
      (fun k=>k<=i) (fun k=>i-k) 0 (hz _) ?_ (he:=by simp[xl])
     intro k hk;have cM:dp.wrap ((k:Int)+j)=(k:Int)+j:=aP _ (by omega) (by omega);have cD:((k:Int)+j).toNat=k+j:=by omega
     have cw:0<=(k:Int)+j:=by omega
     have cK:dp.wrap ((k:Int)+1)=(k:Int)+1:=aP _ (by omega) (by omega);obtain⟨q1,cz⟩:=p0 ba R V k;have dg:=lG ba R V k;have q4:=lG ba R V (k+1);have di:=cr ba R k;have dj:=cr ba V k
     by_cases bb:k<i
     ·have b1:(k:Int)<i:=by omega
      have aB:k<s.length:=by omega
      have bl:=aX k aB;have cn:s[k]?=some (ae bT V k):=by rw[eq aB,bl]
      have b4:k+j<c+1:=by omega
      have az:gE (X (j+1)) R (R+V) j i k (k+j)=(ae bT R k:Nat):=by rw[hb k j,aJj bb]
      have aN:(cL (c+1) (gE (X (j+1)) R (R+V) j i k)).set (k+j) (.p (.int .i64 (ae bT (R+V) k:Nat)))=cL (c+1) (gE (X (j+1)) R (R+V) j i (k+1)):=by
       rw[hb k j];exact uX _ _ (aJk bb) fun x _ hx=>aJl hx
      have aO:((ae bT R k:Nat):Int)+(ae bT V k:Nat)+(de bT R V k:Nat)=((ae bT R k+ae bT V k+de bT R V k:Nat):Int):=by omega
      have an:((ae bT R k+ae bT V k+de bT R V k:Nat):Int).tmod 1000000000=(ae bT (R+V) k:Nat):=by
       rw[<-q1,dz (dq _),ec];rfl
      have ao:((ae bT R k+ae bT V k+de bT R V k:Nat):Int).tdiv 1000000000=(de bT R V (k+1):Nat):=by
       rw[<-cz,ea (dq _),ed];rfl
      rw[<-aO]at an ao;have w1:dp.wrap ((ae bT R k:Nat)+(ae bT V k:Nat))=(ae bT R k:Nat)+(ae bT V k:Nat):=aP _ (by omega) (by omega);have cF:dp.wrap ((ae bT R k:Nat)+(ae bT V k:Nat)+(de bT R V k:Nat))=(ae bT R k:Nat)+(ae bT V k:Nat)+(de bT R V k:Nat):=aP _ (by omega) (by omega);have cG:dp.wrap (ae bT (R+V) k:Nat)=(ae bT (R+V) k:Nat):=by have:=cr ba (R+V) k;exact aP _ (by omega) (by omega)
      have cH:dp.wrap (de bT R V (k+1):Nat)=(de bT R V (k+1):Nat):=aP _ (by omega) (by omega);simp[b1,aB,bl,cn,cM,cD,cw,b4,az,aN,lH,w1,cF,cG,cH,an,ao,cK,aa,aL,bD];exact rd (k+1) (show k+1<=i by omega)
     ·have b3:k=i:=by omega
      subst b3;have cs:gE (X (j+1)) R (R+V) j k k (j+k)= -1:=by rw[gE,if_pos rfl]
      have cC:dp.wrap (-1+1)=0:=rfl;have aJ:(dh (m+1) (qT (a/b) (j+1))).set j (.p (.int .i64 (ae bT (a/b) j:Nat)))=dh (m+1) (qT (a/b) j):=C6;have bE:(cL (c+1) (gE (X (j+1)) R (R+V) j k k)).set (j+k) (.p (.int .i64 0))=cL (c+1) fun k=>(ae bT (X j) k:Nat):=by
       rw[uX _ (fun x=>if x=j+k then 0 else gE (X (j+1)) R (R+V) j k k x) (if_pos rfl) (fun x _ hx=>if_neg hx)];refine a6 _ fun x _=>?_
       by_cases hk:x=j+k
       ·rw[if_pos hk,if_pos hk];rfl
       ·rw[if_neg hk,if_neg hk,gE,if_neg hk]
        by_cases z:j<=x/\x<j+k
        ·rw[if_pos z,if_pos z,cA (x-j) (by omega)]
        ·rw[if_neg z,if_neg z,fS,if_neg z]
      rw[aM];simp[aT,aR,aH,aA,cs,lH,uQ,cC,ap,aS,ad,bE,aJ,aa,aL,bD];exact rd j (show j<=m+1 by omega)
 rintro⟨bC,bV⟩ ⟨bq,E,P,Q,F,T⟩;dsimp only at E P Q F T;subst T;have aZ:X 0=a% b*f:=by rw[J,hd,hA,I,Nat.mul_mod_mul_right]
 have bH:a/b<bT^(m+1):=by
  rw[gc K];refine gg a2 ?_;rw[show c=m+1+k by omega,hg];exact hp _ ay
 obtain⟨df,bd,b8,aW⟩:=LJ (m:=m+1) (N:=a/b) bH (by omega);have a0:X 0<bT^n:=gg (by have:=Y 0;rwa [hd,hA]at this) (hK W);obtain⟨O,c9,af,b9,ar⟩:∃O:List Nat,O=(ew (c+1)).map (ae bT (X 0))/\O.length=c+1/\dh (c+1) (ae bT (X 0))=O.map (AV.p∘fun x:Nat=>PV.int .i64 x)/\au prog 296 [.seq (iP (O.take n))] (eT (X 0)):=by
  refine⟨_,rfl,by simp,BN _ _,?_⟩;have e:((ew (c+1)).map (ae bT (X 0))).take n=(ew n).map (ae bT (X 0)):=KW (by omega) fun k hk=>rfl;rw[e];have H:=sT ((ew n).map (ae bT (X 0))) (by simp;omega);rw[show eg ((ew n).map (ae bT (X 0)))=aw bT (X 0)from jo ba a0]at H;exact H
 have L:=HF (X 0) f f0 f1 (by
  have:=dJ ba n (X 0) a0;omega)
 rw[aZ,Nat.mul_div_cancel _ f0]at L;rw[aZ]at ar;rw[<-Qm,b9,b8]at*;simp only[eT,cu,cv,iP]at aW ar L⊢;have aC:¬O=[]:=by intro h;rw[h]at af;simp at af
 have be:n<=c+1:=by omega
 simp[E,P,Q,F,af,aC,be];refine ep ar (by simp[af,be,aC];first|exact⟨rfl,rfl⟩|rfl) (by simp[aC];first|exact⟨rfl,rfl⟩|rfl) ?_ (h1:=by simp[List.map_take]);simp[E,aa,aL,bD];refine e2 L ?_;simp[F];refine⟨by repeat' first|rfl|apply And.intro,?_⟩;refine cp aW (by simp[bd];first|exact⟨rfl,rfl⟩|rfl) ?_ (h1:=by simp[e6,bd]);simp
theorem UX(n:Nat):eg (aw bT n)=aw bT n:=by
 have h:=Cw ba (l:=aw bT n) (fun d a=>by
  obtain⟨i,hi,rfl⟩:=List.getElem_of_mem a;rw[ey ba hi];exact cr ba _ _)
 rw[<-h,Jm ba]
theorem pY(neg:Bool)(n:Nat)(h:(aw bT n).length<=1048576):au prog 239 [.bool neg,eT n] (eG (if neg=true then -(n:Int)else n)):=BZ neg (aw bT n) n (UX n) h
theorem JH(a b:Nat)(g:(aw bT a).length<=400000)(h:(aw bT b).length<=400000):au prog 237 [eT a,eT b] (eT (hF a b)):=by
 refine aI nf NX mix (by simp[f237]) ?_;simp[f237];refine lp (α:=Nat×Nat) (fun x=>⟨[(1,.p (eT x.2)),(0,.p (eT x.1))],[]⟩)
  (fun x=>(aw bT x.1).length<=400000/\(aw bT x.2).length<=400000/\hF x.1 x.2=hF a b) (fun x=>x.2) (a,b) ⟨g,h,rfl⟩ ?_
 rintro⟨x,y⟩ ⟨e,d,c⟩;dsimp only at e d c
 by_cases hy:y=0
 ·subst hy;rw[hQ]at c;rw[<-c];simp[eT,zp]
 ·have i:0<(aw bT y).length:=by
   rw[fb,Ne,uD];exact hy
  have f:=Dm x y (by omega) e d;have j:=gt x (show 0<y by omega);simp[eT,i];refine c2 f ?_;simp;exact rd (y,x% y) ⟨d,by have:=dJ ba _ _ (g4 j (ch ba y));dsimp only;omega,by rw[<-c,hu y,<-hW,hu]⟩ (by dsimp only;omega) (he:=by simp[eT])
theorem Ys(a b:Nat)(h:a<9223372036854775808)(i:b<9223372036854775808):au prog 172 [.int .i64 a,.int .i64 b] (.int .i64 (hF a b:Nat)):=by
 refine aI nf Od mix (by simp[f172]) ?_;simp[f172];refine lp (α:=Nat×Nat) (fun x=>⟨[(1,.p (.int .i64 x.2)),(0,.p (.int .i64 x.1))],[]⟩)
  (fun x=>x.1<9223372036854775808/\x.2<9223372036854775808/\hF x.1 x.2=hF a b) (fun x=>x.2) (a,b) ⟨h,i,rfl⟩ ?_
 rintro⟨x,y⟩ ⟨g,d,c⟩;dsimp only at g d c
 by_cases f:y=0
 ·subst f;rw[hQ]at c;rw[<-c];simp
 ·have m:(0:Int)<y:=by omega
  have e:0<y:=by omega
  have o:¬(y:Int)=0:=by omega
  have n:=gt x e;have k:(x:Int).tmod y=(x% y:Nat):=by rw[dz (dq _),ec]
  have l:dp.wrap ((x% y:Nat):Int)=(x% y:Nat):=aP _ (by omega) (by omega);generalize j:x% y=r at*;simp[e,f,k,l];exact rd (y,r) ⟨d,by dsimp only;omega,by rw[<-c,<-j,hu y,<-hW,hu]⟩ (by dsimp only;omega)
theorem XP{B a b x y K:Nat}(c:2<=B)(d:a<B^x)(e:b<B^y)(f:B^x<=B^K)(g:B^y<=B^K):a+b<B^(K+1):=by
 rw[gj];have:=hp (B^K) c;omega
theorem XO{a b K:Nat}(g:(aw bT a).length<=K)(h:(aw bT b).length<=K):(aw bT (a+b)).length<=K+1:=by
 have c:=ch ba a;have d:=ch ba b;have e:=gm (show 0<bT by decide) g;have f:=gm (show 0<bT by decide) h;exact dJ ba (K+1) (a+b) (XP ba c d e f)
theorem YE(a b:Int)(l:(aw bT a.natAbs).length<=400000)(o:(aw bT b.natAbs).length<=400000):au prog 232 [eG a,eG b] (eG (a+b)):=by
 have m:=Yi a.natAbs b.natAbs (by omega) (by omega);have k:=HG a.natAbs b.natAbs (by omega) (by omega);have q:(aw bT (a.natAbs+b.natAbs)).length<=1048576:=by
  have r:=XO l o;omega
 refine aI nf N3 mix (by simp[f232]) ?_
 by_cases hs:(a<0↔b<0)
 ·have t:(decide (a<0)==decide (b<0))=true:=by simp[hs]
  have d:=pY (decide (a<0)) (a.natAbs+b.natAbs) q;have f:(if decide (a<0)=true then -((a.natAbs+b.natAbs:Nat):Int)else((a.natAbs+b.natAbs:Nat):Int))=a+b:=by
   by_cases h:a<0
   ·have:=hs.1 h;simp[h];omega
   ·have:¬b<0:=fun c=>h (hs.2 c);simp[h];omega
  rw[f]at d;generalize a+b=s at*;generalize a.natAbs+b.natAbs=n at*;have g:(a<0↔b<0)=True:=eq_true hs;simp only[eG]at d⊢;simp[f232,g,aa];refine e2 m ?_;simp[aa];refine e2 d ?_;simp[aa]
 ·have g:(a<0↔b<0)=False:=eq_false hs
  by_cases p:b.natAbs<=a.natAbs
  ·have i:0<=fH a.natAbs b.natAbs:=by
    have:=oV (a:=a.natAbs) (b:=b.natAbs);omega
   have j:=LK a.natAbs b.natAbs p (by omega);have d:=pY (decide (a<0)) (a.natAbs-b.natAbs) (by
    have:=dJ ba _ _ (g8 (hP a.natAbs b.natAbs) (ch ba a.natAbs));omega)
   have f:(if decide (a<0)=true then -((a.natAbs-b.natAbs:Nat):Int)else((a.natAbs-b.natAbs:Nat):Int))=a+b:=by
    by_cases h:a<0
    ·have:¬b<0:=fun c=>hs ⟨fun _=>c,fun _=>h⟩;simp[h];omega
    ·have:b<0:=by
      rcases en b 0 with c|c
      ·exact c
      ·exact(hs ⟨fun e=>(h e).elim,fun e=>by omega⟩).elim
     simp[h];omega
   rw[f]at d;generalize a+b=s at*;generalize a.natAbs-b.natAbs=n at*;simp only[eG]at d⊢;simp[f232,g,aa];refine c2 k ?_;simp[i,aa];refine e2 j ?_;simp[aa];refine e2 d ?_;simp[aa]
  ·have i:¬0<=fH a.natAbs b.natAbs:=by
    have:=oV (a:=a.natAbs) (b:=b.natAbs);omega
   have j:=LK b.natAbs a.natAbs (by omega) (by omega);have d:=pY (decide (b<0)) (b.natAbs-a.natAbs) (by
    have:=dJ ba _ _ (g8 (hP b.natAbs a.natAbs) (ch ba b.natAbs));omega)
   have f:(if decide (b<0)=true then -((b.natAbs-a.natAbs:Nat):Int)else((b.natAbs-a.natAbs:Nat):Int))=a+b:=by
    by_cases h:b<0
    ·have:¬a<0:=fun c=>hs ⟨fun _=>h,fun _=>c⟩;simp[h];omega
    ·have:a<0:=by
      rcases en a 0 with c|c
      ·exact c
      ·exact(hs ⟨fun e=>by omega,fun e=>(h e).elim⟩).elim
     simp[h];omega
   rw[f]at d;generalize a+b=s at*;generalize b.natAbs-a.natAbs=n at*;simp only[eG]at d⊢;simp[f232,g,aa];refine c2 k ?_;simp[i,aa];refine e2 j ?_;simp[aa];refine e2 d ?_;simp[aa]
theorem LL(a:Int)(d:(aw bT a.natAbs).length<=400000):au prog 236 [eG a] (eG (-a)):=by
 have b:=pY (!decide (a<0)) a.natAbs (by omega);have c:(if(!decide (a<0))=true then -((a.natAbs:Nat):Int)else(a.natAbs:Nat))= -a:=by
  by_cases h:a<0
  ·simp[h];omega
  ·simp[h];omega
 rw[c]at b;refine aI nf NY mix (by simp[f236]) ?_;generalize -a=s at*;simp only[eG]at b⊢;simp[f236,aa];refine c2 b ?_;simp[aa]
theorem uY(a b:Int)(g:(aw bT a.natAbs).length+(aw bT b.natAbs).length<=1000000):au prog 150 [eG a,eG b] (eG (a*b)):=by
 have f:=Dl a.natAbs b.natAbs g;have j:(aw bT (a.natAbs*b.natAbs)).length<=1000000:=by
  have c:=ch ba a.natAbs;have d:=ch ba b.natAbs;have i:=dJ ba ((aw bT a.natAbs).length+(aw bT b.natAbs).length) (a.natAbs*b.natAbs) (by rw[hg];exact hv c d);omega
 have e:=pY ((!(decide (a<0)==decide (b<0)))) (a.natAbs*b.natAbs) (by omega);have h:(if(!(decide (a<0)==decide (b<0)))=true then -((a.natAbs*b.natAbs:Nat):Int)else((a.natAbs*b.natAbs:Nat):Int))=a*b:=by
  by_cases c:a<0<;>by_cases d:b<0
  ·simp[c,d];rw[eb (ej c),eb (ej d),Int.neg_mul_neg]
  ·simp[c,d];rw[eb (ej c),ee (by omega),Int.neg_mul,eo]
  ·simp[c,d];rw[eb (ej d),ee (by omega),Int.mul_neg,eo]
  ·simp[c,d];rw[ee (by omega),ee (by omega)]
 rw[h]at e;refine aI nf Nt mix (by simp[f150]) ?_;generalize a*b=s at*;generalize a.natAbs*b.natAbs=n at*;generalize hx:(!(decide (a<0)==decide (b<0)))=x at*;simp only[eG]at e⊢;simp[f150,aa];refine e2 f ?_;simp[hx,aa];refine e2 e ?_;simp[aa]
theorem VG:∀d:Nat,d<10->fv d (fd (d+1) [48,49,50,51,52,53,54,55,56,57])=[48+d]:=by decide
theorem xA(n a:Nat)(D:n<9223372036854775808)(I:a<=1000):au prog 173 [.int .i64 n,.int .i64 a] (.str (low (max a (nd n)) n)):=by
 have K:nd n<=19:=rh (g4 D (by decide));refine aI nf Oc mix (by simp[f173]) ?_;obtain⟨L,e⟩:∃L,L=max a (nd n):=⟨_,rfl⟩
 rw[<-e];obtain⟨g,b⟩:∃g:Nat->Nat,∀i,n/10^i=g i:=⟨_,fun _=>rfl⟩
 have A:g 0=n:=by rw[<-b,hd,hC]
 simp[f173];refine lp (α:=Nat) (fun i=>⟨[(0,.p (.int .i64 (g i:Nat))),(5,.p (.str (low i n))),(1,.p (.int .i64 a))],[]⟩)
  (fun i=>i<=L) (fun i=>L-i) 0 (hz _) ?_ (he:=by simp[low,A])
 intro i hi;have q:low (i+1) n=(48+g i% 10)::low i n:=by
  rw[hb,qB,b,sB];rfl
 have hq:g (i+1)=g i/10:=by rw[<-b,<-b,gj,g9]
 have M:g i<=n:=by rw[<-b];exact hE _ _
 have E:0<g i↔i<nd n:=by
  rw[<-b,nS,Nat.div_pos_iff];have:=gi (n:=i) (show 0<10 by decide);omega
 have l:=qA n i;have j:=VG (g i% 10) (gt _ (by decide));have f:i<L↔0<g i\/i<a:=by rw[E,e];omega
 have F:=gt (g i) (show 0<10 by decide);have r:(g i:Int).tmod 10=(g i% 10:Nat):=by rw[dz (dq _),ec];rfl
 have t:(g i:Int).tdiv 10=(g (i+1):Nat):=by rw[hq,ea (dq _),ed (g i)];rfl
 have G:L<=1000:=by rw[e];omega
 generalize g i% 10=d at*;have m:fv d (48::fd d [49,50,51,52,53,54,55,56,57])=[48+d]:=j;generalize N:g i=z at*;generalize y:g (i+1)=z2 at*;generalize hs:low i n=s at*;have x:dp.wrap (z2:Int)=z2:=aP _ (by omega) (by omega);have v:dp.wrap (d:Int)=d:=aP _ (by omega) (by omega);have w:dp.wrap ((d:Int)+1)=d+1:=aP _ (by omega) (by omega);have u:((d:Int)+1).toNat=d+1:=by omega
 have J:min (d+1) 10-d+i<9223372036854775808:=by omega
 have H:(0:Int)<=d+1/\(d:Int)+1<=10/\(d:Int)<=max (d+1) 0:=by omega
 by_cases k:i<L
 ·by_cases c:0<z
  ·simp[c,r,t,x,v,w,u,j,l];refine⟨by omega,by omega,?_⟩;exact rd (i+1) (show i+1<=L by omega) (he:=by simp[y,q,m])
  ·have o:i<a:=by rcases f.1 k with h|h;exact(c h).elim;exact h
   simp[c,o,r,t,x,v,w,u,j,l];refine⟨by omega,by omega,?_⟩;exact rd (i+1) (show i+1<=L by omega) (he:=by simp[y,q,m])
 ·have c:¬0<z:=fun h=>k (f.2 (.inl h));have o:¬i<a:=fun h=>k (f.2 (.inr h));have B:s=low L n:=by rw[<-hs];congr 1;omega
  have C:¬L<a:=by omega
  simp[c,C,l,B,qA]
theorem Wc{n i:Nat}(h:bT^(i+1)<=n):bf (n/bT^i)=bf (n/bT^(i+1))++low 9 (ae bT n i):=by
 have c:0<bT^i:=gi (by decide);have b:10^9<=n/bT^i:=by
  rw[hL c,fw];rw[gj]at h;exact h
 have a:=WM b;have e1:n/bT^i/10^9=n/bT^(i+1):=by rw[g9,gj];rfl
 have e2:n/bT^i% 10^9=ae bT n i:=rfl;rw[e1,e2]at a;have d:0<n/bT^i:=gg (by decide) b;have e:0<n/bT^(i+1):=hB h (gi (by decide));rw[bf,bf,show max 1 (nd (n/bT^i))=nd (n/bT^i)by have:=yQ d;omega,show max 1 (nd (n/bT^(i+1)))=nd (n/bT^(i+1))by have:=yQ e;omega,a]
theorem CG(z:Int)(B:(aw bT z.natAbs).length<=1000000):au prog 151 [eG z] (.str (bN z)):=by
 refine aI nf Ns mix (by simp[f151]) ?_
 by_cases G:z=0
 ·subst G;have v:bN 0=[48]:=by rw[show(0:Int)=((0:Nat):Int)from rfl,um,qf]
  simp[f151,eG,eT,zp,aa,v]
 obtain⟨n,f⟩:∃n,z.natAbs=n:=⟨_,rfl⟩
 have M:0<n:=by omega
 have L:0<(aw bT n).length:=by
  rw[fb,Ne,uD];omega
 obtain⟨k,hk⟩:∃k,(aw bT n).length=k+1:=⟨(aw bT n).length-1,by omega⟩
 have g:=ch ba n;rw[hk]at g;have q:bT^k<=n:=by
  rcases gx n (bT^k)with h|h
  ·have:=dJ ba k n h;omega
  ·exact h
 have m:∀i(h:i<(aw bT n).length),(aw bT n)[i]=ae bT n i:=fun i h=>ey ba h;have r:n/bT^k=ae bT n k:=by
  rw[ae,ge];rw[gc (gi (by decide)),fw,<-gj];exact g
 have O:0<ae bT n k:=by rw[<-r];exact hB q (gi (by decide))
 have c:=xA (ae bT n k) 1 (g4 (cr ba n k) (by decide)) (by decide);rw[show low (max 1 (nd (ae bT n k))) (ae bT n k)=bf (n/bT^k)by rw[r];rfl]at c;have w:∀i,au prog 173 [.int .i64 (ae bT n i:Nat),.int .i64 (9:Nat)] (.str (low 9 (ae bT n i))):=fun i=>by
  have h:=xA (ae bT n i) 9 (g4 (cr ba n i) (by decide)) (by decide);have J:nd (ae bT n i)<=9:=rh (cr ba n i)
  rwa [show max 9 (nd (ae bT n i))=9 by omega]at h
 have a:bf (n/bT^0)=bf n:=by rw[hd,hC]
 have gS:∀i,i+1<=k->bf (n/bT^i)=bf (n/bT^(i+1))++low 9 (ae bT n i):=fun i hi=>Wc (hl (gm (by decide) hi) q);have K:k<=1000000:=by rw[f]at B;omega
 have D:bN z=if z<0 then 45::bf n else bf n:=by rw[bN,f]
 have N:ae bT n k<bT:=cr ba n k;have C:∀i,ae bT n i<bT:=fun i=>cr ba n i;obtain⟨T,j⟩:∃T:Nat->List Nat,∀i,bf (n/bT^i)=T i:=⟨_,fun _=>rfl⟩
 have l:∀i,(T i).length<=9000000+9:=fun i=>by
  rw[<-j];refine hl (uk (k:=9*(k+1)) ?_ (by omega)) (by omega);rw[Nat.pow_mul];exact g8 (hE _ _) g
 simp only[j]at c a gS;rw[D];simp only[eG,f,eT,<-a];generalize hx:aw bT n=x at*;have w1:dp.wrap ((k:Int)+1-1)=k:=by rw[Int.add_sub_cancel];exact aP _ (by omega) (by omega)
 have H:dp.wrap (k:Int)=k:=aP _ (by omega) (by omega);have u:dp.wrap ((k:Int)+1-2)=(k:Int)-1:=by rw[aP _ (by omega) (by omega)];omega
 have A:¬(k:Int)+1=0:=by omega
 have e:k<x.length:=by omega
 have t:=m k e;have F:x[k]?=some (ae bT n k):=by rw[eq e,t]
 simp[f151,aa,hk,A,w1,H,u,e,t,F];refine c2 c ?_;simp[aa,hk,u];refine lp (α:=Nat) (fun i=>⟨[(4,.p (.int .i64 ((i:Int)-1))),(3,.p (.str (T i))),(1,.ptr 0 [])],[.box false (.p (.st 222 [.bool (decide (z<0)),.seq (x.map fun x:Nat=>.int .i64 x)]))]⟩)
  (fun i=>i<=k) (fun i=>i) k (ha _) ?_
 rintro i hi;have P:=C i;rcases i with _|i
 ·by_cases o:z<0
  ·have b:=g8 (hM (l 0) 1) (show 9000000+9+1<9223372036854775808 by decide);rw[a,hb]at b;simp[o,aa,a,b]
  ·simp[o,aa,a]
 ·have d:i<x.length:=by omega
  have s:=m i d;have E:x[i]?=some (ae bT n i):=by rw[eq d,s]
  have y:¬(i:Int)<0:=by omega
  have I:dp.wrap ((i:Int)-1)=(i:Int)-1:=aP _ (by omega) (by omega);have b:=g8 (hM (l (i+1)) 9) (show 9000000+9+9<9223372036854775808 by decide);have aN:=gS i hi;simp[y,aa,d,s,E];refine c2 (w i) ?_;simp[I,qA];refine⟨b,?_⟩;exact rd i (show i<=k by omega) (he:=by simp[aN])
end Go.ak
