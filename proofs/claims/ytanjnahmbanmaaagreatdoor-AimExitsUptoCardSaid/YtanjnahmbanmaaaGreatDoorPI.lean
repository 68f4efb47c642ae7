import Derived.Test.YtanjnahmbanmaaaGreatDoorPH
import Derived.Test.YtanjnahmbanmaaaGreatDoorPG
/- Parts of a proof. -/
set_option linter.unusedSimpArgs false
set_option linter.unusedVariables false
set_option linter.unusedSectionVars false
open Go.Proofs.Tryz
open Go.IntKind renaming i64->dp
open Int renaming natCast_nonneg->dq, tmod_eq_emod_of_nonneg->dx, tdiv_eq_ediv_of_nonneg->dy, ofNat_natAbs_of_nonpos->dz, natCast_emod->ea, natCast_ediv->eb, natAbs_of_nonneg->ec, natCast_mul->ed, le_of_lt->ee, natCast_add->ei, lt_or_le->ej, neg_neg->em
open List renaming getElem?_eq_getElem->en, range->eo, take_of_length_le->eq, getElem_range->ew, getElem_map->e6, replicate->e7, length_pos_iff->e8, take->e9, ext_getElem->fb, map_cons->fd, drop->fl
open Nat renaming mul_comm->fm, mul_le_mul_right->fv, div_lt_iff_lt_mul->gb, mod_eq_of_lt->gc, lt_of_lt_of_le->ge, pow_pos->gg, pow_succ->gi, pow_le_pow_right->gj, mod_lt->gm, lt_or_ge->gt, mul_assoc->gx, div_add_mod->gy, lt_trans->g0, one_mul->g4, mul_add->g5, add_mul->g6, lt_of_le_of_lt->g7, div_div_eq_div_mul->g8, le_refl->g9, add_comm->ha, pow_zero->hb, pow_add->hd, mul_lt_mul_of_pos_right->hg, le_trans->hj, add_mul_mod_self_left->hl, div_eq_of_lt->hm, add_sub_cancel_left->hn, mul_le_mul_left->ho, mul_right_comm->hp, mod_mod_of_dvd->hr, gcd_comm->ht, mul_lt_mul''->hu, lt_of_not_le->hv, zero_le->hw, mul_one->hz, div_pos->hA, div_one->hB, pow_dvd_pow->hC, div_le_self->hD, gcd->hE, mul_le_mul->hF, add_mul_mod_self_right->hG, le_mul_of_pos_right->hH, le_of_lt->hJ, le_div_iff_mul_le->hK, add_le_add_right->hL, div_mul_le_self->hM, div_eq_of_lt_le->hN, sub_le->hO, gcd_zero_right->hP, add_sub_cancel->hQ, sub_mul->hR, pow_one->hS, mul_pos->hT, mod_one->hU, gcd_rec->hV
open Option.some renaming inj->hW
namespace Go.az
open Go.Proofs
set_option maxHeartbeats 4000000
set_option maxRecDepth 100000
theorem A9(n:Nat)(f:Nat->Nat):cU n f=((eo n).map f).map (AV.p∘fun x:Nat=>PV.int .i64 x):=by
 rw[cU,List.map_map];rfl
theorem S7{n:Nat}{f:Nat->Nat}(h:∀j,f j=0):e7 n (AV.p (.int .i64 0))=cU n f:=by
 rw[Ii];exact xy fun j _=>(h j).symm
theorem CI(a b:Nat)(w:(aq bT a).length+(aq bT b).length<=1000000):au prog 240 [eT a,eT b] (eT (a*b)):=by
 refine aM nf K5 mix (by simp[f240]) ?_;have Q:∀i(h:i<(aq bT a).length),(aq bT a)[i]=ae bT a i:=fun i h=>et aX h;have R:∀i(h:i<(aq bT b).length),(aq bT b)[i]=ae bT b i:=fun i h=>et aX h;have t:=bY aX a;have e:=bY aX b;have V:eg ((eo ((aq bT a).length+(aq bT b).length)).map (ae bT (a*b)))=aq bT (a*b):=ji aX (by
  rw[hd];exact hu t e)
 have c:=rY ((eo ((aq bT a).length+(aq bT b).length)).map (ae bT (a*b))) (by simp;omega);rw[V]at c;have A:bT=1000000000:=rfl;simp only[eT];simp only[iP]at c;generalize aq bT (a*b)=z at*;generalize aq bT a=x at*;generalize aq bT b=y at*;obtain⟨n,d⟩:∃n,x.length=n:=⟨_,rfl⟩
 obtain⟨m,g⟩:∃m,y.length=m:=⟨_,rfl⟩
 rw[d]at t c w;rw[g]at e c w;have B:=A9 (n+m) (ae bT (a*b));have u:((eo (n+m)).map (ae bT (a*b))).length=n+m:=by simp
 generalize (eo (n+m)).map (ae bT (a*b))=l at c B u;have U:((n:Int)+m).toNat=n+m:=by omega
 have T:0<=(n:Int)+m:=by omega
 have Z:dp.wrap ((n:Int)+m)=(n:Int)+m:=aO _ (by omega) (by omega);simp[f240,d,g,Z,U,T];refine⟨by simp only[cN];omega,?_⟩;rw[S7 (f:=cT bT a b 0 0) (by intro j;simp[n6,hU,ae])];refine lp (α:=Nat) (fun i=>⟨[(6,.p (.int .i64 i)),(5,.sl 0 0 1 0 (n+m)),(1,.p (.seq (y.map fun x:Nat=>.int .i64 x))),(0,.p (.seq (x.map fun x:Nat=>.int .i64 x)))],[.arr .exact 0 1 (cU (n+m) (cT bT a b i 0))]⟩)
  (fun i=>i<=n) (fun i=>n-i) 0 (by simp) ?_ (he:=by simp)
 intro i k1;have W:=cQ (i:=i) (by omega)
 by_cases hi:i<n
 ·have r:i<x.length:=by rw[d];exact hi
  have hx:=Q i r;have ab:x[i]?=some (ae bT a i):=by rw[en r,hx]
  simp[d,hi];refine lp (α:=Nat) (fun j=>⟨[(8,.p (.int .i64 j)),(7,.p (.int .i64 (mulC bT a b i j:Nat))),(6,.p (.int .i64 i)),(5,.sl 0 0 1 0 (n+m)),(1,.p (.seq (y.map fun x:Nat=>.int .i64 x))),(0,.p (.seq (x.map fun x:Nat=>.int .i64 x)))],[.arr .exact 0 1 (cU (n+m) (cT bT a b i j))]⟩)
   (fun j=>j<=m) (fun j=>m-j) 0 (by simp) ?_ (he:=by simp[AG])
  intro j k2;have Y:=cQ (i:=j) (by omega);have H:((i:Int)+j).toNat=i+j:=by omega
  have G:0<=(i:Int)+j:=by omega
  have X:dp.wrap ((i:Int)+j)=(i:Int)+j:=aO _ (by omega) (by omega)
  by_cases F:j<m
  ·have s:j<y.length:=by rw[g];exact F
   have I:=R j s;have ac:y[j]?=some (ae bT b j):=by rw[en s,I]
   have E:i+j<n+m:=by omega
   have q:=rP (cT bT a b i j) E;have o:=Bv aX a b i j;have aj:=rT aX a b i j;have v:=rT aX a b i (j+1);have al:cT bT a b i j (i+j)<bT:=by rw[cT];split<;>exact b8 aX _ _
   have ao:=b8 aX a i;have ap:=b8 aX b j;have hs:=BK (n:=n+m) (i:=i+j) (cT bT a b i j) (cT bT a b i (j+1)) (fun k _ hk=>G6 aX hk);rw[IZ]at hs;rw[<-o.1]at hs;have an:ae bT a i*ae bT b j<=999999999*999999999:=hF (by omega) (by omega);rw[<-o.2]at v;have M:=o.2;clear o;have N:((ae bT a i:Int)*(ae bT b j:Int))=((ae bT a i*ae bT b j:Nat):Int):=by push_cast;rfl
   generalize ae bT a i*ae bT b j=P at*;generalize cT bT a b i j (i+j)=O at*;generalize am:mulC bT a b i j=C at*;have w1:dp.wrap ((ae bT a i:Int)*(ae bT b j:Int))=P:=by rw[N];exact aO _ (by omega) (by omega)
   have ag:dp.wrap ((O:Int)+P)=O+P:=aO _ (by omega) (by omega);have ah:dp.wrap ((O:Int)+P+C)=O+P+C:=aO _ (by omega) (by omega);have J:((O:Int)+P+C).tmod 1000000000=((P+O+C)%bT:Nat):=by
    rw[dx (by omega),A];omega
   generalize (P+O+C)%bT=D at*;have K:((O:Int)+P+C).tdiv 1000000000=(mulC bT a b i (j+1):Nat):=by
    rw[dy (by omega),<-M,A];omega
   have L:dp.wrap ((mulC bT a b i (j+1):Nat):Int)=(mulC bT a b i (j+1):Nat):=aO _ (by omega) (by omega);simp[d,g,F,X,H,G,E,q,hx,ab,I,ac,r,s,w1,ag,ah,J,K,L,hs,ad];exact rd (j+1) (show j+1<=m by omega) (he:=by simp[Y])
  have:j=m:=by omega
  subst this;have aa:dp.wrap ((i:Int)+j)=(i:Int)+j:=aO _ (by omega) (by omega);have ak:i+j<n+j:=by omega
  have af:cT bT a b i j (i+j)=0:=by
   rw[cT,if_neg (by omega)];exact jh (ui aX a i e)
  have q:=rP (cT bT a b i j) ak;rw[af]at q;have hs:=BK (n:=n+j) (i:=i+j) (cT bT a b i j) (cT bT a b (i+1) 0) (fun k _ hk=>by rw[n6,I0 aX e hk]);rw[n6,<-FM aX e]at hs;have v:=rT aX a b i j;have ai:dp.wrap ((mulC bT a b i j:Nat):Int)=(mulC bT a b i j:Nat):=aO _ (by omega) (by omega);simp[g,aa,H,G,hi,ak,q,hs,ai,ad];exact rd (i+1) (show i+1<=n by omega) (he:=by simp[W])
 have:i=n:=by omega
 subst this;have S:cU (i+m) (cT bT a b i 0)=cU (i+m) (ae bT (a*b)):=xy fun k _=>by rw[n6,gc t]
 simp[d,S,B];refine cp c (by simp[u];exact⟨rfl,rfl⟩) ?_ (h1:=by simp[eq,u]);simp
theorem TM{a b i:Nat}(c:0<b):(a/bT^(i+1)%b*bT+ae bT a i)/b=ae bT (a/b) i/\(a/bT^(i+1)%b*bT+ae bT a i)%b=a/bT^i%b:=by
 have e:=rl (B:=bT) a i;have g:=gy (a/bT^(i+1)) b;have f:a/bT^i=(a/bT^(i+1)%b*bT+ae bT a i)+a/bT^(i+1)/b*bT*b:=by
  rw[e];generalize ae bT a i=d;generalize a/bT^(i+1)/b=Q at*;generalize a/bT^(i+1)%b=R at*;rw[<-g,g6,fm b,hp Q b bT];omega
 have j:(a/bT^(i+1)%b*bT+ae bT a i)/b<bT:=by
  rw[gb c];have k:=b8 aX a i;have h:=fv bT (show a/bT^(i+1)%b+1<=b from gm _ c);rw[g6,g4]at h;rw[fm bT];omega
 constructor
 ·conv=>rhs;rw[ae,g8,fm b,<-g8,f,Nat.add_mul_div_right _ _ c,hG,gc j]
 ·rw[f,hG]
theorem yG(r x:Nat):(r:Int)*1000000000+x=((r*bT+x:Nat):Int):=by
 rw[ei,ed];rfl
def qT(Q i k:Nat):Nat:=if i<=k then ae bT Q k else 0
theorem Ct{m Q i:Nat}:(cU m (qT Q (i+1))).set i (.p (.int .i64 (ae bT Q i:Nat)))=cU m (qT Q i):=by
 have:=BK (n:=m) (i:=i) (qT Q (i+1)) (qT Q i) (fun k _ hk=>by
  rw[qT,qT]
  by_cases h:i<=k
  ·rw[if_pos h,if_pos (by omega)]
  ·rw[if_neg h,if_neg (by omega)])
 rw[<-this,qT,if_pos (g9 _)]
theorem JW{m Q:Nat}:cU m (qT Q 0)=cU m (ae bT Q):=xy fun k _=>by rw[qT,if_pos (hw _)]
theorem JX{m Q:Nat}:e7 m (AV.p (.int .i64 0))=cU m (qT Q m):=by
 rw[Ii];exact xy fun k hk=>by rw[qT,if_neg (by omega)]
theorem Kw{m N:Nat}(h:N<bT^m)(b:m<=1048576):∃l:List Nat,l.length=m/\cU m (ae bT N)=l.map (AV.p∘fun x:Nat=>PV.int .i64 x)/\au prog 296 [.seq (iP l)] (eT N):=by
 refine⟨(eo m).map (ae bT N),by simp,A9 m _,?_⟩;have a:=rY ((eo m).map (ae bT N)) (by simp;omega);rw[show eg ((eo m).map (ae bT N))=aq bT N from ji aX h]at a;exact a
theorem Gk(a d:Nat)(u:0<d)(W:d<bT)(M:(aq bT a).length<=1000000):au prog 295 [eT a,.int .i64 d] (.aA [eT (a/d),.int .i64 (a%d:Nat)]):=by
 refine aM nf Lp mix (by simp[f295]) ?_;have K:∀i(h:i<(aq bT a).length),(aq bT a)[i]=ae bT a i:=fun i h=>et aX h;have w:=bY aX a;obtain⟨l,o,y,g⟩:=Kw (m:=(aq bT a).length) (N:=a/d) (g7 (hD _ _) w) (by omega);have j:a/bT^(aq bT a).length%d=0:=by rw[hm w,Nat.zero_mod]
 have A:a/bT^0%d=a%d:=by rw[hb,hB]
 have V:bT=1000000000:=rfl;simp only[eT]at g⊢;simp only[iP]at g;generalize aq bT (a/d)=Z at*;generalize aq bT a=x at*;obtain⟨n,q⟩:∃n,x.length=n:=⟨_,rfl⟩
 rw[q]at o y j M;generalize Y:a%d=rem at*;obtain⟨f,hf⟩:∃f:Nat->Nat,∀i,a/bT^i%d=f i:=⟨_,fun _=>rfl⟩
 have z:=fun i=>TM (a:=a) (b:=d) (i:=i) u;have v:∀i,f i<d:=fun i=>by rw[<-hf];exact gm _ u
 simp only[hf]at j A z;have F:dp.wrap ((n:Int)-1)=n-1:=aO _ (by omega) (by omega);simp[f295,q,F];refine⟨by simp only[cN];omega,?_⟩;rw[JX (Q:=a/d)];refine lp (α:=Nat) (fun i=>⟨[(8,.p (.int .i64 ((i:Int)-1))),(7,.p (.int .i64 (f i:Nat))),(6,.sl 0 0 1 0 n),(1,.p (.int .i64 d)),(0,.p (.seq (x.map fun x:Nat=>.int .i64 x)))],[.arr .exact 0 1 (cU n (qT (a/d) i))]⟩)
  (fun i=>i<=n) (fun i=>i) n (g9 _) ?_ (he:=by simp[j])
 intro i k1
 by_cases hi:0<i
 ·obtain⟨k,rfl⟩:∃k,i=k+1:=⟨i-1,by omega⟩
  have G:dp.wrap ((k:Int)-1)=k-1:=aO _ (by omega) (by omega);have r:k<x.length:=by omega
  have hx:=K k r;have O:x[k]?=some (ae bT a k):=by rw[en r,hx]
  obtain⟨P,R⟩:=z k;have aK:=Ct (m:=n) (Q:=a/d) (i:=k);have gk:=rP (qT (a/d) (k+1)) (show k<n by omega);have L:k<n:=by omega
  have T:=v (k+1);have X:=b8 aX a k;have hq:=b8 aX (a/d) k;have U:=v k;generalize f (k+1)=c at*;generalize H:f k=B at*;generalize ae bT a k=e at*;generalize ae bT (a/d) k=s at*;have w1:dp.wrap ((c:Int)*1000000000)=c*1000000000:=aO _ (by omega) (by omega);have S:dp.wrap ((c:Int)*1000000000+e)=c*1000000000+e:=aO _ (by omega) (by omega);have t:(c:Int)*1000000000+e=((c*bT+e:Nat):Int):=yG c e;have C:((c:Int)*1000000000+e).tdiv d=s:=by
   rw[t,dy (dq _),<-eb,P]
  have D:((c:Int)*1000000000+e).tmod d=B:=by
   rw[t,dx (dq _),<-ea,R]
  have E:dp.wrap (s:Int)=s:=aO _ (by omega) (by omega);have I:¬(d:Int)=0:=by omega
  have J:¬d=0:=by omega
  simp[q,G,hx,O,L,r,w1,S,C,D,E,I,J,gk,aK,ad];exact rd k (show k<=n by omega) (he:=by simp[H])
 ·obtain rfl:i=0:=by omega
  simp[JW,y,A];refine cp g (by simp[o];exact⟨rfl,rfl⟩) ?_ (h1:=by simp[eq,o]);simp
def ka(a b c:Nat):Nat->Nat->Nat
 |0,_=>0
 |t+1,r=>if bT<=t+1\/r*bT+c<(t+1)*b then(if bT<=r+a then t else ka a b c t (r+a))else t+1
theorem Yn{a b c t r:Nat}(h:0<t):ka a b c t r=if bT<=t\/r*bT+c<t*b then(if bT<=r+a then t-1 else ka a b c (t-1) (r+a))else t:=by
 cases t with
 |zero=>exact absurd h (Nat.lt_irrefl 0)
 |succ t=>rw[ka,hQ]
theorem G4{a b:Nat}(c:a<bT)(d:b<bT):dp.wrap ((a:Int)*b)=(a:Int)*b:=by
 have e:a*b<=999999999*999999999:=hF (by simp only[bT]at c;omega) (by simp only[bT]at d;omega);rw[<-ed];generalize a*b=P at*;exact aO _ (by omega) (by omega)
theorem Pd{a b r w:Nat}:(r:Int)*1000000000+w<(a:Int)*b↔r*bT+w<a*b:=by
 rw[yG,<-ed];exact Int.ofNat_lt
theorem yQ{r v:Nat}:(1000000000:Int)<=(r:Int)+v↔bT<=r+v:=by simp only[bT];omega
theorem NP{t:Nat}:(1000000000:Int)<=(t:Int)↔bT<=t:=by simp only[bT];omega
theorem aGp{t:Nat}(h:0<t)(a:t<=bT+1):dp.wrap ((t:Int)-1)=((t-1:Nat):Int):=by
 simp only[bT]at a;rw[aO _ (by omega) (by omega)];omega
theorem Mt{a v2 w0 w1 w2 Q:Nat}(u:bT<=2*a)(v:a<bT)(m:w0<=a)(w:w1<bT)(s:Q<bT)
 (d:∀q r,q*a+r=w0*bT+w1->q<bT->q*v2<=r*bT+w2->q<=Q+1)(k:∀q r,q*a+r=w0*bT+w1->r*bT+w2<q*v2->Q<q)
 (l:∀q r,bT<=r->q<bT->q*v2<=r*bT+w2):∀t r,t*a+r=w0*bT+w1->Q<=t->r<bT->t<=bT+1->Q<=ka a v2 w2 t r/\ka a v2 w2 t r<=Q+1/\ka a v2 w2 t r<bT
 |0,r,b,c,n,o=>by
  rw[ka];exact⟨c,by omega,by omega⟩
 |t+1,r,b,c,n,o=>by
  rw[ka]
  by_cases hc:bT<=t+1\/r*bT+w2<(t+1)*v2
  ·rw[if_pos hc];have hq:Q<=t:=by
    rcases hc with h|h
    ·omega
    ·have:=k _ _ b h;omega
   have i:t*a+(r+a)=w0*bT+w1:=by rw[g6,g4]at b;omega
   by_cases f:bT<=r+a
   ·rw[if_pos f];have g:t<bT:=by
     rcases gt t bT with h|h
     ·exact h
     ·have e:t=bT:=by omega
      subst e;have:=fv bT m;rw[fm a]at this;omega
    exact⟨hq,d _ _ i g (l _ _ f g),g⟩
   ·rw[if_neg f];exact Mt u v m w s d k l t (r+a) i hq (by omega) (by omega)
  ·rw[if_neg hc];have j:t+1<bT:=by
    rcases gt (t+1) bT with h|h
    ·exact h
    ·exact(hc (.inl h)).elim
   have p:(t+1)*v2<=r*bT+w2:=by
    rcases gt (r*bT+w2) ((t+1)*v2)with h|h
    ·exact(hc (.inr h)).elim
    ·exact h
   exact⟨c,d _ _ b j p,j⟩
theorem Yg(W V N j n:Nat)(k:AK)(ar:Nat)(f:Nat->Nat)(ao:2<=n)(aB:(aq bT V).length=n)(aQ:bT<=2*ae bT V (n-1))(aC:W<V*bT)(bb:N<=1000000)(aT:j+n<N)
 (hf:∀i,i<=n->f (j+i)=ae bT W i):∃t,W/V<=t/\t<=W/V+1/\t<bT/\
 de prog 297 [.arr k ar 1 (cU N f)] [.sl 0 ar 1 0 N,.p (eT V),.p (.int .i64 j)] [.arr k ar 1 (cU N f)] (.p (.int .i64 t)):=by
 have aR:bT=1000000000:=rfl;have B:V<bT^n:=by rw[<-aB];exact bY aX V
 have P:bT^(n-1)<=V:=by
  rcases gt V (bT^(n-1))with h|h
  ·have:=dN aX (n-1) V h;omega
  ·exact h
 obtain⟨an,aS⟩:=BT aX (show 1<=n by omega) B aC;have av:W/bT^n=ae bT W n:=by
  rw[ae,gc];have:=b8 aX V (n-1);omega
 have s:W/bT^(n-1)=ae bT W n*bT+ae bT W (n-1):=by
  rw[rl,show n-1+1=n by omega,av]
 have D:=Ko aX ao P B (W:=W);have X:=fun q r=>C1 aX ao P B (W:=W) (q:=q) (r:=r);have U:=fun q r=>Ms aX ao P B (W:=W) (q:=q) (r:=r);have aG:=fun q r=>Kn aX (V:=V) (W:=W) (n:=n) (q:=q) (r:=r);rw[s]at D X U;have q1:=b8 aX W n;have a5:=b8 aX W (n-1);have bl:=b8 aX W (n-2);have q4:=b8 aX V (n-1);have a6:=b8 aX V (n-2);have aA:=hf n (g9 _);have f2:=hf (n-1) (by omega);have f3:=hf (n-2) (by omega);rw[av]at an;have C:(aq bT V)[n-1]?=some (ae bT V (n-1)):=by rw[en (by omega),et aX (by omega)]
 have S:(aq bT V)[n-2]?=some (ae bT V (n-2)):=by rw[en (by omega),et aX (by omega)]
 have aE:∀h:n-1<(aq bT V).length,(aq bT V)[n-1]=ae bT V (n-1):=fun h=>et aX h;have aF:∀h:n-2<(aq bT V).length,(aq bT V)[n-2]=ae bT V (n-2):=fun h=>et aX h;simp only[eT];generalize aq bT V=y at*;generalize bc:W/V=Q at*;generalize bg:ae bT W n=w0 at*;generalize bh:ae bT W (n-1)=w1 at*;generalize bi:ae bT W (n-2)=e at*;generalize be:ae bT V (n-1)=a at*;generalize bf:ae bT V (n-2)=v2 at*;clear s av B P aC hf;have g1:=rP f (show j+n<N by omega);have g2:=rP f (show j+(n-1)<N by omega);have g3:=rP f (show j+(n-2)<N by omega);rw[aA]at g1;rw[f2]at g2;rw[f3]at g3;have E:=ug N f;have aw:∀ay:Nat×Nat->Prop,aU ay (cU N f):=fun ay=>by simp
 generalize cU N f=u at*;obtain⟨c,l⟩:∃c,c=w0*bT+w1:=⟨_,rfl⟩
 obtain⟨b,aa⟩:∃b,b=c/a:=⟨_,rfl⟩
 obtain⟨d,Y⟩:∃d,d=c%a:=⟨_,rfl⟩
 have aV:0<a:=by omega
 have aH:b*a+d=c:=by rw[aa,Y,fm];exact gy _ _
 have ap:d<bT:=g0 (by rw[Y];exact gm _ aV) q4;have au:b<=bT+1:=by
  have aN:=fv bT an;rw[fm a]at aN;rcases gt (bT+1) b with h|h
  ·have aP:=fv a (show bT+2<=b from h);rw[g6]at aP;omega
  ·exact h
 rw[<-l]at D X U;rw[<-aa]at D;have R:=Mt (v2:=v2) (w2:=e) aQ q4 an a5 aS (by rw[<-l];exact X) (by rw[<-l];exact U) aG b d (by rw[<-l];exact aH) D ap au;refine⟨ka a v2 e b d,R.1,R.2.1,R.2.2,?_⟩;obtain⟨T,s⟩:∃T,T=ka a v2 e b d:=⟨_,rfl⟩
 rw[<-s];clear R D X U aG;have m:y.length=n:=aB;have bm:dp.wrap ((j:Int)+n)=(j+n:Nat):=by rw[aO _ (by omega) (by omega)];omega
 have K:dp.wrap ((j:Int)+n)=(j:Int)+n:=aO _ (by omega) (by omega);have a9:dp.wrap ((j:Int)+n-1)=(j:Int)+n-1:=aO _ (by omega) (by omega);have z:dp.wrap ((n:Int)-1)=(n:Int)-1:=aO _ (by omega) (by omega);have aj:dp.wrap ((n:Int)-2)=(n:Int)-2:=aO _ (by omega) (by omega);have ak:dp.wrap ((j:Int)+n-2)=(j:Int)+n-2:=aO _ (by omega) (by omega);have a7:((j:Int)+n).toNat=j+n:=by omega
 have a8:((j:Int)+n-1).toNat=j+(n-1):=by omega
 have w:((n:Int)-1).toNat=n-1:=by omega
 have ah:((n:Int)-2).toNat=n-2:=by omega
 have ai:((j:Int)+n-2).toNat=j+(n-2):=by omega
 have wf:dp.wrap ((w0:Int)*1000000000)=(w0:Int)*1000000000:=aO _ (by omega) (by omega);have aD:(w0:Int)*1000000000+w1=(c:Nat):=by rw[l];exact yG w0 w1
 have bd:c<1000000000000000000:=by rw[l,aR];omega
 have aJ:dp.wrap ((w0:Int)*1000000000+w1)=(c:Nat):=by rw[aD];exact aO _ (by omega) (by omega)
 have az:((c:Nat):Int).tdiv a=b:=by rw[dy (dq _),<-eb,<-aa]
 have dr:((c:Nat):Int).tmod a=d:=by rw[dx (dq _),<-ea,<-Y]
 have aW:¬(a:Int)=0:=by omega
 have aY:¬a=0:=by omega
 have aK:dp.wrap (b:Int)=b:=aO _ (by omega) (by omega);have v:n-1<y.length:=by omega
 have H:n-2<y.length:=by omega
 have F:=aE v;have ab:=aF H;have aI:j+n<u.length:=by omega
 have aZ:j+(n-1)<u.length:=by omega
 have G:j+(n-2)<u.length:=by omega
 have a0:j+(n-1)<N:=by omega
 have ac:j+(n-2)<N:=by omega
 have aL:u[j+n]=.p (.int .i64 w0):=by rw[en aI]at g1;exact hW g1
 have aM:u[j+(n-1)]=.p (.int .i64 w1):=by rw[en aZ]at g2;exact hW g2
 have O:u[j+(n-2)]=.p (.int .i64 e):=by rw[en G]at g3;exact hW g3
 have J:¬u=[]:=by rintro rfl;simp at aI
 have a1:0<=(j:Int)+n:=by omega
 have a2:0<=(j:Int)+n-1:=by omega
 have bj:0<=(j:Int)+n-2:=by omega
 have a4:0<=(n:Int)-1:=by omega
 have bk:0<=(n:Int)-2:=by omega
 have a3:1<=(j:Int)+n:=by omega
 have af:2<=(j:Int)+n:=by omega
 have I:1<=(n:Int):=by omega
 have ag:2<=(n:Int):=by omega
 refine jk nf Ln mix (by simp[f297]) ?_;simp[f297,m,K,a9,z,a7,a8,w,g1,g2,C,F,wf,aJ,az,dr,aW,aY,aK,E,aT,v,aL,aM,J,a1,a2,a4,a3,I,a0,ad];refine lp (α:=Nat×Nat) (fun x=>⟨[(10,.p (.int .i64 x.2)),(9,.p (.int .i64 x.1)),(7,.p (.int .i64 n)),(2,.p (.int .i64 j)),(1,.p (.seq (y.map fun x:Nat=>.int .i64 x))),(0,.sl 0 ar 1 0 N)],[.arr k ar 1 u]⟩)
  (fun x=>T=ka a v2 e x.1 x.2/\x.2<bT/\x.1<=bT+1) (fun x=>x.1) (b,d) ⟨s,ap,au⟩ ?_ (hr2:=by simp[aw])
 clear l aH aa Y aD aJ az dr s wf ap au aK aE aF aA f2 f3;rintro⟨t,r⟩ ⟨k1,k2,k3⟩;dsimp only at k1 k2 k3;have al:dp.wrap ((r:Int)*1000000000)=(r:Int)*1000000000:=aO _ (by omega) (by omega);have am:dp.wrap ((r:Int)*1000000000+e)=(r:Int)*1000000000+e:=aO _ (by omega) (by omega);have L:dp.wrap ((r:Int)+a)=(r:Int)+a:=aO _ (by omega) (by omega);rcases Nat.eq_zero_or_pos t with A|A
 ·subst A;rw[ka]at k1;have c1:¬(r:Int)*1000000000+e<0:=by rw[yG];exact Int.not_lt.2 (dq _)
  have ba:dp.wrap 0=0:=rfl;simp[m,ba,aj,ah,al,am,L,ak,ai,S,ab,H,g3,O,G,ac,E,J,af,ag,K,c1,k1,ad]
 rw[Yn A]at k1;have Z:=aGp A k3;have k4:∀x,x<=bT+1->x-1<=bT+1:=fun x h=>hj (hO _ _) h;have k5:t-1<t:=Nat.sub_lt A (by decide)
 by_cases c0:bT<=t
 ·have o:=NP.2 c0;rw[if_pos (.inl c0)]at k1
  by_cases c2:bT<=r+a
  ·have g:=yQ.2 c2;rw[if_pos c2]at k1;simp[o,Z,m,z,w,C,F,v,I,L,g,k1]
  ·have g:=mt yQ.1 c2;rw[if_neg c2]at k1;simp[o,Z,m,z,w,C,F,v,I,L,g];exact rd (t-1,r+a) ⟨k1,hv c2,k4 _ k3⟩ k5 (he:=by simp) (hr2:=by simp[aw])
 have o:=mt NP.1 c0;have ax:=G4 (hv c0) a6
 by_cases c1:r*bT+e<t*v2
 ·have M:=Pd.2 c1;rw[if_pos (.inr c1)]at k1
  by_cases c2:bT<=r+a
  ·have g:=yQ.2 c2;rw[if_pos c2]at k1;simp[o,Z,m,z,w,C,F,v,I,L,g,k1,aj,ah,al,am,ax,ak,ai,S,ab,H,g3,O,G,ac,E,J,af,ag,K,M,ad]
   done
  ·have g:=mt yQ.1 c2;rw[if_neg c2]at k1;simp[o,Z,m,z,w,C,F,v,I,L,g,aj,ah,al,am,ax,ak,ai,S,ab,H,g3,O,G,ac,E,J,af,ag,K,M,ad];exact rd (t-1,r+a) ⟨k1,hv c2,k4 _ k3⟩ k5 (he:=by simp) (hr2:=by simp[aw])
 ·have M:=mt Pd.1 c1;rw[if_neg (fun h=>h.elim c0 c1)]at k1;simp[o,m,z,w,aj,ah,al,am,ax,ak,ai,S,ab,H,g3,O,G,ac,E,J,af,ag,K,M,k1,ad]
theorem UR{b k f d:Nat}(n:b<bT^(k+1))(h:d=b/bT^k)(p:0<d)(hf:f=bT/(d+1)):0<f/\f<bT/\b*f<bT^(k+1)/\bT^k<=b*f/\bT<=2*ae bT (b*f) k:=by
 have e:0<bT^k:=gg (by decide);have s:d<bT:=by
  rw[h,gb e,fm,<-gi];exact n
 have r:bT=1000000000:=rfl;have g:=hM bT (d+1);have j:=Nat.lt_div_mul_add (a:=bT) (show 0<d+1 by omega);rw[<-hf]at g j;have i:0<f:=by rw[hf];exact hA (by omega) (by omega)
 have q:f<bT:=by
  rw[hf];exact Nat.div_lt_self (by decide) (by omega)
 have o:b<(d+1)*bT^k:=by
  rw[<-gb e,<-h];omega
 have l:d*bT^k<=b:=by rw[h];exact hM _ _
 have m:b*f<bT^(k+1):=by
  rw[gi];have e1:b*f<(d+1)*bT^k*f:=hg o i;have e2:(d+1)*bT^k*f=f*(d+1)*bT^k:=by rw[fm,<-gx]
  have e3:=fv (bT^k) g;rw[fm (bT^k) bT];omega
 refine⟨i,q,m,?_,?_⟩
 ·have e1:1*bT^k<=d*bT^k:=fv _ p;rw[g4]at e1;exact hj (hj e1 l) (hH _ i)
 ·have e1:b*f/bT^k=ae bT (b*f) k:=by
   rw[ae,gc];rw[gb e,fm bT,<-gi];exact m
  have e2:d*f<=b*f/bT^k:=by
   rw[hK e,hp];exact fv _ l
  rw[e1]at e2;have e3:d+f<=d*f+1:=by
   obtain⟨d',rfl⟩:∃d',d=d'+1:=⟨d-1,by omega⟩
   obtain⟨c,rfl⟩:∃c,f=c+1:=⟨f-1,by omega⟩
   have:(d'+1)*(c+1)=d'*c+d'+c+1:=by rw[g6,g5,g4,hz];omega
   omega
  have e4:f*(d+1)=d*f+f:=by rw[g5,hz,fm]
  rw[e4]at g j;generalize d*f=P at*;generalize ae bT (b*f) k=Z at*;omega
def fW(V R t i:Nat):Nat:=(t*(V%bT^i)+R%bT^i)/bT^i
theorem VJ{V R t:Nat}:fW V R t 0=0:=by simp[fW,hU]
theorem Iw{W V R t n i:Nat}(h:R+t*V=W+bT^(n+1))(hi:i<=n):ae bT R i+t*ae bT V i+fW V R t i=ae bT W i+fW V R t (i+1)*bT:=by
 have k:0<bT^i:=gg (by decide);have l:0<bT^(i+1):=gg (by decide);have d:(t*(V%bT^(i+1))+R%bT^(i+1))%bT^(i+1)=W%bT^(i+1):=by
  have e1:(t*V+R)%bT^(i+1)=(t*(V%bT^(i+1))+R%bT^(i+1))%bT^(i+1):=by
   have a:=gy V (bT^(i+1));have e:=gy R (bT^(i+1));have f:t*V+R=t*(V%bT^(i+1))+R%bT^(i+1)+bT^(i+1)*(t*(V/bT^(i+1))+R/bT^(i+1)):=by
    have g:t*V=t*(V%bT^(i+1))+bT^(i+1)*(t*(V/bT^(i+1))):=by
     conv=>lhs;rw[<-a]
     rw[g5,<-gx,fm t (bT^(i+1)),gx];omega
    rw[g,g5]
    conv=>lhs;rw[<-e]
    omega
   rw[f,hl]
  rw[<-e1,ha (t*V),h];have:bT^(i+1)∣bT^(n+1):=hC _ (by omega);obtain⟨c,hc⟩:=this;rw[hc,hl]
 have e2:=gy (t*(V%bT^(i+1))+R%bT^(i+1)) (bT^(i+1));have e3:=gy (t*(V%bT^i)+R%bT^i) (bT^i);rw[d]at e2;rw[show(t*(V%bT^(i+1))+R%bT^(i+1))/bT^(i+1)=fW V R t (i+1)from rfl]at e2;rw[show(t*(V%bT^i)+R%bT^i)/bT^i=fW V R t i from rfl]at e3;have j:(t*(V%bT^i)+R%bT^i)%bT^i=W%bT^i:=by
  have:=congrArg (·%bT^i) d
  have b:bT^i∣bT^(i+1):=hC _ (by omega);rw[hr _ b,hr _ b]at this;rw[<-this,mod_pow_succ,mod_pow_succ];rw[g5];have:t*(V%bT^i)+t*(bT^i*ae bT V i)+(R%bT^i+bT^i*ae bT R i)=t*(V%bT^i)+R%bT^i+bT^i*(t*ae bT V i+ae bT R i):=by
   rw[g5,<-gx t,fm t (bT^i),gx];omega
  rw[this,hl]
 rw[j]at e3;rw[mod_pow_succ,mod_pow_succ,mod_pow_succ,gi]at e2;have e4:bT^i*(ae bT R i+t*ae bT V i+fW V R t i)=bT^i*(ae bT W i+fW V R t (i+1)*bT):=by
  have a:t*(V%bT^i+bT^i*ae bT V i)=t*(V%bT^i)+bT^i*(t*ae bT V i):=by
   rw[g5,<-gx t,fm t (bT^i),gx]
  rw[a]at e2;rw[g5,g5,g5];rw[gx (bT^i),fm bT]at e2;generalize bT^i*ae bT R i=m at*;generalize bT^i*(t*ae bT V i)=o at*;generalize bT^i*fW V R t i=p at*;generalize bT^i*ae bT W i=q at*;generalize bT^i*(fW V R t (i+1)*bT)=r at*;generalize t*(V%bT^i)=s at*;omega
 exact Nat.eq_of_mul_eq_mul_left k e4
theorem VI{r p w b':Nat}(h:r+p=w+b'*bT)(j:r<bT)(k:w<bT):(w<p%bT/\r+p%bT=w+bT/\b'=p/bT+1)\/(p%bT<=w/\r+p%bT=w/\b'=p/bT):=by
 have e:=gy p bT;have i:=gm p (show 0<bT by decide);generalize p/bT=q at*;generalize p%bT=m at*;have b:r+m+bT*q=w+b'*bT:=by omega
 rw[fm bT]at b;rcases Nat.lt_trichotomy b' q with a|a|a
 ·have:=fv bT (show b'+1<=q from a);rw[g6,g4]at this;omega
 ·subst a;right;omega
 ·have d:=fv bT (show q+1<=b' from a);rw[g6,g4]at d;have f:b'=q+1:=by
   rcases gt (q+1) b' with c|c
   ·have g:=fv bT (show q+2<=b' from c);rw[g6]at g;omega
   ·omega
  subst f;rw[g6,g4]at b;left;omega
theorem Wg{W V t n:Nat}(y:0<V)(j:V<bT^n)(l:W<bT^(n+1))(C:W/V<=t)(D:t<=W/V+1):
 ∃R,R+t*V=W+bT^(n+1)/\
 ((t=W/V/\fW V R t n=ae bT W n/\∀i,i<=n->ae bT R i=ae bT (W%V) i)\/
  (t=W/V+1/\fW V R t n=ae bT W n+1/\cS bT R V n=1/\∀i,i<=n->ae bT (R+V) i=ae bT (W%V) i)):=by
 have H:0<bT^n:=gg (by decide);have B:0<bT^(n+1):=gg (by decide);have k:V<bT^(n+1):=ge j (gj (by decide) (by omega));have z:=gy W V;have o:=gm W y;have d:bT^(n+1)=bT^n*bT:=gi _ _;have F:bT=1000000000:=rfl;have A:W%V<bT^n:=g0 o j;have s:ae bT (W%V) n=0:=jh A;have q:ae bT V n=0:=jh j;have m:∀R,R+t*V=W+bT^(n+1)->ae bT R n+fW V R t n=ae bT W n+fW V R t (n+1)*bT:=fun R v=>by
  have:=Iw v (g9 n);rw[q,Nat.mul_zero,Nat.add_zero]at this;exact this
 rcases gt t (W/V+1)with u|u
 ·have b:t=W/V:=by omega
  have r:t*V+W%V=W:=by rw[b,fm];exact z
  refine⟨W%V+bT^(n+1),by omega,.inl ⟨b,?_,fun i hi=>?_⟩⟩
  ·have e:=m (W%V+bT^(n+1)) (by omega);have f:fW V (W%V+bT^(n+1)) t (n+1)=0:=by
    rw[fW,gc k,Nat.add_mod_right,gc (g0 o k),r,hm l]
   have a:ae bT (W%V+bT^(n+1)) n=0:=by
    rw[<-s];exact ud (by omega)
   rw[f,a]at e;omega
  ·exact ud (by omega)
 ·have b:t=W/V+1:=by omega
  have r:t*V+W%V=W+V:=by rw[b,g6,g4,fm];omega
  have G:V<=bT^(n+1)+W%V:=by omega
  refine⟨bT^(n+1)+W%V-V,by omega,.inr ⟨b,?_,?_⟩⟩
  ·have e:=m (bT^(n+1)+W%V-V) (by omega);have w:bT^(n+1)+W%V-V<bT^(n+1):=by omega
   have f:fW V (bT^(n+1)+W%V-V) t (n+1)=1:=by
    rw[fW,gc k,gc w];have:t*V+(bT^(n+1)+W%V-V)=W+bT^(n+1):=by omega
    rw[this,Nat.add_div_right _ B,hm l]
   have a:ae bT (bT^(n+1)+W%V-V) n=bT-1:=by
    have g:(bT^(n+1)+W%V-V)/bT^n=bT-1:=by
     refine hN ?_ ?_
     ·rw[hR,g4,fm bT,<-d];omega
     ·rw[show bT-1+1=bT by decide,fm bT,<-d];omega
    rw[ae,g];decide
   rw[f,a]at e;omega
  ·have x:bT^(n+1)+W%V-V+V=W%V+bT^(n+1):=by omega
   have p:∀i,i<=n->ae bT (bT^(n+1)+W%V-V+V) i=ae bT (W%V) i:=fun i hi=>by
    rw[x];exact ud (by omega)
   refine⟨?_,p⟩;have h:=(pz aX (bT^(n+1)+W%V-V) V n).1;have E:=lg aX (bT^(n+1)+W%V-V) V n;rw[p n (g9 _),s,q]at h;have a:ae bT (bT^(n+1)+W%V-V) n=bT-1:=by
    have g:(bT^(n+1)+W%V-V)/bT^n=bT-1:=by
     refine hN ?_ ?_
     ·rw[hR,g4,fm bT,<-d];omega
     ·rw[show bT-1+1=bT by decide,fm bT,<-d];omega
    rw[ae,g];decide
   rw[a]at h;generalize cS bT (bT^(n+1)+W%V-V) V n=c at*;rcases gt 0 c with hc|hc
   ·omega
   ·have:c=0:=by omega
    subst this;simp only[bT]at h;omega
theorem Wf{V R t i:Nat}:fW V R t i<=t:=by
 have a:0<bT^i:=gg (by decide);have b:=gm V a;have c:=gm R a;rw[fW];refine Nat.le_of_lt_succ ?_;rw[gb a];have d:=ho t (hJ b);rw[Nat.succ_mul];omega
theorem aGq{t v a w r b':Nat}(h:r+(t*v+a)=w+b'*bT)(f:r<bT)(g:w<bT)(b:t<bT)(c:v<bT)(i:a<=t):
 ∃(p q m:Nat),dp.wrap ((t:Int)*v)=(t:Int)*v/\dp.wrap ((t:Int)*v+a)=p/\(p:Int).tmod 1000000000=m/\(p:Int).tdiv 1000000000=q/\q<bT/\m<bT/\
 (((w:Int)-m<0/\(w:Int)-m+1000000000=r/\b'=q+1)\/(¬(w:Int)-m<0/\(w:Int)-m=r/\b'=q)):=by
 have d:t*v<=999999999*999999999:=hF (by simp only[bT]at b;omega) (by simp only[bT]at c;omega);have j:=VI h f g;have e:=gm (t*v+a) (show 0<bT by decide);have hq:(t*v+a)/bT<bT:=by
  rw[gb (by decide)];simp only[bT]at b⊢;omega
 refine⟨t*v+a,(t*v+a)/bT,(t*v+a)%bT,G4 b c,?_,?_,?_,hq,e,?_⟩
 ·rw[<-ed,<-ei];generalize t*v=P at*;simp only[bT]at b;exact aO _ (by omega) (by omega)
 ·rw[dx (dq _),ea];rfl
 ·rw[dy (dq _),eb];rfl
 ·generalize (t*v+a)/bT=q at*;generalize (t*v+a)%bT=m at*;clear h d;simp only[bT]at*;omega
def cA(n:Nat)(f:Nat->Int):List AV:=(eo n).map fun j=>.p (.int .i64 (f j))
theorem lh(n:Nat)(f:Nat->Int):(cA n f).length=n:=by simp[cA]
theorem O6(n:Nat)(f:Nat->Nat):cU n f=cA n (fun k=>(f k:Nat)):=rfl
theorem aF7{n j:Nat}(f:Nat->Int)(h:j<n):(cA n f)[j]?=some (.p (.int .i64 (f j))):=by
 rw[cA,List.getElem?_map,List.getElem?_range h];rfl
theorem uq{n i:Nat}{v:Int}(f g:Nat->Int)(c:g i=v)(h:∀j,j<n->j≠i->g j=f j):(cA n f).set i (.p (.int .i64 v))=cA n g:=by
 apply fb (by simp[cA]);intro j d b;rw[lh]at b;rw[List.getElem_set];simp only[cA,e6,ew]
 by_cases a:i=j
 ·subst a;rw[if_pos rfl,c]
 ·rw[if_neg a,h j b (fun e=>a e.symm)]
@[simp] theorem aJI{N:Nat×Nat->Prop}{n:Nat}{f:Nat->Int}:aU N (cA n f)=True:=by
 rw[cK,eq_iff_iff,iff_true];intro v a;simp only[cA,List.mem_map]at a;obtain⟨x,_,rfl⟩:=a;trivial
theorem Js{n:Nat}{f g:Nat->Int}(h:∀j,j<n->f j=g j):cA n f=cA n g:=by
 rw[cA,cA];apply List.map_congr_left;intro j a;rw[h j (List.mem_range.1 a)]
def fQ(X R j i k:Nat):Int:=if j<=k/\k<j+i then(ae bT R (k-j):Nat)else(ae bT X k:Nat)
theorem win_zero{X R j k:Nat}:fQ X R j 0 k=(ae bT X k:Nat):=by rw[fQ,if_neg (by omega)]
theorem Ck{X R j i:Nat}:fQ X R j i (j+i)=(ae bT X (j+i):Nat):=by rw[fQ,if_neg (by omega)]
theorem aG6{X R j i:Nat}:fQ X R j (i+1) (j+i)=(ae bT R i:Nat):=by
 rw[fQ,if_pos (by omega),hn]
theorem aG7{X R j i k:Nat}(h:k≠j+i):fQ X R j (i+1) k=fQ X R j i k:=by
 rw[fQ,fQ]
 by_cases a:j<=k/\k<j+i
 ·rw[if_pos a,if_pos (by omega)]
 ·rw[if_neg a,if_neg (by omega)]
def gw(X R S j n i k:Nat):Int:=if k=j+n then -1 else if j<=k/\k<j+i then(ae bT S (k-j):Nat)else fQ X R j n k
theorem aG3{X R S j n i:Nat}(h:i<n):gw X R S j n i (j+i)=(ae bT R i:Nat):=by
 rw[gw,if_neg (by omega),if_neg (by omega),fQ,if_pos (by omega),hn]
theorem aG4{X R S j n i:Nat}(h:i<n):gw X R S j n (i+1) (j+i)=(ae bT S i:Nat):=by
 rw[gw,if_neg (by omega),if_pos (by omega),hn]
theorem aG5{X R S j n i k:Nat}(h:k≠j+i):gw X R S j n (i+1) k=gw X R S j n i k:=by
 rw[gw,gw]
 by_cases a:k=j+n
 ·rw[if_pos a,if_pos a]
 ·rw[if_neg a,if_neg a]
  by_cases b:j<=k/\k<j+i
  ·rw[if_pos b,if_pos (by omega)]
  ·rw[if_neg b,if_neg (by omega)]
theorem Vk{X V j n N:Nat}(d:0<V)(c:V<bT^n)(e:X<V*bT^(j+1)){g:Nat->Int}(h:∀k,k<N->g k=if k=j+n then 0 else if j<=k/\k<j+n then(ae bT (X/bT^j%V) (k-j):Nat)else(ae bT X k:Nat)):
 cA N g=cA N fun k=>(ae bT (X%(V*bT^j)) k:Nat):=by
 refine Js fun k hk=>?_;rw[h k hk,(wQ (B:=bT) (R:=X) (V:=V) (j:=j)).1,G8 aX];have i:=gm (X/bT^j) d;have f:X<bT^(n+(j+1)):=by
  rw[hd];exact g0 e (hg c (gg (by decide)))
 by_cases a:k<j
 ·rw[if_pos a,if_neg (by omega),if_neg (by omega)]
 ·rw[if_neg a]
  by_cases m:k<j+n
  ·rw[if_neg (by omega),if_pos (by omega)]
  ·have l:ae bT (X/bT^j%V) (k-j)=0:=jh (ge (g0 i c) (gj (by decide) (by omega)));rw[l]
   by_cases b:k=j+n
   ·rw[if_pos b]
   ·rw[if_neg b,if_neg (by omega)];have:ae bT X k=0:=jh (ge f (gj (by decide) (by omega)));rw[this]
theorem Cu{f:Nat}(a:0<f)(h:f<bT):eT f=.seq [.int .i64 f]:=by rw[eT,mP a h];rfl
theorem UB{r:Nat}(h:r<bT):eg [r]=aq bT r:=by
 have:=ji aX (m:=1) (n:=r) (by rw[hS];exact h);rw[<-this,row,List.range_one,fd,List.map_nil,ae,hb,hB,gc h]
@[simp] theorem aJB{σ:Nat->Nat}{n:Nat}{f:Nat->Int}:cG σ (cA n f)=cA n f:=by
 have:∀l:List Nat,cG σ (l.map fun j=>AV.p (.int .i64 (f j)))=l.map fun j=>AV.p (.int .i64 (f j)):=by
  intro l
  induction l with
  |nil=>rfl
  |cons a r b=>simp only[fd,cG,b];rfl
 exact this _
@[simp] theorem aJG{n j:Nat}{f:Nat->Int}(h:j<(cA n f).length):(cA n f)[j]=.p (.int .i64 (f j)):=by
 simp only[cA,e6,ew]
@[simp] theorem aJD{n j:Nat}{f:Nat->Nat}(h:j<(cU n f).length):(cU n f)[j]=.p (.int .i64 (f j:Nat)):=by
 simp only[cU,e6,ew]
@[simp] theorem aJH{n:Nat}{f:Nat->Int}:(cA (n+1) f=[])=False:=by
 rw[eq_iff_iff,iff_false];intro h;have:=congrArg List.length h;rw[lh]at this;simp at this
theorem CJ(a b:Nat)(K:0<b)(c8:(aq bT a).length<=400000)(b9:(aq bT b).length<=400000):au prog 238 [eT a,eT b] (.aA [eT (a/b),eT (a%b)]):=by
 have bO:=Gm a b (by omega) (by omega);refine aM nf K7 mix (by simp[f238]) ?_;simp[f238];refine c2 bO ?_
 by_cases S:a<b
 ·have G:=ou.2 S;simp[G,hm S,gc S,eT,yF]
 have G:¬fE a b<0:=fun h=>S (ou.1 h);have a6:∀i(h:i<(aq bT b).length),(aq bT b)[i]=ae bT b i:=fun i h=>et aX h;have C:=bY aX b
 by_cases b6:(aq bT b).length=1
 ·rw[b6,hS]at C;have L:=Gk a b K C (by omega);have ce:=gm a K;have cj:=UB (g0 ce C);have ar:=rY [a%b] (by simp);rw[cj]at ar;have c4:=mP K C;rw[Cu K C];simp only[eT,iP]at L ar⊢;generalize aq bT (a/b)=cT at*;generalize aq bT (a%b)=cV at*;generalize aq bT a=x at*;generalize a%b=dk at*;simp[G];refine c2 L ?_;simp;refine cp ar (by simp;exact⟨rfl,rfl⟩) ?_;simp
 have c7:2<=(aq bT b).length:=by
  rcases gt (aq bT b).length 1 with h|h
  ·have e:(aq bT b).length=0:=by omega
   rw[e,hb]at C;omega
  ·omega
 obtain⟨k,hk⟩:∃k,(aq bT b).length=k+1:=⟨(aq bT b).length-1,by omega⟩
 obtain⟨n,aD⟩:∃n,n=k+1:=⟨_,rfl⟩
 rw[hk]at C;obtain⟨d,Z⟩:∃d,d=b/bT^k:=⟨_,rfl⟩
 have ay:bT^k<=b:=by
  rcases gt b (bT^k)with h|h
  ·have:=dN aX k b h;omega
  ·exact h
 have bf:0<bT^k:=gg (by decide);have bP:0<d:=by rw[Z];exact hA ay bf
 have bU:d<bT:=by rw[Z,gb bf,fm,<-gi];exact C
 have a7:ae bT b k=d:=by rw[ae,<-Z,gc bU]
 obtain⟨f,hf⟩:∃f,f=bT/(d+1):=⟨_,rfl⟩
 obtain⟨f0,f1,f2,f3,f4⟩:=UR C Z bP hf;obtain⟨V,I⟩:∃V,V=b*f:=⟨_,rfl⟩
 rw[<-I]at f2 f3 f4;have a0:(aq bT V).length=n:=by
  have H:=dN aX (k+1) V f2;have bF:=GJ aX f3;omega
 have ag:=CI b f (by rw[mP f0 f1];simp;omega);have ah:=CI a f (by rw[mP f0 f1];simp;omega);rw[Cu f0 f1,<-I]at ag;rw[Cu f0 f1]at ah;have bR:(aq bT b)[k]?=some d:=by rw[en (by omega),a6 k (by omega),a7]
 have bS:∀h:k<(aq bT b).length,(aq bT b)[k]=d:=fun h=>by rw[a6 k h,a7]
 have da:(aq bT b).length<=400000:=b9;have c0:bT=1000000000:=rfl;have cJ:dp.wrap ((d:Int)+1)=(d:Int)+1:=aO _ (by omega) (by omega);have bW:(1000000000:Int).tdiv ((d:Int)+1)=(f:Nat):=by
  rw[dy (by decide),hf,eb];rfl
 have bQ:¬(d:Int)+1=0:=by omega
 have cK:dp.wrap (k:Int)=k:=aO _ (by omega) (by omega);have wf:dp.wrap (f:Int)=f:=aO _ (by omega) (by omega);have b7:¬(k:Int)+1=1:=by omega
 have b1:¬k=0:=by omega
 have bp:k<(aq bT b).length:=by omega
 have b3:=bS bp;simp only[eT]at ag ah⊢;generalize cu:aq bT (a/b)=cT at*;generalize cv:aq bT (a%b)=cV at*;generalize aG:aq bT a=x at*;generalize df:aq bT b=y at*;generalize aj:aq bT V=s at*;simp[G,hk,b7,b1,cK,bR,b3,bp,cJ,bW,bQ,wf];refine cp ag (by simp;exact⟨rfl,rfl⟩) ?_;simp[a0];refine cp ah (by simp;exact⟨rfl,rfl⟩) ?_;obtain⟨u,D⟩:∃u,aq bT (a*f)=u:=⟨_,rfl⟩
 obtain⟨c,M⟩:∃c,x.length=c:=⟨_,rfl⟩
 have bh:u.length<=c+1:=by
  rw[<-D,<-M,<-aG];refine dN aX _ _ ?_;rw[gi];exact hu (bY aX a) f1
 have cn:∀i(h:i<u.length),u[i]=ae bT (a*f) i:=fun i h=>by
  have:=et aX (n:=a*f) (i:=i) (by rw[D];exact h);simp only[D]at this;exact this
 rw[D];have cZ:b<=a*f:=hj (Nat.le_of_not_lt S) (hH _ f0);have bj:¬u=[]:=by
  intro h;rw[h]at D;have:=tT.1 D;omega
 have a3:a*f<bT^u.length:=by rw[<-D];exact bY aX _
 have ai:List.map (AV.p∘fun x:Nat=>PV.int dp x) u=cA u.length fun k=>(ae bT (a*f) k:Nat):=by
  apply fb (by simp[cA]);intro i G cY;simp only[e6,Function.comp,cA,ew];rw[cn i (by simpa using G)]
 have cl:u.length<=400001:=by omega
 obtain⟨A,bi⟩:∃A,u.length=A:=⟨_,rfl⟩
 rw[bi]at a3 ai bh cl;clear ag ah;have cm:¬(cA A fun k=>(ae bT (a*f) k:Nat))=[]:=by rw[<-ai];simpa using bj
 have ck:¬A=0:=by rw[<-bi];exact fun h=>bj (List.length_eq_zero_iff.1 h)
 simp[M,ai,cm,ck,lh];refine⟨⟨by rw[<-ai];exact O9 u,by simp only[cN];omega⟩,?_⟩;have c9:c<=400000:=by omega
 have bz:dp.wrap ((c:Int)+1)=c+1:=aO _ (by omega) (by omega);refine qP (fun s'=>∃l o,aN s'.env 8=.sl 0 0 1 0 1/\aN s'.env 9=.p (.seq (s.map fun x:Nat=>.int .i64 x))/\aN s'.env 10=.p (.int .i64 n)/\aN s'.env 11=.sl 2 l 1 0 (c+1)/\s'.heap=[.arr .frozen 0 1 [.p (.int .i64 f)],o,.arr .grow l 1 (cA (c+1) fun k=>(ae bT (a*f) k:Nat))]) ?_ ?_
 ·refine lp (α:=Nat) (fun i=>⟨[(11,.sl 2 (i-A) 1 0 i),(10,.p (.int .i64 n)),(9,.p (.seq (s.map fun x:Nat=>.int .i64 x))),(8,.sl 0 0 1 0 1),(0,.p (.seq (x.map fun x:Nat=>.int .i64 x)))],[.arr .frozen 0 1 [.p (.int .i64 f)],.hole,.arr .grow (i-A) 1 (cA i fun k=>(ae bT (a*f) k:Nat))]⟩)
   (fun i=>A<=i/\i<=c+1) (fun i=>c+1-i) A ⟨g9 _,bh⟩ ?_ (he:=by simp) (hh:=by simp)
  rintro i ⟨k1,k2⟩
  by_cases hi:i<c+1
  ·have bX:(i:Int)<c+1:=by omega
   have ct:ae bT (a*f) i=0:=jh (ge a3 (gj (by decide) k1));have ch:cA (i+1) (fun k=>(ae bT (a*f) k:Nat))=cA i (fun k=>(ae bT (a*f) k:Nat))++[.p (.int .i64 0)]:=by
    rw[cA,List.range_succ,List.map_append];simp[ct,cA]
   have bg:i+1-A=i-A+1:=by omega
   have ci:e9 i (cA i fun k=>(ae bT (a*f) k:Nat))=cA i fun k=>(ae bT (a*f) k:Nat):=eq (by rw[lh];exact g9 _);simp[M,bz,bX,lh,ci];refine⟨by simp only[cN];omega,?_⟩;exact rd (i+1) ⟨by omega,hi⟩ (he:=by simp[bg]) (hh:=by simp[bg,ch]) (hr2:=by simp)
  ·have aa:i=c+1:=by omega
   subst aa;simp[M,bz]
 rintro⟨bD,bV⟩ ⟨l,o,E,P,Q,F,T⟩;dsimp only at E P Q F T;subst T;have de:n<=c:=by
  rw[aD];rcases gt c (k+1)with h|h
  ·have H:=bY aX a;rw[aG,M]at H;have bF:=ge H (gj (show 0<bT by decide) (show c<=k by omega));omega
  ·exact h
 obtain⟨m,dc⟩:∃m,m=c-n:=⟨_,rfl⟩
 have cO:dp.wrap ((c:Int)+1-n)=(m:Int)+1:=by rw[aO _ (by omega) (by omega)];omega
 have cP:((m:Int)+1).toNat=m+1:=by omega
 have cQ:dp.wrap (m:Int)=m:=aO _ (by omega) (by omega);have cc:(m:Int)+1<=cN:=by simp only[cN];omega
 simp[E,P,Q,F,cO,cP,cQ];refine⟨⟨by omega,cc⟩,?_⟩;have aw:0<V:=by rw[I];exact hT K f0
 have W:V<bT^n:=by rw[aD];exact f2
 have a4:a<bT^c:=by rw[<-M,<-aG];exact bY aX a
 have bL:a*f%(V*bT^(m+1))=a*f:=by
  refine gc ?_;rw[I,hp];refine hg ?_ f0;refine ge a4 ?_;rw[show c=k+(m+1)by omega,hd];exact fv _ ay
 obtain⟨X,J⟩:∃X:Nat->Nat,∀j,X j=a*f%(V*bT^j):=⟨_,fun _=>rfl⟩
 have Y:∀j,X j<V*bT^j:=fun j=>by rw[J];exact gm _ (hT aw (gg (by decide)))
 have bN:∀j,X (j+1)%(V*bT^j)=X j:=fun j=>by
  rw[J,J,hr];exact Nat.mul_dvd_mul_left _ (hC _ (by omega))
 have bM:∀j,X (j+1)/bT^j/V=ae bT (a/b) j:=fun j=>by
  rw[J,<-(wQ (B:=bT) (R:=a*f%(V*bT^(j+1))) (V:=V) (j:=j)).2,gi,<-gx,Nat.mod_mul_right_div_self,<-g8,I,Nat.mul_div_mul_right _ _ f0,ae]
 have a9:=fun j(h:j<=m)=>Yg (X (j+1)/bT^j) V (c+1) j n .grow l (ae bT (X (j+1))) (by omega) (by rw[aj];exact a0) (by rw[aD,hQ];exact f4) (by rw[gb (gg (by decide)),gx,fm bT,<-gi];exact Y (j+1)) (by omega) (by omega) (fun i hi=>(pN (B:=bT) _ _ _).symm);simp only[eT,O6,aj]at a9;rw[show(e7 (m+1) (AV.p (PV.int dp 0)))=cU (m+1) (qT (a/b) (m+1))from JX];rw[show(cA (c+1) fun k=>(ae bT (a*f) k:Nat))=cA (c+1) fun k=>(ae bT (X (m+1)) k:Nat)by rw[J,bL]];refine qP (fun s'=>∃br,aN s'.env 8=.sl 0 0 1 0 1/\aN s'.env 10=.p (.int .i64 n)/\aN s'.env 11=.sl 2 l 1 0 (c+1)/\aN s'.env 12=.sl 3 0 1 0 (m+1)/\s'.heap=[.arr .frozen 0 1 [.p (.int .i64 f)],br,.arr .grow l 1 (cA (c+1) fun k=>(ae bT (X 0) k:Nat)),.arr .exact 0 1 (cU (m+1) (ae bT (a/b)))]) ?_ ?_
 ·refine lp (α:=Nat) (fun j=>⟨[(13,.p (.int .i64 ((j:Int)-1))),(12,.sl 3 0 1 0 (m+1)),(11,.sl 2 l 1 0 (c+1)),(10,.p (.int .i64 n)),(9,.p (.seq (s.map fun x:Nat=>.int .i64 x))),(8,.sl 0 0 1 0 1)],[.arr .frozen 0 1 [.p (.int .i64 f)],.hole,.arr .grow l 1 (cA (c+1) fun k=>(ae bT (X j) k:Nat)),.arr .exact 0 1 (cU (m+1) (qT (a/b) j))]⟩)
   (fun j=>j<=m+1) (fun j=>j) (m+1) (g9 _) ?_ (he:=by simp[E,P,Q,F])
  intro j c5;rcases j with _|j
  ·simp[JW]
  ·obtain⟨t,aR,an,ao,bG⟩:=a9 j (by omega);have b0:¬(j:Int)<0:=by omega
   have bK:X (j+1)/bT^j<bT^(n+1):=by
    rw[gb (gg (by decide)),<-hd];refine ge (Y (j+1)) ?_;rw[show n+1+j=n+(j+1)by omega,hd bT n (j+1)];exact fv _ (hJ W)
   obtain⟨R,bI,bJ⟩:=Wg aw W bK aR an;have gJ:=fun i(hi:i<=n)=>Iw (i:=i) bI hi;have ax:∀i,ae bT (X (j+1)/bT^j) i=ae bT (X (j+1)) (j+i):=fun i=>pN _ _ _;have dn:((n:Nat):Int).toNat=n:=by omega
   simp[-aH];rw[aH,aH];simp[-aH,b0];rw[aH,Ip,aH];simp[-aH];refine cf bG [2] ?_;simp[-aH,sig,bk];rw[aH];simp[-aH];rw[aH,aH];simp[-aH];have aZ:∀i(h:i<s.length),s[i]=ae bT V i:=fun i h=>by
    have:=et aX (n:=V) (i:=i) (by rw[aj];exact h);simp only[aj]at this;exact this
   have aW:X (j+1)/bT^j/V=ae bT (a/b) j:=bM j;have c6:(j:Int)<=400000:=by omega
   have dd:(n:Int)<=400001:=by omega
   have a8:∀g:Nat->Int,(∀k,k<c+1->g k=if k=j+n then 0 else if j<=k/\k<j+n then(ae bT (X (j+1)/bT^j%V) (k-j):Nat)else(ae bT (X (j+1)) k:Nat))->cA (c+1) g=cA (c+1) fun k=>(ae bT (X j) k:Nat):=fun g az=>by
    rw[Vk aw W (Y (j+1)) az,bN]
   have cq:cA (c+1) (fQ (X (j+1)) R j 0)=cA (c+1) fun k=>(ae bT (X (j+1)) k:Nat):=Js fun k _=>win_zero;refine lp (α:=Nat) (fun i=>⟨[(16,.p (.int .i64 i)),(15,.p (.int .i64 (fW V R t i:Nat))),(14,.p (.int .i64 t)),(13,.p (.int .i64 j)),(12,.sl 3 0 1 0 (m+1)),(11,.sl 2 l 1 0 (c+1)),(10,.p (.int .i64 n)),(9,.p (.seq (s.map fun x:Nat=>.int .i64 x))),(8,.sl 0 0 1 0 1)],[.arr .frozen 0 1 [.p (.int .i64 f)],.hole,.arr .grow l 1 (cA (c+1) (fQ (X (j+1)) R j i)),.arr .exact 0 1 (cU (m+1) (qT (a/b) (j+1)))]⟩)
    (fun i=>i<=n) (fun i=>n-i) 0 (hw _) ?_ (he:=by simp[VJ]) (hh:=by simp[cq])
   intro i hi;have bx:dp.wrap ((i:Int)+j)=(i:Int)+j:=aO _ (by omega) (by omega);have bv:((i:Int)+j).toNat=i+j:=by omega
   have bq:¬((i:Int)+j<0):=by omega
   have bw:dp.wrap ((i:Int)+1)=(i:Int)+1:=aO _ (by omega) (by omega)
   by_cases ak:i<n
   ·have bb:(i:Int)<n:=by omega
    have ab:i<s.length:=by omega
    have aF:=aZ i ab;have aK:=gJ i hi;rw[ax]at aK;have bs:=b8 aX (X (j+1)) (j+i);have cx:=b8 aX R i;have cy:=b8 aX V i;obtain⟨p,q,al,s1,s2,bt,bu,dl,dm,cC⟩:=aGq (by rw[<-Nat.add_assoc];exact aK) cx bs ao cy Wf;have bo:fQ (X (j+1)) R j i (i+j)=(ae bT (X (j+1)) (j+i):Nat):=by rw[ha i j,Ck]
    have ba:0<=(i:Int)+j:=by omega
    have get:(cA (c+1) (fQ (X (j+1)) R j i))[i+j]?=some (.p (.int .i64 (ae bT (X (j+1)) (j+i):Nat))):=by
     rw[aF7 _ (by omega),ha i j,Ck]
    have set:(cA (c+1) (fQ (X (j+1)) R j i)).set (i+j) (.p (.int .i64 (ae bT R i:Nat)))=cA (c+1) (fQ (X (j+1)) R j (i+1)):=by
     rw[ha i j];exact uq _ _ aG6 fun k _ hk=>aG7 hk
    have aa:i+j<c+1:=by omega
    have bl:s[i]?=some (ae bT V i):=by rw[en ab,aF]
    generalize ae bT (X (j+1)) (j+i)=w at*;generalize ae bT V i=v at*;generalize ae bT R i=r at*;generalize fW V R t i=cW at*;generalize a5:fW V R t (i+1)=cX at*;have cg:¬(r:Int)<0:=by omega
    have bC:dp.wrap ((w:Int)-al)=(w:Int)-al:=aO _ (by omega) (by omega);have bB:dp.wrap (q:Int)=q:=aO _ (by omega) (by omega);have aV:dp.wrap ((q:Int)+1)=(q:Int)+1:=aO _ (by omega) (by omega);rcases cC with⟨c1,c2,c3⟩|⟨c1,c2,c3⟩
    ·have wr:dp.wrap ((w:Int)-al+1000000000)=r:=by rw[c2];exact aO _ (by omega) (by omega)
     simp[bb,bx,bv,bq,ab,aF,bl,s1,s2,bt,bu,aa,get,bo,ba,lh,bC,c1,wr,aV,set,bw,ad,aJ,bA];exact rd (i+1) (show i+1<=n by omega) (he:=by simp[a5,c3,bB,aV])
    ·have wr:dp.wrap ((w:Int)-al)=r:=by rw[bC,c2]
     simp[bb,bx,bv,bq,ab,aF,bl,s1,s2,bt,bu,aa,get,bo,ba,lh,c1,wr,cg,set,bw,ad,aJ,bA];exact rd (i+1) (show i+1<=n by omega) (he:=by simp[a5,c3,bB,aV])
   ·have bZ:i=n:=by omega
    subst bZ;have aU:dp.wrap ((j:Int)+i)=(j:Int)+i:=aO _ (by omega) (by omega);have aS:((j:Int)+i).toNat=j+i:=by omega
    have aI:0<=(j:Int)+i:=by omega
    have aA:j+i<c+1:=by omega
    have bn:fQ (X (j+1)) R j i (j+i)=(ae bT (X (j+1)) (j+i):Nat):=Ck;have bs:=b8 aX (X (j+1)) (j+i);have aT:dp.wrap ((j:Int)-1)=(j:Int)-1:=aO _ (by omega) (by omega);rcases bJ with⟨aP,U,aQ⟩|⟨aP,U,aQ,cB⟩
    ·rw[ax]at U;rw[U];generalize ae bT (X (j+1)) (j+i)=w at*;have ap:dp.wrap 0=0:=rfl;have am:dp.wrap ((w:Int)-w)=0:=by rw[Int.sub_self];rfl
     have aE:t=ae bT (a/b) j:=by rw[aP,aW]
     have aL:(cU (m+1) (qT (a/b) (j+1))).set j (.p (.int .i64 t))=cU (m+1) (qT (a/b) j):=by rw[aE];exact Ct
     have fs:(cA (c+1) (fQ (X (j+1)) R j i)).set (j+i) (.p (.int .i64 0))=cA (c+1) fun k=>(ae bT (X j) k:Nat):=by
      rw[uq _ (fun k=>if k=j+i then 0 else fQ (X (j+1)) R j i k) (if_pos rfl) (fun k _ hk=>if_neg hk)];refine a8 _ fun k _=>?_
      by_cases hk:k=j+i
      ·rw[if_pos hk,if_pos hk];rfl
      ·rw[if_neg hk,if_neg hk,fQ]
       by_cases z:j<=k/\k<j+i
       ·rw[if_pos z,if_pos z,aQ (k-j) (by omega)]
       ·rw[if_neg z,if_neg z]
     have ac:j<m+1:=by omega
     have cd:¬((ae bT (X j) (j+i):Nat):Int)<0:=by omega
     simp[aU,aS,aI,aA,bn,lh,ug,am,ap,aT,ac,cd,fs,aL,ad,aJ,bA];exact rd j (show j<=m+1 by omega)
    ·rw[ax]at U;rw[U];generalize ae bT (X (j+1)) (j+i)=w at*;have ap:dp.wrap 0=0:=rfl;have am:dp.wrap ((w:Int)-((w+1:Nat):Int))= -1:=by rw[show(w:Int)-((w+1:Nat):Int)= -1 by omega];rfl
     have cF:dp.wrap (-1)= -1:=rfl;have fs:(cA (c+1) (fQ (X (j+1)) R j i)).set (j+i) (.p (.int .i64 (-1)))=cA (c+1) (gw (X (j+1)) R (R+V) j i 0):=by
      refine uq _ _ (by rw[gw,if_pos rfl]) fun k _ hk=>?_;rw[gw,if_neg hk,if_neg (by omega)]
     have aE:(t:Int)-1=ae bT (a/b) j:=by rw[aP,aW];omega
     have cR:dp.wrap ((t:Int)-1)=ae bT (a/b) j:=by rw[aE];have:=b8 aX (a/b) j;exact aO _ (by omega) (by omega)
     have ac:j<m+1:=by omega
     have cr:gw (X (j+1)) R (R+V) j i 0 (j+i)= -1:=by rw[gw,if_pos rfl]
     push_cast at am;simp[aU,aS,aI,aA,bn,lh,ug,am,ap,cF,cR,aT,ac,fs,cr,ad,aJ,bA];refine lp (α:=Nat) (fun k=>⟨[(20,.p (.int .i64 k)),(19,.p (.int .i64 (cS bT R V k:Nat))),(14,.p (.int .i64 (ae bT (a/b) j:Nat))),(13,.p (.int .i64 j)),(12,.sl 3 0 1 0 (m+1)),(11,.sl 2 l 1 0 (c+1)),(10,.p (.int .i64 i)),(9,.p (.seq (s.map fun x:Nat=>.int .i64 x))),(8,.sl 0 0 1 0 1)],[.arr .frozen 0 1 [.p (.int .i64 f)],.hole,.arr .grow l 1 (cA (c+1) (gw (X (j+1)) R (R+V) j i k)),.arr .exact 0 1 (cU (m+1) (qT (a/b) (j+1)))]⟩)
      (fun k=>k<=i) (fun k=>i-k) 0 (hw _) ?_ (he:=by simp[wK])
     intro k hk;have cM:dp.wrap ((k:Int)+j)=(k:Int)+j:=aO _ (by omega) (by omega);have cE:((k:Int)+j).toNat=k+j:=by omega
     have cw:0<=(k:Int)+j:=by omega
     have cL:dp.wrap ((k:Int)+1)=(k:Int)+1:=aO _ (by omega) (by omega);obtain⟨q1,cz⟩:=pz aX R V k;have dh:=lg aX R V k;have q4:=lg aX R V (k+1);have di:=b8 aX R k;have dj:=b8 aX V k
     by_cases bc:k<i
     ·have b2:(k:Int)<i:=by omega
      have aB:k<s.length:=by omega
      have bm:=aZ k aB;have co:s[k]?=some (ae bT V k):=by rw[en aB,bm]
      have b5:k+j<c+1:=by omega
      have az:gw (X (j+1)) R (R+V) j i k (k+j)=(ae bT R k:Nat):=by rw[ha k j,aG3 bc]
      have aK:(cA (c+1) (gw (X (j+1)) R (R+V) j i k)).set (k+j) (.p (.int .i64 (ae bT (R+V) k:Nat)))=cA (c+1) (gw (X (j+1)) R (R+V) j i (k+1)):=by
       rw[ha k j];exact uq _ _ (aG4 bc) fun x _ hx=>aG5 hx
      have aR:((ae bT R k:Nat):Int)+(ae bT V k:Nat)+(cS bT R V k:Nat)=((ae bT R k+ae bT V k+cS bT R V k:Nat):Int):=by omega
      have an:((ae bT R k+ae bT V k+cS bT R V k:Nat):Int).tmod 1000000000=(ae bT (R+V) k:Nat):=by
       rw[<-q1,dx (dq _),ea];rfl
      have ao:((ae bT R k+ae bT V k+cS bT R V k:Nat):Int).tdiv 1000000000=(cS bT R V (k+1):Nat):=by
       rw[<-cz,dy (dq _),eb];rfl
      rw[<-aR]at an ao;have w1:dp.wrap ((ae bT R k:Nat)+(ae bT V k:Nat))=(ae bT R k:Nat)+(ae bT V k:Nat):=aO _ (by omega) (by omega);have cG:dp.wrap ((ae bT R k:Nat)+(ae bT V k:Nat)+(cS bT R V k:Nat))=(ae bT R k:Nat)+(ae bT V k:Nat)+(cS bT R V k:Nat):=aO _ (by omega) (by omega);have cH:dp.wrap (ae bT (R+V) k:Nat)=(ae bT (R+V) k:Nat):=by have:=b8 aX (R+V) k;exact aO _ (by omega) (by omega)
      have cI:dp.wrap (cS bT R V (k+1):Nat)=(cS bT R V (k+1):Nat):=aO _ (by omega) (by omega);simp[b2,aB,bm,co,cM,cE,cw,b5,az,aK,lh,w1,cG,cH,cI,an,ao,cL,ad,aJ,bA];exact rd (k+1) (show k+1<=i by omega)
     ·have b4:k=i:=by omega
      subst b4;have cs:gw (X (j+1)) R (R+V) j k k (j+k)= -1:=by rw[gw,if_pos rfl]
      have cD:dp.wrap (-1+1)=0:=rfl;have aL:(cU (m+1) (qT (a/b) (j+1))).set j (.p (.int .i64 (ae bT (a/b) j:Nat)))=cU (m+1) (qT (a/b) j):=Ct;have bE:(cA (c+1) (gw (X (j+1)) R (R+V) j k k)).set (j+k) (.p (.int .i64 0))=cA (c+1) fun k=>(ae bT (X j) k:Nat):=by
       rw[uq _ (fun x=>if x=j+k then 0 else gw (X (j+1)) R (R+V) j k k x) (if_pos rfl) (fun x _ hx=>if_neg hx)];refine a8 _ fun x _=>?_
       by_cases hk:x=j+k
       ·rw[if_pos hk,if_pos hk];rfl
       ·rw[if_neg hk,if_neg hk,gw,if_neg hk]
        by_cases z:j<=x/\x<j+k
        ·rw[if_pos z,if_pos z,cB (x-j) (by omega)]
        ·rw[if_neg z,if_neg z,fQ,if_neg z]
      rw[aQ];simp[aU,aS,aI,aA,cs,lh,ug,cD,ap,aT,ac,bE,aL,ad,aJ,bA];exact rd j (show j<=m+1 by omega)
 rintro⟨bD,bV⟩ ⟨br,E,P,Q,F,T⟩;dsimp only at E P Q F T;subst T;have a1:X 0=a%b*f:=by rw[J,hb,hz,I,Nat.mul_mod_mul_right]
 have bH:a/b<bT^(m+1):=by
  rw[gb K];refine ge a4 ?_;rw[show c=m+1+k by omega,hd];exact ho _ ay
 obtain⟨dg,bd,ca,aY⟩:=Kw (m:=m+1) (N:=a/b) bH (by omega);have a2:X 0<bT^n:=ge (by have:=Y 0;rwa [hb,hz]at this) (hJ W);obtain⟨O,db,af,cb,av⟩:∃O:List Nat,O=(eo (c+1)).map (ae bT (X 0))/\O.length=c+1/\cU (c+1) (ae bT (X 0))=O.map (AV.p∘fun x:Nat=>PV.int .i64 x)/\au prog 296 [.seq (iP (O.take n))] (eT (X 0)):=by
  refine⟨_,rfl,by simp,A9 _ _,?_⟩;have e:((eo (c+1)).map (ae bT (X 0))).take n=(eo n).map (ae bT (X 0)):=JJ (by omega) fun k hk=>rfl;rw[e];have H:=rY ((eo n).map (ae bT (X 0))) (by simp;omega);rw[show eg ((eo n).map (ae bT (X 0)))=aq bT (X 0)from ji aX a2]at H;exact H
 have L:=Gk (X 0) f f0 f1 (by
  have:=dN aX n (X 0) a2;omega)
 rw[a1,Nat.mul_div_cancel _ f0]at L;rw[a1]at av;rw[<-O6,cb,ca]at*;simp only[eT,cu,cv,iP]at aY av L⊢;have aC:¬O=[]:=by intro h;rw[h]at af;simp at af
 have be:n<=c+1:=by omega
 simp[E,P,Q,F,af,aC,be];refine ep av (by simp[af,be,aC];first|exact⟨rfl,rfl⟩|rfl) (by simp[aC];first|exact⟨rfl,rfl⟩|rfl) ?_ (h1:=by simp[List.map_take]);simp[E,ad,aJ,bA];refine e2 L ?_;simp[F];refine⟨by repeat' first|rfl|apply And.intro,?_⟩;refine cp aY (by simp[bd];first|exact⟨rfl,rfl⟩|rfl) ?_ (h1:=by simp[eq,bd]);simp
theorem Te(n:Nat):eg (aq bT n)=aq bT n:=by
 have h:=BW aX (l:=aq bT n) (fun d a=>by
  obtain⟨i,hi,rfl⟩:=List.getElem_of_mem a;rw[et aX hi];exact b8 aX _ _)
 rw[<-h,H3 aX]
theorem po(neg:Bool)(n:Nat)(h:(aq bT n).length<=1048576):au prog 239 [.bool neg,eT n] (eG (if neg=true then -(n:Int)else n)):=Bm neg (aq bT n) n (Te n) h
theorem Ir(a b:Nat)(g:(aq bT a).length<=400000)(h:(aq bT b).length<=400000):au prog 237 [eT a,eT b] (eT (hE a b)):=by
 refine aM nf MA mix (by simp[f237]) ?_;simp[f237];refine lp (α:=Nat×Nat) (fun x=>⟨[(1,.p (eT x.2)),(0,.p (eT x.1))],[]⟩)
  (fun x=>(aq bT x.1).length<=400000/\(aq bT x.2).length<=400000/\hE x.1 x.2=hE a b) (fun x=>x.2) (a,b) ⟨g,h,rfl⟩ ?_
 rintro⟨x,y⟩ ⟨e,d,c⟩;dsimp only at e d c
 by_cases hy:y=0
 ·subst hy;rw[hP]at c;rw[<-c];simp[eT,yF]
 ·have i:0<(aq bT y).length:=by
   rw[e8,Ne,tT];exact hy
  have f:=CJ x y (by omega) e d;have j:=gm x (show 0<y by omega);simp[eT,i];refine c2 f ?_;simp;exact rd (y,x%y) ⟨d,by have:=dN aX _ _ (g0 j (bY aX y));dsimp only;omega,by rw[<-c,ht y,<-hV,ht]⟩ (by dsimp only;omega) (he:=by simp[eT])
theorem WD(a b:Nat)(h:a<9223372036854775808)(i:b<9223372036854775808):au prog 172 [.int .i64 a,.int .i64 b] (.int .i64 (hE a b:Nat)):=by
 refine aM nf MP mix (by simp[f172]) ?_;simp[f172];refine lp (α:=Nat×Nat) (fun x=>⟨[(1,.p (.int .i64 x.2)),(0,.p (.int .i64 x.1))],[]⟩)
  (fun x=>x.1<9223372036854775808/\x.2<9223372036854775808/\hE x.1 x.2=hE a b) (fun x=>x.2) (a,b) ⟨h,i,rfl⟩ ?_
 rintro⟨x,y⟩ ⟨g,d,c⟩;dsimp only at g d c
 by_cases f:y=0
 ·subst f;rw[hP]at c;rw[<-c];simp
 ·have m:(0:Int)<y:=by omega
  have e:0<y:=by omega
  have o:¬(y:Int)=0:=by omega
  have n:=gm x e;have k:(x:Int).tmod y=(x%y:Nat):=by rw[dx (dq _),ea]
  have l:dp.wrap ((x%y:Nat):Int)=(x%y:Nat):=aO _ (by omega) (by omega);generalize j:x%y=r at*;simp[e,f,k,l];exact rd (y,r) ⟨d,by dsimp only;omega,by rw[<-c,<-j,ht y,<-hV,ht]⟩ (by dsimp only;omega)
theorem Wa{B a b x y K:Nat}(c:2<=B)(d:a<B^x)(e:b<B^y)(f:B^x<=B^K)(g:B^y<=B^K):a+b<B^(K+1):=by
 rw[gi];have:=ho (B^K) c;omega
theorem V9{a b K:Nat}(g:(aq bT a).length<=K)(h:(aq bT b).length<=K):(aq bT (a+b)).length<=K+1:=by
 have c:=bY aX a;have d:=bY aX b;have e:=gj (show 0<bT by decide) g;have f:=gj (show 0<bT by decide) h;exact dN aX (K+1) (a+b) (Wa aX c d e f)
theorem WO(a b:Int)(l:(aq bT a.natAbs).length<=400000)(o:(aq bT b.natAbs).length<=400000):au prog 232 [eG a,eG b] (eG (a+b)):=by
 have m:=Wv a.natAbs b.natAbs (by omega) (by omega);have k:=Gm a.natAbs b.natAbs (by omega) (by omega);have q:(aq bT (a.natAbs+b.natAbs)).length<=1048576:=by
  have r:=V9 l o;omega
 refine aM nf MF mix (by simp[f232]) ?_
 by_cases hs:(a<0↔b<0)
 ·have t:(decide (a<0)==decide (b<0))=true:=by simp[hs]
  have d:=po (decide (a<0)) (a.natAbs+b.natAbs) q;have f:(if decide (a<0)=true then -((a.natAbs+b.natAbs:Nat):Int)else((a.natAbs+b.natAbs:Nat):Int))=a+b:=by
   by_cases h:a<0
   ·have:=hs.1 h;simp[h];omega
   ·have:¬b<0:=fun c=>h (hs.2 c);simp[h];omega
  rw[f]at d;generalize a+b=s at*;generalize a.natAbs+b.natAbs=n at*;have g:(a<0↔b<0)=True:=eq_true hs;simp only[eG]at d⊢;simp[f232,g,ad];refine e2 m ?_;simp[ad];refine e2 d ?_;simp[ad]
 ·have g:(a<0↔b<0)=False:=eq_false hs
  by_cases p:b.natAbs<=a.natAbs
  ·have i:0<=fE a.natAbs b.natAbs:=by
    have:=ou (a:=a.natAbs) (b:=b.natAbs);omega
   have j:=Kx a.natAbs b.natAbs p (by omega);have d:=po (decide (a<0)) (a.natAbs-b.natAbs) (by
    have:=dN aX _ _ (g7 (hO a.natAbs b.natAbs) (bY aX a.natAbs));omega)
   have f:(if decide (a<0)=true then -((a.natAbs-b.natAbs:Nat):Int)else((a.natAbs-b.natAbs:Nat):Int))=a+b:=by
    by_cases h:a<0
    ·have:¬b<0:=fun c=>hs ⟨fun _=>c,fun _=>h⟩;simp[h];omega
    ·have:b<0:=by
      rcases ej b 0 with c|c
      ·exact c
      ·exact(hs ⟨fun e=>(h e).elim,fun e=>by omega⟩).elim
     simp[h];omega
   rw[f]at d;generalize a+b=s at*;generalize a.natAbs-b.natAbs=n at*;simp only[eG]at d⊢;simp[f232,g,ad];refine c2 k ?_;simp[i,ad];refine e2 j ?_;simp[ad];refine e2 d ?_;simp[ad]
  ·have i:¬0<=fE a.natAbs b.natAbs:=by
    have:=ou (a:=a.natAbs) (b:=b.natAbs);omega
   have j:=Kx b.natAbs a.natAbs (by omega) (by omega);have d:=po (decide (b<0)) (b.natAbs-a.natAbs) (by
    have:=dN aX _ _ (g7 (hO b.natAbs a.natAbs) (bY aX b.natAbs));omega)
   have f:(if decide (b<0)=true then -((b.natAbs-a.natAbs:Nat):Int)else((b.natAbs-a.natAbs:Nat):Int))=a+b:=by
    by_cases h:b<0
    ·have:¬a<0:=fun c=>hs ⟨fun _=>h,fun _=>c⟩;simp[h];omega
    ·have:a<0:=by
      rcases ej a 0 with c|c
      ·exact c
      ·exact(hs ⟨fun e=>by omega,fun e=>(h e).elim⟩).elim
     simp[h];omega
   rw[f]at d;generalize a+b=s at*;generalize b.natAbs-a.natAbs=n at*;simp only[eG]at d⊢;simp[f232,g,ad];refine c2 k ?_;simp[i,ad];refine e2 j ?_;simp[ad];refine e2 d ?_;simp[ad]
theorem Ky(a:Int)(d:(aq bT a.natAbs).length<=400000):au prog 236 [eG a] (eG (-a)):=by
 have b:=po (!decide (a<0)) a.natAbs (by omega);have c:(if(!decide (a<0))=true then -((a.natAbs:Nat):Int)else(a.natAbs:Nat))= -a:=by
  by_cases h:a<0
  ·simp[h];omega
  ·simp[h];omega
 rw[c]at b;refine aM nf MB mix (by simp[f236]) ?_;generalize -a=s at*;simp only[eG]at b⊢;simp[f236,ad];refine c2 b ?_;simp[ad]
theorem ur(a b:Int)(g:(aq bT a.natAbs).length+(aq bT b.natAbs).length<=1000000):au prog 150 [eG a,eG b] (eG (a*b)):=by
 have f:=CI a.natAbs b.natAbs g;have j:(aq bT (a.natAbs*b.natAbs)).length<=1000000:=by
  have c:=bY aX a.natAbs;have d:=bY aX b.natAbs;have i:=dN aX ((aq bT a.natAbs).length+(aq bT b.natAbs).length) (a.natAbs*b.natAbs) (by rw[hd];exact hu c d);omega
 have e:=po ((!(decide (a<0)==decide (b<0)))) (a.natAbs*b.natAbs) (by omega);have h:(if(!(decide (a<0)==decide (b<0)))=true then -((a.natAbs*b.natAbs:Nat):Int)else((a.natAbs*b.natAbs:Nat):Int))=a*b:=by
  by_cases c:a<0<;>by_cases d:b<0
  ·simp[c,d];rw[dz (ee c),dz (ee d),Int.neg_mul_neg]
  ·simp[c,d];rw[dz (ee c),ec (by omega),Int.neg_mul,em]
  ·simp[c,d];rw[dz (ee d),ec (by omega),Int.mul_neg,em]
  ·simp[c,d];rw[ec (by omega),ec (by omega)]
 rw[h]at e;refine aM nf Mg mix (by simp[f150]) ?_;generalize a*b=s at*;generalize a.natAbs*b.natAbs=n at*;generalize hx:(!(decide (a<0)==decide (b<0)))=x at*;simp only[eG]at e⊢;simp[f150,ad];refine e2 f ?_;simp[hx,ad];refine e2 e ?_;simp[ad]
theorem T3:∀d:Nat,d<10->fl d (e9 (d+1) [48,49,50,51,52,53,54,55,56,57])=[48+d]:=by decide
theorem wR(n a:Nat)(D:n<9223372036854775808)(I:a<=1000):au prog 173 [.int .i64 n,.int .i64 a] (.str (low (max a (nd n)) n)):=by
 have K:nd n<=19:=qB (g0 D (by decide));refine aM nf MO mix (by simp[f173]) ?_;obtain⟨L,e⟩:∃L,L=max a (nd n):=⟨_,rfl⟩
 rw[<-e];obtain⟨g,b⟩:∃g:Nat->Nat,∀i,n/10^i=g i:=⟨_,fun _=>rfl⟩
 have A:g 0=n:=by rw[<-b,hb,hB]
 simp[f173];refine lp (α:=Nat) (fun i=>⟨[(0,.p (.int .i64 (g i:Nat))),(5,.p (.str (low i n))),(1,.p (.int .i64 a))],[]⟩)
  (fun i=>i<=L) (fun i=>L-i) 0 (hw _) ?_ (he:=by simp[low,A])
 intro i hi;have q:low (i+1) n=(48+g i%10)::low i n:=by
  rw[ha,pT,b,rI];rfl
 have hq:g (i+1)=g i/10:=by rw[<-b,<-b,gi,g8]
 have M:g i<=n:=by rw[<-b];exact hD _ _
 have E:0<g i↔i<nd n:=by
  rw[<-b,nB,Nat.div_pos_iff];have:=gg (n:=i) (show 0<10 by decide);omega
 have l:=pS n i;have j:=T3 (g i%10) (gm _ (by decide));have f:i<L↔0<g i\/i<a:=by rw[E,e];omega
 have F:=gm (g i) (show 0<10 by decide);have r:(g i:Int).tmod 10=(g i%10:Nat):=by rw[dx (dq _),ea];rfl
 have t:(g i:Int).tdiv 10=(g (i+1):Nat):=by rw[hq,dy (dq _),eb (g i)];rfl
 have G:L<=1000:=by rw[e];omega
 generalize g i%10=d at*;have m:fl d (48::e9 d [49,50,51,52,53,54,55,56,57])=[48+d]:=j;generalize N:g i=z at*;generalize y:g (i+1)=z2 at*;generalize hs:low i n=s at*;have x:dp.wrap (z2:Int)=z2:=aO _ (by omega) (by omega);have v:dp.wrap (d:Int)=d:=aO _ (by omega) (by omega);have w:dp.wrap ((d:Int)+1)=d+1:=aO _ (by omega) (by omega);have u:((d:Int)+1).toNat=d+1:=by omega
 have J:min (d+1) 10-d+i<9223372036854775808:=by omega
 have H:(0:Int)<=d+1/\(d:Int)+1<=10/\(d:Int)<=max (d+1) 0:=by omega
 by_cases k:i<L
 ·by_cases c:0<z
  ·simp[c,r,t,x,v,w,u,j,l];refine⟨by omega,by omega,?_⟩;exact rd (i+1) (show i+1<=L by omega) (he:=by simp[y,q,m])
  ·have o:i<a:=by rcases f.1 k with h|h;exact(c h).elim;exact h
   simp[c,o,r,t,x,v,w,u,j,l];refine⟨by omega,by omega,?_⟩;exact rd (i+1) (show i+1<=L by omega) (he:=by simp[y,q,m])
 ·have c:¬0<z:=fun h=>k (f.2 (.inl h));have o:¬i<a:=fun h=>k (f.2 (.inr h));have B:s=low L n:=by rw[<-hs];congr 1;omega
  have C:¬L<a:=by omega
  simp[c,C,l,B,pS]
theorem Uy{n i:Nat}(h:bT^(i+1)<=n):aY (n/bT^i)=aY (n/bT^(i+1))++low 9 (ae bT n i):=by
 have c:0<bT^i:=gg (by decide);have b:10^9<=n/bT^i:=by
  rw[hK c,fm];rw[gi]at h;exact h
 have a:=U7 b;have e1:n/bT^i/10^9=n/bT^(i+1):=by rw[g8,gi];rfl
 have e2:n/bT^i%10^9=ae bT n i:=rfl;rw[e1,e2]at a;have d:0<n/bT^i:=ge (by decide) b;have e:0<n/bT^(i+1):=hA h (gg (by decide));rw[aY,aY,show max 1 (nd (n/bT^i))=nd (n/bT^i)by have:=yd d;omega,show max 1 (nd (n/bT^(i+1)))=nd (n/bT^(i+1))by have:=yd e;omega,a]
theorem B7(z:Int)(B:(aq bT z.natAbs).length<=1000000):au prog 151 [eG z] (.str (bI z)):=by
 refine aM nf Mf mix (by simp[f151]) ?_
 by_cases G:z=0
 ·subst G;have v:bI 0=[48]:=by rw[show(0:Int)=((0:Nat):Int)from rfl,tI,pD]
  simp[f151,eG,eT,yF,ad,v]
 obtain⟨n,f⟩:∃n,z.natAbs=n:=⟨_,rfl⟩
 have M:0<n:=by omega
 have L:0<(aq bT n).length:=by
  rw[e8,Ne,tT];omega
 obtain⟨k,hk⟩:∃k,(aq bT n).length=k+1:=⟨(aq bT n).length-1,by omega⟩
 have g:=bY aX n;rw[hk]at g;have q:bT^k<=n:=by
  rcases gt n (bT^k)with h|h
  ·have:=dN aX k n h;omega
  ·exact h
 have m:∀i(h:i<(aq bT n).length),(aq bT n)[i]=ae bT n i:=fun i h=>et aX h;have r:n/bT^k=ae bT n k:=by
  rw[ae,gc];rw[gb (gg (by decide)),fm,<-gi];exact g
 have O:0<ae bT n k:=by rw[<-r];exact hA q (gg (by decide))
 have c:=wR (ae bT n k) 1 (g0 (b8 aX n k) (by decide)) (by decide);rw[show low (max 1 (nd (ae bT n k))) (ae bT n k)=aY (n/bT^k)by rw[r];rfl]at c;have w:∀i,au prog 173 [.int .i64 (ae bT n i:Nat),.int .i64 (9:Nat)] (.str (low 9 (ae bT n i))):=fun i=>by
  have h:=wR (ae bT n i) 9 (g0 (b8 aX n i) (by decide)) (by decide);have J:nd (ae bT n i)<=9:=qB (b8 aX n i)
  rwa [show max 9 (nd (ae bT n i))=9 by omega]at h
 have a:aY (n/bT^0)=aY n:=by rw[hb,hB]
 have gJ:∀i,i+1<=k->aY (n/bT^i)=aY (n/bT^(i+1))++low 9 (ae bT n i):=fun i hi=>Uy (hj (gj (by decide) hi) q);have K:k<=1000000:=by rw[f]at B;omega
 have D:bI z=if z<0 then 45::aY n else aY n:=by rw[bI,f]
 have N:ae bT n k<bT:=b8 aX n k;have C:∀i,ae bT n i<bT:=fun i=>b8 aX n i;obtain⟨T,j⟩:∃T:Nat->List Nat,∀i,aY (n/bT^i)=T i:=⟨_,fun _=>rfl⟩
 have l:∀i,(T i).length<=9000000+9:=fun i=>by
  rw[<-j];refine hj (tH (k:=9*(k+1)) ?_ (by omega)) (by omega);rw[Nat.pow_mul];exact g7 (hD _ _) g
 simp only[j]at c a gJ;rw[D];simp only[eG,f,eT,<-a];generalize hx:aq bT n=x at*;have w1:dp.wrap ((k:Int)+1-1)=k:=by rw[Int.add_sub_cancel];exact aO _ (by omega) (by omega)
 have H:dp.wrap (k:Int)=k:=aO _ (by omega) (by omega);have u:dp.wrap ((k:Int)+1-2)=(k:Int)-1:=by rw[aO _ (by omega) (by omega)];omega
 have A:¬(k:Int)+1=0:=by omega
 have e:k<x.length:=by omega
 have t:=m k e;have F:x[k]?=some (ae bT n k):=by rw[en e,t]
 simp[f151,ad,hk,A,w1,H,u,e,t,F];refine c2 c ?_;simp[ad,hk,u];refine lp (α:=Nat) (fun i=>⟨[(4,.p (.int .i64 ((i:Int)-1))),(3,.p (.str (T i))),(1,.ptr 0 [])],[.box false (.p (.st 222 [.bool (decide (z<0)),.seq (x.map fun x:Nat=>.int .i64 x)]))]⟩)
  (fun i=>i<=k) (fun i=>i) k (g9 _) ?_
 rintro i hi;have P:=C i;rcases i with _|i
 ·by_cases o:z<0
  ·have b:=g7 (hL (l 0) 1) (show 9000000+9+1<9223372036854775808 by decide);rw[a,ha]at b;simp[o,ad,a,b]
  ·simp[o,ad,a]
 ·have d:i<x.length:=by omega
  have s:=m i d;have E:x[i]?=some (ae bT n i):=by rw[en d,s]
  have y:¬(i:Int)<0:=by omega
  have I:dp.wrap ((i:Int)-1)=(i:Int)-1:=aO _ (by omega) (by omega);have b:=g7 (hL (l (i+1)) 9) (show 9000000+9+9<9223372036854775808 by decide);have aK:=gJ i hi;simp[y,ad,d,s,E];refine c2 (w i) ?_;simp[I,pS];refine⟨b,?_⟩;exact rd i (show i<=k by omega) (he:=by simp[aK])
end Go.az
