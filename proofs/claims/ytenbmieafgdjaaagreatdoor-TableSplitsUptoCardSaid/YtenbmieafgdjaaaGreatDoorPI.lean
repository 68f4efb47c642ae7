import Derived.Test.YtenbmieafgdjaaaGreatDoorPH
import Derived.Test.YtenbmieafgdjaaaGreatDoorPG
/- Parts of a proof. -/
set_option linter.unusedSimpArgs false
set_option linter.unusedVariables false
set_option linter.unusedSectionVars false
open Go.Proofs.Tryz
open Go.IntKind renaming i64->dp
open Int renaming natCast_nonneg->dq, tmod_eq_emod_of_nonneg->dz, tdiv_eq_ediv_of_nonneg->ea, ofNat_natAbs_of_nonpos->eb, natCast_emod->ec, natCast_ediv->ed, natAbs_of_nonneg->ee, natCast_mul->ei, le_of_lt->ej, natCast_add->em, lt_or_le->en, neg_neg->eo
open List renaming getElem?_eq_getElem->eq, range->ew, take_of_length_le->e6, getElem_range->e7, getElem_map->e8, replicate->e9, length_pos_iff->fb, take->fd, ext_getElem->fl, map_cons->fm, drop->fv
open Nat renaming mul_comm->fN, mul_le_mul_right->gb, div_lt_iff_lt_mul->gc, mod_eq_of_lt->ge, lt_of_lt_of_le->gg, pow_pos->gi, pow_succ->gj, pow_le_pow_right->gl, mod_lt->gm, lt_or_ge->gt, mul_assoc->gx, div_add_mod->gy, lt_trans->gA, one_mul->g0, mul_add->g1, add_mul->g2, lt_of_le_of_lt->g3, div_div_eq_div_mul->g4, le_refl->g5, add_comm->g6, pow_zero->g7, pow_add->g8, mul_lt_mul_of_pos_right->g9, le_trans->ha, add_mul_mod_self_left->hb, div_eq_of_lt->hd, add_sub_cancel_left->hg, mul_le_mul_left->hj, mul_right_comm->hl, mod_mod_of_dvd->hm, gcd_comm->hn, mul_lt_mul''->ho, lt_of_not_le->hp, zero_le->hr, mul_one->ht, div_pos->hu, div_one->hv, pow_dvd_pow->hw, div_le_self->hz, gcd->hA, mul_le_mul->hB, add_mul_mod_self_right->hC, le_mul_of_pos_right->hD, le_of_lt->hE, le_div_iff_mul_le->hF, add_le_add_right->hG, div_mul_le_self->hH, div_eq_of_lt_le->hK, sub_le->hL, gcd_zero_right->hM, add_sub_cancel->hN, sub_mul->hO, pow_one->hP, mul_pos->hQ, mod_one->hR, gcd_rec->hS
open Option.some renaming inj->hT
namespace Go.au
open Go.Proofs
set_option maxHeartbeats 4000000
set_option maxRecDepth 100000
theorem CM(n:Nat)(f:Nat->Nat):dm n f=((ew n).map f).map (AV.p∘fun x:Nat=>PV.int .i64 x):=by
 rw[dm,List.map_map];rfl
theorem Wh{n:Nat}{f:Nat->Nat}(h:∀j,f j=0):e9 n (AV.p (.int .i64 0))=dm n f:=by
 rw[LJ];exact zk fun j _=>(h j).symm
theorem Ei(a b:Nat)(w:(az bT a).length+(az bT b).length<=1000000):aC prog 202 [eT a,eT b] (eT (a*b)):=by
 refine aM nf Iz mix (by simp[f202]) ?_;have L:∀i(h:i<(az bT a).length),(az bT a)[i]=ae bT a i:=fun i h=>eH ba h;have M:∀i(h:i<(az bT b).length),(az bT b)[i]=ae bT b i:=fun i h=>eH ba h;have t:=cm ba a;have e:=cm ba b;have S:eC ((ew ((az bT a).length+(az bT b).length)).map (ae bT (a*b)))=az bT (a*b):=jy ba (by
  rw[g8];exact ho t e)
 have c:=uf ((ew ((az bT a).length+(az bT b).length)).map (ae bT (a*b))) (by simp;omega);rw[S]at c;have A:bT=1000000000:=rfl;simp only[eT];simp only[iP]at c;generalize az bT (a*b)=z at*;generalize az bT a=x at*;generalize az bT b=y at*;obtain⟨n,d⟩:∃n,x.length=n:=⟨_,rfl⟩
 obtain⟨m,g⟩:∃m,y.length=m:=⟨_,rfl⟩
 rw[d]at t c w;rw[g]at e c w;have B:=CM (n+m) (ae bT (a*b));have u:((ew (n+m)).map (ae bT (a*b))).length=n+m:=by simp
 generalize (ew (n+m)).map (ae bT (a*b))=l at c B u;have R:((n:Int)+m).toNat=n+m:=by omega
 have Q:0<=(n:Int)+m:=by omega
 have W:dp.wrap ((n:Int)+m)=(n:Int)+m:=aO _ (by omega) (by omega);simp[f202,d,g,W,R,Q];refine⟨by simp only[cZ];omega,?_⟩;rw[Wh (f:=dj bT a b 0 0) (by intro j;simp[pD,hR,ae])];refine lp (α:=Nat) (fun i=>⟨[(6,.p (.int .i64 i)),(5,.sl 0 0 1 0 (n+m)),(1,.p (.seq (y.map fun x:Nat=>.int .i64 x))),(0,.p (.seq (x.map fun x:Nat=>.int .i64 x)))],[.arr .exact 0 1 (dm (n+m) (dj bT a b i 0))]⟩)
  (fun i=>i<=n) (fun i=>n-i) 0 (by simp) ?_ (he:=by simp)
 intro i k1;have T:=cr (i:=i) (by omega)
 by_cases hi:i<n
 ·have r:i<x.length:=by rw[d];exact hi
  have hx:=L i r;have Y:x[i]?=some (ae bT a i):=by rw[eq r,hx]
  simp[d,hi];refine lp (α:=Nat) (fun j=>⟨[(8,.p (.int .i64 j)),(7,.p (.int .i64 (mulC bT a b i j:Nat))),(6,.p (.int .i64 i)),(5,.sl 0 0 1 0 (n+m)),(1,.p (.seq (y.map fun x:Nat=>.int .i64 x))),(0,.p (.seq (x.map fun x:Nat=>.int .i64 x)))],[.arr .exact 0 1 (dm (n+m) (dj bT a b i j))]⟩)
   (fun j=>j<=m) (fun j=>m-j) 0 (by simp) ?_ (he:=by simp[Cp])
  intro j k2;have V:=cr (i:=j) (by omega);have H:((i:Int)+j).toNat=i+j:=by omega
  have G:0<=(i:Int)+j:=by omega
  have U:dp.wrap ((i:Int)+j)=(i:Int)+j:=aO _ (by omega) (by omega)
  by_cases F:j<m
  ·have s:j<y.length:=by rw[g];exact F
   have I:=M j s;have Z:y[j]?=some (ae bT b j):=by rw[eq s,I]
   have E:i+j<n+m:=by omega
   have q:=tT (dj bT a b i j) E;have o:=C4 ba a b i j;have ah:=ua ba a b i j;have v:=ua ba a b i (j+1);have ai:dj bT a b i j (i+j)<bT:=by rw[dj];split<;>exact ct ba _ _
   have am:=ct ba a i;have an:=ct ba b j;have hs:=Di (n:=n+m) (i:=i+j) (dj bT a b i j) (dj bT a b i (j+1)) (fun k _ hk=>KD ba hk);rw[Mm]at hs;rw[<-o.1]at hs;have al:ae bT a i*ae bT b j<=999999999*999999999:=hB (by omega) (by omega);rw[<-o.2]at v;have J:=o.2;clear o;have K:((ae bT a i:Int)*(ae bT b j:Int))=((ae bT a i*ae bT b j:Nat):Int):=by push_cast;rfl
   generalize ae bT a i*ae bT b j=P at*;generalize dj bT a b i j (i+j)=O at*;generalize aj:mulC bT a b i j=C at*;have ab:dp.wrap ((ae bT a i:Int)*(ae bT b j:Int))=P:=by rw[K];exact aO _ (by omega) (by omega)
   have ac:dp.wrap ((O:Int)+P)=O+P:=aO _ (by omega) (by omega);have af:dp.wrap ((O:Int)+P+C)=O+P+C:=aO _ (by omega) (by omega);have d1:((O:Int)+P+C).tmod 1000000000=((P+O+C)% bT:Nat):=by
    rw[dz (by omega),A];omega
   generalize (P+O+C)% bT=D at*;have d2:((O:Int)+P+C).tdiv 1000000000=(mulC bT a b i (j+1):Nat):=by
    rw[ea (by omega),<-J,A];omega
   have d3:dp.wrap ((mulC bT a b i (j+1):Nat):Int)=(mulC bT a b i (j+1):Nat):=aO _ (by omega) (by omega);simp[d,g,F,U,H,G,E,q,hx,Y,I,Z,r,s,ab,ac,af,d1,d2,d3,hs,ad];exact rd (j+1) (show j+1<=m by omega) (he:=by simp[V])
  have:j=m:=by omega
  subst this;have X:dp.wrap ((i:Int)+j)=(i:Int)+j:=aO _ (by omega) (by omega);have ak:i+j<n+j:=by omega
  have aa:dj bT a b i j (i+j)=0:=by
   rw[dj,if_neg (by omega)];exact jw (wz ba a i e)
  have q:=tT (dj bT a b i j) ak;rw[aa]at q;have hs:=Di (n:=n+j) (i:=i+j) (dj bT a b i j) (dj bT a b (i+1) 0) (fun k _ hk=>by rw[pD,Mn ba e hk]);rw[pD,<-Jq ba e]at hs;have v:=ua ba a b i j;have ag:dp.wrap ((mulC bT a b i j:Nat):Int)=(mulC bT a b i j:Nat):=aO _ (by omega) (by omega);simp[g,X,H,G,hi,ak,q,hs,ag,ad];exact rd (i+1) (show i+1<=n by omega) (he:=by simp[T])
 have:i=n:=by omega
 subst this;have N:dm (i+m) (dj bT a b i 0)=dm (i+m) (ae bT (a*b)):=zk fun k _=>by rw[pD,ge t]
 simp[d,N,B];refine cp c (by simp[u];exact⟨rfl,rfl⟩) ?_ (h1:=by simp[e6,u]);simp
theorem WT{a b i:Nat}(c:0<b):(a/bT^(i+1)% b*bT+ae bT a i)/b=ae bT (a/b) i/\(a/bT^(i+1)% b*bT+ae bT a i)% b=a/bT^i% b:=by
 have e:=tt (B:=bT) a i;have g:=gy (a/bT^(i+1)) b;have f:a/bT^i=(a/bT^(i+1)% b*bT+ae bT a i)+a/bT^(i+1)/b*bT*b:=by
  rw[e];generalize ae bT a i=d;generalize a/bT^(i+1)/b=Q at*;generalize a/bT^(i+1)% b=R at*;rw[<-g,g2,fN b,hl Q b bT];omega
 have j:(a/bT^(i+1)% b*bT+ae bT a i)/b<bT:=by
  rw[gc c];have k:=ct ba a i;have h:=gb bT (show a/bT^(i+1)% b+1<=b from gm _ c);rw[g2,g0]at h;rw[fN bT];omega
 constructor
 ·conv=>rhs;rw[ae,g4,fN b,<-g4,f,Nat.add_mul_div_right _ _ c,hC,ge j]
 ·rw[f,hC]
theorem Az(r x:Nat):(r:Int)*1000000000+x=((r*bT+x:Nat):Int):=by
 rw[em,ei];rfl
def qT(Q i k:Nat):Nat:=if i<=k then ae bT Q k else 0
theorem D5{m Q i:Nat}:(dm m (qT Q (i+1))).set i (.p (.int .i64 (ae bT Q i:Nat)))=dm m (qT Q i):=by
 have:=Di (n:=m) (i:=i) (qT Q (i+1)) (qT Q i) (fun k _ hk=>by
  rw[qT,qT]
  by_cases h:i<=k
  ·rw[if_pos h,if_pos (by omega)]
  ·rw[if_neg h,if_neg (by omega)])
 rw[<-this,qT,if_pos (g5 _)]
theorem Nr{m Q:Nat}:dm m (qT Q 0)=dm m (ae bT Q):=zk fun k _=>by rw[qT,if_pos (hr _)]
theorem Ns{m Q:Nat}:e9 m (AV.p (.int .i64 0))=dm m (qT Q m):=by
 rw[LJ];exact zk fun k hk=>by rw[qT,if_neg (by omega)]
theorem N9{m N:Nat}(h:N<bT^m)(b:m<=1048576):∃l:List Nat,l.length=m/\dm m (ae bT N)=l.map (AV.p∘fun x:Nat=>PV.int .i64 x)/\aC prog 260 [.seq (iP l)] (eT N):=by
 refine⟨(ew m).map (ae bT N),by simp,CM m _,?_⟩;have a:=uf ((ew m).map (ae bT N)) (by simp;omega);rw[show eC ((ew m).map (ae bT N))=az bT N from jy ba h]at a;exact a
theorem JX(a d:Nat)(u:0<d)(U:d<bT)(J:(az bT a).length<=1000000):aC prog 259 [eT a,.int .i64 d] (.aG [eT (a/d),.int .i64 (a% d:Nat)]):=by
 refine aM nf OK mix (by simp[f259]) ?_;have H:∀i(h:i<(az bT a).length),(az bT a)[i]=ae bT a i:=fun i h=>eH ba h;have w:=cm ba a;obtain⟨l,o,y,g⟩:=N9 (m:=(az bT a).length) (N:=a/d) (g3 (hz _ _) w) (by omega);have j:a/bT^(az bT a).length% d=0:=by rw[hd w,Nat.zero_mod]
 have A:a/bT^0% d=a% d:=by rw[g7,hv]
 have T:bT=1000000000:=rfl;simp only[eT]at g⊢;simp only[iP]at g;generalize az bT (a/d)=X at*;generalize az bT a=x at*;obtain⟨n,q⟩:∃n,x.length=n:=⟨_,rfl⟩
 rw[q]at o y j J;generalize W:a% d=rem at*;obtain⟨f,hf⟩:∃f:Nat->Nat,∀i,a/bT^i% d=f i:=⟨_,fun _=>rfl⟩
 have z:=fun i=>WT (a:=a) (b:=d) (i:=i) u;have v:∀i,f i<d:=fun i=>by rw[<-hf];exact gm _ u
 simp only[hf]at j A z;have C:dp.wrap ((n:Int)-1)=n-1:=aO _ (by omega) (by omega);simp[f259,q,C];refine⟨by simp only[cZ];omega,?_⟩;rw[Ns (Q:=a/d)];refine lp (α:=Nat) (fun i=>⟨[(8,.p (.int .i64 ((i:Int)-1))),(7,.p (.int .i64 (f i:Nat))),(6,.sl 0 0 1 0 n),(1,.p (.int .i64 d)),(0,.p (.seq (x.map fun x:Nat=>.int .i64 x)))],[.arr .exact 0 1 (dm n (qT (a/d) i))]⟩)
  (fun i=>i<=n) (fun i=>i) n (g5 _) ?_ (he:=by simp[j])
 intro i k1
 by_cases hi:0<i
 ·obtain⟨k,rfl⟩:∃k,i=k+1:=⟨i-1,by omega⟩
  have D:dp.wrap ((k:Int)-1)=k-1:=aO _ (by omega) (by omega);have r:k<x.length:=by omega
  have hx:=H k r;have K:x[k]?=some (ae bT a k):=by rw[eq r,hx]
  obtain⟨L,M⟩:=z k;have aH:=D5 (m:=n) (Q:=a/d) (i:=k);have gk:=tT (qT (a/d) (k+1)) (show k<n by omega);have I:k<n:=by omega
  have R:=v (k+1);have V:=ct ba a k;have hq:=ct ba (a/d) k;have S:=v k;generalize f (k+1)=c at*;generalize E:f k=B at*;generalize ae bT a k=e at*;generalize ae bT (a/d) k=s at*;have O:dp.wrap ((c:Int)*1000000000)=c*1000000000:=aO _ (by omega) (by omega);have P:dp.wrap ((c:Int)*1000000000+e)=c*1000000000+e:=aO _ (by omega) (by omega);have t:(c:Int)*1000000000+e=((c*bT+e:Nat):Int):=Az c e;have d1:((c:Int)*1000000000+e).tdiv d=s:=by
   rw[t,ea (dq _),<-ed,L]
  have d2:((c:Int)*1000000000+e).tmod d=B:=by
   rw[t,dz (dq _),<-ec,M]
  have d3:dp.wrap (s:Int)=s:=aO _ (by omega) (by omega);have F:¬(d:Int)=0:=by omega
  have G:¬d=0:=by omega
  simp[q,D,hx,K,I,r,O,P,d1,d2,d3,F,G,gk,aH,ad];exact rd k (show k<=n by omega) (he:=by simp[E])
 ·obtain rfl:i=0:=by omega
  simp[Nr,y,A];refine cp g (by simp[o];exact⟨rfl,rfl⟩) ?_ (h1:=by simp[e6,o]);simp
def kH(a b c:Nat):Nat->Nat->Nat
 |0,_=>0
 |t+1,r=>if bT<=t+1\/r*bT+c<(t+1)*b then(if bT<=r+a then t else kH a b c t (r+a))else t+1
theorem auy{a b c t r:Nat}(h:0<t):kH a b c t r=if bT<=t\/r*bT+c<t*b then(if bT<=r+a then t-1 else kH a b c (t-1) (r+a))else t:=by
 cases t with
 |zero=>exact absurd h (Nat.lt_irrefl 0)
 |succ t=>rw[kH,hN]
theorem KB{a b:Nat}(c:a<bT)(d:b<bT):dp.wrap ((a:Int)*b)=(a:Int)*b:=by
 have e:a*b<=999999999*999999999:=hB (by simp only[bT]at c;omega) (by simp only[bT]at d;omega);rw[<-ei];generalize a*b=P at*;exact aO _ (by omega) (by omega)
theorem RX{a b r w:Nat}:(r:Int)*1000000000+w<(a:Int)*b↔r*bT+w<a*b:=by
 rw[Az,<-ei];exact Int.ofNat_lt
theorem AP{r v:Nat}:(1000000000:Int)<=(r:Int)+v↔bT<=r+v:=by simp only[bT];omega
theorem Qi{t:Nat}:(1000000000:Int)<=(t:Int)↔bT<=t:=by simp only[bT];omega
theorem aJZ{t:Nat}(h:0<t)(a:t<=bT+1):dp.wrap ((t:Int)-1)=((t-1:Nat):Int):=by
 simp only[bT]at a;rw[aO _ (by omega) (by omega)];omega
theorem Pn{a v2 b c w2 Q:Nat}(w:bT<=2*a)(x:a<bT)(o:b<=a)(y:c<bT)(v:Q<bT)
 (g:∀q r,q*a+r=b*bT+c->q<bT->q*v2<=r*bT+w2->q<=Q+1)(m:∀q r,q*a+r=b*bT+c->r*bT+w2<q*v2->Q<q)
 (n:∀q r,bT<=r->q<bT->q*v2<=r*bT+w2):∀t r,t*a+r=b*bT+c->Q<=t->r<bT->t<=bT+1->Q<=kH a v2 w2 t r/\kH a v2 w2 t r<=Q+1/\kH a v2 w2 t r<bT
 |0,r,d,f,p,s=>by
  rw[kH];exact⟨f,by omega,by omega⟩
 |t+1,r,d,f,p,s=>by
  rw[kH]
  by_cases hc:bT<=t+1\/r*bT+w2<(t+1)*v2
  ·rw[if_pos hc];have hq:Q<=t:=by
    rcases hc with h|h
    ·omega
    ·have:=m _ _ d h;omega
   have k:t*a+(r+a)=b*bT+c:=by rw[g2,g0]at d;omega
   by_cases i:bT<=r+a
   ·rw[if_pos i];have j:t<bT:=by
     rcases gt t bT with h|h
     ·exact h
     ·have e:t=bT:=by omega
      subst e;have:=gb bT o;rw[fN a]at this;omega
    exact⟨hq,g _ _ k j (n _ _ i j),j⟩
   ·rw[if_neg i];exact Pn w x o y v g m n t (r+a) k hq (by omega) (by omega)
  ·rw[if_neg hc];have l:t+1<bT:=by
    rcases gt (t+1) bT with h|h
    ·exact h
    ·exact(hc (.inl h)).elim
   have u:(t+1)*v2<=r*bT+w2:=by
    rcases gt (r*bT+w2) ((t+1)*v2)with h|h
    ·exact(hc (.inr h)).elim
    ·exact h
   exact⟨f,g _ _ d l u,l⟩
theorem asT(W V N j n:Nat)(k:AK)(aA:Nat)(f:Nat->Nat)(av:2<=n)(aG:(az bT V).length=n)(aW:bT<=2*ae bT V (n-1))(aH:W<V*bT)(bg:N<=1000000)(aZ:j+n<N)
 (hf:∀i,i<=n->f (j+i)=ae bT W i):∃t,W/V<=t/\t<=W/V+1/\t<bT/\
 cw prog 261 [.arr k aA 1 (dm N f)] [.sl 0 aA 1 0 N,.p (eT V),.p (.int .i64 j)] [.arr k aA 1 (dm N f)] (.p (.int .i64 t)):=by
 have aX:bT=1000000000:=rfl;have D:V<bT^n:=by rw[<-aG];exact cm ba V
 have Y:bT^(n-1)<=V:=by
  rcases gt V (bT^(n-1))with h|h
  ·have:=dT ba (n-1) V h;omega
  ·exact h
 obtain⟨au,aY⟩:=Dr ba (show 1<=n by omega) D aH;have ay:W/bT^n=ae bT W n:=by
  rw[ae,ge];have:=ct ba V (n-1);omega
 have w:W/bT^(n-1)=ae bT W n*bT+ae bT W (n-1):=by
  rw[tt,show n-1+1=n by omega,ay]
 have F:=N1 ba av Y D (W:=W);have ac:=fun q r=>EI ba av Y D (W:=W) (q:=q) (r:=r);have ab:=fun q r=>Pm ba av Y D (W:=W) (q:=q) (r:=r);have aL:=fun q r=>NZ ba (V:=V) (W:=W) (n:=n) (q:=q) (r:=r);rw[w]at F ac ab;have q1:=ct ba W n;have a9:=ct ba W (n-1);have bq:=ct ba W (n-2);have q4:=ct ba V (n-1);have bb:=ct ba V (n-2);have aF:=hf n (g5 _);have f2:=hf (n-1) (by omega);have f3:=hf (n-2) (by omega);rw[ay]at au;have E:(az bT V)[n-1]?=some (ae bT V (n-1)):=by rw[eq (by omega),eH ba (by omega)]
 have aa:(az bT V)[n-2]?=some (ae bT V (n-2)):=by rw[eq (by omega),eH ba (by omega)]
 have aJ:∀h:n-1<(az bT V).length,(az bT V)[n-1]=ae bT V (n-1):=fun h=>eH ba h;have aK:∀h:n-2<(az bT V).length,(az bT V)[n-2]=ae bT V (n-2):=fun h=>eH ba h;simp only[eT];generalize az bT V=y at*;generalize bh:W/V=Q at*;generalize bl:ae bT W n=s at*;generalize bm:ae bT W (n-1)=M at*;generalize bn:ae bT W (n-2)=e at*;generalize bj:ae bT V (n-1)=a at*;generalize bk:ae bT V (n-2)=v2 at*;clear w ay D Y aH hf;have S:=tT f (show j+n<N by omega);have U:=tT f (show j+(n-1)<N by omega);have l:=tT f (show j+(n-2)<N by omega);rw[aF]at S;rw[f2]at U;rw[f3]at l;have G:=wv N f;have aB:∀aD:Nat×Nat->Prop,aS aD (dm N f):=fun aD=>by simp
 generalize dm N f=u at*;obtain⟨c,m⟩:∃c,c=s*bT+M:=⟨_,rfl⟩
 obtain⟨b,ah⟩:∃b,b=c/a:=⟨_,rfl⟩
 obtain⟨d,af⟩:∃d,d=c% a:=⟨_,rfl⟩
 have a0:0<a:=by omega
 have aM:b*a+d=c:=by rw[ah,af,fN];exact gy _ _
 have aw:d<bT:=gA (by rw[af];exact gm _ a0) q4;have ax:b<=bT+1:=by
  have aU:=gb bT au;rw[fN a]at aU;rcases gt (bT+1) b with h|h
  ·have aV:=gb a (show bT+2<=b from h);rw[g2]at aV;omega
  ·exact h
 rw[<-m]at F ac ab;rw[<-ah]at F;have Z:=Pn (v2:=v2) (w2:=e) aW q4 au a9 aY (by rw[<-m];exact ac) (by rw[<-m];exact ab) aL b d (by rw[<-m];exact aM) F aw ax;refine⟨kH a v2 e b d,Z.1,Z.2.1,Z.2.2,?_⟩;obtain⟨T,w⟩:∃T,T=kH a v2 e b d:=⟨_,rfl⟩
 rw[<-w];clear Z F ac ab aL;have o:y.length=n:=aG;have br:dp.wrap ((j:Int)+n)=(j+n:Nat):=by rw[aO _ (by omega) (by omega)];omega
 have O:dp.wrap ((j:Int)+n)=(j:Int)+n:=aO _ (by omega) (by omega);have be:dp.wrap ((j:Int)+n-1)=(j:Int)+n-1:=aO _ (by omega) (by omega);have B:dp.wrap ((n:Int)-1)=(n:Int)-1:=aO _ (by omega) (by omega);have ao:dp.wrap ((n:Int)-2)=(n:Int)-2:=aO _ (by omega) (by omega);have ap:dp.wrap ((j:Int)+n-2)=(j:Int)+n-2:=aO _ (by omega) (by omega);have bc:((j:Int)+n).toNat=j+n:=by omega
 have bd:((j:Int)+n-1).toNat=j+(n-1):=by omega
 have A:((n:Int)-1).toNat=n-1:=by omega
 have am:((n:Int)-2).toNat=n-2:=by omega
 have an:((j:Int)+n-2).toNat=j+(n-2):=by omega
 have wf:dp.wrap ((s:Int)*1000000000)=(s:Int)*1000000000:=aO _ (by omega) (by omega);have aI:(s:Int)*1000000000+M=(c:Nat):=by rw[m];exact Az s M
 have bi:c<1000000000000000000:=by rw[m,aX];omega
 have aP:dp.wrap ((s:Int)*1000000000+M)=(c:Nat):=by rw[aI];exact aO _ (by omega) (by omega)
 have aE:((c:Nat):Int).tdiv a=b:=by rw[ea (dq _),<-ed,<-ah]
 have dr:((c:Nat):Int).tmod a=d:=by rw[dz (dq _),<-ec,<-af]
 have a1:¬(a:Int)=0:=by omega
 have a2:¬a=0:=by omega
 have aQ:dp.wrap (b:Int)=b:=aO _ (by omega) (by omega);have z:n-1<y.length:=by omega
 have J:n-2<y.length:=by omega
 have H:=aJ z;have ai:=aK J;have aN:j+n<u.length:=by omega
 have a3:j+(n-1)<u.length:=by omega
 have I:j+(n-2)<u.length:=by omega
 have a4:j+(n-1)<N:=by omega
 have aj:j+(n-2)<N:=by omega
 have aR:u[j+n]=.p (.int .i64 s):=by rw[eq aN]at S;exact hT S
 have aT:u[j+(n-1)]=.p (.int .i64 M):=by rw[eq a3]at U;exact hT U
 have X:u[j+(n-2)]=.p (.int .i64 e):=by rw[eq I]at l;exact hT l
 have L:¬u=[]:=by rintro rfl;simp at aN
 have a5:0<=(j:Int)+n:=by omega
 have a6:0<=(j:Int)+n-1:=by omega
 have bo:0<=(j:Int)+n-2:=by omega
 have a8:0<=(n:Int)-1:=by omega
 have bp:0<=(n:Int)-2:=by omega
 have a7:1<=(j:Int)+n:=by omega
 have ak:2<=(j:Int)+n:=by omega
 have K:1<=(n:Int):=by omega
 have al:2<=(n:Int):=by omega
 refine fV nf Ge mix (by simp[f261]) ?_;simp[f261,o,O,be,B,bc,bd,A,S,U,E,H,wf,aP,aE,dr,a1,a2,aQ,G,aZ,z,aR,aT,L,a5,a6,a8,a7,K,a4,ad];refine lp (α:=Nat×Nat) (fun x=>⟨[(10,.p (.int .i64 x.2)),(9,.p (.int .i64 x.1)),(7,.p (.int .i64 n)),(2,.p (.int .i64 j)),(1,.p (.seq (y.map fun x:Nat=>.int .i64 x))),(0,.sl 0 aA 1 0 N)],[.arr k aA 1 u]⟩)
  (fun x=>T=kH a v2 e x.1 x.2/\x.2<bT/\x.1<=bT+1) (fun x=>x.1) (b,d) ⟨w,aw,ax⟩ ?_ (hr2:=by simp[aB])
 clear m aM ah af aI aP aE dr w wf aw ax aQ aJ aK aF f2 f3;rintro⟨t,r⟩ ⟨k1,k2,k3⟩;dsimp only at k1 k2 k3;have aq:dp.wrap ((r:Int)*1000000000)=(r:Int)*1000000000:=aO _ (by omega) (by omega);have ar:dp.wrap ((r:Int)*1000000000+e)=(r:Int)*1000000000+e:=aO _ (by omega) (by omega);have P:dp.wrap ((r:Int)+a)=(r:Int)+a:=aO _ (by omega) (by omega);rcases Nat.eq_zero_or_pos t with C|C
 ·subst C;rw[kH]at k1;have c1:¬(r:Int)*1000000000+e<0:=by rw[Az];exact Int.not_lt.2 (dq _)
  have bf:dp.wrap 0=0:=rfl;simp[o,bf,ao,am,aq,ar,P,ap,an,aa,ai,J,l,X,I,aj,G,L,ak,al,O,c1,k1,ad]
 rw[auy C]at k1;have ag:=aJZ C k3;have k4:∀x,x<=bT+1->x-1<=bT+1:=fun x h=>ha (hL _ _) h;have k5:t-1<t:=Nat.sub_lt C (by decide)
 by_cases c0:bT<=t
 ·have v:=Qi.2 c0;rw[if_pos (.inl c0)]at k1
  by_cases c2:bT<=r+a
  ·have g:=AP.2 c2;rw[if_pos c2]at k1;simp[v,ag,o,B,A,E,H,z,K,P,g,k1]
  ·have g:=mt AP.1 c2;rw[if_neg c2]at k1;simp[v,ag,o,B,A,E,H,z,K,P,g];exact rd (t-1,r+a) ⟨k1,hp c2,k4 _ k3⟩ k5 (he:=by simp) (hr2:=by simp[aB])
 have v:=mt Qi.1 c0;have aC:=KB (hp c0) bb
 by_cases c1:r*bT+e<t*v2
 ·have R:=RX.2 c1;rw[if_pos (.inr c1)]at k1
  by_cases c2:bT<=r+a
  ·have g:=AP.2 c2;rw[if_pos c2]at k1;simp[v,ag,o,B,A,E,H,z,K,P,g,k1,ao,am,aq,ar,aC,ap,an,aa,ai,J,l,X,I,aj,G,L,ak,al,O,R,ad]
   done
  ·have g:=mt AP.1 c2;rw[if_neg c2]at k1;simp[v,ag,o,B,A,E,H,z,K,P,g,ao,am,aq,ar,aC,ap,an,aa,ai,J,l,X,I,aj,G,L,ak,al,O,R,ad];exact rd (t-1,r+a) ⟨k1,hp c2,k4 _ k3⟩ k5 (he:=by simp) (hr2:=by simp[aB])
 ·have R:=mt RX.1 c1;rw[if_neg (fun h=>h.elim c0 c1)]at k1;simp[v,o,B,A,ao,am,aq,ar,aC,ap,an,aa,ai,J,l,X,I,aj,G,L,ak,al,O,R,k1,ad]
theorem XU{b k f d:Nat}(n:b<bT^(k+1))(h:d=b/bT^k)(p:0<d)(hf:f=bT/(d+1)):0<f/\f<bT/\b*f<bT^(k+1)/\bT^k<=b*f/\bT<=2*ae bT (b*f) k:=by
 have e:0<bT^k:=gi (by decide);have s:d<bT:=by
  rw[h,gc e,fN,<-gj];exact n
 have r:bT=1000000000:=rfl;have g:=hH bT (d+1);have j:=Nat.lt_div_mul_add (a:=bT) (show 0<d+1 by omega);rw[<-hf]at g j;have i:0<f:=by rw[hf];exact hu (by omega) (by omega)
 have q:f<bT:=by
  rw[hf];exact Nat.div_lt_self (by decide) (by omega)
 have o:b<(d+1)*bT^k:=by
  rw[<-gc e,<-h];omega
 have l:d*bT^k<=b:=by rw[h];exact hH _ _
 have m:b*f<bT^(k+1):=by
  rw[gj];have e1:b*f<(d+1)*bT^k*f:=g9 o i;have e2:(d+1)*bT^k*f=f*(d+1)*bT^k:=by rw[fN,<-gx]
  have e3:=gb (bT^k) g;rw[fN (bT^k) bT];omega
 refine⟨i,q,m,?_,?_⟩
 ·have e1:1*bT^k<=d*bT^k:=gb _ p;rw[g0]at e1;exact ha (ha e1 l) (hD _ i)
 ·have e1:b*f/bT^k=ae bT (b*f) k:=by
   rw[ae,ge];rw[gc e,fN bT,<-gj];exact m
  have e2:d*f<=b*f/bT^k:=by
   rw[hF e,hl];exact gb _ l
  rw[e1]at e2;have e3:d+f<=d*f+1:=by
   obtain⟨d',rfl⟩:∃d',d=d'+1:=⟨d-1,by omega⟩
   obtain⟨c,rfl⟩:∃c,f=c+1:=⟨f-1,by omega⟩
   have:(d'+1)*(c+1)=d'*c+d'+c+1:=by rw[g2,g1,g0,ht];omega
   omega
  have e4:f*(d+1)=d*f+f:=by rw[g1,ht,fN]
  rw[e4]at g j;generalize d*f=P at*;generalize ae bT (b*f) k=Z at*;omega
def gv(V R t i:Nat):Nat:=(t*(V% bT^i)+R% bT^i)/bT^i
theorem YJ{V R t:Nat}:gv V R t 0=0:=by simp[gv,hR]
theorem LW{W V R t n i:Nat}(h:R+t*V=W+bT^(n+1))(hi:i<=n):ae bT R i+t*ae bT V i+gv V R t i=ae bT W i+gv V R t (i+1)*bT:=by
 have k:0<bT^i:=gi (by decide);have l:0<bT^(i+1):=gi (by decide);have d:(t*(V% bT^(i+1))+R% bT^(i+1))% bT^(i+1)=W% bT^(i+1):=by
  have e1:(t*V+R)% bT^(i+1)=(t*(V% bT^(i+1))+R% bT^(i+1))% bT^(i+1):=by
   have a:=gy V (bT^(i+1));have e:=gy R (bT^(i+1));have f:t*V+R=t*(V% bT^(i+1))+R% bT^(i+1)+bT^(i+1)*(t*(V/bT^(i+1))+R/bT^(i+1)):=by
    have g:t*V=t*(V% bT^(i+1))+bT^(i+1)*(t*(V/bT^(i+1))):=by
     conv=>lhs;rw[<-a]
     rw[g1,<-gx,fN t (bT^(i+1)),gx];omega
    rw[g,g1]
    conv=>lhs;rw[<-e]
    omega
   rw[f,hb]
  rw[<-e1,g6 (t*V),h];have:bT^(i+1)∣bT^(n+1):=hw _ (by omega);obtain⟨c,hc⟩:=this;rw[hc,hb]
 have e2:=gy (t*(V% bT^(i+1))+R% bT^(i+1)) (bT^(i+1));have e3:=gy (t*(V% bT^i)+R% bT^i) (bT^i);rw[d]at e2;rw[show(t*(V% bT^(i+1))+R% bT^(i+1))/bT^(i+1)=gv V R t (i+1)from rfl]at e2;rw[show(t*(V% bT^i)+R% bT^i)/bT^i=gv V R t i from rfl]at e3;have j:(t*(V% bT^i)+R% bT^i)% bT^i=W% bT^i:=by
  have:=congrArg (·% bT^i) d
  have b:bT^i∣bT^(i+1):=hw _ (by omega);rw[hm _ b,hm _ b]at this;rw[<-this,mod_pow_succ,mod_pow_succ];rw[g1];have:t*(V% bT^i)+t*(bT^i*ae bT V i)+(R% bT^i+bT^i*ae bT R i)=t*(V% bT^i)+R% bT^i+bT^i*(t*ae bT V i+ae bT R i):=by
   rw[g1,<-gx t,fN t (bT^i),gx];omega
  rw[this,hb]
 rw[j]at e3;rw[mod_pow_succ,mod_pow_succ,mod_pow_succ,gj]at e2;have e4:bT^i*(ae bT R i+t*ae bT V i+gv V R t i)=bT^i*(ae bT W i+gv V R t (i+1)*bT):=by
  have a:t*(V% bT^i+bT^i*ae bT V i)=t*(V% bT^i)+bT^i*(t*ae bT V i):=by
   rw[g1,<-gx t,fN t (bT^i),gx]
  rw[a]at e2;rw[g1,g1,g1];rw[gx (bT^i),fN bT]at e2;generalize bT^i*ae bT R i=m at*;generalize bT^i*(t*ae bT V i)=o at*;generalize bT^i*gv V R t i=p at*;generalize bT^i*ae bT W i=q at*;generalize bT^i*(gv V R t (i+1)*bT)=r at*;generalize t*(V% bT^i)=s at*;omega
 exact Nat.eq_of_mul_eq_mul_left k e4
theorem YI{r p w b':Nat}(h:r+p=w+b'*bT)(j:r<bT)(k:w<bT):(w<p% bT/\r+p% bT=w+bT/\b'=p/bT+1)\/(p% bT<=w/\r+p% bT=w/\b'=p/bT):=by
 have e:=gy p bT;have i:=gm p (show 0<bT by decide);generalize p/bT=q at*;generalize p% bT=m at*;have b:r+m+bT*q=w+b'*bT:=by omega
 rw[fN bT]at b;rcases Nat.lt_trichotomy b' q with a|a|a
 ·have:=gb bT (show b'+1<=q from a);rw[g2,g0]at this;omega
 ·subst a;right;omega
 ·have d:=gb bT (show q+1<=b' from a);rw[g2,g0]at d;have f:b'=q+1:=by
   rcases gt (q+1) b' with c|c
   ·have g:=gb bT (show q+2<=b' from c);rw[g2]at g;omega
   ·omega
  subst f;rw[g2,g0]at b;left;omega
theorem Zf{W V t n:Nat}(y:0<V)(j:V<bT^n)(l:W<bT^(n+1))(C:W/V<=t)(D:t<=W/V+1):
 ∃R,R+t*V=W+bT^(n+1)/\
 ((t=W/V/\gv V R t n=ae bT W n/\∀i,i<=n->ae bT R i=ae bT (W% V) i)\/
  (t=W/V+1/\gv V R t n=ae bT W n+1/\di bT R V n=1/\∀i,i<=n->ae bT (R+V) i=ae bT (W% V) i)):=by
 have H:0<bT^n:=gi (by decide);have B:0<bT^(n+1):=gi (by decide);have k:V<bT^(n+1):=gg j (gl (by decide) (by omega));have z:=gy W V;have o:=gm W y;have d:bT^(n+1)=bT^n*bT:=gj _ _;have F:bT=1000000000:=rfl;have A:W% V<bT^n:=gA o j;have s:ae bT (W% V) n=0:=jw A;have q:ae bT V n=0:=jw j;have m:∀R,R+t*V=W+bT^(n+1)->ae bT R n+gv V R t n=ae bT W n+gv V R t (n+1)*bT:=fun R v=>by
  have:=LW v (g5 n);rw[q,Nat.mul_zero,Nat.add_zero]at this;exact this
 rcases gt t (W/V+1)with u|u
 ·have b:t=W/V:=by omega
  have r:t*V+W% V=W:=by rw[b,fN];exact z
  refine⟨W% V+bT^(n+1),by omega,.inl ⟨b,?_,fun i hi=>?_⟩⟩
  ·have e:=m (W% V+bT^(n+1)) (by omega);have f:gv V (W% V+bT^(n+1)) t (n+1)=0:=by
    rw[gv,ge k,Nat.add_mod_right,ge (gA o k),r,hd l]
   have a:ae bT (W% V+bT^(n+1)) n=0:=by
    rw[<-s];exact wo (by omega)
   rw[f,a]at e;omega
  ·exact wo (by omega)
 ·have b:t=W/V+1:=by omega
  have r:t*V+W% V=W+V:=by rw[b,g2,g0,fN];omega
  have G:V<=bT^(n+1)+W% V:=by omega
  refine⟨bT^(n+1)+W% V-V,by omega,.inr ⟨b,?_,?_⟩⟩
  ·have e:=m (bT^(n+1)+W% V-V) (by omega);have w:bT^(n+1)+W% V-V<bT^(n+1):=by omega
   have f:gv V (bT^(n+1)+W% V-V) t (n+1)=1:=by
    rw[gv,ge k,ge w];have:t*V+(bT^(n+1)+W% V-V)=W+bT^(n+1):=by omega
    rw[this,Nat.add_div_right _ B,hd l]
   have a:ae bT (bT^(n+1)+W% V-V) n=bT-1:=by
    have g:(bT^(n+1)+W% V-V)/bT^n=bT-1:=by
     refine hK ?_ ?_
     ·rw[hO,g0,fN bT,<-d];omega
     ·rw[show bT-1+1=bT by decide,fN bT,<-d];omega
    rw[ae,g];decide
   rw[f,a]at e;omega
  ·have x:bT^(n+1)+W% V-V+V=W% V+bT^(n+1):=by omega
   have p:∀i,i<=n->ae bT (bT^(n+1)+W% V-V+V) i=ae bT (W% V) i:=fun i hi=>by
    rw[x];exact wo (by omega)
   refine⟨?_,p⟩;have h:=(qO ba (bT^(n+1)+W% V-V) V n).1;have E:=lZ ba (bT^(n+1)+W% V-V) V n;rw[p n (g5 _),s,q]at h;have a:ae bT (bT^(n+1)+W% V-V) n=bT-1:=by
    have g:(bT^(n+1)+W% V-V)/bT^n=bT-1:=by
     refine hK ?_ ?_
     ·rw[hO,g0,fN bT,<-d];omega
     ·rw[show bT-1+1=bT by decide,fN bT,<-d];omega
    rw[ae,g];decide
   rw[a]at h;generalize di bT (bT^(n+1)+W% V-V) V n=c at*;rcases gt 0 c with hc|hc
   ·omega
   ·have:c=0:=by omega
    subst this;simp only[bT]at h;omega
theorem Ze{V R t i:Nat}:gv V R t i<=t:=by
 have a:0<bT^i:=gi (by decide);have b:=gm V a;have c:=gm R a;rw[gv];refine Nat.le_of_lt_succ ?_;rw[gc a];have d:=hj t (hE b);rw[Nat.succ_mul];omega
theorem aJ0{t v a w r b':Nat}(h:r+(t*v+a)=w+b'*bT)(f:r<bT)(g:w<bT)(b:t<bT)(c:v<bT)(i:a<=t):
 ∃(p q m:Nat),dp.wrap ((t:Int)*v)=(t:Int)*v/\dp.wrap ((t:Int)*v+a)=p/\(p:Int).tmod 1000000000=m/\(p:Int).tdiv 1000000000=q/\q<bT/\m<bT/\
 (((w:Int)-m<0/\(w:Int)-m+1000000000=r/\b'=q+1)\/(¬(w:Int)-m<0/\(w:Int)-m=r/\b'=q)):=by
 have d:t*v<=999999999*999999999:=hB (by simp only[bT]at b;omega) (by simp only[bT]at c;omega);have j:=YI h f g;have e:=gm (t*v+a) (show 0<bT by decide);have hq:(t*v+a)/bT<bT:=by
  rw[gc (by decide)];simp only[bT]at b⊢;omega
 refine⟨t*v+a,(t*v+a)/bT,(t*v+a)% bT,KB b c,?_,?_,?_,hq,e,?_⟩
 ·rw[<-ei,<-em];generalize t*v=P at*;simp only[bT]at b;exact aO _ (by omega) (by omega)
 ·rw[dz (dq _),ec];rfl
 ·rw[ea (dq _),ed];rfl
 ·generalize (t*v+a)/bT=q at*;generalize (t*v+a)% bT=m at*;clear h d;simp only[bT]at*;omega
def cU(n:Nat)(f:Nat->Int):List AV:=(ew n).map fun j=>.p (.int .i64 (f j))
theorem l6(n:Nat)(f:Nat->Int):(cU n f).length=n:=by simp[cU]
theorem RP(n:Nat)(f:Nat->Nat):dm n f=cU n (fun k=>(f k:Nat)):=rfl
theorem aJD{n j:Nat}(f:Nat->Int)(h:j<n):(cU n f)[j]?=some (.p (.int .i64 (f j))):=by
 rw[cU,List.getElem?_map,List.getElem?_range h];rfl
theorem wF{n i:Nat}{v:Int}(f g:Nat->Int)(c:g i=v)(h:∀j,j<n->j≠i->g j=f j):(cU n f).set i (.p (.int .i64 v))=cU n g:=by
 apply fl (by simp[cU]);intro j d b;rw[l6]at b;rw[List.getElem_set];simp only[cU,e8,e7]
 by_cases a:i=j
 ·subst a;rw[if_pos rfl,c]
 ·rw[if_neg a,h j b (fun e=>a e.symm)]
@[simp] theorem aMH{N:Nat×Nat->Prop}{n:Nat}{f:Nat->Int}:aS N (cU n f)=True:=by
 rw[cL,eq_iff_iff,iff_true];intro v a;simp only[cU,List.mem_map]at a;obtain⟨x,_,rfl⟩:=a;trivial
theorem MQ{n:Nat}{f g:Nat->Int}(h:∀j,j<n->f j=g j):cU n f=cU n g:=by
 rw[cU,cU];apply List.map_congr_left;intro j a;rw[h j (List.mem_range.1 a)]
def gh(X R j i k:Nat):Int:=if j<=k/\k<j+i then(ae bT R (k-j):Nat)else(ae bT X k:Nat)
theorem win_zero{X R j k:Nat}:gh X R j 0 k=(ae bT X k:Nat):=by rw[gh,if_neg (by omega)]
theorem DW{X R j i:Nat}:gh X R j i (j+i)=(ae bT X (j+i):Nat):=by rw[gh,if_neg (by omega)]
theorem aKJ{X R j i:Nat}:gh X R j (i+1) (j+i)=(ae bT R i:Nat):=by
 rw[gh,if_pos (by omega),hg]
theorem aKK{X R j i k:Nat}(h:k≠j+i):gh X R j (i+1) k=gh X R j i k:=by
 rw[gh,gh]
 by_cases a:j<=k/\k<j+i
 ·rw[if_pos a,if_pos (by omega)]
 ·rw[if_neg a,if_neg (by omega)]
def gL(X R S j n i k:Nat):Int:=if k=j+n then -1 else if j<=k/\k<j+i then(ae bT S (k-j):Nat)else gh X R j n k
theorem aKG{X R S j n i:Nat}(h:i<n):gL X R S j n i (j+i)=(ae bT R i:Nat):=by
 rw[gL,if_neg (by omega),if_neg (by omega),gh,if_pos (by omega),hg]
theorem aKH{X R S j n i:Nat}(h:i<n):gL X R S j n (i+1) (j+i)=(ae bT S i:Nat):=by
 rw[gL,if_neg (by omega),if_pos (by omega),hg]
theorem aKI{X R S j n i k:Nat}(h:k≠j+i):gL X R S j n (i+1) k=gL X R S j n i k:=by
 rw[gL,gL]
 by_cases a:k=j+n
 ·rw[if_pos a,if_pos a]
 ·rw[if_neg a,if_neg a]
  by_cases b:j<=k/\k<j+i
  ·rw[if_pos b,if_pos (by omega)]
  ·rw[if_neg b,if_neg (by omega)]
theorem Yk{X V j n N:Nat}(d:0<V)(c:V<bT^n)(e:X<V*bT^(j+1)){g:Nat->Int}(h:∀k,k<N->g k=if k=j+n then 0 else if j<=k/\k<j+n then(ae bT (X/bT^j% V) (k-j):Nat)else(ae bT X k:Nat)):
 cU N g=cU N fun k=>(ae bT (X% (V*bT^j)) k:Nat):=by
 refine MQ fun k hk=>?_;rw[h k hk,(yK (B:=bT) (R:=X) (V:=V) (j:=j)).1,KF ba];have i:=gm (X/bT^j) d;have f:X<bT^(n+(j+1)):=by
  rw[g8];exact gA e (g9 c (gi (by decide)))
 by_cases a:k<j
 ·rw[if_pos a,if_neg (by omega),if_neg (by omega)]
 ·rw[if_neg a]
  by_cases m:k<j+n
  ·rw[if_neg (by omega),if_pos (by omega)]
  ·have l:ae bT (X/bT^j% V) (k-j)=0:=jw (gg (gA i c) (gl (by decide) (by omega)));rw[l]
   by_cases b:k=j+n
   ·rw[if_pos b]
   ·rw[if_neg b,if_neg (by omega)];have:ae bT X k=0:=jw (gg f (gl (by decide) (by omega)));rw[this]
theorem D7{f:Nat}(a:0<f)(h:f<bT):eT f=.seq [.int .i64 f]:=by rw[eT,nP a h];rfl
theorem XE{r:Nat}(h:r<bT):eC [r]=az bT r:=by
 have:=jy ba (m:=1) (n:=r) (by rw[hP];exact h);rw[<-this,row,List.range_one,fm,List.map_nil,ae,g7,hv,ge h]
@[simp] theorem aMA{σ:Nat->Nat}{n:Nat}{f:Nat->Int}:cJ σ (cU n f)=cU n f:=by
 have:∀l:List Nat,cJ σ (l.map fun j=>AV.p (.int .i64 (f j)))=l.map fun j=>AV.p (.int .i64 (f j)):=by
  intro l
  induction l with
  |nil=>rfl
  |cons a r b=>simp only[fm,cJ,b];rfl
 exact this _
@[simp] theorem aMF{n j:Nat}{f:Nat->Int}(h:j<(cU n f).length):(cU n f)[j]=.p (.int .i64 (f j)):=by
 simp only[cU,e8,e7]
@[simp] theorem aMC{n j:Nat}{f:Nat->Nat}(h:j<(dm n f).length):(dm n f)[j]=.p (.int .i64 (f j:Nat)):=by
 simp only[dm,e8,e7]
@[simp] theorem aMG{n:Nat}{f:Nat->Int}:(cU (n+1) f=[])=False:=by
 rw[eq_iff_iff,iff_false];intro h;have:=congrArg List.length h;rw[l6]at this;simp at this
theorem Ej(a b:Nat)(K:0<b)(c5:(az bT a).length<=400000)(b6:(az bT b).length<=400000):aC prog 195 [eT a,eT b] (.aG [eT (a/b),eT (a% b)]):=by
 have bO:=JY a b (by omega) (by omega);refine aM nf GL mix (by simp[f195]) ?_;simp[f195];refine c2 bO ?_
 by_cases S:a<b
 ·have G:=pO.2 S;simp[G,hd S,ge S,eT,Ay]
 have G:¬fP a b<0:=fun h=>S (pO.1 h);have a4:∀i(h:i<(az bT b).length),(az bT b)[i]=ae bT b i:=fun i h=>eH ba h;have C:=cm ba b
 by_cases b4:(az bT b).length=1
 ·rw[b4,hP]at C;have L:=JX a b K C (by omega);have cb:=gm a K;have cg:=XE (gA cb C);have aq:=uf [a% b] (by simp);rw[cg]at aq;have cX:=nP K C;rw[D7 K C];simp only[eT,iP]at L aq⊢;generalize az bT (a/b)=cP at*;generalize az bT (a% b)=cQ at*;generalize az bT a=x at*;generalize a% b=dh at*;simp[G];refine c2 L ?_;simp;refine cp aq (by simp;exact⟨rfl,rfl⟩) ?_;simp
 have c4:2<=(az bT b).length:=by
  rcases gt (az bT b).length 1 with h|h
  ·have e:(az bT b).length=0:=by omega
   rw[e,g7]at C;omega
  ·omega
 obtain⟨k,hk⟩:∃k,(az bT b).length=k+1:=⟨(az bT b).length-1,by omega⟩
 obtain⟨n,aD⟩:∃n,n=k+1:=⟨_,rfl⟩
 rw[hk]at C;obtain⟨d,Z⟩:∃d,d=b/bT^k:=⟨_,rfl⟩
 have aw:bT^k<=b:=by
  rcases gt b (bT^k)with h|h
  ·have:=dT ba k b h;omega
  ·exact h
 have bf:0<bT^k:=gi (by decide);have bP:0<d:=by rw[Z];exact hu aw bf
 have bU:d<bT:=by rw[Z,gc bf,fN,<-gj];exact C
 have a5:ae bT b k=d:=by rw[ae,<-Z,ge bU]
 obtain⟨f,hf⟩:∃f,f=bT/(d+1):=⟨_,rfl⟩
 obtain⟨f0,f1,f2,f3,f4⟩:=XU C Z bP hf;obtain⟨V,I⟩:∃V,V=b*f:=⟨_,rfl⟩
 rw[<-I]at f2 f3 f4;have aY:(az bT V).length=n:=by
  have H:=dT ba (k+1) V f2;have bE:=Ki ba f3;omega
 have ag:=Ei b f (by rw[nP f0 f1];simp;omega);have ah:=Ei a f (by rw[nP f0 f1];simp;omega);rw[D7 f0 f1,<-I]at ag;rw[D7 f0 f1]at ah;have bR:(az bT b)[k]?=some d:=by rw[eq (by omega),a4 k (by omega),a5]
 have bS:∀h:k<(az bT b).length,(az bT b)[k]=d:=fun h=>by rw[a4 k h,a5]
 have c7:(az bT b).length<=400000:=b6;have cW:bT=1000000000:=rfl;have cH:dp.wrap ((d:Int)+1)=(d:Int)+1:=aO _ (by omega) (by omega);have bW:(1000000000:Int).tdiv ((d:Int)+1)=(f:Nat):=by
  rw[ea (by decide),hf,ed];rfl
 have bQ:¬(d:Int)+1=0:=by omega
 have cI:dp.wrap (k:Int)=k:=aO _ (by omega) (by omega);have wf:dp.wrap (f:Int)=f:=aO _ (by omega) (by omega);have b5:¬(k:Int)+1=1:=by omega
 have b0:¬k=0:=by omega
 have bo:k<(az bT b).length:=by omega
 have b1:=bS bo;simp only[eT]at ag ah⊢;generalize cs:az bT (a/b)=cP at*;generalize cu:az bT (a% b)=cQ at*;generalize aG:az bT a=x at*;generalize dc:az bT b=y at*;generalize aj:az bT V=s at*;simp[G,hk,b5,b0,cI,bR,b1,bo,cH,bW,bQ,wf];refine cp ag (by simp;exact⟨rfl,rfl⟩) ?_;simp[aY];refine cp ah (by simp;exact⟨rfl,rfl⟩) ?_;obtain⟨u,D⟩:∃u,az bT (a*f)=u:=⟨_,rfl⟩
 obtain⟨c,M⟩:∃c,x.length=c:=⟨_,rfl⟩
 have bh:u.length<=c+1:=by
  rw[<-D,<-M,<-aG];refine dT ba _ _ ?_;rw[gj];exact ho (cm ba a) f1
 have ck:∀i(h:i<u.length),u[i]=ae bT (a*f) i:=fun i h=>by
  have:=eH ba (n:=a*f) (i:=i) (by rw[D];exact h);simp only[D]at this;exact this
 rw[D];have cV:b<=a*f:=ha (Nat.le_of_not_lt S) (hD _ f0);have bj:¬u=[]:=by
  intro h;rw[h]at D;have:=vV.1 D;omega
 have a1:a*f<bT^u.length:=by rw[<-D];exact cm ba _
 have ai:List.map (AV.p∘fun x:Nat=>PV.int dp x) u=cU u.length fun k=>(ae bT (a*f) k:Nat):=by
  apply fl (by simp[cU]);intro i G cT;simp only[e8,Function.comp,cU,e7];rw[ck i (by simpa using G)]
 have ci:u.length<=400001:=by omega
 obtain⟨A,bi⟩:∃A,u.length=A:=⟨_,rfl⟩
 rw[bi]at a1 ai bh ci;clear ag ah;have cj:¬(cU A fun k=>(ae bT (a*f) k:Nat))=[]:=by rw[<-ai];simpa using bj
 have ch:¬A=0:=by rw[<-bi];exact fun h=>bj (List.length_eq_zero_iff.1 h)
 simp[M,ai,cj,ch,l6];refine⟨⟨by rw[<-ai];exact RS u,by simp only[cZ];omega⟩,?_⟩;have c6:c<=400000:=by omega
 have bx:dp.wrap ((c:Int)+1)=c+1:=aO _ (by omega) (by omega);refine sq (fun s'=>∃l o,aN s'.env 8=.sl 0 0 1 0 1/\aN s'.env 9=.p (.seq (s.map fun x:Nat=>.int .i64 x))/\aN s'.env 10=.p (.int .i64 n)/\aN s'.env 11=.sl 2 l 1 0 (c+1)/\s'.heap=[.arr .frozen 0 1 [.p (.int .i64 f)],o,.arr .grow l 1 (cU (c+1) fun k=>(ae bT (a*f) k:Nat))]) ?_ ?_
 ·refine lp (α:=Nat) (fun i=>⟨[(11,.sl 2 (i-A) 1 0 i),(10,.p (.int .i64 n)),(9,.p (.seq (s.map fun x:Nat=>.int .i64 x))),(8,.sl 0 0 1 0 1),(0,.p (.seq (x.map fun x:Nat=>.int .i64 x)))],[.arr .frozen 0 1 [.p (.int .i64 f)],.hole,.arr .grow (i-A) 1 (cU i fun k=>(ae bT (a*f) k:Nat))]⟩)
   (fun i=>A<=i/\i<=c+1) (fun i=>c+1-i) A ⟨g5 _,bh⟩ ?_ (he:=by simp) (hh:=by simp)
  rintro i ⟨k1,k2⟩
  by_cases hi:i<c+1
  ·have bX:(i:Int)<c+1:=by omega
   have cr:ae bT (a*f) i=0:=jw (gg a1 (gl (by decide) k1));have cd:cU (i+1) (fun k=>(ae bT (a*f) k:Nat))=cU i (fun k=>(ae bT (a*f) k:Nat))++[.p (.int .i64 0)]:=by
    rw[cU,List.range_succ,List.map_append];simp[cr,cU]
   have bg:i+1-A=i-A+1:=by omega
   have ce:fd i (cU i fun k=>(ae bT (a*f) k:Nat))=cU i fun k=>(ae bT (a*f) k:Nat):=e6 (by rw[l6];exact g5 _);simp[M,bx,bX,l6,ce];refine⟨by simp only[cZ];omega,?_⟩;exact rd (i+1) ⟨by omega,hi⟩ (he:=by simp[bg]) (hh:=by simp[bg,cd]) (hr2:=by simp)
  ·have aa:i=c+1:=by omega
   subst aa;simp[M,bx]
 rintro⟨bC,bV⟩ ⟨l,o,E,P,Q,F,T⟩;dsimp only at E P Q F T;subst T;have db:n<=c:=by
  rw[aD];rcases gt c (k+1)with h|h
  ·have H:=cm ba a;rw[aG,M]at H;have bE:=gg H (gl (show 0<bT by decide) (show c<=k by omega));omega
  ·exact h
 obtain⟨m,c9⟩:∃m,m=c-n:=⟨_,rfl⟩
 have cL:dp.wrap ((c:Int)+1-n)=(m:Int)+1:=by rw[aO _ (by omega) (by omega)];omega
 have cM:((m:Int)+1).toNat=m+1:=by omega
 have cN:dp.wrap (m:Int)=m:=aO _ (by omega) (by omega);have b9:(m:Int)+1<=cZ:=by simp only[cZ];omega
 simp[E,P,Q,F,cL,cM,cN];refine⟨⟨by omega,b9⟩,?_⟩;have au:0<V:=by rw[I];exact hQ K f0
 have W:V<bT^n:=by rw[aD];exact f2
 have a2:a<bT^c:=by rw[<-M,<-aG];exact cm ba a
 have bL:a*f% (V*bT^(m+1))=a*f:=by
  refine ge ?_;rw[I,hl];refine g9 ?_ f0;refine gg a2 ?_;rw[show c=k+(m+1)by omega,g8];exact gb _ aw
 obtain⟨X,J⟩:∃X:Nat->Nat,∀j,X j=a*f% (V*bT^j):=⟨_,fun _=>rfl⟩
 have Y:∀j,X j<V*bT^j:=fun j=>by rw[J];exact gm _ (hQ au (gi (by decide)))
 have bN:∀j,X (j+1)% (V*bT^j)=X j:=fun j=>by
  rw[J,J,hm];exact Nat.mul_dvd_mul_left _ (hw _ (by omega))
 have bM:∀j,X (j+1)/bT^j/V=ae bT (a/b) j:=fun j=>by
  rw[J,<-(yK (B:=bT) (R:=a*f% (V*bT^(j+1))) (V:=V) (j:=j)).2,gj,<-gx,Nat.mod_mul_right_div_self,<-g4,I,Nat.mul_div_mul_right _ _ f0,ae]
 have a7:=fun j(h:j<=m)=>asT (X (j+1)/bT^j) V (c+1) j n .grow l (ae bT (X (j+1))) (by omega) (by rw[aj];exact aY) (by rw[aD,hN];exact f4) (by rw[gc (gi (by decide)),gx,fN bT,<-gj];exact Y (j+1)) (by omega) (by omega) (fun i hi=>(q9 (B:=bT) _ _ _).symm);simp only[eT,RP,aj]at a7;rw[show(e9 (m+1) (AV.p (PV.int dp 0)))=dm (m+1) (qT (a/b) (m+1))from Ns];rw[show(cU (c+1) fun k=>(ae bT (a*f) k:Nat))=cU (c+1) fun k=>(ae bT (X (m+1)) k:Nat)by rw[J,bL]];refine sq (fun s'=>∃bq,aN s'.env 8=.sl 0 0 1 0 1/\aN s'.env 10=.p (.int .i64 n)/\aN s'.env 11=.sl 2 l 1 0 (c+1)/\aN s'.env 12=.sl 3 0 1 0 (m+1)/\s'.heap=[.arr .frozen 0 1 [.p (.int .i64 f)],bq,.arr .grow l 1 (cU (c+1) fun k=>(ae bT (X 0) k:Nat)),.arr .exact 0 1 (dm (m+1) (ae bT (a/b)))]) ?_ ?_
 ·refine lp (α:=Nat) (fun j=>⟨[(13,.p (.int .i64 ((j:Int)-1))),(12,.sl 3 0 1 0 (m+1)),(11,.sl 2 l 1 0 (c+1)),(10,.p (.int .i64 n)),(9,.p (.seq (s.map fun x:Nat=>.int .i64 x))),(8,.sl 0 0 1 0 1)],[.arr .frozen 0 1 [.p (.int .i64 f)],.hole,.arr .grow l 1 (cU (c+1) fun k=>(ae bT (X j) k:Nat)),.arr .exact 0 1 (dm (m+1) (qT (a/b) j))]⟩)
   (fun j=>j<=m+1) (fun j=>j) (m+1) (g5 _) ?_ (he:=by simp[E,P,Q,F])
  intro j cY;rcases j with _|j
  ·simp[Nr]
  ·obtain⟨t,aQ,an,ao,bF⟩:=a7 j (by omega);have bZ:¬(j:Int)<0:=by omega
   have bK:X (j+1)/bT^j<bT^(n+1):=by
    rw[gc (gi (by decide)),<-g8];refine gg (Y (j+1)) ?_;rw[show n+1+j=n+(j+1)by omega,g8 bT n (j+1)];exact gb _ (hE W)
   obtain⟨R,bH,bJ⟩:=Zf au W bK aQ an;have gX:=fun i(hi:i<=n)=>LW (i:=i) bH hi;have av:∀i,ae bT (X (j+1)/bT^j) i=ae bT (X (j+1)) (j+i):=fun i=>q9 _ _ _;have dl:((n:Nat):Int).toNat=n:=by omega
   simp[-bA];rw[bA,bA];simp[-bA,bZ];rw[bA,LO,bA];simp[-bA];refine cf bF [2] ?_;simp[-bA,sig,bd];rw[bA];simp[-bA];rw[bA,bA];simp[-bA];have aX:∀i(h:i<s.length),s[i]=ae bT V i:=fun i h=>by
    have:=eH ba (n:=V) (i:=i) (by rw[aj];exact h);simp only[aj]at this;exact this
   have aV:X (j+1)/bT^j/V=ae bT (a/b) j:=bM j;have c0:(j:Int)<=400000:=by omega
   have da:(n:Int)<=400001:=by omega
   have a6:∀g:Nat->Int,(∀k,k<c+1->g k=if k=j+n then 0 else if j<=k/\k<j+n then(ae bT (X (j+1)/bT^j% V) (k-j):Nat)else(ae bT (X (j+1)) k:Nat))->cU (c+1) g=cU (c+1) fun k=>(ae bT (X j) k:Nat):=fun g ax=>by
    rw[Yk au W (Y (j+1)) ax,bN]
   have cn:cU (c+1) (gh (X (j+1)) R j 0)=cU (c+1) fun k=>(ae bT (X (j+1)) k:Nat):=MQ fun k _=>win_zero;refine lp (α:=Nat) (fun i=>⟨[(16,.p (.int .i64 i)),(15,.p (.int .i64 (gv V R t i:Nat))),(14,.p (.int .i64 t)),(13,.p (.int .i64 j)),(12,.sl 3 0 1 0 (m+1)),(11,.sl 2 l 1 0 (c+1)),(10,.p (.int .i64 n)),(9,.p (.seq (s.map fun x:Nat=>.int .i64 x))),(8,.sl 0 0 1 0 1)],[.arr .frozen 0 1 [.p (.int .i64 f)],.hole,.arr .grow l 1 (cU (c+1) (gh (X (j+1)) R j i)),.arr .exact 0 1 (dm (m+1) (qT (a/b) (j+1)))]⟩)
    (fun i=>i<=n) (fun i=>n-i) 0 (hr _) ?_ (he:=by simp[YJ]) (hh:=by simp[cn])
   intro i hi;have bw:dp.wrap ((i:Int)+j)=(i:Int)+j:=aO _ (by omega) (by omega);have bu:((i:Int)+j).toNat=i+j:=by omega
   have bp:¬((i:Int)+j<0):=by omega
   have bv:dp.wrap ((i:Int)+1)=(i:Int)+1:=aO _ (by omega) (by omega)
   by_cases ak:i<n
   ·have a9:(i:Int)<n:=by omega
    have ab:i<s.length:=by omega
    have aF:=aX i ab;have aH:=gX i hi;rw[av]at aH;have br:=ct ba (X (j+1)) (j+i);have cw:=ct ba R i;have pv:=ct ba V i;obtain⟨p,q,al,s1,s2,bs,bt,dj,dk,cz⟩:=aJ0 (by rw[<-Nat.add_assoc];exact aH) cw br ao pv Ze;have bn:gh (X (j+1)) R j i (i+j)=(ae bT (X (j+1)) (j+i):Nat):=by rw[g6 i j,DW]
    have a8:0<=(i:Int)+j:=by omega
    have get:(cU (c+1) (gh (X (j+1)) R j i))[i+j]?=some (.p (.int .i64 (ae bT (X (j+1)) (j+i):Nat))):=by
     rw[aJD _ (by omega),g6 i j,DW]
    have set:(cU (c+1) (gh (X (j+1)) R j i)).set (i+j) (.p (.int .i64 (ae bT R i:Nat)))=cU (c+1) (gh (X (j+1)) R j (i+1)):=by
     rw[g6 i j];exact wF _ _ aKJ fun k _ hk=>aKK hk
    have aa:i+j<c+1:=by omega
    have bk:s[i]?=some (ae bT V i):=by rw[eq ab,aF]
    generalize ae bT (X (j+1)) (j+i)=w at*;generalize ae bT V i=v at*;generalize ae bT R i=r at*;generalize gv V R t i=cR at*;generalize a3:gv V R t (i+1)=cS at*;have cc:¬(r:Int)<0:=by omega
    have bB:dp.wrap ((w:Int)-al)=(w:Int)-al:=aO _ (by omega) (by omega);have bz:dp.wrap (q:Int)=q:=aO _ (by omega) (by omega);have aU:dp.wrap ((q:Int)+1)=(q:Int)+1:=aO _ (by omega) (by omega);rcases cz with⟨c1,c2,c3⟩|⟨c1,c2,c3⟩
    ·have wr:dp.wrap ((w:Int)-al+1000000000)=r:=by rw[c2];exact aO _ (by omega) (by omega)
     simp[a9,bw,bu,bp,ab,aF,bk,s1,s2,bs,bt,aa,get,bn,a8,l6,bB,c1,wr,aU,set,bv,ad,aL,bI];exact rd (i+1) (show i+1<=n by omega) (he:=by simp[a3,c3,bz,aU])
    ·have wr:dp.wrap ((w:Int)-al)=r:=by rw[bB,c2]
     simp[a9,bw,bu,bp,ab,aF,bk,s1,s2,bs,bt,aa,get,bn,a8,l6,c1,wr,cc,set,bv,ad,aL,bI];exact rd (i+1) (show i+1<=n by omega) (he:=by simp[a3,c3,bz,aU])
   ·have bY:i=n:=by omega
    subst bY;have aT:dp.wrap ((j:Int)+i)=(j:Int)+i:=aO _ (by omega) (by omega);have aR:((j:Int)+i).toNat=j+i:=by omega
    have aI:0<=(j:Int)+i:=by omega
    have ay:j+i<c+1:=by omega
    have bm:gh (X (j+1)) R j i (j+i)=(ae bT (X (j+1)) (j+i):Nat):=DW;have br:=ct ba (X (j+1)) (j+i);have aS:dp.wrap ((j:Int)-1)=(j:Int)-1:=aO _ (by omega) (by omega);rcases bJ with⟨aK,U,aP⟩|⟨aK,U,aP,cy⟩
    ·rw[av]at U;rw[U];generalize ae bT (X (j+1)) (j+i)=w at*;have ap:dp.wrap 0=0:=rfl;have am:dp.wrap ((w:Int)-w)=0:=by rw[Int.sub_self];rfl
     have aE:t=ae bT (a/b) j:=by rw[aK,aV]
     have aJ:(dm (m+1) (qT (a/b) (j+1))).set j (.p (.int .i64 t))=dm (m+1) (qT (a/b) j):=by rw[aE];exact D5
     have fs:(cU (c+1) (gh (X (j+1)) R j i)).set (j+i) (.p (.int .i64 0))=cU (c+1) fun k=>(ae bT (X j) k:Nat):=by
      rw[wF _ (fun k=>if k=j+i then 0 else gh (X (j+1)) R j i k) (if_pos rfl) (fun k _ hk=>if_neg hk)];refine a6 _ fun k _=>?_
      by_cases hk:k=j+i
      ·rw[if_pos hk,if_pos hk];rfl
      ·rw[if_neg hk,if_neg hk,gh]
       by_cases z:j<=k/\k<j+i
       ·rw[if_pos z,if_pos z,aP (k-j) (by omega)]
       ·rw[if_neg z,if_neg z]
     have ac:j<m+1:=by omega
     have ca:¬((ae bT (X j) (j+i):Nat):Int)<0:=by omega
     simp[aT,aR,aI,ay,bm,l6,wv,am,ap,aS,ac,ca,fs,aJ,ad,aL,bI];exact rd j (show j<=m+1 by omega)
    ·rw[av]at U;rw[U];generalize ae bT (X (j+1)) (j+i)=w at*;have ap:dp.wrap 0=0:=rfl;have am:dp.wrap ((w:Int)-((w+1:Nat):Int))= -1:=by rw[show(w:Int)-((w+1:Nat):Int)= -1 by omega];rfl
     have cC:dp.wrap (-1)= -1:=rfl;have fs:(cU (c+1) (gh (X (j+1)) R j i)).set (j+i) (.p (.int .i64 (-1)))=cU (c+1) (gL (X (j+1)) R (R+V) j i 0):=by
      refine wF _ _ (by rw[gL,if_pos rfl]) fun k _ hk=>?_;rw[gL,if_neg hk,if_neg (by omega)]
     have aE:(t:Int)-1=ae bT (a/b) j:=by rw[aK,aV];omega
     have cO:dp.wrap ((t:Int)-1)=ae bT (a/b) j:=by rw[aE];have:=ct ba (a/b) j;exact aO _ (by omega) (by omega)
     have ac:j<m+1:=by omega
     have co:gL (X (j+1)) R (R+V) j i 0 (j+i)= -1:=by rw[gL,if_pos rfl]
     push_cast at am;simp[aT,aR,aI,ay,bm,l6,wv,am,ap,cC,cO,aS,ac,fs,co,ad,aL,bI];refine lp (α:=Nat) (fun k=>⟨[(20,.p (.int .i64 k)),(19,.p (.int .i64 (di bT R V k:Nat))),(14,.p (.int .i64 (ae bT (a/b) j:Nat))),(13,.p (.int .i64 j)),(12,.sl 3 0 1 0 (m+1)),(11,.sl 2 l 1 0 (c+1)),(10,.p (.int .i64 i)),(9,.p (.seq (s.map fun x:Nat=>.int .i64 x))),(8,.sl 0 0 1 0 1)],[.arr .frozen 0 1 [.p (.int .i64 f)],.hole,.arr .grow l 1 (cU (c+1) (gL (X (j+1)) R (R+V) j i k)),.arr .exact 0 1 (dm (m+1) (qT (a/b) (j+1)))]⟩)
      (fun k=>k<=i) (fun k=>i-k) 0 (hr _) ?_ (he:=by simp[yE])
     intro k hk;have cK:dp.wrap ((k:Int)+j)=(k:Int)+j:=aO _ (by omega) (by omega);have cB:((k:Int)+j).toNat=k+j:=by omega
     have cv:0<=(k:Int)+j:=by omega
     have cJ:dp.wrap ((k:Int)+1)=(k:Int)+1:=aO _ (by omega) (by omega);obtain⟨q1,cx⟩:=qO ba R V k;have de:=lZ ba R V k;have q4:=lZ ba R V (k+1);have df:=ct ba R k;have dg:=ct ba V k
     by_cases bb:k<i
     ·have xB:(k:Int)<i:=by omega
      have aA:k<s.length:=by omega
      have bl:=aX k aA;have cl:s[k]?=some (ae bT V k):=by rw[eq aA,bl]
      have b3:k+j<c+1:=by omega
      have ax:gL (X (j+1)) R (R+V) j i k (k+j)=(ae bT R k:Nat):=by rw[g6 k j,aKG bb]
      have aH:(cU (c+1) (gL (X (j+1)) R (R+V) j i k)).set (k+j) (.p (.int .i64 (ae bT (R+V) k:Nat)))=cU (c+1) (gL (X (j+1)) R (R+V) j i (k+1)):=by
       rw[g6 k j];exact wF _ _ (aKH bb) fun x _ hx=>aKI hx
      have aQ:((ae bT R k:Nat):Int)+(ae bT V k:Nat)+(di bT R V k:Nat)=((ae bT R k+ae bT V k+di bT R V k:Nat):Int):=by omega
      have an:((ae bT R k+ae bT V k+di bT R V k:Nat):Int).tmod 1000000000=(ae bT (R+V) k:Nat):=by
       rw[<-q1,dz (dq _),ec];rfl
      have ao:((ae bT R k+ae bT V k+di bT R V k:Nat):Int).tdiv 1000000000=(di bT R V (k+1):Nat):=by
       rw[<-cx,ea (dq _),ed];rfl
      rw[<-aQ]at an ao;have cD:dp.wrap ((ae bT R k:Nat)+(ae bT V k:Nat))=(ae bT R k:Nat)+(ae bT V k:Nat):=aO _ (by omega) (by omega);have cE:dp.wrap ((ae bT R k:Nat)+(ae bT V k:Nat)+(di bT R V k:Nat))=(ae bT R k:Nat)+(ae bT V k:Nat)+(di bT R V k:Nat):=aO _ (by omega) (by omega);have cF:dp.wrap (ae bT (R+V) k:Nat)=(ae bT (R+V) k:Nat):=by have:=ct ba (R+V) k;exact aO _ (by omega) (by omega)
      have cG:dp.wrap (di bT R V (k+1):Nat)=(di bT R V (k+1):Nat):=aO _ (by omega) (by omega);simp[xB,aA,bl,cl,cK,cB,cv,b3,ax,aH,l6,cD,cE,cF,cG,an,ao,cJ,ad,aL,bI];exact rd (k+1) (show k+1<=i by omega)
     ·have b2:k=i:=by omega
      subst b2;have cq:gL (X (j+1)) R (R+V) j k k (j+k)= -1:=by rw[gL,if_pos rfl]
      have cA:dp.wrap (-1+1)=0:=rfl;have aJ:(dm (m+1) (qT (a/b) (j+1))).set j (.p (.int .i64 (ae bT (a/b) j:Nat)))=dm (m+1) (qT (a/b) j):=D5;have bD:(cU (c+1) (gL (X (j+1)) R (R+V) j k k)).set (j+k) (.p (.int .i64 0))=cU (c+1) fun k=>(ae bT (X j) k:Nat):=by
       rw[wF _ (fun x=>if x=j+k then 0 else gL (X (j+1)) R (R+V) j k k x) (if_pos rfl) (fun x _ hx=>if_neg hx)];refine a6 _ fun x _=>?_
       by_cases hk:x=j+k
       ·rw[if_pos hk,if_pos hk];rfl
       ·rw[if_neg hk,if_neg hk,gL,if_neg hk]
        by_cases z:j<=x/\x<j+k
        ·rw[if_pos z,if_pos z,cy (x-j) (by omega)]
        ·rw[if_neg z,if_neg z,gh,if_neg z]
      rw[aP];simp[aT,aR,aI,ay,cq,l6,wv,cA,ap,aS,ac,bD,aJ,ad,aL,bI];exact rd j (show j<=m+1 by omega)
 rintro⟨bC,bV⟩ ⟨bq,E,P,Q,F,T⟩;dsimp only at E P Q F T;subst T;have aZ:X 0=a% b*f:=by rw[J,g7,ht,I,Nat.mul_mod_mul_right]
 have bG:a/b<bT^(m+1):=by
  rw[gc K];refine gg a2 ?_;rw[show c=m+1+k by omega,g8];exact hj _ aw
 obtain⟨dd,bc,b7,aW⟩:=N9 (m:=m+1) (N:=a/b) bG (by omega);have a0:X 0<bT^n:=gg (by have:=Y 0;rwa [g7,ht]at this) (hE W);obtain⟨O,c8,af,b8,ar⟩:∃O:List Nat,O=(ew (c+1)).map (ae bT (X 0))/\O.length=c+1/\dm (c+1) (ae bT (X 0))=O.map (AV.p∘fun x:Nat=>PV.int .i64 x)/\aC prog 260 [.seq (iP (O.take n))] (eT (X 0)):=by
  refine⟨_,rfl,by simp,CM _ _,?_⟩;have e:((ew (c+1)).map (ae bT (X 0))).take n=(ew n).map (ae bT (X 0)):=Nb (by omega) fun k hk=>rfl;rw[e];have H:=uf ((ew n).map (ae bT (X 0))) (by simp;omega);rw[show eC ((ew n).map (ae bT (X 0)))=az bT (X 0)from jy ba a0]at H;exact H
 have L:=JX (X 0) f f0 f1 (by
  have:=dT ba n (X 0) a0;omega)
 rw[aZ,Nat.mul_div_cancel _ f0]at L;rw[aZ]at ar;rw[<-RP,b8,b7]at*;simp only[eT,cs,cu,iP]at aW ar L⊢;have aB:¬O=[]:=by intro h;rw[h]at af;simp at af
 have be:n<=c+1:=by omega
 simp[E,P,Q,F,af,aB,be];refine ep ar (by simp[af,be,aB];first|exact⟨rfl,rfl⟩|rfl) (by simp[aB];first|exact⟨rfl,rfl⟩|rfl) ?_ (h1:=by simp[List.map_take]);simp[E,ad,aL,bI];refine e2 L ?_;simp[F];refine⟨by repeat' first|rfl|apply And.intro,?_⟩;refine cp aW (by simp[bc];first|exact⟨rfl,rfl⟩|rfl) ?_ (h1:=by simp[e6,bc]);simp
theorem Wo(n:Nat):eC (az bT n)=az bT n:=by
 have h:=Du ba (l:=az bT n) (fun d a=>by
  obtain⟨i,hi,rfl⟩:=List.getElem_of_mem a;rw[eH ba hi];exact ct ba _ _)
 rw[<-h,Lx ba]
theorem qL(neg:Bool)(n:Nat)(h:(az bT n).length<=1048576):aC prog 198 [.bool neg,eT n] (eG (if neg=true then -(n:Int)else n)):=CW neg (az bT n) n (Wo n) h
theorem LQ(a b:Nat)(g:(az bT a).length<=400000)(h:(az bT b).length<=400000):aC prog 97 [eT a,eT b] (eT (hA a b)):=by
 refine aM nf Re mix (by simp[f97]) ?_;simp[f97];refine lp (α:=Nat×Nat) (fun x=>⟨[(1,.p (eT x.2)),(0,.p (eT x.1))],[]⟩)
  (fun x=>(az bT x.1).length<=400000/\(az bT x.2).length<=400000/\hA x.1 x.2=hA a b) (fun x=>x.2) (a,b) ⟨g,h,rfl⟩ ?_
 rintro⟨x,y⟩ ⟨e,d,c⟩;dsimp only at e d c
 by_cases hy:y=0
 ·subst hy;rw[hM]at c;rw[<-c];simp[eT,Ay]
 ·have i:0<(az bT y).length:=by
   rw[fb,Ne,vV];exact hy
  have f:=Ej x y (by omega) e d;have j:=gm x (show 0<y by omega);simp[eT,i];refine c2 f ?_;simp;exact rd (y,x% y) ⟨d,by have:=dT ba _ _ (gA j (cm ba y));dsimp only;omega,by rw[<-c,hn y,<-hS,hn]⟩ (by dsimp only;omega) (he:=by simp[eT])
theorem Zv(a b:Nat)(h:a<9223372036854775808)(i:b<9223372036854775808):aC prog 180 [.int .i64 a,.int .i64 b] (.int .i64 (hA a b:Nat)):=by
 refine aM nf GY mix (by simp[f180]) ?_;simp[f180];refine lp (α:=Nat×Nat) (fun x=>⟨[(1,.p (.int .i64 x.2)),(0,.p (.int .i64 x.1))],[]⟩)
  (fun x=>x.1<9223372036854775808/\x.2<9223372036854775808/\hA x.1 x.2=hA a b) (fun x=>x.2) (a,b) ⟨h,i,rfl⟩ ?_
 rintro⟨x,y⟩ ⟨g,d,c⟩;dsimp only at g d c
 by_cases f:y=0
 ·subst f;rw[hM]at c;rw[<-c];simp
 ·have m:(0:Int)<y:=by omega
  have e:0<y:=by omega
  have o:¬(y:Int)=0:=by omega
  have n:=gm x e;have k:(x:Int).tmod y=(x% y:Nat):=by rw[dz (dq _),ec]
  have l:dp.wrap ((x% y:Nat):Int)=(x% y:Nat):=aO _ (by omega) (by omega);generalize j:x% y=r at*;simp[e,f,k,l];exact rd (y,r) ⟨d,by dsimp only;omega,by rw[<-c,<-j,hn y,<-hS,hn]⟩ (by dsimp only;omega)
theorem Y8{B a b x y K:Nat}(c:2<=B)(d:a<B^x)(e:b<B^y)(f:B^x<=B^K)(g:B^y<=B^K):a+b<B^(K+1):=by
 rw[gj];have:=hj (B^K) c;omega
theorem Y7{a b K:Nat}(g:(az bT a).length<=K)(h:(az bT b).length<=K):(az bT (a+b)).length<=K+1:=by
 have c:=cm ba a;have d:=cm ba b;have e:=gl (show 0<bT by decide) g;have f:=gl (show 0<bT by decide) h;exact dT ba (K+1) (a+b) (Y8 ba c d e f)
theorem ZD(a b:Int)(l:(az bT a.natAbs).length<=400000)(o:(az bT b.natAbs).length<=400000):aC prog 100 [eG a,eG b] (eG (a+b)):=by
 have m:=Zo a.natAbs b.natAbs (by omega) (by omega);have k:=JY a.natAbs b.natAbs (by omega) (by omega);have q:(az bT (a.natAbs+b.natAbs)).length<=1048576:=by
  have r:=Y7 l o;omega
 refine aM nf GG mix (by simp[f100]) ?_
 by_cases hs:(a<0↔b<0)
 ·have t:(decide (a<0)==decide (b<0))=true:=by simp[hs]
  have d:=qL (decide (a<0)) (a.natAbs+b.natAbs) q;have f:(if decide (a<0)=true then -((a.natAbs+b.natAbs:Nat):Int)else((a.natAbs+b.natAbs:Nat):Int))=a+b:=by
   by_cases h:a<0
   ·have:=hs.1 h;simp[h];omega
   ·have:¬b<0:=fun c=>h (hs.2 c);simp[h];omega
  rw[f]at d;generalize a+b=s at*;generalize a.natAbs+b.natAbs=n at*;have g:(a<0↔b<0)=True:=eq_true hs;simp only[eG]at d⊢;simp[f100,g,ad];refine e2 m ?_;simp[ad];refine e2 d ?_;simp[ad]
 ·have g:(a<0↔b<0)=False:=eq_false hs
  by_cases p:b.natAbs<=a.natAbs
  ·have i:0<=fP a.natAbs b.natAbs:=by
    have:=pO (a:=a.natAbs) (b:=b.natAbs);omega
   have j:=Oa a.natAbs b.natAbs p (by omega);have d:=qL (decide (a<0)) (a.natAbs-b.natAbs) (by
    have:=dT ba _ _ (g3 (hL a.natAbs b.natAbs) (cm ba a.natAbs));omega)
   have f:(if decide (a<0)=true then -((a.natAbs-b.natAbs:Nat):Int)else((a.natAbs-b.natAbs:Nat):Int))=a+b:=by
    by_cases h:a<0
    ·have:¬b<0:=fun c=>hs ⟨fun _=>c,fun _=>h⟩;simp[h];omega
    ·have:b<0:=by
      rcases en b 0 with c|c
      ·exact c
      ·exact(hs ⟨fun e=>(h e).elim,fun e=>by omega⟩).elim
     simp[h];omega
   rw[f]at d;generalize a+b=s at*;generalize a.natAbs-b.natAbs=n at*;simp only[eG]at d⊢;simp[f100,g,ad];refine c2 k ?_;simp[i,ad];refine e2 j ?_;simp[ad];refine e2 d ?_;simp[ad]
  ·have i:¬0<=fP a.natAbs b.natAbs:=by
    have:=pO (a:=a.natAbs) (b:=b.natAbs);omega
   have j:=Oa b.natAbs a.natAbs (by omega) (by omega);have d:=qL (decide (b<0)) (b.natAbs-a.natAbs) (by
    have:=dT ba _ _ (g3 (hL b.natAbs a.natAbs) (cm ba b.natAbs));omega)
   have f:(if decide (b<0)=true then -((b.natAbs-a.natAbs:Nat):Int)else((b.natAbs-a.natAbs:Nat):Int))=a+b:=by
    by_cases h:b<0
    ·have:¬a<0:=fun c=>hs ⟨fun _=>h,fun _=>c⟩;simp[h];omega
    ·have:a<0:=by
      rcases en a 0 with c|c
      ·exact c
      ·exact(hs ⟨fun e=>by omega,fun e=>(h e).elim⟩).elim
     simp[h];omega
   rw[f]at d;generalize a+b=s at*;generalize b.natAbs-a.natAbs=n at*;simp only[eG]at d⊢;simp[f100,g,ad];refine c2 k ?_;simp[i,ad];refine e2 j ?_;simp[ad];refine e2 d ?_;simp[ad]
theorem Ob(a:Int)(d:(az bT a.natAbs).length<=400000):aC prog 197 [eG a] (eG (-a)):=by
 have b:=qL (!decide (a<0)) a.natAbs (by omega);have c:(if(!decide (a<0))=true then -((a.natAbs:Nat):Int)else(a.natAbs:Nat))= -a:=by
  by_cases h:a<0
  ·simp[h];omega
  ·simp[h];omega
 rw[c]at b;refine aM nf Pw mix (by simp[f197]) ?_;generalize -a=s at*;simp only[eG]at b⊢;simp[f197,ad];refine c2 b ?_;simp[ad]
theorem wG(a b:Int)(g:(az bT a.natAbs).length+(az bT b.natAbs).length<=1000000):aC prog 101 [eG a,eG b] (eG (a*b)):=by
 have f:=Ei a.natAbs b.natAbs g;have j:(az bT (a.natAbs*b.natAbs)).length<=1000000:=by
  have c:=cm ba a.natAbs;have d:=cm ba b.natAbs;have i:=dT ba ((az bT a.natAbs).length+(az bT b.natAbs).length) (a.natAbs*b.natAbs) (by rw[g8];exact ho c d);omega
 have e:=qL ((!(decide (a<0)==decide (b<0)))) (a.natAbs*b.natAbs) (by omega);have h:(if(!(decide (a<0)==decide (b<0)))=true then -((a.natAbs*b.natAbs:Nat):Int)else((a.natAbs*b.natAbs:Nat):Int))=a*b:=by
  by_cases c:a<0<;>by_cases d:b<0
  ·simp[c,d];rw[eb (ej c),eb (ej d),Int.neg_mul_neg]
  ·simp[c,d];rw[eb (ej c),ee (by omega),Int.neg_mul,eo]
  ·simp[c,d];rw[eb (ej d),ee (by omega),Int.mul_neg,eo]
  ·simp[c,d];rw[ee (by omega),ee (by omega)]
 rw[h]at e;refine aM nf GF mix (by simp[f101]) ?_;generalize a*b=s at*;generalize a.natAbs*b.natAbs=n at*;generalize hx:(!(decide (a<0)==decide (b<0)))=x at*;simp only[eG]at e⊢;simp[f101,ad];refine e2 f ?_;simp[hx,ad];refine e2 e ?_;simp[ad]
theorem W8:∀d:Nat,d<10->fv d (fd (d+1) [48,49,50,51,52,53,54,55,56,57])=[48+d]:=by decide
theorem yM(n a:Nat)(E:n<9223372036854775808)(J:a<=1000):aC prog 181 [.int .i64 n,.int .i64 a] (.str (low (max a (nd n)) n)):=by
 have M:nd n<=19:=rU (gA E (by decide));refine aM nf GX mix (by simp[f181]) ?_;obtain⟨L,e⟩:∃L,L=max a (nd n):=⟨_,rfl⟩
 rw[<-e];obtain⟨g,b⟩:∃g:Nat->Nat,∀i,n/10^i=g i:=⟨_,fun _=>rfl⟩
 have B:g 0=n:=by rw[<-b,g7,hv]
 simp[f181];refine lp (α:=Nat) (fun i=>⟨[(0,.p (.int .i64 (g i:Nat))),(5,.p (.str (low i n))),(1,.p (.int .i64 a))],[]⟩)
  (fun i=>i<=L) (fun i=>L-i) 0 (hr _) ?_ (he:=by simp[low,B])
 intro i hi;have q:low (i+1) n=(48+g i% 10)::low i n:=by
  rw[g6,rp,b,tM];rfl
 have hq:g (i+1)=g i/10:=by rw[<-b,<-b,gj,g4]
 have N:g i<=n:=by rw[<-b];exact hz _ _
 have F:0<g i↔i<nd n:=by
  rw[<-b,nq,Nat.div_pos_iff];have:=gi (n:=i) (show 0<10 by decide);omega
 have l:=rl n i;have j:=W8 (g i% 10) (gm _ (by decide));have f:i<L↔0<g i\/i<a:=by rw[F,e];omega
 have G:=gm (g i) (show 0<10 by decide);have r:(g i:Int).tmod 10=(g i% 10:Nat):=by rw[dz (dq _),ec];rfl
 have t:(g i:Int).tdiv 10=(g (i+1):Nat):=by rw[hq,ea (dq _),ed (g i)];rfl
 have H:L<=1000:=by rw[e];omega
 generalize g i% 10=d at*;have m:fv d (48::fd d [49,50,51,52,53,54,55,56,57])=[48+d]:=j;generalize O:g i=z at*;generalize y:g (i+1)=A at*;generalize hs:low i n=s at*;have x:dp.wrap (A:Int)=A:=aO _ (by omega) (by omega);have v:dp.wrap (d:Int)=d:=aO _ (by omega) (by omega);have w:dp.wrap ((d:Int)+1)=d+1:=aO _ (by omega) (by omega);have u:((d:Int)+1).toNat=d+1:=by omega
 have K:min (d+1) 10-d+i<9223372036854775808:=by omega
 have I:(0:Int)<=d+1/\(d:Int)+1<=10/\(d:Int)<=max (d+1) 0:=by omega
 by_cases k:i<L
 ·by_cases c:0<z
  ·simp[c,r,t,x,v,w,u,j,l];refine⟨by omega,by omega,?_⟩;exact rd (i+1) (show i+1<=L by omega) (he:=by simp[y,q,m])
  ·have o:i<a:=by rcases f.1 k with h|h;exact(c h).elim;exact h
   simp[c,o,r,t,x,v,w,u,j,l];refine⟨by omega,by omega,?_⟩;exact rd (i+1) (show i+1<=L by omega) (he:=by simp[y,q,m])
 ·have c:¬0<z:=fun h=>k (f.2 (.inl h));have o:¬i<a:=fun h=>k (f.2 (.inr h));have C:s=low L n:=by rw[<-hs];congr 1;omega
  have D:¬L<a:=by omega
  simp[c,D,l,C,rl]
theorem XB{n i:Nat}(h:bT^(i+1)<=n):aZ (n/bT^i)=aZ (n/bT^(i+1))++low 9 (ae bT n i):=by
 have c:0<bT^i:=gi (by decide);have b:10^9<=n/bT^i:=by
  rw[hF c,fN];rw[gj]at h;exact h
 have a:=X8 b;have e1:n/bT^i/10^9=n/bT^(i+1):=by rw[g4,gj];rfl
 have e2:n/bT^i% 10^9=ae bT n i:=rfl;rw[e1,e2]at a;have d:0<n/bT^i:=gg (by decide) b;have e:0<n/bT^(i+1):=hu h (gi (by decide));rw[aZ,aZ,show max 1 (nd (n/bT^i))=nd (n/bT^i)by have:=xe d;omega,show max 1 (nd (n/bT^(i+1)))=nd (n/bT^(i+1))by have:=xe e;omega,a]
theorem DG(z:Int)(B:(az bT z.natAbs).length<=1000000):aC prog 112 [eG z] (.str (bL z)):=by
 refine aM nf G5 mix (by simp[f112]) ?_
 by_cases G:z=0
 ·subst G;have v:bL 0=[48]:=by rw[show(0:Int)=((0:Nat):Int)from rfl,vJ,mP]
  simp[f112,eG,eT,Ay,ad,v]
 obtain⟨n,f⟩:∃n,z.natAbs=n:=⟨_,rfl⟩
 have N:0<n:=by omega
 have M:0<(az bT n).length:=by
  rw[fb,Ne,vV];omega
 obtain⟨k,hk⟩:∃k,(az bT n).length=k+1:=⟨(az bT n).length-1,by omega⟩
 have g:=cm ba n;rw[hk]at g;have q:bT^k<=n:=by
  rcases gt n (bT^k)with h|h
  ·have:=dT ba k n h;omega
  ·exact h
 have m:∀i(h:i<(az bT n).length),(az bT n)[i]=ae bT n i:=fun i h=>eH ba h;have r:n/bT^k=ae bT n k:=by
  rw[ae,ge];rw[gc (gi (by decide)),fN,<-gj];exact g
 have P:0<ae bT n k:=by rw[<-r];exact hu q (gi (by decide))
 have c:=yM (ae bT n k) 1 (gA (ct ba n k) (by decide)) (by decide);rw[show low (max 1 (nd (ae bT n k))) (ae bT n k)=aZ (n/bT^k)by rw[r];rfl]at c;have w:∀i,aC prog 181 [.int .i64 (ae bT n i:Nat),.int .i64 (9:Nat)] (.str (low 9 (ae bT n i))):=fun i=>by
  have h:=yM (ae bT n i) 9 (gA (ct ba n i) (by decide)) (by decide);have K:nd (ae bT n i)<=9:=rU (ct ba n i)
  rwa [show max 9 (nd (ae bT n i))=9 by omega]at h
 have a:aZ (n/bT^0)=aZ n:=by rw[g7,hv]
 have gX:∀i,i+1<=k->aZ (n/bT^i)=aZ (n/bT^(i+1))++low 9 (ae bT n i):=fun i hi=>XB (ha (gl (by decide) hi) q);have L:k<=1000000:=by rw[f]at B;omega
 have D:bL z=if z<0 then 45::aZ n else aZ n:=by rw[bL,f]
 have O:ae bT n k<bT:=ct ba n k;have C:∀i,ae bT n i<bT:=fun i=>ct ba n i;obtain⟨T,j⟩:∃T:Nat->List Nat,∀i,aZ (n/bT^i)=T i:=⟨_,fun _=>rfl⟩
 have l:∀i,(T i).length<=9000000+9:=fun i=>by
  rw[<-j];refine ha (vI (k:=9*(k+1)) ?_ (by omega)) (by omega);rw[Nat.pow_mul];exact g3 (hz _ _) g
 simp only[j]at c a gX;rw[D];simp only[eG,f,eT,<-a];generalize hx:az bT n=x at*;have H:dp.wrap ((k:Int)+1-1)=k:=by rw[Int.add_sub_cancel];exact aO _ (by omega) (by omega)
 have I:dp.wrap (k:Int)=k:=aO _ (by omega) (by omega);have u:dp.wrap ((k:Int)+1-2)=(k:Int)-1:=by rw[aO _ (by omega) (by omega)];omega
 have A:¬(k:Int)+1=0:=by omega
 have e:k<x.length:=by omega
 have t:=m k e;have F:x[k]?=some (ae bT n k):=by rw[eq e,t]
 simp[f112,ad,hk,A,H,I,u,e,t,F];refine c2 c ?_;simp[ad,hk,u];refine lp (α:=Nat) (fun i=>⟨[(4,.p (.int .i64 ((i:Int)-1))),(3,.p (.str (T i))),(1,.ptr 0 [])],[.box false (.p (.st 169 [.bool (decide (z<0)),.seq (x.map fun x:Nat=>.int .i64 x)]))]⟩)
  (fun i=>i<=k) (fun i=>i) k (g5 _) ?_
 rintro i hi;have Q:=C i;rcases i with _|i
 ·by_cases o:z<0
  ·have b:=g3 (hG (l 0) 1) (show 9000000+9+1<9223372036854775808 by decide);rw[a,g6]at b;simp[o,ad,a,b]
  ·simp[o,ad,a]
 ·have d:i<x.length:=by omega
  have s:=m i d;have E:x[i]?=some (ae bT n i):=by rw[eq d,s]
  have y:¬(i:Int)<0:=by omega
  have J:dp.wrap ((i:Int)-1)=(i:Int)-1:=aO _ (by omega) (by omega);have b:=g3 (hG (l (i+1)) 9) (show 9000000+9+9<9223372036854775808 by decide);have aH:=gX i hi;simp[y,ad,d,s,E];refine c2 (w i) ?_;simp[J,rl];refine⟨b,?_⟩;exact rd i (show i<=k by omega) (he:=by simp[aH])
end Go.au
