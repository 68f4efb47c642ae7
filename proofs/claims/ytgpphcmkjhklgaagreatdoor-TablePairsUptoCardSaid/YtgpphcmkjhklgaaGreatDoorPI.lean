import Derived.Test.YtgpphcmkjhklgaaGreatDoorPH
import Derived.Test.YtgpphcmkjhklgaaGreatDoorPG
/- Parts of a proof. -/
set_option linter.unusedSimpArgs false
set_option linter.unusedVariables false
set_option linter.unusedSectionVars false
open Go.Proofs.Tryz
open Go.IntKind renaming i64->dp
open Int renaming natCast_nonneg->dq, tmod_eq_emod_of_nonneg->dz, tdiv_eq_ediv_of_nonneg->ea, ofNat_natAbs_of_nonpos->eb, natCast_emod->ec, natCast_ediv->ed, natAbs_of_nonneg->ee, natCast_mul->ei, le_of_lt->ej, natCast_add->em, lt_or_le->en, neg_neg->eo
open List renaming getElem?_eq_getElem->eq, range->ew, take_of_length_le->e6, getElem_range->e7, getElem_map->e8, replicate->e9, length_pos_iff->fb, take->fd, ext_getElem->fl, map_cons->fm, drop->fv
open Nat renaming mul_comm->fH, mul_le_mul_right->gb, div_lt_iff_lt_mul->gc, mod_eq_of_lt->ge, lt_of_lt_of_le->gg, pow_pos->gi, pow_succ->gj, pow_le_pow_right->gm, mod_lt->gt, lt_or_ge->gx, mul_assoc->gy, div_add_mod->g0, lt_trans->g1, one_mul->g2, mul_add->g3, add_mul->g4, lt_of_le_of_lt->g5, div_div_eq_div_mul->g6, le_refl->g7, add_comm->g8, pow_zero->g9, pow_add->ha, mul_lt_mul_of_pos_right->hb, le_trans->hd, add_mul_mod_self_left->hg, div_eq_of_lt->hj, add_sub_cancel_left->hl, mul_le_mul_left->hm, mul_right_comm->hn, mod_mod_of_dvd->ho, gcd_comm->hp, mul_lt_mul''->hr, lt_of_not_le->ht, zero_le->hu, mul_one->hv, div_pos->hw, div_one->hz, pow_dvd_pow->hA, div_le_self->hB, gcd->hC, mul_le_mul->hD, add_mul_mod_self_right->hE, le_mul_of_pos_right->hF, le_of_lt->hG, le_div_iff_mul_le->hH, add_le_add_right->hJ, div_mul_le_self->hK, div_eq_of_lt_le->hL, sub_le->hM, gcd_zero_right->hN, add_sub_cancel->hO, sub_mul->hP, pow_one->hQ, mul_pos->hR, mod_one->hS, gcd_rec->hT
open Option.some renaming inj->hU
namespace Go.aw
open Go.Proofs
set_option maxHeartbeats 4000000
set_option maxRecDepth 100000
theorem A1(n:Nat)(f:Nat->Nat):c7 n f=((ew n).map f).map (AV.p∘fun x:Nat=>PV.int .i64 x):=by
 rw[c7,List.map_map];rfl
theorem Ta{n:Nat}{f:Nat->Nat}(h:∀j,f j=0):e9 n (AV.p (.int .i64 0))=c7 n f:=by
 rw[IZ];exact xC fun j _=>(h j).symm
theorem Cu(a b:Nat)(w:(an bT a).length+(an bT b).length<=1000000):az prog 266 [eT a,eT b] (eT (a*b)):=by
 refine aL nf DP mix (by simp[f266]) ?_;have L:∀i(h:i<(an bT a).length),(an bT a)[i]=ae bT a i:=fun i h=>dW aV h;have M:∀i(h:i<(an bT b).length),(an bT b)[i]=ae bT b i:=fun i h=>dW aV h;have t:=bZ aV a;have e:=bZ aV b;have S:dS ((ew ((an bT a).length+(an bT b).length)).map (ae bT (a*b)))=an bT (a*b):=ja aV (by
  rw[ha];exact hr t e)
 have c:=sB ((ew ((an bT a).length+(an bT b).length)).map (ae bT (a*b))) (by simp;omega);rw[S]at c;have A:bT=1000000000:=rfl;simp only[eT];simp only[iP]at c;generalize an bT (a*b)=z at*;generalize an bT a=x at*;generalize an bT b=y at*;obtain⟨n,d⟩:∃n,x.length=n:=⟨_,rfl⟩
 obtain⟨m,g⟩:∃m,y.length=m:=⟨_,rfl⟩
 rw[d]at t c w;rw[g]at e c w;have B:=A1 (n+m) (ae bT (a*b));have u:((ew (n+m)).map (ae bT (a*b))).length=n+m:=by simp
 generalize (ew (n+m)).map (ae bT (a*b))=l at c B u;have R:((n:Int)+m).toNat=n+m:=by omega
 have Q:0<=(n:Int)+m:=by omega
 have W:dp.wrap ((n:Int)+m)=(n:Int)+m:=aM _ (by omega) (by omega);simp[f266,d,g,W,R,Q];refine⟨by simp only[cM];omega,?_⟩;rw[Ta (f:=cW bT a b 0 0) (by intro j;simp[ow,hS,ae])];refine lp (α:=Nat) (fun i=>⟨[(6,.p (.int .i64 i)),(5,.sl 0 0 1 0 (n+m)),(1,.p (.seq (y.map fun x:Nat=>.int .i64 x))),(0,.p (.seq (x.map fun x:Nat=>.int .i64 x)))],[.arr .exact 0 1 (c7 (n+m) (cW bT a b i 0))]⟩)
  (fun i=>i<=n) (fun i=>n-i) 0 (by simp) ?_ (he:=by simp)
 intro i k1;have T:=b8 (i:=i) (by omega)
 by_cases hi:i<n
 ·have r:i<x.length:=by rw[d];exact hi
  have hx:=L i r;have Y:x[i]?=some (ae bT a i):=by rw[eq r,hx]
  simp[d,hi];refine lp (α:=Nat) (fun j=>⟨[(8,.p (.int .i64 j)),(7,.p (.int .i64 (mulC bT a b i j:Nat))),(6,.p (.int .i64 i)),(5,.sl 0 0 1 0 (n+m)),(1,.p (.seq (y.map fun x:Nat=>.int .i64 x))),(0,.p (.seq (x.map fun x:Nat=>.int .i64 x)))],[.arr .exact 0 1 (c7 (n+m) (cW bT a b i j))]⟩)
   (fun j=>j<=m) (fun j=>m-j) 0 (by simp) ?_ (he:=by simp[Ax])
  intro j k2;have V:=b8 (i:=j) (by omega);have H:((i:Int)+j).toNat=i+j:=by omega
  have G:0<=(i:Int)+j:=by omega
  have U:dp.wrap ((i:Int)+j)=(i:Int)+j:=aM _ (by omega) (by omega)
  by_cases F:j<m
  ·have s:j<y.length:=by rw[g];exact F
   have I:=M j s;have Z:y[j]?=some (ae bT b j):=by rw[eq s,I]
   have E:i+j<n+m:=by omega
   have q:=sj (cW bT a b i j) E;have o:=Bj aV a b i j;have ah:=su aV a b i j;have v:=su aV a b i (j+1);have ai:cW bT a b i j (i+j)<bT:=by rw[cW];split<;>exact b7 aV _ _
   have am:=b7 aV a i;have ao:=b7 aV b j;have hs:=Bw (n:=n+m) (i:=i+j) (cW bT a b i j) (cW bT a b i (j+1)) (fun k _ hk=>HO aV hk);rw[Jy]at hs;rw[<-o.1]at hs;have al:ae bT a i*ae bT b j<=999999999*999999999:=hD (by omega) (by omega);rw[<-o.2]at v;have J:=o.2;clear o;have K:((ae bT a i:Int)*(ae bT b j:Int))=((ae bT a i*ae bT b j:Nat):Int):=by push_cast;rfl
   generalize ae bT a i*ae bT b j=P at*;generalize cW bT a b i j (i+j)=O at*;generalize ak:mulC bT a b i j=C at*;have ab:dp.wrap ((ae bT a i:Int)*(ae bT b j:Int))=P:=by rw[K];exact aM _ (by omega) (by omega)
   have ac:dp.wrap ((O:Int)+P)=O+P:=aM _ (by omega) (by omega);have af:dp.wrap ((O:Int)+P+C)=O+P+C:=aM _ (by omega) (by omega);have d1:((O:Int)+P+C).tmod 1000000000=((P+O+C)% bT:Nat):=by
    rw[dz (by omega),A];omega
   generalize (P+O+C)% bT=D at*;have d2:((O:Int)+P+C).tdiv 1000000000=(mulC bT a b i (j+1):Nat):=by
    rw[ea (by omega),<-J,A];omega
   have d3:dp.wrap ((mulC bT a b i (j+1):Nat):Int)=(mulC bT a b i (j+1):Nat):=aM _ (by omega) (by omega);simp[d,g,F,U,H,G,E,q,hx,Y,I,Z,r,s,ab,ac,af,d1,d2,d3,hs,ad];exact rd (j+1) (show j+1<=m by omega) (he:=by simp[V])
  have:j=m:=by omega
  subst this;have X:dp.wrap ((i:Int)+j)=(i:Int)+j:=aM _ (by omega) (by omega);have aj:i+j<n+j:=by omega
  have aa:cW bT a b i j (i+j)=0:=by
   rw[cW,if_neg (by omega)];exact iZ (uy aV a i e)
  have q:=sj (cW bT a b i j) aj;rw[aa]at q;have hs:=Bw (n:=n+j) (i:=i+j) (cW bT a b i j) (cW bT a b (i+1) 0) (fun k _ hk=>by rw[ow,Jz aV e hk]);rw[ow,<-Gq aV e]at hs;have v:=su aV a b i j;have ag:dp.wrap ((mulC bT a b i j:Nat):Int)=(mulC bT a b i j:Nat):=aM _ (by omega) (by omega);simp[g,X,H,G,hi,aj,q,hs,ag,ad];exact rd (i+1) (show i+1<=n by omega) (he:=by simp[T])
 have:i=n:=by omega
 subst this;have N:c7 (i+m) (cW bT a b i 0)=c7 (i+m) (ae bT (a*b)):=xC fun k _=>by rw[ow,ge t]
 simp[d,N,B];refine cp c (by simp[u];exact⟨rfl,rfl⟩) ?_ (h1:=by simp[e6,u]);simp
theorem TP{a b i:Nat}(c:0<b):(a/bT^(i+1)% b*bT+ae bT a i)/b=ae bT (a/b) i/\(a/bT^(i+1)% b*bT+ae bT a i)% b=a/bT^i% b:=by
 have e:=rH (B:=bT) a i;have g:=g0 (a/bT^(i+1)) b;have f:a/bT^i=(a/bT^(i+1)% b*bT+ae bT a i)+a/bT^(i+1)/b*bT*b:=by
  rw[e];generalize ae bT a i=d;generalize a/bT^(i+1)/b=Q at*;generalize a/bT^(i+1)% b=R at*;rw[<-g,g4,fH b,hn Q b bT];omega
 have j:(a/bT^(i+1)% b*bT+ae bT a i)/b<bT:=by
  rw[gc c];have k:=b7 aV a i;have h:=gb bT (show a/bT^(i+1)% b+1<=b from gt _ c);rw[g4,g2]at h;rw[fH bT];omega
 constructor
 ·conv=>rhs;rw[ae,g6,fH b,<-g6,f,Nat.add_mul_div_right _ _ c,hE,ge j]
 ·rw[f,hE]
theorem yQ(r x:Nat):(r:Int)*1000000000+x=((r*bT+x:Nat):Int):=by
 rw[em,ei];rfl
def qT(Q i k:Nat):Nat:=if i<=k then ae bT Q k else 0
theorem Cj{m Q i:Nat}:(c7 m (qT Q (i+1))).set i (.p (.int .i64 (ae bT Q i:Nat)))=c7 m (qT Q i):=by
 have:=Bw (n:=m) (i:=i) (qT Q (i+1)) (qT Q i) (fun k _ hk=>by
  rw[qT,qT]
  by_cases h:i<=k
  ·rw[if_pos h,if_pos (by omega)]
  ·rw[if_neg h,if_neg (by omega)])
 rw[<-this,qT,if_pos (g7 _)]
theorem Kt{m Q:Nat}:c7 m (qT Q 0)=c7 m (ae bT Q):=xC fun k _=>by rw[qT,if_pos (hu _)]
theorem Ku{m Q:Nat}:e9 m (AV.p (.int .i64 0))=c7 m (qT Q m):=by
 rw[IZ];exact xC fun k hk=>by rw[qT,if_neg (by omega)]
theorem K4{m N:Nat}(h:N<bT^m)(b:m<=1048576):∃l:List Nat,l.length=m/\c7 m (ae bT N)=l.map (AV.p∘fun x:Nat=>PV.int .i64 x)/\az prog 265 [.seq (iP l)] (eT N):=by
 refine⟨(ew m).map (ae bT N),by simp,A1 m _,?_⟩;have a:=sB ((ew m).map (ae bT N)) (by simp;omega);rw[show dS ((ew m).map (ae bT N))=an bT N from ja aV h]at a;exact a
theorem GY(a d:Nat)(u:0<d)(U:d<bT)(J:(an bT a).length<=1000000):az prog 264 [eT a,.int .i64 d] (.aE [eT (a/d),.int .i64 (a% d:Nat)]):=by
 refine aL nf DR mix (by simp[f264]) ?_;have H:∀i(h:i<(an bT a).length),(an bT a)[i]=ae bT a i:=fun i h=>dW aV h;have w:=bZ aV a;obtain⟨l,o,y,g⟩:=K4 (m:=(an bT a).length) (N:=a/d) (g5 (hB _ _) w) (by omega);have j:a/bT^(an bT a).length% d=0:=by rw[hj w,Nat.zero_mod]
 have A:a/bT^0% d=a% d:=by rw[g9,hz]
 have T:bT=1000000000:=rfl;simp only[eT]at g⊢;simp only[iP]at g;generalize an bT (a/d)=X at*;generalize an bT a=x at*;obtain⟨n,q⟩:∃n,x.length=n:=⟨_,rfl⟩
 rw[q]at o y j J;generalize W:a% d=rem at*;obtain⟨f,hf⟩:∃f:Nat->Nat,∀i,a/bT^i% d=f i:=⟨_,fun _=>rfl⟩
 have z:=fun i=>TP (a:=a) (b:=d) (i:=i) u;have v:∀i,f i<d:=fun i=>by rw[<-hf];exact gt _ u
 simp only[hf]at j A z;have C:dp.wrap ((n:Int)-1)=n-1:=aM _ (by omega) (by omega);simp[f264,q,C];refine⟨by simp only[cM];omega,?_⟩;rw[Ku (Q:=a/d)];refine lp (α:=Nat) (fun i=>⟨[(8,.p (.int .i64 ((i:Int)-1))),(7,.p (.int .i64 (f i:Nat))),(6,.sl 0 0 1 0 n),(1,.p (.int .i64 d)),(0,.p (.seq (x.map fun x:Nat=>.int .i64 x)))],[.arr .exact 0 1 (c7 n (qT (a/d) i))]⟩)
  (fun i=>i<=n) (fun i=>i) n (g7 _) ?_ (he:=by simp[j])
 intro i k1
 by_cases hi:0<i
 ·obtain⟨k,rfl⟩:∃k,i=k+1:=⟨i-1,by omega⟩
  have D:dp.wrap ((k:Int)-1)=k-1:=aM _ (by omega) (by omega);have r:k<x.length:=by omega
  have hx:=H k r;have K:x[k]?=some (ae bT a k):=by rw[eq r,hx]
  obtain⟨L,M⟩:=z k;have aF:=Cj (m:=n) (Q:=a/d) (i:=k);have gk:=sj (qT (a/d) (k+1)) (show k<n by omega);have I:k<n:=by omega
  have R:=v (k+1);have V:=b7 aV a k;have hq:=b7 aV (a/d) k;have S:=v k;generalize f (k+1)=c at*;generalize E:f k=B at*;generalize ae bT a k=e at*;generalize ae bT (a/d) k=s at*;have O:dp.wrap ((c:Int)*1000000000)=c*1000000000:=aM _ (by omega) (by omega);have P:dp.wrap ((c:Int)*1000000000+e)=c*1000000000+e:=aM _ (by omega) (by omega);have t:(c:Int)*1000000000+e=((c*bT+e:Nat):Int):=yQ c e;have d1:((c:Int)*1000000000+e).tdiv d=s:=by
   rw[t,ea (dq _),<-ed,L]
  have d2:((c:Int)*1000000000+e).tmod d=B:=by
   rw[t,dz (dq _),<-ec,M]
  have d3:dp.wrap (s:Int)=s:=aM _ (by omega) (by omega);have F:¬(d:Int)=0:=by omega
  have G:¬d=0:=by omega
  simp[q,D,hx,K,I,r,O,P,d1,d2,d3,F,G,gk,aF,ad];exact rd k (show k<=n by omega) (he:=by simp[E])
 ·obtain rfl:i=0:=by omega
  simp[Kt,y,A];refine cp g (by simp[o];exact⟨rfl,rfl⟩) ?_ (h1:=by simp[e6,o]);simp
def jT(a b c:Nat):Nat->Nat->Nat
 |0,_=>0
 |t+1,r=>if bT<=t+1\/r*bT+c<(t+1)*b then(if bT<=r+a then t else jT a b c t (r+a))else t+1
theorem XY{a b c t r:Nat}(h:0<t):jT a b c t r=if bT<=t\/r*bT+c<t*b then(if bT<=r+a then t-1 else jT a b c (t-1) (r+a))else t:=by
 cases t with
 |zero=>exact absurd h (Nat.lt_irrefl 0)
 |succ t=>rw[jT,hO]
theorem HM{a b:Nat}(c:a<bT)(d:b<bT):dp.wrap ((a:Int)*b)=(a:Int)*b:=by
 have e:a*b<=999999999*999999999:=hD (by simp only[bT]at c;omega) (by simp only[bT]at d;omega);rw[<-ei];generalize a*b=P at*;exact aM _ (by omega) (by omega)
theorem OT{a b r w:Nat}:(r:Int)*1000000000+w<(a:Int)*b↔r*bT+w<a*b:=by
 rw[yQ,<-ei];exact Int.ofNat_lt
theorem y5{r v:Nat}:(1000000000:Int)<=(r:Int)+v↔bT<=r+v:=by simp only[bT];omega
theorem Na{t:Nat}:(1000000000:Int)<=(t:Int)↔bT<=t:=by simp only[bT];omega
theorem aAS{t:Nat}(h:0<t)(a:t<=bT+1):dp.wrap ((t:Int)-1)=((t-1:Nat):Int):=by
 simp only[bT]at a;rw[aM _ (by omega) (by omega)];omega
theorem Ma{a v2 b c w2 Q:Nat}(w:bT<=2*a)(x:a<bT)(o:b<=a)(y:c<bT)(v:Q<bT)
 (g:∀q r,q*a+r=b*bT+c->q<bT->q*v2<=r*bT+w2->q<=Q+1)(m:∀q r,q*a+r=b*bT+c->r*bT+w2<q*v2->Q<q)
 (n:∀q r,bT<=r->q<bT->q*v2<=r*bT+w2):∀t r,t*a+r=b*bT+c->Q<=t->r<bT->t<=bT+1->Q<=jT a v2 w2 t r/\jT a v2 w2 t r<=Q+1/\jT a v2 w2 t r<bT
 |0,r,d,f,p,s=>by
  rw[jT];exact⟨f,by omega,by omega⟩
 |t+1,r,d,f,p,s=>by
  rw[jT]
  by_cases hc:bT<=t+1\/r*bT+w2<(t+1)*v2
  ·rw[if_pos hc];have hq:Q<=t:=by
    rcases hc with h|h
    ·omega
    ·have:=m _ _ d h;omega
   have k:t*a+(r+a)=b*bT+c:=by rw[g4,g2]at d;omega
   by_cases i:bT<=r+a
   ·rw[if_pos i];have j:t<bT:=by
     rcases gx t bT with h|h
     ·exact h
     ·have e:t=bT:=by omega
      subst e;have:=gb bT o;rw[fH a]at this;omega
    exact⟨hq,g _ _ k j (n _ _ i j),j⟩
   ·rw[if_neg i];exact Ma w x o y v g m n t (r+a) k hq (by omega) (by omega)
  ·rw[if_neg hc];have l:t+1<bT:=by
    rcases gx (t+1) bT with h|h
    ·exact h
    ·exact(hc (.inl h)).elim
   have u:(t+1)*v2<=r*bT+w2:=by
    rcases gx (r*bT+w2) ((t+1)*v2)with h|h
    ·exact(hc (.inr h)).elim
    ·exact h
   exact⟨f,g _ _ d l u,l⟩
theorem XQ(W V N j n:Nat)(k:AK)(ar:Nat)(f:Nat->Nat)(ax:2<=n)(aG:(an bT V).length=n)(aX:bT<=2*ae bT V (n-1))(aH:W<V*bT)(bg:N<=1000000)(a0:j+n<N)
 (hf:∀i,i<=n->f (j+i)=ae bT W i):∃t,W/V<=t/\t<=W/V+1/\t<bT/\
 cw prog 267 [.arr k ar 1 (c7 N f)] [.sl 0 ar 1 0 N,.p (eT V),.p (.int .i64 j)] [.arr k ar 1 (c7 N f)] (.p (.int .i64 t)):=by
 have aY:bT=1000000000:=rfl;have D:V<bT^n:=by rw[<-aG];exact bZ aV V
 have Y:bT^(n-1)<=V:=by
  rcases gx V (bT^(n-1))with h|h
  ·have:=dB aV (n-1) V h;omega
  ·exact h
 obtain⟨aw,aZ⟩:=BF aV (show 1<=n by omega) D aH;have aA:W/bT^n=ae bT W n:=by
  rw[ae,ge];have:=b7 aV V (n-1);omega
 have w:W/bT^(n-1)=ae bT W n*bT+ae bT W (n-1):=by
  rw[rH,show n-1+1=n by omega,aA]
 have F:=KW aV ax Y D (W:=W);have ac:=fun q r=>CT aV ax Y D (W:=W) (q:=q) (r:=r);have ab:=fun q r=>L9 aV ax Y D (W:=W) (q:=q) (r:=r);have aL:=fun q r=>KU aV (V:=V) (W:=W) (n:=n) (q:=q) (r:=r);rw[w]at F ac ab;have q1:=b7 aV W n;have ba:=b7 aV W (n-1);have bq:=b7 aV W (n-2);have q4:=b7 aV V (n-1);have bb:=b7 aV V (n-2);have aF:=hf n (g7 _);have f2:=hf (n-1) (by omega);have f3:=hf (n-2) (by omega);rw[aA]at aw;have E:(an bT V)[n-1]?=some (ae bT V (n-1)):=by rw[eq (by omega),dW aV (by omega)]
 have aa:(an bT V)[n-2]?=some (ae bT V (n-2)):=by rw[eq (by omega),dW aV (by omega)]
 have aJ:∀h:n-1<(an bT V).length,(an bT V)[n-1]=ae bT V (n-1):=fun h=>dW aV h;have aK:∀h:n-2<(an bT V).length,(an bT V)[n-2]=ae bT V (n-2):=fun h=>dW aV h;simp only[eT];generalize an bT V=y at*;generalize bh:W/V=Q at*;generalize bl:ae bT W n=s at*;generalize bm:ae bT W (n-1)=M at*;generalize bn:ae bT W (n-2)=e at*;generalize bj:ae bT V (n-1)=a at*;generalize bk:ae bT V (n-2)=v2 at*;clear w aA D Y aH hf;have S:=sj f (show j+n<N by omega);have U:=sj f (show j+(n-1)<N by omega);have l:=sj f (show j+(n-2)<N by omega);rw[aF]at S;rw[f2]at U;rw[f3]at l;have G:=uw N f;have aB:∀aD:Nat×Nat->Prop,aQ aD (c7 N f):=fun aD=>by simp
 generalize c7 N f=u at*;obtain⟨c,m⟩:∃c,c=s*bT+M:=⟨_,rfl⟩
 obtain⟨b,ah⟩:∃b,b=c/a:=⟨_,rfl⟩
 obtain⟨d,af⟩:∃d,d=c% a:=⟨_,rfl⟩
 have a1:0<a:=by omega
 have aN:b*a+d=c:=by rw[ah,af,fH];exact g0 _ _
 have ay:d<bT:=g1 (by rw[af];exact gt _ a1) q4;have az:b<=bT+1:=by
  have aU:=gb bT aw;rw[fH a]at aU;rcases gx (bT+1) b with h|h
  ·have aW:=gb a (show bT+2<=b from h);rw[g4]at aW;omega
  ·exact h
 rw[<-m]at F ac ab;rw[<-ah]at F;have Z:=Ma (v2:=v2) (w2:=e) aX q4 aw ba aZ (by rw[<-m];exact ac) (by rw[<-m];exact ab) aL b d (by rw[<-m];exact aN) F ay az;refine⟨jT a v2 e b d,Z.1,Z.2.1,Z.2.2,?_⟩;obtain⟨T,w⟩:∃T,T=jT a v2 e b d:=⟨_,rfl⟩
 rw[<-w];clear Z F ac ab aL;have o:y.length=n:=aG;have br:dp.wrap ((j:Int)+n)=(j+n:Nat):=by rw[aM _ (by omega) (by omega)];omega
 have O:dp.wrap ((j:Int)+n)=(j:Int)+n:=aM _ (by omega) (by omega);have be:dp.wrap ((j:Int)+n-1)=(j:Int)+n-1:=aM _ (by omega) (by omega);have B:dp.wrap ((n:Int)-1)=(n:Int)-1:=aM _ (by omega) (by omega);have ap:dp.wrap ((n:Int)-2)=(n:Int)-2:=aM _ (by omega) (by omega);have aq:dp.wrap ((j:Int)+n-2)=(j:Int)+n-2:=aM _ (by omega) (by omega);have bc:((j:Int)+n).toNat=j+n:=by omega
 have bd:((j:Int)+n-1).toNat=j+(n-1):=by omega
 have A:((n:Int)-1).toNat=n-1:=by omega
 have am:((n:Int)-2).toNat=n-2:=by omega
 have ao:((j:Int)+n-2).toNat=j+(n-2):=by omega
 have wf:dp.wrap ((s:Int)*1000000000)=(s:Int)*1000000000:=aM _ (by omega) (by omega);have aI:(s:Int)*1000000000+M=(c:Nat):=by rw[m];exact yQ s M
 have bi:c<1000000000000000000:=by rw[m,aY];omega
 have aP:dp.wrap ((s:Int)*1000000000+M)=(c:Nat):=by rw[aI];exact aM _ (by omega) (by omega)
 have aE:((c:Nat):Int).tdiv a=b:=by rw[ea (dq _),<-ed,<-ah]
 have dr:((c:Nat):Int).tmod a=d:=by rw[dz (dq _),<-ec,<-af]
 have a2:¬(a:Int)=0:=by omega
 have a3:¬a=0:=by omega
 have aR:dp.wrap (b:Int)=b:=aM _ (by omega) (by omega);have z:n-1<y.length:=by omega
 have J:n-2<y.length:=by omega
 have H:=aJ z;have ai:=aK J;have aO:j+n<u.length:=by omega
 have a4:j+(n-1)<u.length:=by omega
 have I:j+(n-2)<u.length:=by omega
 have a5:j+(n-1)<N:=by omega
 have aj:j+(n-2)<N:=by omega
 have aS:u[j+n]=.p (.int .i64 s):=by rw[eq aO]at S;exact hU S
 have aT:u[j+(n-1)]=.p (.int .i64 M):=by rw[eq a4]at U;exact hU U
 have X:u[j+(n-2)]=.p (.int .i64 e):=by rw[eq I]at l;exact hU l
 have L:¬u=[]:=by rintro rfl;simp at aO
 have a6:0<=(j:Int)+n:=by omega
 have a7:0<=(j:Int)+n-1:=by omega
 have bo:0<=(j:Int)+n-2:=by omega
 have a9:0<=(n:Int)-1:=by omega
 have bp:0<=(n:Int)-2:=by omega
 have a8:1<=(j:Int)+n:=by omega
 have ak:2<=(j:Int)+n:=by omega
 have K:1<=(n:Int):=by omega
 have al:2<=(n:Int):=by omega
 refine fP nf DO mix (by simp[f267]) ?_;simp[f267,o,O,be,B,bc,bd,A,S,U,E,H,wf,aP,aE,dr,a2,a3,aR,G,a0,z,aS,aT,L,a6,a7,a9,a8,K,a5,ad];refine lp (α:=Nat×Nat) (fun x=>⟨[(10,.p (.int .i64 x.2)),(9,.p (.int .i64 x.1)),(7,.p (.int .i64 n)),(2,.p (.int .i64 j)),(1,.p (.seq (y.map fun x:Nat=>.int .i64 x))),(0,.sl 0 ar 1 0 N)],[.arr k ar 1 u]⟩)
  (fun x=>T=jT a v2 e x.1 x.2/\x.2<bT/\x.1<=bT+1) (fun x=>x.1) (b,d) ⟨w,ay,az⟩ ?_ (hr2:=by simp[aB])
 clear m aN ah af aI aP aE dr w wf ay az aR aJ aK aF f2 f3;rintro⟨t,r⟩ ⟨k1,k2,k3⟩;dsimp only at k1 k2 k3;have au:dp.wrap ((r:Int)*1000000000)=(r:Int)*1000000000:=aM _ (by omega) (by omega);have av:dp.wrap ((r:Int)*1000000000+e)=(r:Int)*1000000000+e:=aM _ (by omega) (by omega);have P:dp.wrap ((r:Int)+a)=(r:Int)+a:=aM _ (by omega) (by omega);rcases Nat.eq_zero_or_pos t with C|C
 ·subst C;rw[jT]at k1;have c1:¬(r:Int)*1000000000+e<0:=by rw[yQ];exact Int.not_lt.2 (dq _)
  have bf:dp.wrap 0=0:=rfl;simp[o,bf,ap,am,au,av,P,aq,ao,aa,ai,J,l,X,I,aj,G,L,ak,al,O,c1,k1,ad]
 rw[XY C]at k1;have ag:=aAS C k3;have k4:∀x,x<=bT+1->x-1<=bT+1:=fun x h=>hd (hM _ _) h;have k5:t-1<t:=Nat.sub_lt C (by decide)
 by_cases c0:bT<=t
 ·have v:=Na.2 c0;rw[if_pos (.inl c0)]at k1
  by_cases c2:bT<=r+a
  ·have g:=y5.2 c2;rw[if_pos c2]at k1;simp[v,ag,o,B,A,E,H,z,K,P,g,k1]
  ·have g:=mt y5.1 c2;rw[if_neg c2]at k1;simp[v,ag,o,B,A,E,H,z,K,P,g];exact rd (t-1,r+a) ⟨k1,ht c2,k4 _ k3⟩ k5 (he:=by simp) (hr2:=by simp[aB])
 have v:=mt Na.1 c0;have aC:=HM (ht c0) bb
 by_cases c1:r*bT+e<t*v2
 ·have R:=OT.2 c1;rw[if_pos (.inr c1)]at k1
  by_cases c2:bT<=r+a
  ·have g:=y5.2 c2;rw[if_pos c2]at k1;simp[v,ag,o,B,A,E,H,z,K,P,g,k1,ap,am,au,av,aC,aq,ao,aa,ai,J,l,X,I,aj,G,L,ak,al,O,R,ad]
   done
  ·have g:=mt y5.1 c2;rw[if_neg c2]at k1;simp[v,ag,o,B,A,E,H,z,K,P,g,ap,am,au,av,aC,aq,ao,aa,ai,J,l,X,I,aj,G,L,ak,al,O,R,ad];exact rd (t-1,r+a) ⟨k1,ht c2,k4 _ k3⟩ k5 (he:=by simp) (hr2:=by simp[aB])
 ·have R:=mt OT.1 c1;rw[if_neg (fun h=>h.elim c0 c1)]at k1;simp[v,o,B,A,ap,am,au,av,aC,aq,ao,aa,ai,J,l,X,I,aj,G,L,ak,al,O,R,k1,ad]
theorem UT{b k f d:Nat}(n:b<bT^(k+1))(h:d=b/bT^k)(p:0<d)(hf:f=bT/(d+1)):0<f/\f<bT/\b*f<bT^(k+1)/\bT^k<=b*f/\bT<=2*ae bT (b*f) k:=by
 have e:0<bT^k:=gi (by decide);have s:d<bT:=by
  rw[h,gc e,fH,<-gj];exact n
 have r:bT=1000000000:=rfl;have g:=hK bT (d+1);have j:=Nat.lt_div_mul_add (a:=bT) (show 0<d+1 by omega);rw[<-hf]at g j;have i:0<f:=by rw[hf];exact hw (by omega) (by omega)
 have q:f<bT:=by
  rw[hf];exact Nat.div_lt_self (by decide) (by omega)
 have o:b<(d+1)*bT^k:=by
  rw[<-gc e,<-h];omega
 have l:d*bT^k<=b:=by rw[h];exact hK _ _
 have m:b*f<bT^(k+1):=by
  rw[gj];have e1:b*f<(d+1)*bT^k*f:=hb o i;have e2:(d+1)*bT^k*f=f*(d+1)*bT^k:=by rw[fH,<-gy]
  have e3:=gb (bT^k) g;rw[fH (bT^k) bT];omega
 refine⟨i,q,m,?_,?_⟩
 ·have e1:1*bT^k<=d*bT^k:=gb _ p;rw[g2]at e1;exact hd (hd e1 l) (hF _ i)
 ·have e1:b*f/bT^k=ae bT (b*f) k:=by
   rw[ae,ge];rw[gc e,fH bT,<-gj];exact m
  have e2:d*f<=b*f/bT^k:=by
   rw[hH e,hn];exact gb _ l
  rw[e1]at e2;have e3:d+f<=d*f+1:=by
   obtain⟨d',rfl⟩:∃d',d=d'+1:=⟨d-1,by omega⟩
   obtain⟨c,rfl⟩:∃c,f=c+1:=⟨f-1,by omega⟩
   have:(d'+1)*(c+1)=d'*c+d'+c+1:=by rw[g4,g3,g2,hv];omega
   omega
  have e4:f*(d+1)=d*f+f:=by rw[g3,hv,fH]
  rw[e4]at g j;generalize d*f=P at*;generalize ae bT (b*f) k=Z at*;omega
def fQ(V R t i:Nat):Nat:=(t*(V% bT^i)+R% bT^i)/bT^i
theorem VJ{V R t:Nat}:fQ V R t 0=0:=by simp[fQ,hS]
theorem Jb{W V R t n i:Nat}(h:R+t*V=W+bT^(n+1))(hi:i<=n):ae bT R i+t*ae bT V i+fQ V R t i=ae bT W i+fQ V R t (i+1)*bT:=by
 have k:0<bT^i:=gi (by decide);have l:0<bT^(i+1):=gi (by decide);have d:(t*(V% bT^(i+1))+R% bT^(i+1))% bT^(i+1)=W% bT^(i+1):=by
  have e1:(t*V+R)% bT^(i+1)=(t*(V% bT^(i+1))+R% bT^(i+1))% bT^(i+1):=by
   have a:=g0 V (bT^(i+1));have e:=g0 R (bT^(i+1));have f:t*V+R=t*(V% bT^(i+1))+R% bT^(i+1)+bT^(i+1)*(t*(V/bT^(i+1))+R/bT^(i+1)):=by
    have g:t*V=t*(V% bT^(i+1))+bT^(i+1)*(t*(V/bT^(i+1))):=by
     conv=>lhs;rw[<-a]
     rw[g3,<-gy,fH t (bT^(i+1)),gy];omega
    rw[g,g3]
    conv=>lhs;rw[<-e]
    omega
   rw[f,hg]
  rw[<-e1,g8 (t*V),h];have:bT^(i+1)∣bT^(n+1):=hA _ (by omega);obtain⟨c,hc⟩:=this;rw[hc,hg]
 have e2:=g0 (t*(V% bT^(i+1))+R% bT^(i+1)) (bT^(i+1));have e3:=g0 (t*(V% bT^i)+R% bT^i) (bT^i);rw[d]at e2;rw[show(t*(V% bT^(i+1))+R% bT^(i+1))/bT^(i+1)=fQ V R t (i+1)from rfl]at e2;rw[show(t*(V% bT^i)+R% bT^i)/bT^i=fQ V R t i from rfl]at e3;have j:(t*(V% bT^i)+R% bT^i)% bT^i=W% bT^i:=by
  have:=congrArg (·% bT^i) d
  have b:bT^i∣bT^(i+1):=hA _ (by omega);rw[ho _ b,ho _ b]at this;rw[<-this,mod_pow_succ,mod_pow_succ];rw[g3];have:t*(V% bT^i)+t*(bT^i*ae bT V i)+(R% bT^i+bT^i*ae bT R i)=t*(V% bT^i)+R% bT^i+bT^i*(t*ae bT V i+ae bT R i):=by
   rw[g3,<-gy t,fH t (bT^i),gy];omega
  rw[this,hg]
 rw[j]at e3;rw[mod_pow_succ,mod_pow_succ,mod_pow_succ,gj]at e2;have e4:bT^i*(ae bT R i+t*ae bT V i+fQ V R t i)=bT^i*(ae bT W i+fQ V R t (i+1)*bT):=by
  have a:t*(V% bT^i+bT^i*ae bT V i)=t*(V% bT^i)+bT^i*(t*ae bT V i):=by
   rw[g3,<-gy t,fH t (bT^i),gy]
  rw[a]at e2;rw[g3,g3,g3];rw[gy (bT^i),fH bT]at e2;generalize bT^i*ae bT R i=m at*;generalize bT^i*(t*ae bT V i)=o at*;generalize bT^i*fQ V R t i=p at*;generalize bT^i*ae bT W i=q at*;generalize bT^i*(fQ V R t (i+1)*bT)=r at*;generalize t*(V% bT^i)=s at*;omega
 exact Nat.eq_of_mul_eq_mul_left k e4
theorem VI{r p w b':Nat}(h:r+p=w+b'*bT)(j:r<bT)(k:w<bT):(w<p% bT/\r+p% bT=w+bT/\b'=p/bT+1)\/(p% bT<=w/\r+p% bT=w/\b'=p/bT):=by
 have e:=g0 p bT;have i:=gt p (show 0<bT by decide);generalize p/bT=q at*;generalize p% bT=m at*;have b:r+m+bT*q=w+b'*bT:=by omega
 rw[fH bT]at b;rcases Nat.lt_trichotomy b' q with a|a|a
 ·have:=gb bT (show b'+1<=q from a);rw[g4,g2]at this;omega
 ·subst a;right;omega
 ·have d:=gb bT (show q+1<=b' from a);rw[g4,g2]at d;have f:b'=q+1:=by
   rcases gx (q+1) b' with c|c
   ·have g:=gb bT (show q+2<=b' from c);rw[g4]at g;omega
   ·omega
  subst f;rw[g4,g2]at b;left;omega
theorem Wf{W V t n:Nat}(y:0<V)(j:V<bT^n)(l:W<bT^(n+1))(C:W/V<=t)(D:t<=W/V+1):
 ∃R,R+t*V=W+bT^(n+1)/\
 ((t=W/V/\fQ V R t n=ae bT W n/\∀i,i<=n->ae bT R i=ae bT (W% V) i)\/
  (t=W/V+1/\fQ V R t n=ae bT W n+1/\cV bT R V n=1/\∀i,i<=n->ae bT (R+V) i=ae bT (W% V) i)):=by
 have H:0<bT^n:=gi (by decide);have B:0<bT^(n+1):=gi (by decide);have k:V<bT^(n+1):=gg j (gm (by decide) (by omega));have z:=g0 W V;have o:=gt W y;have d:bT^(n+1)=bT^n*bT:=gj _ _;have F:bT=1000000000:=rfl;have A:W% V<bT^n:=g1 o j;have s:ae bT (W% V) n=0:=iZ A;have q:ae bT V n=0:=iZ j;have m:∀R,R+t*V=W+bT^(n+1)->ae bT R n+fQ V R t n=ae bT W n+fQ V R t (n+1)*bT:=fun R v=>by
  have:=Jb v (g7 n);rw[q,Nat.mul_zero,Nat.add_zero]at this;exact this
 rcases gx t (W/V+1)with u|u
 ·have b:t=W/V:=by omega
  have r:t*V+W% V=W:=by rw[b,fH];exact z
  refine⟨W% V+bT^(n+1),by omega,.inl ⟨b,?_,fun i hi=>?_⟩⟩
  ·have e:=m (W% V+bT^(n+1)) (by omega);have f:fQ V (W% V+bT^(n+1)) t (n+1)=0:=by
    rw[fQ,ge k,Nat.add_mod_right,ge (g1 o k),r,hj l]
   have a:ae bT (W% V+bT^(n+1)) n=0:=by
    rw[<-s];exact uu (by omega)
   rw[f,a]at e;omega
  ·exact uu (by omega)
 ·have b:t=W/V+1:=by omega
  have r:t*V+W% V=W+V:=by rw[b,g4,g2,fH];omega
  have G:V<=bT^(n+1)+W% V:=by omega
  refine⟨bT^(n+1)+W% V-V,by omega,.inr ⟨b,?_,?_⟩⟩
  ·have e:=m (bT^(n+1)+W% V-V) (by omega);have w:bT^(n+1)+W% V-V<bT^(n+1):=by omega
   have f:fQ V (bT^(n+1)+W% V-V) t (n+1)=1:=by
    rw[fQ,ge k,ge w];have:t*V+(bT^(n+1)+W% V-V)=W+bT^(n+1):=by omega
    rw[this,Nat.add_div_right _ B,hj l]
   have a:ae bT (bT^(n+1)+W% V-V) n=bT-1:=by
    have g:(bT^(n+1)+W% V-V)/bT^n=bT-1:=by
     refine hL ?_ ?_
     ·rw[hP,g2,fH bT,<-d];omega
     ·rw[show bT-1+1=bT by decide,fH bT,<-d];omega
    rw[ae,g];decide
   rw[f,a]at e;omega
  ·have x:bT^(n+1)+W% V-V+V=W% V+bT^(n+1):=by omega
   have p:∀i,i<=n->ae bT (bT^(n+1)+W% V-V+V) i=ae bT (W% V) i:=fun i hi=>by
    rw[x];exact uu (by omega)
   refine⟨?_,p⟩;have h:=(pG aV (bT^(n+1)+W% V-V) V n).1;have E:=lr aV (bT^(n+1)+W% V-V) V n;rw[p n (g7 _),s,q]at h;have a:ae bT (bT^(n+1)+W% V-V) n=bT-1:=by
    have g:(bT^(n+1)+W% V-V)/bT^n=bT-1:=by
     refine hL ?_ ?_
     ·rw[hP,g2,fH bT,<-d];omega
     ·rw[show bT-1+1=bT by decide,fH bT,<-d];omega
    rw[ae,g];decide
   rw[a]at h;generalize cV bT (bT^(n+1)+W% V-V) V n=c at*;rcases gx 0 c with hc|hc
   ·omega
   ·have:c=0:=by omega
    subst this;simp only[bT]at h;omega
theorem We{V R t i:Nat}:fQ V R t i<=t:=by
 have a:0<bT^i:=gi (by decide);have b:=gt V a;have c:=gt R a;rw[fQ];refine Nat.le_of_lt_succ ?_;rw[gc a];have d:=hm t (hG b);rw[Nat.succ_mul];omega
theorem aAT{t v a w r b':Nat}(h:r+(t*v+a)=w+b'*bT)(f:r<bT)(g:w<bT)(b:t<bT)(c:v<bT)(i:a<=t):
 ∃(p q m:Nat),dp.wrap ((t:Int)*v)=(t:Int)*v/\dp.wrap ((t:Int)*v+a)=p/\(p:Int).tmod 1000000000=m/\(p:Int).tdiv 1000000000=q/\q<bT/\m<bT/\
 (((w:Int)-m<0/\(w:Int)-m+1000000000=r/\b'=q+1)\/(¬(w:Int)-m<0/\(w:Int)-m=r/\b'=q)):=by
 have d:t*v<=999999999*999999999:=hD (by simp only[bT]at b;omega) (by simp only[bT]at c;omega);have j:=VI h f g;have e:=gt (t*v+a) (show 0<bT by decide);have hq:(t*v+a)/bT<bT:=by
  rw[gc (by decide)];simp only[bT]at b⊢;omega
 refine⟨t*v+a,(t*v+a)/bT,(t*v+a)% bT,HM b c,?_,?_,?_,hq,e,?_⟩
 ·rw[<-ei,<-em];generalize t*v=P at*;simp only[bT]at b;exact aM _ (by omega) (by omega)
 ·rw[dz (dq _),ec];rfl
 ·rw[ea (dq _),ed];rfl
 ·generalize (t*v+a)/bT=q at*;generalize (t*v+a)% bT=m at*;clear h d;simp only[bT]at*;omega
def cC(n:Nat)(f:Nat->Int):List AV:=(ew n).map fun j=>.p (.int .i64 (f j))
theorem lx(n:Nat)(f:Nat->Int):(cC n f).length=n:=by simp[cC]
theorem OK(n:Nat)(f:Nat->Nat):c7 n f=cC n (fun k=>(f k:Nat)):=rfl
theorem aAy{n j:Nat}(f:Nat->Int)(h:j<n):(cC n f)[j]?=some (.p (.int .i64 (f j))):=by
 rw[cC,List.getElem?_map,List.getElem?_range h];rfl
theorem uF{n i:Nat}{v:Int}(f g:Nat->Int)(c:g i=v)(h:∀j,j<n->j≠i->g j=f j):(cC n f).set i (.p (.int .i64 v))=cC n g:=by
 apply fl (by simp[cC]);intro j d b;rw[lx]at b;rw[List.getElem_set];simp only[cC,e8,e7]
 by_cases a:i=j
 ·subst a;rw[if_pos rfl,c]
 ·rw[if_neg a,h j b (fun e=>a e.symm)]
@[simp] theorem aGO{N:Nat×Nat->Prop}{n:Nat}{f:Nat->Int}:aQ N (cC n f)=True:=by
 rw[cq,eq_iff_iff,iff_true];intro v a;simp only[cC,List.mem_map]at a;obtain⟨x,_,rfl⟩:=a;trivial
theorem JZ{n:Nat}{f g:Nat->Int}(h:∀j,j<n->f j=g j):cC n f=cC n g:=by
 rw[cC,cC];apply List.map_congr_left;intro j a;rw[h j (List.mem_range.1 a)]
def fG(X R j i k:Nat):Int:=if j<=k/\k<j+i then(ae bT R (k-j):Nat)else(ae bT X k:Nat)
theorem win_zero{X R j k:Nat}:fG X R j 0 k=(ae bT X k:Nat):=by rw[fG,if_neg (by omega)]
theorem Ca{X R j i:Nat}:fG X R j i (j+i)=(ae bT X (j+i):Nat):=by rw[fG,if_neg (by omega)]
theorem aC2{X R j i:Nat}:fG X R j (i+1) (j+i)=(ae bT R i:Nat):=by
 rw[fG,if_pos (by omega),hl]
theorem aC3{X R j i k:Nat}(h:k≠j+i):fG X R j (i+1) k=fG X R j i k:=by
 rw[fG,fG]
 by_cases a:j<=k/\k<j+i
 ·rw[if_pos a,if_pos (by omega)]
 ·rw[if_neg a,if_neg (by omega)]
def gn(X R S j n i k:Nat):Int:=if k=j+n then -1 else if j<=k/\k<j+i then(ae bT S (k-j):Nat)else fG X R j n k
theorem aCX{X R S j n i:Nat}(h:i<n):gn X R S j n i (j+i)=(ae bT R i:Nat):=by
 rw[gn,if_neg (by omega),if_neg (by omega),fG,if_pos (by omega),hl]
theorem aC0{X R S j n i:Nat}(h:i<n):gn X R S j n (i+1) (j+i)=(ae bT S i:Nat):=by
 rw[gn,if_neg (by omega),if_pos (by omega),hl]
theorem aC1{X R S j n i k:Nat}(h:k≠j+i):gn X R S j n (i+1) k=gn X R S j n i k:=by
 rw[gn,gn]
 by_cases a:k=j+n
 ·rw[if_pos a,if_pos a]
 ·rw[if_neg a,if_neg a]
  by_cases b:j<=k/\k<j+i
  ·rw[if_pos b,if_pos (by omega)]
  ·rw[if_neg b,if_neg (by omega)]
theorem Vl{X V j n N:Nat}(d:0<V)(c:V<bT^n)(e:X<V*bT^(j+1)){g:Nat->Int}(h:∀k,k<N->g k=if k=j+n then 0 else if j<=k/\k<j+n then(ae bT (X/bT^j% V) (k-j):Nat)else(ae bT X k:Nat)):
 cC N g=cC N fun k=>(ae bT (X% (V*bT^j)) k:Nat):=by
 refine JZ fun k hk=>?_;rw[h k hk,(wS (B:=bT) (R:=X) (V:=V) (j:=j)).1,HQ aV];have i:=gt (X/bT^j) d;have f:X<bT^(n+(j+1)):=by
  rw[ha];exact g1 e (hb c (gi (by decide)))
 by_cases a:k<j
 ·rw[if_pos a,if_neg (by omega),if_neg (by omega)]
 ·rw[if_neg a]
  by_cases m:k<j+n
  ·rw[if_neg (by omega),if_pos (by omega)]
  ·have l:ae bT (X/bT^j% V) (k-j)=0:=iZ (gg (g1 i c) (gm (by decide) (by omega)));rw[l]
   by_cases b:k=j+n
   ·rw[if_pos b]
   ·rw[if_neg b,if_neg (by omega)];have:ae bT X k=0:=iZ (gg f (gm (by decide) (by omega)));rw[this]
theorem Cl{f:Nat}(a:0<f)(h:f<bT):eT f=.seq [.int .i64 f]:=by rw[eT,mZ a h];rfl
theorem UD{r:Nat}(h:r<bT):dS [r]=an bT r:=by
 have:=ja aV (m:=1) (n:=r) (by rw[hQ];exact h);rw[<-this,row,List.range_one,fm,List.map_nil,ae,g9,hz,ge h]
@[simp] theorem aGH{σ:Nat->Nat}{n:Nat}{f:Nat->Int}:cB σ (cC n f)=cC n f:=by
 have:∀l:List Nat,cB σ (l.map fun j=>AV.p (.int .i64 (f j)))=l.map fun j=>AV.p (.int .i64 (f j)):=by
  intro l
  induction l with
  |nil=>rfl
  |cons a r b=>simp only[fm,cB,b];rfl
 exact this _
@[simp] theorem aGM{n j:Nat}{f:Nat->Int}(h:j<(cC n f).length):(cC n f)[j]=.p (.int .i64 (f j)):=by
 simp only[cC,e8,e7]
@[simp] theorem aGJ{n j:Nat}{f:Nat->Nat}(h:j<(c7 n f).length):(c7 n f)[j]=.p (.int .i64 (f j:Nat)):=by
 simp only[c7,e8,e7]
@[simp] theorem aGN{n:Nat}{f:Nat->Int}:(cC (n+1) f=[])=False:=by
 rw[eq_iff_iff,iff_false];intro h;have:=congrArg List.length h;rw[lx]at this;simp at this
theorem Cw(a b:Nat)(K:0<b)(c6:(an bT a).length<=400000)(b8:(an bT b).length<=400000):az prog 188 [eT a,eT b] (.aE [eT (a/b),eT (a% b)]):=by
 have bO:=GZ a b (by omega) (by omega);refine aL nf Ee mix (by simp[f188]) ?_;simp[f188];refine c2 bO ?_
 by_cases S:a<b
 ·have G:=oK.2 S;simp[G,hj S,ge S,eT,yP]
 have G:¬fk a b<0:=fun h=>S (oK.1 h);have a5:∀i(h:i<(an bT b).length),(an bT b)[i]=ae bT b i:=fun i h=>dW aV h;have C:=bZ aV b
 by_cases b5:(an bT b).length=1
 ·rw[b5,hQ]at C;have L:=GY a b K C (by omega);have cd:=gt a K;have ci:=UD (g1 cd C);have ar:=sB [a% b] (by simp);rw[ci]at ar;have cZ:=mZ K C;rw[Cl K C];simp only[eT,iP]at L ar⊢;generalize an bT (a/b)=cR at*;generalize an bT (a% b)=cS at*;generalize an bT a=x at*;generalize a% b=dj at*;simp[G];refine c2 L ?_;simp;refine cp ar (by simp;exact⟨rfl,rfl⟩) ?_;simp
 have c5:2<=(an bT b).length:=by
  rcases gx (an bT b).length 1 with h|h
  ·have e:(an bT b).length=0:=by omega
   rw[e,g9]at C;omega
  ·omega
 obtain⟨k,hk⟩:∃k,(an bT b).length=k+1:=⟨(an bT b).length-1,by omega⟩
 obtain⟨n,aD⟩:∃n,n=k+1:=⟨_,rfl⟩
 rw[hk]at C;obtain⟨d,Z⟩:∃d,d=b/bT^k:=⟨_,rfl⟩
 have ax:bT^k<=b:=by
  rcases gx b (bT^k)with h|h
  ·have:=dB aV k b h;omega
  ·exact h
 have bf:0<bT^k:=gi (by decide);have bP:0<d:=by rw[Z];exact hw ax bf
 have bU:d<bT:=by rw[Z,gc bf,fH,<-gj];exact C
 have a6:ae bT b k=d:=by rw[ae,<-Z,ge bU]
 obtain⟨f,hf⟩:∃f,f=bT/(d+1):=⟨_,rfl⟩
 obtain⟨f0,f1,f2,f3,f4⟩:=UT C Z bP hf;obtain⟨V,I⟩:∃V,V=b*f:=⟨_,rfl⟩
 rw[<-I]at f2 f3 f4;have aZ:(an bT V).length=n:=by
  have H:=dB aV (k+1) V f2;have bF:=Hn aV f3;omega
 have ag:=Cu b f (by rw[mZ f0 f1];simp;omega);have ah:=Cu a f (by rw[mZ f0 f1];simp;omega);rw[Cl f0 f1,<-I]at ag;rw[Cl f0 f1]at ah;have bR:(an bT b)[k]?=some d:=by rw[eq (by omega),a5 k (by omega),a6]
 have bS:∀h:k<(an bT b).length,(an bT b)[k]=d:=fun h=>by rw[a5 k h,a6]
 have c9:(an bT b).length<=400000:=b8;have cY:bT=1000000000:=rfl;have cI:dp.wrap ((d:Int)+1)=(d:Int)+1:=aM _ (by omega) (by omega);have bW:(1000000000:Int).tdiv ((d:Int)+1)=(f:Nat):=by
  rw[ea (by decide),hf,ed];rfl
 have bQ:¬(d:Int)+1=0:=by omega
 have cJ:dp.wrap (k:Int)=k:=aM _ (by omega) (by omega);have wf:dp.wrap (f:Int)=f:=aM _ (by omega) (by omega);have b6:¬(k:Int)+1=1:=by omega
 have b1:¬k=0:=by omega
 have bp:k<(an bT b).length:=by omega
 have b2:=bS bp;simp only[eT]at ag ah⊢;generalize ct:an bT (a/b)=cR at*;generalize cu:an bT (a% b)=cS at*;generalize aH:an bT a=x at*;generalize de:an bT b=y at*;generalize ak:an bT V=s at*;simp[G,hk,b6,b1,cJ,bR,b2,bp,cI,bW,bQ,wf];refine cp ag (by simp;exact⟨rfl,rfl⟩) ?_;simp[aZ];refine cp ah (by simp;exact⟨rfl,rfl⟩) ?_;obtain⟨u,D⟩:∃u,an bT (a*f)=u:=⟨_,rfl⟩
 obtain⟨c,M⟩:∃c,x.length=c:=⟨_,rfl⟩
 have bi:u.length<=c+1:=by
  rw[<-D,<-M,<-aH];refine dB aV _ _ ?_;rw[gj];exact hr (bZ aV a) f1
 have cm:∀i(h:i<u.length),u[i]=ae bT (a*f) i:=fun i h=>by
  have:=dW aV (n:=a*f) (i:=i) (by rw[D];exact h);simp only[D]at this;exact this
 rw[D];have cX:b<=a*f:=hd (Nat.le_of_not_lt S) (hF _ f0);have bk:¬u=[]:=by
  intro h;rw[h]at D;have:=ug.1 D;omega
 have a2:a*f<bT^u.length:=by rw[<-D];exact bZ aV _
 have ai:List.map (AV.p∘fun x:Nat=>PV.int dp x) u=cC u.length fun k=>(ae bT (a*f) k:Nat):=by
  apply fl (by simp[cC]);intro i G cW;simp only[e8,Function.comp,cC,e7];rw[cm i (by simpa using G)]
 have ck:u.length<=400001:=by omega
 obtain⟨A,bj⟩:∃A,u.length=A:=⟨_,rfl⟩
 rw[bj]at a2 ai bi ck;clear ag ah;have cl:¬(cC A fun k=>(ae bT (a*f) k:Nat))=[]:=by rw[<-ai];simpa using bk
 have cj:¬A=0:=by rw[<-bj];exact fun h=>bk (List.length_eq_zero_iff.1 h)
 simp[M,ai,cl,cj,lx];refine⟨⟨by rw[<-ai];exact ON u,by simp only[cM];omega⟩,?_⟩;have c8:c<=400000:=by omega
 have bz:dp.wrap ((c:Int)+1)=c+1:=aM _ (by omega) (by omega);refine qS (fun s'=>∃l o,aK s'.env 8=.sl 0 0 1 0 1/\aK s'.env 9=.p (.seq (s.map fun x:Nat=>.int .i64 x))/\aK s'.env 10=.p (.int .i64 n)/\aK s'.env 11=.sl 2 l 1 0 (c+1)/\s'.heap=[.arr .frozen 0 1 [.p (.int .i64 f)],o,.arr .grow l 1 (cC (c+1) fun k=>(ae bT (a*f) k:Nat))]) ?_ ?_
 ·refine lp (α:=Nat) (fun i=>⟨[(11,.sl 2 (i-A) 1 0 i),(10,.p (.int .i64 n)),(9,.p (.seq (s.map fun x:Nat=>.int .i64 x))),(8,.sl 0 0 1 0 1),(0,.p (.seq (x.map fun x:Nat=>.int .i64 x)))],[.arr .frozen 0 1 [.p (.int .i64 f)],.hole,.arr .grow (i-A) 1 (cC i fun k=>(ae bT (a*f) k:Nat))]⟩)
   (fun i=>A<=i/\i<=c+1) (fun i=>c+1-i) A ⟨g7 _,bi⟩ ?_ (he:=by simp) (hh:=by simp)
  rintro i ⟨k1,k2⟩
  by_cases hi:i<c+1
  ·have bX:(i:Int)<c+1:=by omega
   have cs:ae bT (a*f) i=0:=iZ (gg a2 (gm (by decide) k1));have cg:cC (i+1) (fun k=>(ae bT (a*f) k:Nat))=cC i (fun k=>(ae bT (a*f) k:Nat))++[.p (.int .i64 0)]:=by
    rw[cC,List.range_succ,List.map_append];simp[cs,cC]
   have bh:i+1-A=i-A+1:=by omega
   have ch:fd i (cC i fun k=>(ae bT (a*f) k:Nat))=cC i fun k=>(ae bT (a*f) k:Nat):=e6 (by rw[lx];exact g7 _);simp[M,bz,bX,lx,ch];refine⟨by simp only[cM];omega,?_⟩;exact rd (i+1) ⟨by omega,hi⟩ (he:=by simp[bh]) (hh:=by simp[bh,cg]) (hr2:=by simp)
  ·have aa:i=c+1:=by omega
   subst aa;simp[M,bz]
 rintro⟨bD,bV⟩ ⟨l,o,E,P,Q,F,T⟩;dsimp only at E P Q F T;subst T;have dd:n<=c:=by
  rw[aD];rcases gx c (k+1)with h|h
  ·have H:=bZ aV a;rw[aH,M]at H;have bF:=gg H (gm (show 0<bT by decide) (show c<=k by omega));omega
  ·exact h
 obtain⟨m,db⟩:∃m,m=c-n:=⟨_,rfl⟩
 have cN:dp.wrap ((c:Int)+1-n)=(m:Int)+1:=by rw[aM _ (by omega) (by omega)];omega
 have cO:((m:Int)+1).toNat=m+1:=by omega
 have cP:dp.wrap (m:Int)=m:=aM _ (by omega) (by omega);have cb:(m:Int)+1<=cM:=by simp only[cM];omega
 simp[E,P,Q,F,cN,cO,cP];refine⟨⟨by omega,cb⟩,?_⟩;have av:0<V:=by rw[I];exact hR K f0
 have W:V<bT^n:=by rw[aD];exact f2
 have a3:a<bT^c:=by rw[<-M,<-aH];exact bZ aV a
 have bL:a*f% (V*bT^(m+1))=a*f:=by
  refine ge ?_;rw[I,hn];refine hb ?_ f0;refine gg a3 ?_;rw[show c=k+(m+1)by omega,ha];exact gb _ ax
 obtain⟨X,J⟩:∃X:Nat->Nat,∀j,X j=a*f% (V*bT^j):=⟨_,fun _=>rfl⟩
 have Y:∀j,X j<V*bT^j:=fun j=>by rw[J];exact gt _ (hR av (gi (by decide)))
 have bN:∀j,X (j+1)% (V*bT^j)=X j:=fun j=>by
  rw[J,J,ho];exact Nat.mul_dvd_mul_left _ (hA _ (by omega))
 have bM:∀j,X (j+1)/bT^j/V=ae bT (a/b) j:=fun j=>by
  rw[J,<-(wS (B:=bT) (R:=a*f% (V*bT^(j+1))) (V:=V) (j:=j)).2,gj,<-gy,Nat.mod_mul_right_div_self,<-g6,I,Nat.mul_div_mul_right _ _ f0,ae]
 have a8:=fun j(h:j<=m)=>XQ (X (j+1)/bT^j) V (c+1) j n .grow l (ae bT (X (j+1))) (by omega) (by rw[ak];exact aZ) (by rw[aD,hO];exact f4) (by rw[gc (gi (by decide)),gy,fH bT,<-gj];exact Y (j+1)) (by omega) (by omega) (fun i hi=>(pT (B:=bT) _ _ _).symm);simp only[eT,OK,ak]at a8;rw[show(e9 (m+1) (AV.p (PV.int dp 0)))=c7 (m+1) (qT (a/b) (m+1))from Ku];rw[show(cC (c+1) fun k=>(ae bT (a*f) k:Nat))=cC (c+1) fun k=>(ae bT (X (m+1)) k:Nat)by rw[J,bL]];refine qS (fun s'=>∃br,aK s'.env 8=.sl 0 0 1 0 1/\aK s'.env 10=.p (.int .i64 n)/\aK s'.env 11=.sl 2 l 1 0 (c+1)/\aK s'.env 12=.sl 3 0 1 0 (m+1)/\s'.heap=[.arr .frozen 0 1 [.p (.int .i64 f)],br,.arr .grow l 1 (cC (c+1) fun k=>(ae bT (X 0) k:Nat)),.arr .exact 0 1 (c7 (m+1) (ae bT (a/b)))]) ?_ ?_
 ·refine lp (α:=Nat) (fun j=>⟨[(13,.p (.int .i64 ((j:Int)-1))),(12,.sl 3 0 1 0 (m+1)),(11,.sl 2 l 1 0 (c+1)),(10,.p (.int .i64 n)),(9,.p (.seq (s.map fun x:Nat=>.int .i64 x))),(8,.sl 0 0 1 0 1)],[.arr .frozen 0 1 [.p (.int .i64 f)],.hole,.arr .grow l 1 (cC (c+1) fun k=>(ae bT (X j) k:Nat)),.arr .exact 0 1 (c7 (m+1) (qT (a/b) j))]⟩)
   (fun j=>j<=m+1) (fun j=>j) (m+1) (g7 _) ?_ (he:=by simp[E,P,Q,F])
  intro j c0;rcases j with _|j
  ·simp[Kt]
  ·obtain⟨t,aQ,ao,ap,bG⟩:=a8 j (by omega);have b0:¬(j:Int)<0:=by omega
   have bK:X (j+1)/bT^j<bT^(n+1):=by
    rw[gc (gi (by decide)),<-ha];refine gg (Y (j+1)) ?_;rw[show n+1+j=n+(j+1)by omega,ha bT n (j+1)];exact gb _ (hG W)
   obtain⟨R,bI,bJ⟩:=Wf av W bK aQ ao;have gG:=fun i(hi:i<=n)=>Jb (i:=i) bI hi;have aw:∀i,ae bT (X (j+1)/bT^j) i=ae bT (X (j+1)) (j+i):=fun i=>pT _ _ _;have dm:((n:Nat):Int).toNat=n:=by omega
   simp[-bg];rw[bg,bg];simp[-bg,b0];rw[bg,I4,bg];simp[-bg];refine cf bG [2] ?_;simp[-bg,sig,ba];rw[bg];simp[-bg];rw[bg,bg];simp[-bg];have aY:∀i(h:i<s.length),s[i]=ae bT V i:=fun i h=>by
    have:=dW aV (n:=V) (i:=i) (by rw[ak];exact h);simp only[ak]at this;exact this
   have aW:X (j+1)/bT^j/V=ae bT (a/b) j:=bM j;have c4:(j:Int)<=400000:=by omega
   have dc:(n:Int)<=400001:=by omega
   have a7:∀g:Nat->Int,(∀k,k<c+1->g k=if k=j+n then 0 else if j<=k/\k<j+n then(ae bT (X (j+1)/bT^j% V) (k-j):Nat)else(ae bT (X (j+1)) k:Nat))->cC (c+1) g=cC (c+1) fun k=>(ae bT (X j) k:Nat):=fun g ay=>by
    rw[Vl av W (Y (j+1)) ay,bN]
   have co:cC (c+1) (fG (X (j+1)) R j 0)=cC (c+1) fun k=>(ae bT (X (j+1)) k:Nat):=JZ fun k _=>win_zero;refine lp (α:=Nat) (fun i=>⟨[(16,.p (.int .i64 i)),(15,.p (.int .i64 (fQ V R t i:Nat))),(14,.p (.int .i64 t)),(13,.p (.int .i64 j)),(12,.sl 3 0 1 0 (m+1)),(11,.sl 2 l 1 0 (c+1)),(10,.p (.int .i64 n)),(9,.p (.seq (s.map fun x:Nat=>.int .i64 x))),(8,.sl 0 0 1 0 1)],[.arr .frozen 0 1 [.p (.int .i64 f)],.hole,.arr .grow l 1 (cC (c+1) (fG (X (j+1)) R j i)),.arr .exact 0 1 (c7 (m+1) (qT (a/b) (j+1)))]⟩)
    (fun i=>i<=n) (fun i=>n-i) 0 (hu _) ?_ (he:=by simp[VJ]) (hh:=by simp[co])
   intro i hi;have bx:dp.wrap ((i:Int)+j)=(i:Int)+j:=aM _ (by omega) (by omega);have bv:((i:Int)+j).toNat=i+j:=by omega
   have bq:¬((i:Int)+j<0):=by omega
   have bw:dp.wrap ((i:Int)+1)=(i:Int)+1:=aM _ (by omega) (by omega)
   by_cases aj:i<n
   ·have bb:(i:Int)<n:=by omega
    have ab:i<s.length:=by omega
    have aG:=aY i ab;have aF:=gG i hi;rw[aw]at aF;have bs:=b7 aV (X (j+1)) (j+i);have cw:=b7 aV R i;have pv:=b7 aV V i;obtain⟨p,q,al,s1,s2,bt,bu,dk,dl,cz⟩:=aAT (by rw[<-Nat.add_assoc];exact aF) cw bs ap pv We;have bo:fG (X (j+1)) R j i (i+j)=(ae bT (X (j+1)) (j+i):Nat):=by rw[g8 i j,Ca]
    have a9:0<=(i:Int)+j:=by omega
    have get:(cC (c+1) (fG (X (j+1)) R j i))[i+j]?=some (.p (.int .i64 (ae bT (X (j+1)) (j+i):Nat))):=by
     rw[aAy _ (by omega),g8 i j,Ca]
    have set:(cC (c+1) (fG (X (j+1)) R j i)).set (i+j) (.p (.int .i64 (ae bT R i:Nat)))=cC (c+1) (fG (X (j+1)) R j (i+1)):=by
     rw[g8 i j];exact uF _ _ aC2 fun k _ hk=>aC3 hk
    have aa:i+j<c+1:=by omega
    have bl:s[i]?=some (ae bT V i):=by rw[eq ab,aG]
    generalize ae bT (X (j+1)) (j+i)=w at*;generalize ae bT V i=v at*;generalize ae bT R i=r at*;generalize fQ V R t i=cT at*;generalize a4:fQ V R t (i+1)=cU at*;have ce:¬(r:Int)<0:=by omega
    have bC:dp.wrap ((w:Int)-al)=(w:Int)-al:=aM _ (by omega) (by omega);have bA:dp.wrap (q:Int)=q:=aM _ (by omega) (by omega);have aU:dp.wrap ((q:Int)+1)=(q:Int)+1:=aM _ (by omega) (by omega);rcases cz with⟨c1,c2,c3⟩|⟨c1,c2,c3⟩
    ·have wr:dp.wrap ((w:Int)-al+1000000000)=r:=by rw[c2];exact aM _ (by omega) (by omega)
     simp[bb,bx,bv,bq,ab,aG,bl,s1,s2,bt,bu,aa,get,bo,a9,lx,bC,c1,wr,aU,set,bw,ad,aJ,bB];exact rd (i+1) (show i+1<=n by omega) (he:=by simp[a4,c3,bA,aU])
    ·have wr:dp.wrap ((w:Int)-al)=r:=by rw[bC,c2]
     simp[bb,bx,bv,bq,ab,aG,bl,s1,s2,bt,bu,aa,get,bo,a9,lx,c1,wr,ce,set,bw,ad,aJ,bB];exact rd (i+1) (show i+1<=n by omega) (he:=by simp[a4,c3,bA,aU])
   ·have bY:i=n:=by omega
    subst bY;have aT:dp.wrap ((j:Int)+i)=(j:Int)+i:=aM _ (by omega) (by omega);have aR:((j:Int)+i).toNat=j+i:=by omega
    have aI:0<=(j:Int)+i:=by omega
    have aA:j+i<c+1:=by omega
    have bn:fG (X (j+1)) R j i (j+i)=(ae bT (X (j+1)) (j+i):Nat):=Ca;have bs:=b7 aV (X (j+1)) (j+i);have aS:dp.wrap ((j:Int)-1)=(j:Int)-1:=aM _ (by omega) (by omega);rcases bJ with⟨aO,U,aP⟩|⟨aO,U,aP,cy⟩
    ·rw[aw]at U;rw[U];generalize ae bT (X (j+1)) (j+i)=w at*;have aq:dp.wrap 0=0:=rfl;have am:dp.wrap ((w:Int)-w)=0:=by rw[Int.sub_self];rfl
     have aE:t=ae bT (a/b) j:=by rw[aO,aW]
     have aN:(c7 (m+1) (qT (a/b) (j+1))).set j (.p (.int .i64 t))=c7 (m+1) (qT (a/b) j):=by rw[aE];exact Cj
     have fs:(cC (c+1) (fG (X (j+1)) R j i)).set (j+i) (.p (.int .i64 0))=cC (c+1) fun k=>(ae bT (X j) k:Nat):=by
      rw[uF _ (fun k=>if k=j+i then 0 else fG (X (j+1)) R j i k) (if_pos rfl) (fun k _ hk=>if_neg hk)];refine a7 _ fun k _=>?_
      by_cases hk:k=j+i
      ·rw[if_pos hk,if_pos hk];rfl
      ·rw[if_neg hk,if_neg hk,fG]
       by_cases z:j<=k/\k<j+i
       ·rw[if_pos z,if_pos z,aP (k-j) (by omega)]
       ·rw[if_neg z,if_neg z]
     have ac:j<m+1:=by omega
     have cc:¬((ae bT (X j) (j+i):Nat):Int)<0:=by omega
     simp[aT,aR,aI,aA,bn,lx,uw,am,aq,aS,ac,cc,fs,aN,ad,aJ,bB];exact rd j (show j<=m+1 by omega)
    ·rw[aw]at U;rw[U];generalize ae bT (X (j+1)) (j+i)=w at*;have aq:dp.wrap 0=0:=rfl;have am:dp.wrap ((w:Int)-((w+1:Nat):Int))= -1:=by rw[show(w:Int)-((w+1:Nat):Int)= -1 by omega];rfl
     have cD:dp.wrap (-1)= -1:=rfl;have fs:(cC (c+1) (fG (X (j+1)) R j i)).set (j+i) (.p (.int .i64 (-1)))=cC (c+1) (gn (X (j+1)) R (R+V) j i 0):=by
      refine uF _ _ (by rw[gn,if_pos rfl]) fun k _ hk=>?_;rw[gn,if_neg hk,if_neg (by omega)]
     have aE:(t:Int)-1=ae bT (a/b) j:=by rw[aO,aW];omega
     have cQ:dp.wrap ((t:Int)-1)=ae bT (a/b) j:=by rw[aE];have:=b7 aV (a/b) j;exact aM _ (by omega) (by omega)
     have ac:j<m+1:=by omega
     have cq:gn (X (j+1)) R (R+V) j i 0 (j+i)= -1:=by rw[gn,if_pos rfl]
     push_cast at am;simp[aT,aR,aI,aA,bn,lx,uw,am,aq,cD,cQ,aS,ac,fs,cq,ad,aJ,bB];refine lp (α:=Nat) (fun k=>⟨[(20,.p (.int .i64 k)),(19,.p (.int .i64 (cV bT R V k:Nat))),(14,.p (.int .i64 (ae bT (a/b) j:Nat))),(13,.p (.int .i64 j)),(12,.sl 3 0 1 0 (m+1)),(11,.sl 2 l 1 0 (c+1)),(10,.p (.int .i64 i)),(9,.p (.seq (s.map fun x:Nat=>.int .i64 x))),(8,.sl 0 0 1 0 1)],[.arr .frozen 0 1 [.p (.int .i64 f)],.hole,.arr .grow l 1 (cC (c+1) (gn (X (j+1)) R (R+V) j i k)),.arr .exact 0 1 (c7 (m+1) (qT (a/b) (j+1)))]⟩)
      (fun k=>k<=i) (fun k=>i-k) 0 (hu _) ?_ (he:=by simp[wJ])
     intro k hk;have cL:dp.wrap ((k:Int)+j)=(k:Int)+j:=aM _ (by omega) (by omega);have cB:((k:Int)+j).toNat=k+j:=by omega
     have cv:0<=(k:Int)+j:=by omega
     have cK:dp.wrap ((k:Int)+1)=(k:Int)+1:=aM _ (by omega) (by omega);obtain⟨q1,cx⟩:=pG aV R V k;have dg:=lr aV R V k;have q4:=lr aV R V (k+1);have dh:=b7 aV R k;have di:=b7 aV V k
     by_cases bc:k<i
     ·have vt:(k:Int)<i:=by omega
      have aB:k<s.length:=by omega
      have bm:=aY k aB;have cn:s[k]?=some (ae bT V k):=by rw[eq aB,bm]
      have b4:k+j<c+1:=by omega
      have ay:gn (X (j+1)) R (R+V) j i k (k+j)=(ae bT R k:Nat):=by rw[g8 k j,aCX bc]
      have aF:(cC (c+1) (gn (X (j+1)) R (R+V) j i k)).set (k+j) (.p (.int .i64 (ae bT (R+V) k:Nat)))=cC (c+1) (gn (X (j+1)) R (R+V) j i (k+1)):=by
       rw[g8 k j];exact uF _ _ (aC0 bc) fun x _ hx=>aC1 hx
      have aQ:((ae bT R k:Nat):Int)+(ae bT V k:Nat)+(cV bT R V k:Nat)=((ae bT R k+ae bT V k+cV bT R V k:Nat):Int):=by omega
      have ao:((ae bT R k+ae bT V k+cV bT R V k:Nat):Int).tmod 1000000000=(ae bT (R+V) k:Nat):=by
       rw[<-q1,dz (dq _),ec];rfl
      have ap:((ae bT R k+ae bT V k+cV bT R V k:Nat):Int).tdiv 1000000000=(cV bT R V (k+1):Nat):=by
       rw[<-cx,ea (dq _),ed];rfl
      rw[<-aQ]at ao ap;have cE:dp.wrap ((ae bT R k:Nat)+(ae bT V k:Nat))=(ae bT R k:Nat)+(ae bT V k:Nat):=aM _ (by omega) (by omega);have cF:dp.wrap ((ae bT R k:Nat)+(ae bT V k:Nat)+(cV bT R V k:Nat))=(ae bT R k:Nat)+(ae bT V k:Nat)+(cV bT R V k:Nat):=aM _ (by omega) (by omega);have cG:dp.wrap (ae bT (R+V) k:Nat)=(ae bT (R+V) k:Nat):=by have:=b7 aV (R+V) k;exact aM _ (by omega) (by omega)
      have cH:dp.wrap (cV bT R V (k+1):Nat)=(cV bT R V (k+1):Nat):=aM _ (by omega) (by omega);simp[vt,aB,bm,cn,cL,cB,cv,b4,ay,aF,lx,cE,cF,cG,cH,ao,ap,cK,ad,aJ,bB];exact rd (k+1) (show k+1<=i by omega)
     ·have b3:k=i:=by omega
      subst b3;have cr:gn (X (j+1)) R (R+V) j k k (j+k)= -1:=by rw[gn,if_pos rfl]
      have cA:dp.wrap (-1+1)=0:=rfl;have aN:(c7 (m+1) (qT (a/b) (j+1))).set j (.p (.int .i64 (ae bT (a/b) j:Nat)))=c7 (m+1) (qT (a/b) j):=Cj;have bE:(cC (c+1) (gn (X (j+1)) R (R+V) j k k)).set (j+k) (.p (.int .i64 0))=cC (c+1) fun k=>(ae bT (X j) k:Nat):=by
       rw[uF _ (fun x=>if x=j+k then 0 else gn (X (j+1)) R (R+V) j k k x) (if_pos rfl) (fun x _ hx=>if_neg hx)];refine a7 _ fun x _=>?_
       by_cases hk:x=j+k
       ·rw[if_pos hk,if_pos hk];rfl
       ·rw[if_neg hk,if_neg hk,gn,if_neg hk]
        by_cases z:j<=x/\x<j+k
        ·rw[if_pos z,if_pos z,cy (x-j) (by omega)]
        ·rw[if_neg z,if_neg z,fG,if_neg z]
      rw[aP];simp[aT,aR,aI,aA,cr,lx,uw,cA,aq,aS,ac,bE,aN,ad,aJ,bB];exact rd j (show j<=m+1 by omega)
 rintro⟨bD,bV⟩ ⟨br,E,P,Q,F,T⟩;dsimp only at E P Q F T;subst T;have a0:X 0=a% b*f:=by rw[J,g9,hv,I,Nat.mul_mod_mul_right]
 have bH:a/b<bT^(m+1):=by
  rw[gc K];refine gg a3 ?_;rw[show c=m+1+k by omega,ha];exact hm _ ax
 obtain⟨df,bd,b9,aX⟩:=K4 (m:=m+1) (N:=a/b) bH (by omega);have a1:X 0<bT^n:=gg (by have:=Y 0;rwa [g9,hv]at this) (hG W);obtain⟨O,da,af,ca,au⟩:∃O:List Nat,O=(ew (c+1)).map (ae bT (X 0))/\O.length=c+1/\c7 (c+1) (ae bT (X 0))=O.map (AV.p∘fun x:Nat=>PV.int .i64 x)/\az prog 265 [.seq (iP (O.take n))] (eT (X 0)):=by
  refine⟨_,rfl,by simp,A1 _ _,?_⟩;have e:((ew (c+1)).map (ae bT (X 0))).take n=(ew n).map (ae bT (X 0)):=Kf (by omega) fun k hk=>rfl;rw[e];have H:=sB ((ew n).map (ae bT (X 0))) (by simp;omega);rw[show dS ((ew n).map (ae bT (X 0)))=an bT (X 0)from ja aV a1]at H;exact H
 have L:=GY (X 0) f f0 f1 (by
  have:=dB aV n (X 0) a1;omega)
 rw[a0,Nat.mul_div_cancel _ f0]at L;rw[a0]at au;rw[<-OK,ca,b9]at*;simp only[eT,ct,cu,iP]at aX au L⊢;have aC:¬O=[]:=by intro h;rw[h]at af;simp at af
 have be:n<=c+1:=by omega
 simp[E,P,Q,F,af,aC,be];refine ep au (by simp[af,be,aC];first|exact⟨rfl,rfl⟩|rfl) (by simp[aC];first|exact⟨rfl,rfl⟩|rfl) ?_ (h1:=by simp[List.map_take]);simp[E,ad,aJ,bB];refine e2 L ?_;simp[F];refine⟨by repeat' first|rfl|apply And.intro,?_⟩;refine cp aX (by simp[bd];first|exact⟨rfl,rfl⟩|rfl) ?_ (h1:=by simp[e6,bd]);simp
theorem Th(n:Nat):dS (an bT n)=an bT n:=by
 have h:=BI aV (l:=an bT n) (fun d a=>by
  obtain⟨i,hi,rfl⟩:=List.getElem_of_mem a;rw[dW aV hi];exact b7 aV _ _)
 rw[<-h,IJ aV]
theorem pE(neg:Bool)(n:Nat)(h:(an bT n).length<=1048576):az prog 256 [.bool neg,eT n] (eG (if neg=true then -(n:Int)else n)):=Bb neg (an bT n) n (Th n) h
theorem I6(a b:Nat)(g:(an bT a).length<=400000)(h:(an bT b).length<=400000):az prog 101 [eT a,eT b] (eT (hC a b)):=by
 refine aL nf D6 mix (by simp[f101]) ?_;simp[f101];refine lp (α:=Nat×Nat) (fun x=>⟨[(1,.p (eT x.2)),(0,.p (eT x.1))],[]⟩)
  (fun x=>(an bT x.1).length<=400000/\(an bT x.2).length<=400000/\hC x.1 x.2=hC a b) (fun x=>x.2) (a,b) ⟨g,h,rfl⟩ ?_
 rintro⟨x,y⟩ ⟨e,d,c⟩;dsimp only at e d c
 by_cases hy:y=0
 ·subst hy;rw[hN]at c;rw[<-c];simp[eT,yP]
 ·have i:0<(an bT y).length:=by
   rw[fb,Ne,ug];exact hy
  have f:=Cw x y (by omega) e d;have j:=gt x (show 0<y by omega);simp[eT,i];refine c2 f ?_;simp;exact rd (y,x% y) ⟨d,by have:=dB aV _ _ (g1 j (bZ aV y));dsimp only;omega,by rw[<-c,hp y,<-hT,hp]⟩ (by dsimp only;omega) (he:=by simp[eT])
theorem Ww(a b:Nat)(h:a<9223372036854775808)(i:b<9223372036854775808):az prog 181 [.int .i64 a,.int .i64 b] (.int .i64 (hC a b:Nat)):=by
 refine aL nf El mix (by simp[f181]) ?_;simp[f181];refine lp (α:=Nat×Nat) (fun x=>⟨[(1,.p (.int .i64 x.2)),(0,.p (.int .i64 x.1))],[]⟩)
  (fun x=>x.1<9223372036854775808/\x.2<9223372036854775808/\hC x.1 x.2=hC a b) (fun x=>x.2) (a,b) ⟨h,i,rfl⟩ ?_
 rintro⟨x,y⟩ ⟨g,d,c⟩;dsimp only at g d c
 by_cases f:y=0
 ·subst f;rw[hN]at c;rw[<-c];simp
 ·have m:(0:Int)<y:=by omega
  have e:0<y:=by omega
  have o:¬(y:Int)=0:=by omega
  have n:=gt x e;have k:(x:Int).tmod y=(x% y:Nat):=by rw[dz (dq _),ec]
  have l:dp.wrap ((x% y:Nat):Int)=(x% y:Nat):=aM _ (by omega) (by omega);generalize j:x% y=r at*;simp[e,f,k,l];exact rd (y,r) ⟨d,by dsimp only;omega,by rw[<-c,<-j,hp y,<-hT,hp]⟩ (by dsimp only;omega)
theorem V8{B a b x y K:Nat}(c:2<=B)(d:a<B^x)(e:b<B^y)(f:B^x<=B^K)(g:B^y<=B^K):a+b<B^(K+1):=by
 rw[gj];have:=hm (B^K) c;omega
theorem V7{a b K:Nat}(g:(an bT a).length<=K)(h:(an bT b).length<=K):(an bT (a+b)).length<=K+1:=by
 have c:=bZ aV a;have d:=bZ aV b;have e:=gm (show 0<bT by decide) g;have f:=gm (show 0<bT by decide) h;exact dB aV (K+1) (a+b) (V8 aV c d e f)
theorem WD(a b:Int)(l:(an bT a.natAbs).length<=400000)(o:(an bT b.natAbs).length<=400000):az prog 213 [eG a,eG b] (eG (a+b)):=by
 have m:=Wp a.natAbs b.natAbs (by omega) (by omega);have k:=GZ a.natAbs b.natAbs (by omega) (by omega);have q:(an bT (a.natAbs+b.natAbs)).length<=1048576:=by
  have r:=V7 l o;omega
 refine aL nf EN mix (by simp[f213]) ?_
 by_cases hs:(a<0↔b<0)
 ·have t:(decide (a<0)==decide (b<0))=true:=by simp[hs]
  have d:=pE (decide (a<0)) (a.natAbs+b.natAbs) q;have f:(if decide (a<0)=true then -((a.natAbs+b.natAbs:Nat):Int)else((a.natAbs+b.natAbs:Nat):Int))=a+b:=by
   by_cases h:a<0
   ·have:=hs.1 h;simp[h];omega
   ·have:¬b<0:=fun c=>h (hs.2 c);simp[h];omega
  rw[f]at d;generalize a+b=s at*;generalize a.natAbs+b.natAbs=n at*;have g:(a<0↔b<0)=True:=eq_true hs;simp only[eG]at d⊢;simp[f213,g,ad];refine e2 m ?_;simp[ad];refine e2 d ?_;simp[ad]
 ·have g:(a<0↔b<0)=False:=eq_false hs
  by_cases p:b.natAbs<=a.natAbs
  ·have i:0<=fk a.natAbs b.natAbs:=by
    have:=oK (a:=a.natAbs) (b:=b.natAbs);omega
   have j:=K5 a.natAbs b.natAbs p (by omega);have d:=pE (decide (a<0)) (a.natAbs-b.natAbs) (by
    have:=dB aV _ _ (g5 (hM a.natAbs b.natAbs) (bZ aV a.natAbs));omega)
   have f:(if decide (a<0)=true then -((a.natAbs-b.natAbs:Nat):Int)else((a.natAbs-b.natAbs:Nat):Int))=a+b:=by
    by_cases h:a<0
    ·have:¬b<0:=fun c=>hs ⟨fun _=>c,fun _=>h⟩;simp[h];omega
    ·have:b<0:=by
      rcases en b 0 with c|c
      ·exact c
      ·exact(hs ⟨fun e=>(h e).elim,fun e=>by omega⟩).elim
     simp[h];omega
   rw[f]at d;generalize a+b=s at*;generalize a.natAbs-b.natAbs=n at*;simp only[eG]at d⊢;simp[f213,g,ad];refine c2 k ?_;simp[i,ad];refine e2 j ?_;simp[ad];refine e2 d ?_;simp[ad]
  ·have i:¬0<=fk a.natAbs b.natAbs:=by
    have:=oK (a:=a.natAbs) (b:=b.natAbs);omega
   have j:=K5 b.natAbs a.natAbs (by omega) (by omega);have d:=pE (decide (b<0)) (b.natAbs-a.natAbs) (by
    have:=dB aV _ _ (g5 (hM b.natAbs a.natAbs) (bZ aV b.natAbs));omega)
   have f:(if decide (b<0)=true then -((b.natAbs-a.natAbs:Nat):Int)else((b.natAbs-a.natAbs:Nat):Int))=a+b:=by
    by_cases h:b<0
    ·have:¬a<0:=fun c=>hs ⟨fun _=>h,fun _=>c⟩;simp[h];omega
    ·have:a<0:=by
      rcases en a 0 with c|c
      ·exact c
      ·exact(hs ⟨fun e=>by omega,fun e=>(h e).elim⟩).elim
     simp[h];omega
   rw[f]at d;generalize a+b=s at*;generalize b.natAbs-a.natAbs=n at*;simp only[eG]at d⊢;simp[f213,g,ad];refine c2 k ?_;simp[i,ad];refine e2 j ?_;simp[ad];refine e2 d ?_;simp[ad]
theorem K6(a:Int)(d:(an bT a.natAbs).length<=400000):az prog 255 [eG a] (eG (-a)):=by
 have b:=pE (!decide (a<0)) a.natAbs (by omega);have c:(if(!decide (a<0))=true then -((a.natAbs:Nat):Int)else(a.natAbs:Nat))= -a:=by
  by_cases h:a<0
  ·simp[h];omega
  ·simp[h];omega
 rw[c]at b;refine aL nf Hy mix (by simp[f255]) ?_;generalize -a=s at*;simp only[eG]at b⊢;simp[f255,ad];refine c2 b ?_;simp[ad]
theorem uG(a b:Int)(g:(an bT a.natAbs).length+(an bT b.natAbs).length<=1000000):az prog 214 [eG a,eG b] (eG (a*b)):=by
 have f:=Cu a.natAbs b.natAbs g;have j:(an bT (a.natAbs*b.natAbs)).length<=1000000:=by
  have c:=bZ aV a.natAbs;have d:=bZ aV b.natAbs;have i:=dB aV ((an bT a.natAbs).length+(an bT b.natAbs).length) (a.natAbs*b.natAbs) (by rw[ha];exact hr c d);omega
 have e:=pE ((!(decide (a<0)==decide (b<0)))) (a.natAbs*b.natAbs) (by omega);have h:(if(!(decide (a<0)==decide (b<0)))=true then -((a.natAbs*b.natAbs:Nat):Int)else((a.natAbs*b.natAbs:Nat):Int))=a*b:=by
  by_cases c:a<0<;>by_cases d:b<0
  ·simp[c,d];rw[eb (ej c),eb (ej d),Int.neg_mul_neg]
  ·simp[c,d];rw[eb (ej c),ee (by omega),Int.neg_mul,eo]
  ·simp[c,d];rw[eb (ej d),ee (by omega),Int.mul_neg,eo]
  ·simp[c,d];rw[ee (by omega),ee (by omega)]
 rw[h]at e;refine aL nf EM mix (by simp[f214]) ?_;generalize a*b=s at*;generalize a.natAbs*b.natAbs=n at*;generalize hx:(!(decide (a<0)==decide (b<0)))=x at*;simp only[eG]at e⊢;simp[f214,ad];refine e2 f ?_;simp[hx,ad];refine e2 e ?_;simp[ad]
theorem T6:∀d:Nat,d<10->fv d (fd (d+1) [48,49,50,51,52,53,54,55,56,57])=[48+d]:=by decide
theorem wU(n a:Nat)(E:n<9223372036854775808)(J:a<=1000):az prog 182 [.int .i64 n,.int .i64 a] (.str (low (max a (nd n)) n)):=by
 have M:nd n<=19:=qH (g1 E (by decide));refine aL nf Ek mix (by simp[f182]) ?_;obtain⟨L,e⟩:∃L,L=max a (nd n):=⟨_,rfl⟩
 rw[<-e];obtain⟨g,b⟩:∃g:Nat->Nat,∀i,n/10^i=g i:=⟨_,fun _=>rfl⟩
 have B:g 0=n:=by rw[<-b,g9,hz]
 simp[f182];refine lp (α:=Nat) (fun i=>⟨[(0,.p (.int .i64 (g i:Nat))),(5,.p (.str (low i n))),(1,.p (.int .i64 a))],[]⟩)
  (fun i=>i<=L) (fun i=>L-i) 0 (hu _) ?_ (he:=by simp[low,B])
 intro i hi;have q:low (i+1) n=(48+g i% 10)::low i n:=by
  rw[g8,pY,b,rW];rfl
 have hq:g (i+1)=g i/10:=by rw[<-b,<-b,gj,g6]
 have N:g i<=n:=by rw[<-b];exact hB _ _
 have F:0<g i↔i<nd n:=by
  rw[<-b,nI,Nat.div_pos_iff];have:=gi (n:=i) (show 0<10 by decide);omega
 have l:=pX n i;have j:=T6 (g i% 10) (gt _ (by decide));have f:i<L↔0<g i\/i<a:=by rw[F,e];omega
 have G:=gt (g i) (show 0<10 by decide);have r:(g i:Int).tmod 10=(g i% 10:Nat):=by rw[dz (dq _),ec];rfl
 have t:(g i:Int).tdiv 10=(g (i+1):Nat):=by rw[hq,ea (dq _),ed (g i)];rfl
 have H:L<=1000:=by rw[e];omega
 generalize g i% 10=d at*;have m:fv d (48::fd d [49,50,51,52,53,54,55,56,57])=[48+d]:=j;generalize O:g i=z at*;generalize y:g (i+1)=A at*;generalize hs:low i n=s at*;have x:dp.wrap (A:Int)=A:=aM _ (by omega) (by omega);have v:dp.wrap (d:Int)=d:=aM _ (by omega) (by omega);have w:dp.wrap ((d:Int)+1)=d+1:=aM _ (by omega) (by omega);have u:((d:Int)+1).toNat=d+1:=by omega
 have K:min (d+1) 10-d+i<9223372036854775808:=by omega
 have I:(0:Int)<=d+1/\(d:Int)+1<=10/\(d:Int)<=max (d+1) 0:=by omega
 by_cases k:i<L
 ·by_cases c:0<z
  ·simp[c,r,t,x,v,w,u,j,l];refine⟨by omega,by omega,?_⟩;exact rd (i+1) (show i+1<=L by omega) (he:=by simp[y,q,m])
  ·have o:i<a:=by rcases f.1 k with h|h;exact(c h).elim;exact h
   simp[c,o,r,t,x,v,w,u,j,l];refine⟨by omega,by omega,?_⟩;exact rd (i+1) (show i+1<=L by omega) (he:=by simp[y,q,m])
 ·have c:¬0<z:=fun h=>k (f.2 (.inl h));have o:¬i<a:=fun h=>k (f.2 (.inr h));have C:s=low L n:=by rw[<-hs];congr 1;omega
  have D:¬L<a:=by omega
  simp[c,D,l,C,pX]
theorem UA{n i:Nat}(h:bT^(i+1)<=n):bm (n/bT^i)=bm (n/bT^(i+1))++low 9 (ae bT n i):=by
 have c:0<bT^i:=gi (by decide);have b:10^9<=n/bT^i:=by
  rw[hH c,fH];rw[gj]at h;exact h
 have a:=U8 b;have e1:n/bT^i/10^9=n/bT^(i+1):=by rw[g6,gj];rfl
 have e2:n/bT^i% 10^9=ae bT n i:=rfl;rw[e1,e2]at a;have d:0<n/bT^i:=gg (by decide) b;have e:0<n/bT^(i+1):=hw h (gi (by decide));rw[bm,bm,show max 1 (nd (n/bT^i))=nd (n/bT^i)by have:=yv d;omega,show max 1 (nd (n/bT^(i+1)))=nd (n/bT^(i+1))by have:=yv e;omega,a]
theorem BT(z:Int)(B:(an bT z.natAbs).length<=1000000):az prog 207 [eG z] (.str (cE z)):=by
 refine aL nf EP mix (by simp[f207]) ?_
 by_cases G:z=0
 ·subst G;have v:cE 0=[48]:=by rw[show(0:Int)=((0:Nat):Int)from rfl,tW,pJ]
  simp[f207,eG,eT,yP,ad,v]
 obtain⟨n,f⟩:∃n,z.natAbs=n:=⟨_,rfl⟩
 have N:0<n:=by omega
 have M:0<(an bT n).length:=by
  rw[fb,Ne,ug];omega
 obtain⟨k,hk⟩:∃k,(an bT n).length=k+1:=⟨(an bT n).length-1,by omega⟩
 have g:=bZ aV n;rw[hk]at g;have q:bT^k<=n:=by
  rcases gx n (bT^k)with h|h
  ·have:=dB aV k n h;omega
  ·exact h
 have m:∀i(h:i<(an bT n).length),(an bT n)[i]=ae bT n i:=fun i h=>dW aV h;have r:n/bT^k=ae bT n k:=by
  rw[ae,ge];rw[gc (gi (by decide)),fH,<-gj];exact g
 have P:0<ae bT n k:=by rw[<-r];exact hw q (gi (by decide))
 have c:=wU (ae bT n k) 1 (g1 (b7 aV n k) (by decide)) (by decide);rw[show low (max 1 (nd (ae bT n k))) (ae bT n k)=bm (n/bT^k)by rw[r];rfl]at c;have w:∀i,az prog 182 [.int .i64 (ae bT n i:Nat),.int .i64 (9:Nat)] (.str (low 9 (ae bT n i))):=fun i=>by
  have h:=wU (ae bT n i) 9 (g1 (b7 aV n i) (by decide)) (by decide);have K:nd (ae bT n i)<=9:=qH (b7 aV n i)
  rwa [show max 9 (nd (ae bT n i))=9 by omega]at h
 have a:bm (n/bT^0)=bm n:=by rw[g9,hz]
 have gG:∀i,i+1<=k->bm (n/bT^i)=bm (n/bT^(i+1))++low 9 (ae bT n i):=fun i hi=>UA (hd (gm (by decide) hi) q);have L:k<=1000000:=by rw[f]at B;omega
 have D:cE z=if z<0 then 45::bm n else bm n:=by rw[cE,f]
 have O:ae bT n k<bT:=b7 aV n k;have C:∀i,ae bT n i<bT:=fun i=>b7 aV n i;obtain⟨T,j⟩:∃T:Nat->List Nat,∀i,bm (n/bT^i)=T i:=⟨_,fun _=>rfl⟩
 have l:∀i,(T i).length<=9000000+9:=fun i=>by
  rw[<-j];refine hd (tV (k:=9*(k+1)) ?_ (by omega)) (by omega);rw[Nat.pow_mul];exact g5 (hB _ _) g
 simp only[j]at c a gG;rw[D];simp only[eG,f,eT,<-a];generalize hx:an bT n=x at*;have H:dp.wrap ((k:Int)+1-1)=k:=by rw[Int.add_sub_cancel];exact aM _ (by omega) (by omega)
 have I:dp.wrap (k:Int)=k:=aM _ (by omega) (by omega);have u:dp.wrap ((k:Int)+1-2)=(k:Int)-1:=by rw[aM _ (by omega) (by omega)];omega
 have A:¬(k:Int)+1=0:=by omega
 have e:k<x.length:=by omega
 have t:=m k e;have F:x[k]?=some (ae bT n k):=by rw[eq e,t]
 simp[f207,ad,hk,A,H,I,u,e,t,F];refine c2 c ?_;simp[ad,hk,u];refine lp (α:=Nat) (fun i=>⟨[(4,.p (.int .i64 ((i:Int)-1))),(3,.p (.str (T i))),(1,.ptr 0 [])],[.box false (.p (.st 166 [.bool (decide (z<0)),.seq (x.map fun x:Nat=>.int .i64 x)]))]⟩)
  (fun i=>i<=k) (fun i=>i) k (g7 _) ?_
 rintro i hi;have Q:=C i;rcases i with _|i
 ·by_cases o:z<0
  ·have b:=g5 (hJ (l 0) 1) (show 9000000+9+1<9223372036854775808 by decide);rw[a,g8]at b;simp[o,ad,a,b]
  ·simp[o,ad,a]
 ·have d:i<x.length:=by omega
  have s:=m i d;have E:x[i]?=some (ae bT n i):=by rw[eq d,s]
  have y:¬(i:Int)<0:=by omega
  have J:dp.wrap ((i:Int)-1)=(i:Int)-1:=aM _ (by omega) (by omega);have b:=g5 (hJ (l (i+1)) 9) (show 9000000+9+9<9223372036854775808 by decide);have aF:=gG i hi;simp[y,ad,d,s,E];refine c2 (w i) ?_;simp[J,pX];refine⟨b,?_⟩;exact rd i (show i<=k by omega) (he:=by simp[aF])
end Go.aw
