import Derived.Test.YtenbmieafgdjaaaGreatDoorMPE
/- Parts of a proof. -/
set_option linter.unusedSimpArgs false
set_option linter.unusedVariables false
set_option linter.unusedSectionVars false
open Go.Proofs.Tryz
open Bool renaming and_eq_true->b0, or_eq_true->b1
open Classical renaming choose_spec->b2, choose->b3, em->b4
open Go.IntKind renaming u64->b5, i64->cb, wrap_i64->cc
open Go.Lib renaming bitLen->ce
open Int renaming natAbs_mul->ck, natAbs_natCast->cv, lt_trichotomy->cx, natCast_mul->cy, lt_of_le_of_lt->c6, le_of_lt->c9, ediv_le_self->da, ediv_nonneg->db, natAbs_sign_of_ne_zero->dg, lt_or_le->dk
open List renaming getElem?_eq_getElem->dl, range->dp, exists_cons_of_ne_nil->dq, take_of_length_le->dz, length_nil->ea, map_congr_left->eb, range_one->ec, mem_range->ed, map_take->ee, map_cons->ei, map_nil->ej
open List.cons renaming injEq->en
open Nat renaming mul_comm->eo, mod_eq_of_lt->eq, lt_of_lt_of_le->ew, div_lt_iff_lt_mul->e6, pow_le_pow_right->e7, lt_of_le_of_lt->e8, mod_lt->e9, pow_succ->fb, pow_pos->fd, mul_le_mul_right->fl, mul_le_mul_left->fm, pow_zero->fv, mul_lt_mul_of_pos_right->fK, add_mul->gb, div_add_mod->gc, lt_or_ge->ge, pow_add->gg, add_mul_mod_self_right->gi, mul_lt_mul''->gj, div_le_self->gm, add_sub_cancel->gt, one_mul->gx, le_refl->gy, mul_assoc->g0, add_comm->g2, mul_right_comm->g3, div_eq_of_lt->g4, lt_trans->g5, div_div_eq_div_mul->g6, div_one->g7, div_mul_le_self->g8, zero_mul->g9, zero_add->ha, add_zero->hb, zero_le->hd, pow_one->hg, min_eq_left->hj, add_sub_cancel_left->hl, mul_mod_mul_right->ho, mul_div_mul_right->hp, add_mul_div_right->hr, mul_one->ht, mul_mod_mul_left->hu, eq_zero_or_pos->hv, lt_of_succ_lt->hw, mul_ne_zero->hy, mod_add_div->hz, lt_succ_iff->hA, mul_le_mul->hB, add_assoc->hC, zero_mod->hD, sub_zero->hE, gcd->hF, beq->hG, or_comm->hH, mul_add->hK, not_lt->hL
open Rat renaming divInt->hM, normalize_eq_mkRat->hN, sub_eq_add_neg->hO, num_eq_zero->hP
namespace Go.al
open Go.Proofs
set_option maxHeartbeats 4000000
set_option maxRecDepth 100000
theorem xP(n:Nat):b5.wrap (n:Int)=(n% wB:Nat):=by
 rw[show b5.wrap (n:Int)=(n:Int)% 18446744073709551616 from rfl];rfl
theorem vO(x s:Nat)(hs:s<64):b5.wrap ((x:Int)*2^(min s b5.bits))=(x*2^s% wB:Nat):=by
 rw[show b5.bits=64 from rfl,hj (by omega),<-xP];congr 1
theorem tu(x s:Nat)(hs:s<=64):(x:Int).fdiv (2^(min s b5.bits))=(x/2^s:Nat):=by
 rw[show b5.bits=64 from rfl,hj hs,show(2:Int)^s=((2^s:Nat):Int)by push_cast;rfl,Int.fdiv_eq_ediv_of_nonneg _ (Int.natCast_nonneg _)];rfl
theorem Dz(a b:Nat)(c:a<wB)(d:b<wB):b5.wrap ((a% 2^b5.bits|||b% 2^b5.bits:Nat):Int)=(a|||b:Nat):=by
 rw[show(2^b5.bits:Nat)=wB from rfl,eq c,eq d,xP,eq];exact Nat.or_lt_two_pow (n:=64) c d
def cu(a s i:Nat):Nat:=if i=0 then 0 else ae wB a (i-1)/2^(64-s)
def fV(a s i k:Nat):Nat:=if k<i then ae wB (a*2^s) k else if k=i then cu a s i else 0
theorem yj{s:Nat}(hs:s<64):2^s*2^(64-s)=wB:=by rw[<-gg,show s+(64-s)=64 by omega];rfl
theorem Kr(a s i:Nat)(hs:s<64):cu a s i|||(ae wB a i*2^s% wB)=ae wB (a*2^s) i:=by
 have c:0<2^s:=fd (by decide);have d:0<2^(64-s):=fd (by decide);have b:=yj hs;have hc:cu a s i<2^s:=by
  rw[cu];split
  ·exact c
  ·rw[e6 d,b];exact cq bh _ _
 have e:ae wB a i*2^s% wB=ae wB a i% 2^(64-s)*2^s:=by
  rw[<-b,eo,hu,eo]
 rw[hH,e,Cs hc,<-e];cases i with
 |zero=>rw[cu,if_pos rfl,hb,<-b];exact(Va a).symm
 |succ i=>rw[cu,if_neg (by omega),gt,<-b];exact(Vb c d a i).symm
theorem AD{n:Nat}{f g:Nat->Nat}(h:∀k,k<n->f k=g k):cg n f=cg n g:=by
 rw[cg,cg];exact eb fun k hk=>by rw[h k (ed.1 hk)]
theorem XJ(a s n:Nat)(hs:s<64)(h:ae wB a n=0):cu a s n=ae wB (a*2^s) n:=by
 rw[<-Kr a s n hs,h,g9,hD,Nat.or_zero]
theorem IV(a s:Nat)(hs:s<64)(A:(aq wB a).length<=1000000):b9 prog 332 [] [.p (eN a),.p (.int .i64 s)] [.arr .exact 0 1 (cg ((aq wB a).length+1) (ae wB (a*2^s)))] (.sl 0 0 1 0 ((aq wB a).length+1)):=by
 refine dW nf Mn mix (by simp[f332]) ?_;have C:∀i(h:i<(aq wB a).length),(aq wB a)[i]=ae wB a i:=fun i h=>eg bh h;have F:=@B0 a;simp only[eN];generalize aq wB a=x at*;obtain⟨n,c⟩:∃n,x.length=n:=⟨_,rfl⟩
 rw[c]at A;have J:cb.wrap ((n:Int)+1)=(n:Int)+1:=bY (by omega);simp[f332,c,J];refine⟨⟨by omega,by simp only[cC];omega⟩,?_⟩;rw[BA (f:=fV a s 0) (by intro j;simp[fV,cu])];refine lp (α:=Nat) (fun i=>⟨[(14,.p (.int .i64 i)),(13,.p (.int .i64 n)),(12,.p (.seq (x.map fun x:Nat=>.int .u64 x))),(5,.sl 0 0 1 0 (n+1)),(1,.p (.int .i64 s))],[.arr .exact 0 1 (cg (n+1) (fV a s i))]⟩)
  (fun i=>i<=n) (fun i=>n-i) 0 (by simp) ?_ (he:=by simp)
 intro i k1;have w:=bY (i:=i) (by omega)
 by_cases hi:i<n
 ·have l:i<x.length:=by rw[c];exact hi
  have hx:=C i l;have e:i<n+1:=by omega
  have o:=lW (fV a s i) e;have E:ae wB a i*2^s% wB<wB:=e9 _ (by decide);have B:fV a s i i<wB:=by
   rw[fV,if_neg (by omega),if_pos rfl,cu];split
   ·decide
   ·exact e8 (gm _ _) (cq bh _ _)
  have e1:=vO (ae wB a i) s hs;have e2:=Dz (fV a s i i) (ae wB a i*2^s% wB) B E;have e3:fV a s i i|||(ae wB a i*2^s% wB)=ae wB (a*2^s) i:=by rw[<-Kr a s i hs,fV,if_neg (by omega),if_pos rfl]
  rw[e3]at e2;have y:cb.wrap (64-(s:Int))=((64-s:Nat):Int):=by rw[aI _ (by omega) (by omega)];omega
  have e4:=tu (ae wB a i) (64-s) (by omega);have r:i+1<n+1:=by omega
  have u:=oD (n:=n+1) (i:=i) (f:=fV a s i) (g:=fun k=>if k=i then ae wB (a*2^s) i else fV a s i k) (if_pos rfl) (fun k hk=>if_neg hk);have G:=oD (n:=n+1) (i:=i+1) (v:=ae wB a i/2^(64-s)) (f:=fun k=>if k=i then ae wB (a*2^s) i else fV a s i k) (g:=fV a s (i+1)) (by
   simp[fV,cu]) (fun k hk=>by
   by_cases d:k=i
   ·subst d;simp[fV]
   ·simp only[fV,d,if_false]
    by_cases b:k<i
    ·rw[if_pos (by omega),if_pos b]
    ·rw[if_neg (by omega),if_neg hk,if_neg b])
  have D:=lW (n:=n+1) (fun k=>if k=i then ae wB (a*2^s) i else fV a s i k) r;have H:s=0->cg (n+1) (fun k=>if k=i then ae wB (a*2^s) i else fV a s i k)=cg (n+1) (fV a s (i+1)):=fun h=>by
   have K:ae wB a i/2^(64-s)=0:=by rw[h];exact g4 (cq bh _ _)
   refine AQ fun k=>?_
   by_cases d:k=i
   ·subst d;simp[fV]
   ·simp only[fV,d,if_false]
    by_cases b:k<i
    ·rw[if_pos b,if_pos (by omega)]
    ·by_cases q:k=i+1
     ·rw[q,if_neg (by omega),if_neg (by omega),if_pos rfl,cu,if_neg (by omega),gt,K]
     ·rw[if_neg b,if_neg (by omega),if_neg q]
  generalize ae wB a i*2^s% wB=L at*;generalize ae wB a i/2^(64-s)=M at*;generalize (fun k=>if k=i then ae wB (a*2^s) i else fV a s i k)=g1 at*;obtain⟨t,I⟩:∃t,t=64-s:=⟨_,rfl⟩
  rw[<-I]at y e4
  by_cases m:0<s
  ·simp[c,hi,e,l,hx,o,e1,e2,m,y,e4,w,u,r,D,G,ad,aL,bF];refine⟨⟨by rfl,by rfl,by rfl⟩,?_⟩;refine⟨by omega,?_⟩;exact rd (i+1) (show i+1<=n by omega)
  ·have z:s=0:=by omega
   simp[c,hi,e,l,hx,o,e1,e2,m,w,u,H z,ad,aL,bF];refine⟨⟨by rfl,by rfl,by rfl⟩,?_⟩;exact rd (i+1) (show i+1<=n by omega)
 have:i=n:=by omega
 subst this;simp[c];refine .inl (AD fun k hk=>?_);rw[fV]
 by_cases b:k<i
 ·rw[if_pos b]
 ·obtain rfl:k=i:=by omega
  rw[if_neg b,if_pos rfl,XJ a s k hs (F (by omega))]
theorem xi:∀(n x:Nat),x<=n->0<x->x<2^64->1<=ce x/\2^(ce x-1)<=x/\x<2^ce x
 |0,x,h,a,_=>by omega
 |n+1,x,h,a,c=>by
  have d:=Lib.bitLen_half x (by omega) c
  by_cases b:x=1
  ·subst b;decide
  ·obtain⟨i1,i2,i3⟩:=xi n (x/2) (by omega) (by omega) (by omega);rw[d];generalize ce (x/2)=L at*;obtain⟨k,rfl⟩:∃k,L=k+1:=⟨L-1,by omega⟩
   rw[show 1+(k+1)=k+2 by omega,show k+2-1=k+1 by omega,fb,fb];rw[fb]at i3;simp only[gt]at i2;omega
theorem Nc{x:Nat}(a:0<x)(h:x<2^64):ce x<=64:=by
 obtain⟨_,b,_⟩:=xi x x (gy _) a h;have:=(Nat.pow_lt_pow_iff_right (show 1<2 by decide)).1 (e8 b h);omega
def wH:Nat:=4294967296
theorem wHH:wH*wH=wB:=rfl
theorem JV{y:Nat}(a:0<y)(h:y<2^64):∃s,s<64/\ce y+s=64/\wB<=2*(y*2^s)/\y*2^s<wB:=by
 obtain⟨d,b,c⟩:=xi y y (gy _) a h;have e:=Nc a h;refine⟨64-ce y,by omega,by omega,?_,?_⟩
 ·have:=fl (2^(64-ce y)) b;rw[<-gg,show ce y-1+(64-ce y)=63 by omega]at this;simp only[wB];omega
 ·have:=fK c (fd (show 0<2 by decide) (n:=64-ce y));rw[<-gg,show ce y+(64-ce y)=64 by omega]at this;simp only[wB];omega
structure PL(hi lo y s:Nat) where
 Y:Nat
 v1:Nat
 v0:Nat
 T:Nat
 u:Nat
 u1:Nat
 u0:Nat
 q1:Nat
 R:Nat
 q0:Nat
 hY:Y=y*2^s
 eY:Y=v1*wH+v0
 zC:v1<wH
 kL:v0<wH
 tz:wH<=2*v1
 vT:T<Y
 zj:hi*2^s<wB
 DA:hi*2^s|||lo/2^(64-s)=T
 eu:u=lo*2^s% wB
 Da:u1=u/wH
 C9:u0=u% wH
 zB:u1<wH
 zA:u0<wH
 nK:q1=hq wH v1 v0 T u1
 zt:q1<wH
 eR:R=T*wH+u1-q1*Y
 vS:R<Y
 Pm:q1*Y<=T*wH+u1
 vC:q0=hq wH v1 v0 R u0
 zp:q0<wH
 Pk:q0*Y<=R*wH+u0
 B5:q1*wH+q0=(hi*wB+lo)/y
 rem:(R*wH+u0-q0*Y)/2^s=(hi*wB+lo)% y
theorem Yf{hi lo y:Nat}(o:hi<y)(H:y<wB)(B:lo<wB):∃s,s<64/\ce y+s=64/\Nonempty (PL hi lo y s):=by
 obtain⟨s,hs,w,J,m⟩:=JV (y:=y) (by omega) H;have g:=yj hs;have a:0<2^s:=fd (by decide);have x:0<2^(64-s):=fd (by decide);refine⟨s,hs,w,⟨?_⟩⟩;have e0:y*2^s=y*2^s/wH*wH+y*2^s% wH:=by rw[eo _ wH,gc]
 have E:y*2^s% wH<wH:=e9 _ (by decide);have F:y*2^s/wH<wH:=by rw[e6 (by decide)];exact m
 have G:wH<=2*(y*2^s/wH):=by simp only[wH,wB]at*;omega
 have A:lo/2^(64-s)<2^s:=by rw[e6 x,g];exact B
 have v:hi*2^s<wB:=g5 (fK o a) m;have h:hi*2^s+lo/2^(64-s)<y*2^s:=by
  have:=fl (2^s) (show hi+1<=y from o);rw[gb,gx]at this;omega
 have C:hi*2^s|||lo/2^(64-s)=hi*2^s+lo/2^(64-s):=Cs A
 have n:lo*2^s% wB/wH<wH:=by rw[e6 (by decide)];exact e9 _ (by decide)
 have b:lo*2^s% wB% wH<wH:=e9 _ (by decide);have i:(hi*wB+lo)*2^s=((hi*2^s+lo/2^(64-s))*wH+lo*2^s% wB/wH)*wH+lo*2^s% wB% wH:=by
  have e1:lo*2^s=lo/2^(64-s)*wB+lo*2^s% wB:=by
   have e2:lo*2^s/wB=lo/2^(64-s):=by
    rw[<-g,eo lo,Nat.mul_div_mul_left _ _ a]
   rw[<-e2,eo _ wB,gc]
  have e3:lo*2^s% wB=lo*2^s% wB/wH*wH+lo*2^s% wB% wH:=by rw[eo _ wH,gc]
  rw[gb,g3,e1,gb (_*wH),g0 (_+_) wH wH,wHH,gb];generalize hi*2^s*wB=I;rw[<-e1];generalize lo*2^s% wB=a2 at*;generalize lo/2^(64-s)*wB=a3 at*;omega
 have l:0<y*2^s:=by omega
 obtain⟨e,d⟩:=YV (Y:=y*2^s) (U:=(hi*wB+lo)*2^s) (c:=wH) l;have j:(hi*wB+lo)*2^s/wH=(hi*2^s+lo/2^(64-s))*wH+lo*2^s% wB/wH:=by
  rw[i,g2,hr _ _ (by decide),g4 b,ha]
 have k:(hi*wB+lo)*2^s% wH=lo*2^s% wB% wH:=by
  rw[i,g2,gi,eq b]
 rw[j,k,hp _ _ a]at e;rw[j,k,eo _ (2^s),eo y,hu]at d;rw[eo (2^s) y]at d;generalize z:y*2^s=Y at*;generalize hi*2^s+lo/2^(64-s)=T at*;generalize D:lo*2^s% wB=u at*;have t:=Lj (T:=T) (c:=wH) (u1:=u/wH) (v1:=Y/wH) (v0:=Y% wH);rw[<-e0]at t;have r:=Lj (T:=(T*wH+u/wH)% Y) (c:=wH) (u1:=u% wH) (v1:=Y/wH) (v0:=Y% wH);rw[<-e0]at r;have q:hq wH (Y/wH) (Y% wH) T (u/wH)=(T*wH+u/wH)/Y:=by rw[hq,<-e0]
 have p:hq wH (Y/wH) (Y% wH) ((T*wH+u/wH)% Y) (u% wH)=((T*wH+u/wH)% Y*wH+u% wH)/Y:=by rw[hq,<-e0]
 have f:(T*wH+u/wH)% Y<Y:=e9 _ l;exact{
  Y:=Y,v1:=Y/wH,v0:=Y% wH,T:=T,u:=u,u1:=u/wH,u0:=u% wH
  q1:=hq wH (Y/wH) (Y% wH) T (u/wH),R:=(T*wH+u/wH)% Y,q0:=hq wH (Y/wH) (Y% wH) ((T*wH+u/wH)% Y) (u% wH)
  hY:=z.symm,eY:=e0,zC:=F,kL:=E,tz:=G,vT:=h,zj:=v,DA:=C,eu:=D.symm,Da:=rfl,C9:=rfl,zB:=n,zA:=b
  nK:=rfl,zt:=NW (by rw[<-e0];exact h) n,eR:=t.symm,vS:=f
  Pm:=by rw[q];exact g8 _ _
  vC:=rfl,zp:=NW (by rw[<-e0];exact f) b
  Pk:=by rw[p];exact g8 _ _
  B5:=by rw[q,p,<-e]
  rem:=by rw[r,<-d,Nat.mul_div_cancel_left _ a]}
section
variable[Gl]{P:Program}{ag:FuncId->Bool}{q:Nat×Nat}
theorem qM{b:Code}{Q:bu->St->Prop}{s:St}{id:Nat}(R:St->Prop)(f:eE P ag q (.loop b) (qe id (qu R (fun _ _=>False))) s)(c:∀s',R s'->Q .normal s'):eE P ag q (.loop b) (qe id Q) s:=by
 refine mR _ (fun e s a=>?_) f;cases e with
 |normal=>exact c s a
 |exit i=>
  simp only[qe,nB]at a⊢
  by_cases d:i=id
  ·simp[d,qu]at a⊢;exact c s a
  ·simp[d,qu]at a
 |ret=>exact a.elim
end
theorem I3(a:Nat)(b:a<wB):b5.wrap ((a% 2^b5.bits&&&4294967295% 2^b5.bits:Nat):Int)=(a% wH:Nat):=by
 rw[show(2^b5.bits:Nat)=wB from rfl,eq b,show 4294967295% wB=2^32-1 from rfl,Nat.and_two_pow_sub_one_eq_mod,xP];rw[show(2:Nat)^32=wH from rfl,eq (ew (e9 _ (by decide)) (show wH<=wB by decide))]
theorem PJ{a b c:Int}{R:Nat}(h:a+b-c=R)(hR:R<wB):b5.wrap (b5.wrap (b5.wrap a+b)-b5.wrap c)=R:=by
 show(((a% 18446744073709551616+b)% 18446744073709551616)-c% 18446744073709551616)% 18446744073709551616=R;have:R<18446744073709551616:=hR;omega
theorem LA(hi lo y:Nat)(aE:hi<y)(aj:y<wB)(ah:lo<wB):az prog 330 [.int .u64 hi,.int .u64 lo,.int .u64 y] (.aD [.int .u64 ((hi*wB+lo)/y:Nat),.int .u64 ((hi*wB+lo)% y:Nat)]):=by
 refine aM nf Mo mix (by simp[f330]) ?_;have H:¬(y:Int)=0:=by omega
 have N:¬(y:Int)<=hi:=by omega
 have af:¬y<=hi:=by omega
 have ae:¬y=0:=by omega
 by_cases ad:hi=0
 ·subst ad;have ag:b5.wrap ((lo:Int)/y)=(lo:Int)/y:=fh _ (db (by omega) (by omega)) (c6 (da _ (by omega)) (by omega));have ay:(lo:Int).tmod y=(lo:Int)% y:=Int.tmod_eq_emod_of_nonneg (by omega);simp[f330,H,N,ae,af,ag,ay]
 obtain⟨s,hs,aT,⟨Y,b,v0,T,u,u1,u0,q1,R,q0,ac,eY,zC,kL,tz,vT,zj,DA,eu,Da,C9,zB,zA,nK,zt,eR,vS,Pm,vC,zp,Pk,B5,rem⟩⟩:=Yf aE aj ah;have aC:=Mw y aj;obtain⟨t,ai⟩:∃t,t=64-s:=⟨_,rfl⟩
 have O:wH=4294967296:=rfl;have aA:wB=18446744073709551616:=rfl;have X:Y<wB:=by
  rw[O]at zC kL eY;rw[aA];omega
 have av:b5.wrap (64-((ce y:Nat):Int))=s:=by rw[fh _ (by omega) (by omega)];omega
 have f2:b5.wrap (64-(s:Int))=t:=by rw[fh _ (by omega) (by omega)];omega
 have f3:b5.wrap ((y:Int)*2^(min s b5.bits))=Y:=by rw[vO y s hs,<-ac,eq X]
 have f4:(Y:Int).fdiv (2^(min 32 b5.bits))=b:=by
  rw[tu Y 32 (by omega)];rw[O]at kL eY;congr 1;omega
 have f5:b5.wrap ((hi:Int)*2^(min s b5.bits))=(hi*2^s:Nat):=by rw[vO hi s hs,eq zj]
 have f6:(lo:Int).fdiv (2^(min t b5.bits))=(lo/2^t:Nat):=tu lo t (by omega);have f7:=Dz (hi*2^s) (lo/2^t) zj (e8 (gm _ _) ah);rw[ai,DA,<-ai]at f7;have f8:b5.wrap ((lo:Int)*2^(min s b5.bits))=u:=by rw[vO lo s hs,<-eu]
 have aQ:u<wB:=by rw[eu];exact e9 _ (by decide)
 have f9:(u:Int).fdiv (2^(min 32 b5.bits))=u1:=by
  rw[tu u 32 (by omega)];congr 1;rw[Da];rfl
 have d:0<b:=by rw[O]at tz;omega
 have am:¬b=0:=by omega
 have an:¬(b:Int)=0:=by omega
 have aR:T<wB:=by omega
 generalize hi*2^s=aS at*;generalize lo/2^t=aU at*;have aI:T/b<=wH+1:=NU d (by rw[<-eY];exact vT) tz kL;have aO:T/b*b+T% b=T:=by rw[eo,gc]
 have aV:T% b<b:=e9 _ d;have aK:=Ll (T:=T) (u1:=u1) d kL zB;have aw:b5.wrap ((T:Int)/b)=(T/b:Nat):=by rw[fh _ (db (by omega) (by omega)) (c6 (da _ (by omega)) (by omega))];rfl
 generalize T/b=K at*;generalize T% b=ak at*;have ax:b5.wrap ((T:Int)-b5.wrap ((K:Int)*b))=ak:=by
  have e:((K*b:Nat):Int)=(K:Int)*b:=by push_cast;rfl
  rw[fh ((K:Int)*b) (by omega) (by omega),fh _ (by omega) (by omega)];omega
 have aa:=I3 Y X;have ab:=I3 u aQ;rw[show Y% wH=v0 by rw[eY,g2,gi,eq kL]]at aa;rw[<-C9]at ab;have a1:b<4294967296:=zC;have aZ:v0<4294967296:=kL;have aY:u1<4294967296:=zB;have aX:u0<4294967296:=zA;have a0:4294967296<=2*b:=tz;have aJ:R/b<=wH+1:=NU d (by rw[<-eY];exact vS) tz kL;have aP:R/b*b+R% b=R:=by rw[eo,gc]
 have aW:R% b<b:=e9 _ d;have aq:R<wB:=by omega
 have aL:=Ll (T:=R) (u1:=u0) d kL zA;have aF:b5.wrap ((R:Int)/b)=(R/b:Nat):=by rw[fh _ (db (by omega) (by omega)) (c6 (da _ (by omega)) (by omega))];rfl
 generalize R/b=L at*;generalize R% b=al at*;have aG:b5.wrap ((R:Int)-b5.wrap ((L:Int)*b))=al:=by
  have e:((L*b:Nat):Int)=(L:Int)*b:=by push_cast;rfl
  rw[fh ((L:Int)*b) (by omega) (by omega),fh _ (by omega) (by omega)];omega
 have ao:b5.wrap (b5.wrap (b5.wrap ((T:Int)*4294967296)+u1)-b5.wrap ((q1:Int)*Y))=R:=by
  refine PJ (h:=?_) (hR:=aq);have e1:((T*wH:Nat):Int)=(T:Int)*4294967296:=by push_cast;rfl
  have e2:((q1*Y:Nat):Int)=(q1:Int)*Y:=by push_cast;rfl
  omega
 have M2:b5.wrap (b5.wrap ((q1:Int)*4294967296)+q0)=((q1*wH+q0:Nat):Int):=by
  have H:q1*4294967296+q0<18446744073709551616:=by
   have N:q1<4294967296:=zt;have ag:q0<4294967296:=zp;omega
  rw[fh ((q1:Int)*4294967296) (by omega) (by omega),fh _ (by omega) (by omega)];push_cast;rfl
 obtain⟨Z,P⟩:∃Z,Z=R*wH+u0-q0*Y:=⟨_,rfl⟩
 have ar:Z<wB:=by
  have H:Z/2^s<y:=by rw[P,rem];exact e9 _ (by omega)
  rw[e6 (fd (by decide)),<-ac]at H;omega
 have ap:b5.wrap (b5.wrap (b5.wrap ((R:Int)*4294967296)+u0)-b5.wrap ((q0:Int)*Y))=Z:=by
  refine PJ (h:=?_) (hR:=ar);have e1:((R*wH:Nat):Int)=(R:Int)*4294967296:=by push_cast;rfl
  have e2:((q0*Y:Nat):Int)=(q0:Int)*Y:=by push_cast;rfl
  omega
 have M:=tu Z s (by omega);rw[P,rem]at M;rw[<-P]at M;rw[B5]at M2;simp[f330,H,N,ae,af,ad];refine c1 aC ?_;simp[av,f2,f3,f4,f5,f6,f7,f8,f9,am,an,aw,ax,aa,ab];refine qM (fun s'=>aN s'.env 15=.p (.int .u64 q1)/\aN s'.env 14=.p (.int .u64 u0)/\aN s'.env 13=.p (.int .u64 u1)/\aN s'.env 11=.p (.int .u64 T)/\aN s'.env 10=.p (.int .u64 v0)/\aN s'.env 9=.p (.int .u64 b)/\aN s'.env 8=.p (.int .u64 s)/\aN s'.env 2=.p (.int .u64 Y)/\s'.heap=[]) ?_ ?_
 ·refine lp (α:=Nat×Nat) (fun a=>⟨[(16,.p (.int .u64 a.2)),(15,.p (.int .u64 a.1)),(14,.p (.int .u64 u0)),(13,.p (.int .u64 u1)),(11,.p (.int .u64 T)),(10,.p (.int .u64 v0)),(9,.p (.int .u64 b)),(8,.p (.int .u64 s)),(2,.p (.int .u64 Y))],[]⟩) (fun a=>a.1*b+a.2=T/\hq wH b v0 T u1<=a.1/\a.2<wH/\a.1<=wH+1) (fun a=>a.1) (K,ak) ⟨aO,aK,by omega,aI⟩ ?_;rintro⟨x,r⟩ ⟨k1,k2,k3,k4⟩;dsimp only at k1 k2 k3 k4;have aH:r<4294967296:=k3;have W:x<=4294967297:=k4;have g:b5.wrap ((x:Int)*v0)=(x*v0:Nat):=by
   have:=hB W (show v0<=4294967295 by omega);rw[fh _ (by rw[<-cy];omega) (by rw[<-cy];omega)];push_cast;rfl
  have v:b5.wrap (4294967296*(r:Int))=4294967296*r:=fh _ (by omega) (by omega);have w:b5.wrap (4294967296*(r:Int)+u1)=4294967296*r+u1:=fh _ (by omega) (by omega);have m:b5.wrap ((r:Int)+b)=r+b:=fh _ (by omega) (by omega)
  by_cases i:4294967296<=x\/4294967296*r+u1<x*v0
  ·have j:=MG d (show 0<wH by decide) k1 k2 (i.imp (fun h=>⟨h,by rw[<-nK];exact zt⟩) id);obtain⟨k,rfl⟩:∃k,x=k+1:=⟨x-1,by
    rcases i with h|h
    ·omega
    ·rcases hv x with e|e
     ·rw[e]at h;omega
     ·omega⟩
   have l:b5.wrap (k:Int)=k:=fh _ (by omega) (by omega);have k5:k*b+(r+b)=T:=by rw[<-k1,gb];omega
   rw[gt]at j;have kB:k<=wH+1:=by omega
   by_cases Q:4294967296<=r+b
   ·have hq:=Kd d (by rw[<-eY];exact vT) kL k5 Q j;have f:(4294967296:Int)<=(r:Int)+b:=by omega
    rw[<-nK]at hq;subst hq;rcases ge (k+1) 4294967296 with hc|hc
    ·have n:((k:Int)+1<4294967296):=by omega
     have c:¬((4294967296:Int)<=(k:Int)+1):=by omega
     have o:(4294967296*(r:Int)+u1<((k+1)*v0:Nat)):=by omega
     have q:4294967296*r+u1<(k+1)*v0:=by omega
     generalize (k+1)*v0=J at*;push_cast at g;simp[g,v,w,l,m,n,c,o,q,f]
    ·have c:((4294967296:Int)<=(k:Int)+1):=by omega
     simp[l,m,c,f]
   ·have f:¬(4294967296:Int)<=(r:Int)+b:=by omega
    rcases ge (k+1) 4294967296 with hc|hc
    ·have n:((k:Int)+1<4294967296):=by omega
     have c:¬((4294967296:Int)<=(k:Int)+1):=by omega
     have o:(4294967296*(r:Int)+u1<((k+1)*v0:Nat)):=by omega
     have q:4294967296*r+u1<(k+1)*v0:=by omega
     generalize (k+1)*v0=J at*;push_cast at g;simp[g,v,w,l,m,n,c,o,q,f];exact rd (k,r+b) ⟨k5,j,show r+b<4294967296 by omega,kB⟩
    ·have c:((4294967296:Int)<=(k:Int)+1):=by omega
     simp[l,m,c,f];exact rd (k,r+b) ⟨k5,j,show r+b<4294967296 by omega,kB⟩
  ·have aD:¬4294967296<=x:=fun h=>i (.inl h);have U:¬4294967296*r+u1<x*v0:=fun h=>i (.inr h);have hq:=BU d (show 0<wH by decide) k1 k2 (hL.1 U);rw[<-nK]at hq;subst hq;have S:¬(4294967296:Int)<=x:=by omega
   have V:¬(4294967296*(r:Int)+u1<(x*v0:Nat)):=by omega
   generalize x*v0=J at*;simp[g,v,w,S,V]
 rintro⟨au,aB⟩ ⟨z,A,B,C,D,E,F,G,I⟩;dsimp only at z A B C D E F G I;subst I;simp[z,A,B,C,D,E,F,G,ao,am,an,aF,aG];refine qM (fun s'=>aN s'.env 18=.p (.int .u64 q0)/\aN s'.env 15=.p (.int .u64 q1)/\aN s'.env 17=.p (.int .u64 R)/\aN s'.env 14=.p (.int .u64 u0)/\aN s'.env 10=.p (.int .u64 v0)/\aN s'.env 9=.p (.int .u64 b)/\aN s'.env 8=.p (.int .u64 s)/\aN s'.env 2=.p (.int .u64 Y)/\s'.heap=[]) ?_ ?_
 ·refine lp (α:=Nat×Nat) (fun a=>⟨[(16,.p (.int .u64 a.2)),(18,.p (.int .u64 a.1)),(15,.p (.int .u64 q1)),(17,.p (.int .u64 R)),(14,.p (.int .u64 u0)),(10,.p (.int .u64 v0)),(9,.p (.int .u64 b)),(8,.p (.int .u64 s)),(2,.p (.int .u64 Y))],[]⟩) (fun a=>a.1*b+a.2=R/\hq wH b v0 R u0<=a.1/\a.2<wH/\a.1<=wH+1) (fun a=>a.1) (L,al) ⟨aP,aL,by omega,aJ⟩ ?_ (he:=by simp[z,A,B,C,D,E,F,G]);rintro⟨x,r⟩ ⟨k1,k2,k3,k4⟩;dsimp only at k1 k2 k3 k4;have aH:r<4294967296:=k3;have W:x<=4294967297:=k4;have g:b5.wrap ((x:Int)*v0)=(x*v0:Nat):=by
   have:=hB W (show v0<=4294967295 by omega);rw[fh _ (by rw[<-cy];omega) (by rw[<-cy];omega)];push_cast;rfl
  have v:b5.wrap (4294967296*(r:Int))=4294967296*r:=fh _ (by omega) (by omega);have w:b5.wrap (4294967296*(r:Int)+u0)=4294967296*r+u0:=fh _ (by omega) (by omega);have m:b5.wrap ((r:Int)+b)=r+b:=fh _ (by omega) (by omega)
  by_cases i:4294967296<=x\/4294967296*r+u0<x*v0
  ·have j:=MG d (show 0<wH by decide) k1 k2 (i.imp (fun h=>⟨h,by rw[<-vC];exact zp⟩) id);obtain⟨k,rfl⟩:∃k,x=k+1:=⟨x-1,by
    rcases i with h|h
    ·omega
    ·rcases hv x with e|e
     ·rw[e]at h;omega
     ·omega⟩
   have l:b5.wrap (k:Int)=k:=fh _ (by omega) (by omega);have k5:k*b+(r+b)=R:=by rw[<-k1,gb];omega
   rw[gt]at j;have kB:k<=wH+1:=by omega
   by_cases Q:4294967296<=r+b
   ·have hq:=Kd d (by rw[<-eY];exact vS) kL k5 Q j;have f:(4294967296:Int)<=(r:Int)+b:=by omega
    rw[<-vC]at hq;subst hq;rcases ge (k+1) 4294967296 with hc|hc
    ·have n:((k:Int)+1<4294967296):=by omega
     have c:¬((4294967296:Int)<=(k:Int)+1):=by omega
     have o:(4294967296*(r:Int)+u0<((k+1)*v0:Nat)):=by omega
     have q:4294967296*r+u0<(k+1)*v0:=by omega
     generalize (k+1)*v0=J at*;push_cast at g;simp[g,v,w,l,m,n,c,o,q,f]
    ·have c:((4294967296:Int)<=(k:Int)+1):=by omega
     simp[l,m,c,f]
   ·have f:¬(4294967296:Int)<=(r:Int)+b:=by omega
    rcases ge (k+1) 4294967296 with hc|hc
    ·have n:((k:Int)+1<4294967296):=by omega
     have c:¬((4294967296:Int)<=(k:Int)+1):=by omega
     have o:(4294967296*(r:Int)+u0<((k+1)*v0:Nat)):=by omega
     have q:4294967296*r+u0<(k+1)*v0:=by omega
     generalize (k+1)*v0=J at*;push_cast at g;simp[g,v,w,l,m,n,c,o,q,f];exact rd (k,r+b) ⟨k5,j,show r+b<4294967296 by omega,kB⟩
    ·have c:((4294967296:Int)<=(k:Int)+1):=by omega
     simp[l,m,c,f];exact rd (k,r+b) ⟨k5,j,show r+b<4294967296 by omega,kB⟩
  ·have aD:¬4294967296<=x:=fun h=>i (.inl h);have U:¬4294967296*r+u0<x*v0:=fun h=>i (.inr h);have hq:=BU d (show 0<wH by decide) k1 k2 (hL.1 U);rw[<-vC]at hq;subst hq;have S:¬(4294967296:Int)<=x:=by omega
   have V:¬(4294967296*(r:Int)+u0<(x*v0:Nat)):=by omega
   generalize x*v0=J at*;simp[g,v,w,S,V]
 rintro⟨au,aB⟩ ⟨z,A,B,C,D,E,F,G,I⟩;dsimp only at z A B C D E F G I;subst I;simp[z,A,B,C,D,E,F,G,M2,ap,M]
def dC(j n:Nat)(g f:Nat->Nat)(k:Nat):Nat:=if j<=k/\k<j+n then f (k-j)else g k
theorem rK{j:Nat}{g f:Nat->Nat}:dC j 0 g f=g:=by
 funext k;rw[dC,if_neg (by omega)]
theorem xw{m j i:Nat}{g f:Nat->Nat}{v:Nat}(a:f i=v):(cg m (dC j i g f)).set (j+i) (.p (.int .u64 v))=cg m (dC j (i+1) g f):=by
 refine oD ?_ fun k hk=>?_
 ·rw[dC,if_pos (by omega),hl,a]
 ·rw[dC,dC]
  by_cases h:j<=k/\k<j+i
  ·rw[if_pos h,if_pos (by omega)]
  ·rw[if_neg h,if_neg (by omega)]
theorem xy{m j i:Nat}{g f:Nat->Nat}(h:j+i<m):(cg m (dC j i g f))[j+i]?=some (.p (.int .u64 (g (j+i)))):=by
 rw[lW _ h,dC,if_neg (by omega)]
theorem VP{j n:Nat}{g f a:Nat->Nat}:dC j n (dC j n g f) a=dC j n g a:=by
 funext k;rw[dC,dC,dC];split<;>rfl
theorem YK(X V m j n:Nat)(t:(aq wB V).length=n)(G:2<=n)(bw:j+n+1<=m)(bA:m<=1000002)(a2:X<V*wB^(j+1)):
 b9 prog 333 [.arr .exact 0 1 (cg m (ae wB X))] [.sl 0 0 1 j (n+1),.p (eN V)] [.arr .exact 0 1 (cg m (ae wB (X% (V*wB^j))))] (.p (.int .u64 (X/(V*wB^j):Nat))):=by
 refine dW nf Fg mix (by simp[f333]) ?_;have l:=cj bh V;have I:wB^(n-1)<=V:=by
  rcases ge V (wB^(n-1))with h|h
  ·have:=dJ bh (n-1) V h;omega
  ·exact h
 rw[t]at l;have U:∀i(h:i<(aq wB V).length),(aq wB V)[i]=ae wB V i:=fun i h=>eg bh h;have aO:0<V:=Bl bh G I;obtain⟨W,w⟩:∃W,X/wB^j=W:=⟨_,rfl⟩
 have ag:W<V*wB:=by
  rw[<-w,e6 (fd (by decide)),g0,eo wB,<-fb];exact a2
 have T:W<wB^(n+1):=g5 ag (by rw[fb];exact fK l (by decide));have al:∀i,i<n+1->(cg m (ae wB X))[j+i]?=some (.p (.int .u64 (ae wB W i))):=fun i hi=>by rw[lW _ (by omega),<-w,pP]
 have a4:X/(V*wB^j)=W/V:=by rw[xe.2,w]
 have aR:∀f:Nat->Nat,(∀i,i<n+1->f i=ae wB (W% V) i)->cg m (dC j (n+1) (ae wB X) f)=cg m (ae wB (X% (V*wB^j))):=fun f hf=>AD fun k hk=>by
  rw[xe.1,w,Io bh,dC]
  by_cases u:k<j
  ·rw[if_neg (by omega),if_pos u]
  ·rw[if_neg u]
   by_cases H:k<j+(n+1)
   ·rw[if_pos (by omega),hf _ (by omega)]
   ·have e1:ae wB X k=0:=by
     obtain⟨e,rfl⟩:∃e,k=j+e:=⟨k-j,by omega⟩
     rw[<-pP,w];exact jd (ew T (e7 (by decide) (by omega)))
    have e2:ae wB (W% V) (k-j)=0:=jd (ew (e8 (Nat.mod_le _ _) T) (e7 (by decide) (by omega)));rw[if_neg (by omega),e1,e2]
 rw[a4];simp only[eN];generalize aq wB V=x at*;have aK:∀i,i<n->i<x.length:=fun i h=>by omega
 have e1:cb.wrap ((n:Int)-1)=((n-1:Nat):Int):=by rw[aI _ (by omega) (by omega)];omega
 have e2:cb.wrap ((n:Int)-2)=((n-2:Nat):Int):=by rw[aI _ (by omega) (by omega)];omega
 obtain⟨b,E⟩:∃b,b=n-1:=⟨_,rfl⟩
 obtain⟨d,an⟩:∃d,d=n-2:=⟨_,rfl⟩
 rw[<-E]at e1;rw[<-an]at e2;have F:=U b (by omega);have aT:=U d (by omega);have bm:b<x.length:=by omega
 have bn:d<x.length:=by omega
 have L:x[b]?=some (ae wB V b):=by rw[dl bm,F]
 have bl:x[d]?=some (ae wB V d):=by rw[dl bn,aT]
 have O:b<n:=by omega
 have Y:d<n:=by omega
 have R:b<n+1:=by omega
 have Z:d<n+1:=by omega
 have aE:=al n (by omega);have aF:=al b (by omega);have ac:=al d (by omega);have a9:n=b+1:=by omega
 have aJ:W/wB^n=ae wB W n:=by
  rw[ae,eq];rw[e6 (fd (by decide)),eo,<-fb];exact T
 have ah:W/wB^b=ae wB W n*wB+ae wB W b:=by rw[rB,<-a9,aJ]
 simp[f333,-br,t];rw[br];simp[-br,t];rw[br];simp[-br,t];rw[br];simp[-br,t];rw[br];simp[-br,t];refine join (fun s=>∃q r o:Nat,q*ae wB V b+(r+o*wB)=W/wB^b/\W/V<=q/\q<wB/\r<wB/\o<=1/\aN s.env 0=.sl 0 0 1 j (n+1)/\aN s.env 1=.p (.seq (x.map fun x:Nat=>.int .u64 x))/\aN s.env 5=.p (.int .i64 n)/\aN s.env 6=.p (.int .u64 q)/\aN s.env 7=.p (.int .u64 r)/\aN s.env 8=.p (.int .u64 o)/\s.heap=[.arr .exact 0 1 (cg m (ae wB X))]) ?_ ?_
 ·by_cases hc:ae wB V b<=ae wB W n
  ·have ai:(ae wB V b:Int)<=ae wB W n:=by omega
   simp[e1,e2,F,L,O,R,aE,aF,ai,t,ad,aL,bF];refine e3 (pV (ae wB W b) (ae wB V b) 0 (by omega)) ?_;simp;have aX:=cq bh W b;have aD:=cq bh V b;have aY:ae wB W n=ae wB V b:=by
    have:=(BV bh (by omega) l ag).1;rw[aJ,<-E]at this;omega
   refine⟨18446744073709551615,(ae wB W b+ae wB V b)% wB,(ae wB W b+ae wB V b)/wB,?_,?_,by decide,e9 _ (by decide),?_,rfl,rfl,rfl⟩
   ·rw[ah,aY];simp only[wB];omega
   ·have:=(BV bh (by omega) l ag).2;simp only[wB]at this;omega
   ·simp only[wB]at*;omega
  ·have ai:¬(ae wB V b:Int)<=ae wB W n:=by omega
   simp[e1,e2,F,L,O,R,aE,aF,ai,t,ad,aL,bF];refine e3 (LA (ae wB W n) (ae wB W b) (ae wB V b) (by omega) (cq bh _ _) (cq bh _ _)) ?_;simp;have aX:=cq bh W b;have aD:=cq bh V b;refine⟨(ae wB W n*wB+ae wB W b)/ae wB V b,(ae wB W n*wB+ae wB W b)% ae wB V b,0,?_,?_,?_,?_,by omega,rfl,rfl,rfl⟩
   ·rw[ah,g9,hb,eo,gc]
   ·rw[<-ah,E];exact Lo bh G I l
   ·rw[e6 (by omega)];have:=fl wB (show ae wB W n+1<=ae wB V b by omega);rw[gb,gx]at this;rw[eo wB];omega
   ·exact g5 (e9 _ (by omega)) aD
 rintro⟨aZ,a6⟩ ⟨q,r,o,k1,k2,k3,k4,k5,y,z,A,B,ar,au,K⟩;dsimp only at y z A B ar au K;subst K;simp[y,z,A,B,ar,au];refine qM (fun s=>∃q:Nat,W/V<=q/\q<=W/V+1/\q<wB/\aN s.env 0=.sl 0 0 1 j (n+1)/\aN s.env 1=.p (.seq (x.map fun x:Nat=>.int .u64 x))/\aN s.env 5=.p (.int .i64 n)/\aN s.env 6=.p (.int .u64 q)/\s.heap=[.arr .exact 0 1 (cg m (ae wB X))]) ?_ ?_
 ·have bc:q*ae wB V b+(r+o*wB)=W/wB^b/\W/V<=q/\q<wB/\r<wB/\o<=1:=⟨k1,k2,k3,k4,k5⟩
  clear k1 k2 k3 k4 k5;refine lp (α:=Nat×Nat×Nat) (fun a=>⟨[(8,.p (.int .u64 a.2.2)),(7,.p (.int .u64 a.2.1)),(6,.p (.int .u64 a.1)),(5,.p (.int .i64 n)),(1,.p (.seq (x.map fun x:Nat=>.int .u64 x))),(0,.sl 0 0 1 j (n+1))],[.arr .exact 0 1 (cg m (ae wB X))]⟩)
   (fun a=>a.1*ae wB V b+(a.2.1+a.2.2*wB)=W/wB^b/\W/V<=a.1/\a.1<wB/\a.2.1<wB/\a.2.2<=1) (fun a=>a.1) (q,r,o) bc ?_ (he:=by simp[y,z,A,B,ar,au])
  rintro⟨q,r,o⟩ ⟨k1,k2,k3,k4,k5⟩;dsimp only at k1 k2 k3 k4 k5
  by_cases ba:o=0
  ·subst ba;rw[g9,hb]at k1;have S:=xU q (ae wB V d) k3 (cq bh _ _);rw[show(18446744073709551616:Nat)=wB from rfl]at S;have bs:=gc (q*ae wB V d) wB;have bt:q*ae wB V d% wB<wB:=e9 _ (by decide);have aH:=fun h=>De bh G I l (by rw[<-E];exact k1) k3 (by rw[<-an];exact h);have aG:=fun h=>MI (q:=q) (r:=r) bh G I l (by rw[<-E];exact k1) (by rw[<-an];exact h);have bu:=cq bh W d;generalize q*ae wB V d% wB=lo at*;generalize q*ae wB V d/wB=hi at*;generalize q*ae wB V d=P at*;have v:=pV r (ae wB V b) 0 (by omega);simp[e1,e2,F,L,aT,bl,O,R,Y,Z,t];refine c2 S ?_;rcases Nat.lt_trichotomy hi r with h|h|h
   ·have hI:(hi:Int)<r:=by omega
    simp[hI];refine⟨q,k2,aH (by
     have:=fm wB (show hi+1<=r by omega);rw[hK,ht,eo wB r]at this;omega),k3,rfl⟩
   ·subst h
    by_cases bx:lo<=ae wB W d
    ·have hI:(lo:Int)<=ae wB W d:=by omega
     simp[hI,e2,ac,Y,Z];exact⟨q,k2,aH (by rw[eo hi];omega),k3,rfl⟩
    ·have hI:¬(lo:Int)<=ae wB W d:=by omega
     have J:=aG (by rw[eo hi];omega);have bd:0<q:=e8 (hd _) J;obtain⟨k,rfl⟩:∃k,q=k+1:=⟨q-1,by omega⟩
     have ap:b5.wrap (k:Int)=k:=fh _ (by omega) (by omega);simp[hI,e1,e2,ac,O,R,Y,Z,F,L,ap,ad,aL,bF];refine c3 v ?_;simp;have ax:=hz (hi+ae wB V b) wB;have ay:k*ae wB V b+((hi+ae wB V b)% wB+(hi+ae wB V b)/wB*wB)=W/wB^b:=by
      rw[eo _ wB,ax,<-k1,gb,gx,hC,g2 hi]
     have aA:=cq bh V b;have aB:(hi+ae wB V b)/wB<=1:=by
      have aC:=k4;simp only[wB]at aA aC⊢;omega
     exact rd (k,(hi+ae wB V b)% wB,(hi+ae wB V b)/wB) ⟨ay,hA.1 J,hw k3,e9 _ (by decide),aB⟩
   ·have hI:¬(hi:Int)<r:=by omega
    have a1:¬(hi:Int)=r:=by omega
    have a3:=fm wB (show r+1<=hi by omega);rw[hK,ht,eo wB r]at a3;have J:=aG (by omega);have bd:0<q:=e8 (hd _) J;obtain⟨k,rfl⟩:∃k,q=k+1:=⟨q-1,by omega⟩
    have ap:b5.wrap (k:Int)=k:=fh _ (by omega) (by omega);simp[hI,a1,e1,e2,ac,O,R,Y,Z,F,L,ap,ad,aL,bF];refine c3 v ?_;simp;have ax:=hz (r+ae wB V b) wB;have ay:k*ae wB V b+((r+ae wB V b)% wB+(r+ae wB V b)/wB*wB)=W/wB^b:=by
     rw[eo _ wB,ax,<-k1,gb,gx,hC,g2 r]
    have aA:=cq bh V b;have aB:(r+ae wB V b)/wB<=1:=by
     have aC:=k4;simp only[wB]at aA aC⊢;omega
    exact rd (k,(r+ae wB V b)% wB,(r+ae wB V b)/wB) ⟨ay,hA.1 J,hw k3,e9 _ (by decide),aB⟩
  ·have bb:o=1:=by omega
   subst bb;simp;exact⟨q,k2,De bh G I l (by rw[<-E];exact k1) k3 (Ln bh (by omega) k3),k3,rfl⟩
 rintro⟨aZ,a6⟩ ⟨q,k2,k3,k4,y,z,A,B,K⟩;dsimp only at y z A B K;subst K;have be:q*V<wB^(n+1):=Th k4 l;have aP:q*V<=W+wB^(n+1):=by omega
 obtain⟨D,af⟩:∃D,D=W+wB^(n+1)-q*V:=⟨_,rfl⟩
 have aS:∀i,i<n+1->az prog 292 [.int .u64 (ae wB W i),.int .u64 (ae wB (q*V) i),.int .u64 (eS wB (W+wB^(n+1)) (q*V) i)] (.aD [.int .u64 (ae wB D i),.int .u64 (eS wB (W+wB^(n+1)) (q*V) (i+1))]):=fun i hi=>by
  have h:=Mu aP i;rw[<-af,uy hi]at h;exact h
 have bg:∀i,(q*ae wB V i% wB+im wB V q i+0)% wB=ae wB (q*V) i/\b5.wrap (((q*ae wB V i/wB:Nat):Int)+((q*ae wB V i% wB+im wB V q i+0)/wB:Nat))=(im wB V q (i+1):Nat):=fun i=>by
  obtain⟨u,H⟩:=V4 (q:=q) (V:=V) bh i;have a0:=aCk (V:=V) bh k4 (i+1);rw[<-u,<-H];rw[<-H]at a0;generalize q*ae wB V i=P at*;generalize im wB V q i=c at*;have e:P/wB+(P% wB+c+0)/wB=(P+c)/wB:=by simp only[wB];omega
  refine⟨by simp only[wB];omega,?_⟩;rw[fh _ (by omega) (by omega)];omega
 have a5:=SR (V:=V) (q:=q) T be;have bf:=V6 bh k4 l;have bz:(cg m (ae wB X)).length=m:=KE _ _;simp[y,z,A,B];refine lp (α:=Nat) (fun i=>⟨[(105,.p (.int .i64 i)),(104,.p (.int .i64 n)),(12,.p (.int .u64 (im wB V q i:Nat))),(11,.p (.int .u64 (eS wB (W+wB^(n+1)) (q*V) i:Nat))),(6,.p (.int .u64 q)),(5,.p (.int .i64 n)),(1,.p (.seq (x.map fun x:Nat=>.int .u64 x))),(0,.sl 0 0 1 j (n+1))],[.arr .exact 0 1 (cg m (dC j i (ae wB X) (ae wB D)))]⟩)
  (fun i=>i<=n) (fun i=>n-i) 0 (by simp) ?_ (hn:=by simp[rK]) (he:=by simp[y,z,A,B,UC,As]) (hh:=by simp[rK])
 intro i k5;have bj:=bY (i:=i) (by omega)
 by_cases hi:i<n
 ·have N:i<x.length:=aK i hi;have M:=U i N;have ao:x[i]?=some (ae wB V i):=by rw[dl N,M]
  have S:=xU q (ae wB V i) k4 (cq bh _ _);rw[show(18446744073709551616:Nat)=wB from rfl]at S;have v:=pV (q*ae wB V i% wB) (im wB V q i) 0 (by omega);obtain⟨bo,bp⟩:=bg i;have aa:=aS i (by omega);rw[bo]at v;generalize q*ae wB V i% wB=lo at*;generalize q*ae wB V i/wB=bv at*;generalize (lo+im wB V q i+0)/wB=c' at*;have aj:i<n+1:=by omega
  have C:(cg m (dC j i (ae wB X) (ae wB D)))[j+i]?=some (.p (.int .u64 (ae wB W i))):=by rw[xy (by omega),<-w,pP]
  have ab:=xw (m:=m) (j:=j) (i:=i) (g:=ae wB X) (f:=ae wB D) rfl;simp[t,hi,M,ao];refine c2 S ?_;simp;refine c3 v ?_;simp[bp,aj,C];refine c3 aa ?_;simp[aj,C,ab,bj,ad,aL,bF];exact rd (i+1) (show i+1<=n by omega)
 have a7:i=n:=by omega
 subst a7;have C:(cg m (dC j i (ae wB X) (ae wB D)))[j+i]?=some (.p (.int .u64 (ae wB W i))):=by rw[xy (by omega),<-w,pP]
 have ab:=xw (m:=m) (j:=j) (i:=i) (g:=ae wB X) (f:=ae wB D) rfl;have aa:=aS i (by omega);rw[<-bf]at aa;simp[C];refine c3 aa ?_;rw[a5]
 by_cases aQ:q*V<=W
 ·obtain⟨aV,av⟩:=aBT aQ k3 aO k2;have ak:=aR (ae wB D) fun k hk=>by rw[af,<-av];exact aBP aQ hk
  have aw:(q:Int)=(W:Int)/V:=by rw[aV];rfl
  have am:(if W<q*V then 1 else 0:Nat)=0:=if_neg (by omega);rw[am];simp[C,ab,ak,<-aw,ad,aL,bF]
 ·obtain⟨aV,av⟩:=Wa (by omega) k3 aO k2;have aW:=av (wB^(i+1)) aP;rw[<-af]at aW;have ak:=aR (ae wB (D+V)) fun k hk=>by rw[aW,uy hk]
  have am:(if W<q*V then 1 else 0:Nat)=1:=if_pos (by omega);have aw:b5.wrap ((q:Int)-1)=(W:Int)/V:=by
   have e:((W/V:Nat):Int)=(W:Int)/V:=rfl;rw[<-e];generalize W/V=Q at*;rw[fh _ (by omega) (by omega)];omega
  rw[am];simp[C,ab,ad,aL,bF];refine lp (α:=Nat) (fun k=>⟨[(157,.p (.int .i64 k)),(156,.p (.int .i64 i)),(17,.p (.int .u64 (c8 wB D V k:Nat))),(6,.p (.int .u64 q)),(5,.p (.int .i64 i)),(1,.p (.seq (x.map fun x:Nat=>.int .u64 x))),(0,.sl 0 0 1 j (i+1))],[.arr .exact 0 1 (cg m (dC j k (dC j (i+1) (ae wB X) (ae wB D)) (ae wB (D+V))))]⟩)
   (fun k=>k<=i) (fun k=>i-k) 0 (by simp) ?_ (hn:=by simp[rK]) (he:=by simp[wW]) (hh:=by simp[rK])
  intro k k6;have bk:=bY (i:=k) (by omega);have gk:(cg m (dC j k (dC j (i+1) (ae wB X) (ae wB D)) (ae wB (D+V))))[j+k]?=some (.p (.int .u64 (ae wB D k))):=by rw[xy (by omega),dC,if_pos (by omega),hl]
  have aU:=xw (m:=m) (j:=j) (i:=k) (g:=dC j (i+1) (ae wB X) (ae wB D)) (f:=ae wB (D+V)) rfl;obtain⟨u,H⟩:=pC bh D V k
  by_cases hk:k<i
  ·have N:k<x.length:=aK k hk;have M:=U k N;have ao:x[k]?=some (ae wB V k):=by rw[dl N,M]
   have v:=pV (ae wB D k) (ae wB V k) (c8 wB D V k) (kX bh _ _ _);rw[u,H]at v;have aM:k<i+1:=by omega
   simp[t,hk,aM,M,ao,gk,ad,aL,bF];refine e3 v ?_;simp[aM,gk,aU,bk,ad,aL,bF];refine⟨⟨by rfl,by rfl,by rfl⟩,?_⟩;exact rd (k+1) (show k+1<=i by omega)
  have a8:k=i:=by omega
  subst a8;have bi:ae wB V k=0:=jd l;rw[bi,hb]at u;have bq:b5.wrap ((ae wB D k:Int)+(c8 wB D V k:Nat))=(ae wB (D+V) k:Nat):=by rw[<-Int.natCast_add,xP,u]
  simp[gk,aU,bq,aw,ak,VP,ad,aL,bF]
theorem VN{a b i:Nat}(c:0<b):(a/wB^(i+1)% b*wB+ae wB a i)/b=ae wB (a/b) i/\(a/wB^(i+1)% b*wB+ae wB a i)% b=a/wB^i% b:=by
 have e:=rB (B:=wB) a i;have g:=gc (a/wB^(i+1)) b;have f:a/wB^i=(a/wB^(i+1)% b*wB+ae wB a i)+a/wB^(i+1)/b*wB*b:=by
  rw[e];generalize ae wB a i=d;generalize a/wB^(i+1)/b=Q at*;generalize a/wB^(i+1)% b=R at*;rw[<-g,gb,eo b,g3 Q b wB];omega
 have j:(a/wB^(i+1)% b*wB+ae wB a i)/b<wB:=by
  rw[e6 c];have k:=cq bh a i;have h:=fl wB (show a/wB^(i+1)% b+1<=b from e9 _ c);rw[gb,gx]at h;rw[eo wB];omega
 constructor
 ·conv=>rhs;rw[ae,g6,eo b,<-g6,f,hr _ _ c,gi,eq j]
 ·rw[f,gi]
def qF(Q i k:Nat):Nat:=if i<=k then ae wB Q k else 0
theorem LI{m Q i:Nat}:(cg m (qF Q (i+1))).set i (.p (.int .u64 (ae wB Q i)))=cg m (qF Q i):=by
 refine oD ?_ fun k hk=>?_
 ·rw[qF,if_pos (gy _)]
 ·rw[qF,qF]
  by_cases h:i<=k
  ·rw[if_pos h,if_pos (by omega)]
  ·rw[if_neg h,if_neg (by omega)]
theorem KY{m Q:Nat}:cg m (qF Q 0)=cg m (ae wB Q):=AQ fun k=>by rw[qF,if_pos (hd _)]
theorem KZ{m Q:Nat}:List.replicate m (AV.p (.int .u64 0))=cg m (qF Q m):=by
 rw[BA (f:=fun _=>0) (fun _=>rfl)];exact AD fun k hk=>by rw[qF,if_neg (by omega)]
theorem Ca{m N:Nat}(h:N<wB^m)(b:m<=1048576):∃l:List Nat,l.length=m/\cg m (ae wB N)=l.map (AV.p∘fun x:Nat=>PV.int .u64 x)/\az prog 291 [.seq (eW l)] (eN N):=by
 refine⟨(dp m).map (ae wB N),by simp,BB m _,?_⟩;have a:=sq ((dp m).map (ae wB N)) (by simp;omega);rw[show dV ((dp m).map (ae wB N))=aq wB N from je bh h]at a;exact a
theorem oH{a b:Nat}:fA a b<0↔a<b:=by
 rw[fA];split
 ·simp[*]
 ·split<;>simp[*]
theorem TK(r:Nat):((r:Int)% 2^b5.bits).toNat=r% 2^b5.bits:=by
 rw[show b5.bits=64 from rfl];omega
theorem Yj{b d n a s V:Nat}(g:b/wB^a=d)(h:n=a+1)(hs:s<64)(o:wB<=2*(d*2^s))(i:d*2^s<wB)(f:V=b*2^s):V<wB^n/\wB^n<=2*V:=by
 have m:0<wB^a:=fd (by decide);have j:0<2^s:=fd (by decide);have k:b<(d+1)*wB^a:=by
  rw[<-g,gb,gx];exact Nat.lt_div_mul_add m
 have l:(d+1)*2^s<=wB:=by
  have c:=yj hs;have e:d<2^(64-s):=by
   rw[<-c,eo d]at i;exact Nat.lt_of_mul_lt_mul_left i
  rw[<-c,eo];exact fm _ e
 constructor
 ·rw[f,h,fb,eo _ wB];refine ew (fK k j) ?_;rw[g3];exact fl _ l
 ·rw[f,h,fb,eo _ wB];refine Nat.le_trans (fl _ o) ?_;have c:d*wB^a<=b:=by rw[<-g];exact g8 _ _
  have e:=fl (2^s) c;rw[g0 2,g3 d];exact fm _ e
theorem VF{a n b s V:Nat}(f:a<wB^b)(hs:s<64)(e:wB^n<=2*V)(i:n<=b):a*2^s<V*wB^(b-n+1):=by
 have d:2*2^s<=wB:=by
  have c:2^(s+1)<=2^64:=e7 (by decide) hs;rw[fb,eo]at c;exact c
 have g:=fl (wB^(b-n+1)) e;rw[<-gg,show n+(b-n+1)=b+1 by omega,fb,g0]at g;have c:=fm a d;have h:=fK f (show 0<wB by decide);rw[Nat.mul_left_comm]at c;generalize wB^b*wB=j at*;generalize V*wB^(b-n+1)=z2 at*;generalize a*2^s=z3 at*;generalize a*wB=z4 at*;clear d e f;omega
theorem Yk{a b n d c:Nat}(h:a<wB^c)(f:0<b)(i:n=d+1)(g:wB^d<=b)(j:n<=c):a/b<wB^(c-n+1):=by
 rw[e6 f];refine ew h ?_;have e:=fm (wB^(c-n+1)) g;rw[<-gg,show c-n+1+d=c by omega]at e;exact e
theorem VG{a b s k:Nat}(c:0<2^s):a*2^s% (b*2^s*wB^(k+1))/(b*2^s*wB^k)=ae wB (a/b) k:=by
 rw[fb,<-g0,Nat.mod_mul_right_div_self,<-g6,hp _ _ c,ae]
theorem KF{n N:Nat}{f g:Nat->Nat}(a:n<=N)(h:∀k,k<n->f k=g k):((dp N).map f).take n=(dp n).map g:=by
 rw[<-ee,List.take_range,hj a];exact eb fun k hk=>h k (ed.1 hk)
theorem Bs(a b:Nat)(A:0<b)(bf:(aq wB a).length<=1000000)(bN:(aq wB b).length<=1000000):az prog 287 [eN a,eN b] (.aD [eN (a/b),eN (a% b)]):=by
 refine aM nf Fj mix (by simp[f287]) ?_;have bj:=Gr a b (by omega) (by omega);simp[f287];refine c2 bj ?_
 by_cases I:a<b
 ·have G:=oH.2 I;simp[G,g4 I,eq I,eN,aq,mw]
 have G:¬fA a b<0:=fun h=>I (oH.1 h);have bm:∀i(h:i<(aq wB a).length),(aq wB a)[i]=ae wB a i:=fun i h=>eg bh h;have W:∀i(h:i<(aq wB b).length),(aq wB b)[i]=ae wB b i:=fun i h=>eg bh h;have B:=cj bh a;have q:=cj bh b
 by_cases K:(aq wB b).length=1
 ·rw[K,hg]at q;have Y:((aq wB b).length:Int)=1:=by omega
  obtain⟨l,C,L,z⟩:=Ca (m:=(aq wB a).length) (N:=a/b) (e8 (gm _ _) B) (by omega);have ax:=sq [a% b] (by simp);have bl:dV [a% b]=aq wB (a% b):=by
   have M:a% b<wB:=g5 (e9 _ A) q;have:=je bh (m:=1) (n:=a% b) (by rw[hg];exact M);rw[<-this,row,ec,ei,ej,ae,fv,g7,eq M]
  rw[bl]at ax;have bg:(aq wB b)[0]?=some b:=by
   rw[dl (by omega),W 0 (by omega),ae,fv,g7,eq q]
  have bi:∀h:0<(aq wB b).length,(aq wB b)[0]'h=b:=fun h=>by rw[W 0 h,ae,fv,g7,eq q]
  have aG:a/wB^(aq wB a).length% b=0:=by rw[g4 B,hD]
  simp only[eN]at z⊢;generalize aq wB (a/b)=bH at*;generalize aq wB (a% b)=aY at*;generalize aq wB a=x at*;generalize aq wB b=y at*;obtain⟨n,w⟩:∃n,x.length=n:=⟨_,rfl⟩
  rw[w]at C L aG bf;have e1:cb.wrap ((n:Int)-1)=n-1:=aI _ (by omega) (by omega);simp[G,K,Y,w,e1];refine⟨by simp only[cC];omega,?_⟩;rw[KZ (Q:=a/b)];refine lp (α:=Nat) (fun i=>⟨[(8,.p (.int .i64 ((i:Int)-1))),(7,.p (.int .u64 (a/wB^i% b:Nat))),(6,.sl 0 0 1 0 n),(1,.p (.seq (y.map fun x:Nat=>.int .u64 x))),(0,.p (.seq (x.map fun x:Nat=>.int .u64 x)))],[.arr .exact 0 1 (cg n (qF (a/b) i))]⟩)
   (fun i=>i<=n) (fun i=>i) n (gy _) ?_ (he:=by simp[aG])
  intro i k1
  by_cases hi:0<i
  ·obtain⟨k,rfl⟩:∃k,i=k+1:=⟨i-1,by omega⟩
   have e2:cb.wrap ((k:Int)-1)=k-1:=aI _ (by omega) (by omega);have aW:k<x.length:=by omega
   have hx:=bm k aW;have af:x[k]?=some (ae wB a k):=by rw[dl aW,hx]
   have aw:=LA (a/wB^(k+1)% b) (ae wB a k) b (e9 _ A) q (cq bh _ _);obtain⟨r,ah⟩:=VN (a:=a) (i:=k) A;rw[r,ah]at aw;have aK:=LI (m:=n) (Q:=a/b) (i:=k);have gk:=lW (n:=n) (qF (a/b) (k+1)) (show k<n by omega);have aJ:k<n:=by omega
   generalize a/wB^(k+1)% b=bI at*;simp[w,e2,hx,af,bg,bi,K,aJ,ad,aL,bF];refine e3 aw ?_;simp[aK,gk,e2,aJ,ad,aL,bF];refine⟨by rfl,?_⟩;exact rd k (show k<=n by omega)
  ·obtain rfl:i=0:=by omega
   simp[KY,L];refine cp z (by simp[C];exact⟨rfl,rfl⟩) ?_ (h1:=by simp[eW,dz,C]);simp;refine cp ax (by simp;exact⟨rfl,rfl⟩) ?_ (h1:=by simp[eW]);simp;exact bB.refl _
 have bQ:2<=(aq wB b).length:=by
  rcases ge (aq wB b).length 1 with h|h
  ·have e:(aq wB b).length=0:=by omega
   rw[e,fv]at q;omega
  ·omega
 have Y:¬((aq wB b).length:Int)=1:=by omega
 obtain⟨n,w⟩:∃n,(aq wB b).length=n:=⟨_,rfl⟩
 obtain⟨c,Z⟩:∃c,(aq wB a).length=c:=⟨_,rfl⟩
 obtain⟨o,aa⟩:∃o,n=o+1:=⟨n-1,by omega⟩
 have aE:wB^o<=b:=by
  rcases ge b (wB^o)with h|h
  ·have:=dJ bh o b h;omega
  ·exact h
 obtain⟨d,J⟩:∃d,d=ae wB b o:=⟨_,rfl⟩
 have aF:d<wB:=by rw[J];exact cq bh _ _
 have aD:b/wB^o=d:=by
  rw[J,ae,eq];rw[e6 (fd (by decide)),eo,<-fb,show o.succ=n from aa.symm,<-w];exact q
 have bk:0<d:=by rw[<-aD];exact Nat.div_pos aE (fd (by decide))
 obtain⟨s,hs,bM,bw,bx⟩:=JV bk aF;have aQ:=Mw d aF;obtain⟨V,E⟩:∃V,V=b*2^s:=⟨_,rfl⟩
 have D:0<2^s:=fd (by decide);have bd:b<=V:=by rw[E];exact Nat.le_mul_of_pos_right _ D
 have bc:0<V:=ew A bd;obtain⟨aB,be⟩:=Yj aD aa hs bw bx E;have aA:(aq wB V).length=n:=by
  have u:=dJ bh n V aB;rcases ge (aq wB V).length n with h|h
  ·have au:=ew (cj bh V) (e7 (show 0<wB by decide) (show(aq wB V).length<=o by omega));omega
  ·omega
 have z:=Ca (m:=n+1) (N:=V) (ew aB (e7 (by decide) (by omega))) (by omega);obtain⟨l,C,L,z⟩:=z;have ac:=IV b s hs (by omega);have ab:=IV a s hs (by omega);have ag:o<(aq wB b).length:=by omega
 have hx:=W o ag;have af:(aq wB b)[o]?=some d:=by rw[dl ag,hx,J]
 rw[w,<-E]at ac;rw[Z]at ab;have aS:n<=c:=by
  rcases ge c n with h|h
  ·have:=ew B (e7 (show 0<wB by decide) (show(aq wB a).length<=o by omega));omega
  ·exact h
 rw[Z]at B;have a5:=VF (n:=n) B hs be aS;have a7:=Yk (n:=n) B A aa aE aS;have a8:a% b<wB^n:=g5 (e9 _ A) (by rw[w]at q;exact q);have bA:dV ((dp n).map (ae wB (a% b)))=aq wB (a% b):=je bh a8;have gG:∀X j,j+n+1<=c+1->X<V*wB^(j+1)->_:=fun X j u au=>YK X V (c+1) j n aA (by omega) u (by omega) au;simp only[eN]at z⊢ab ac gG;generalize aq wB V=bG at*;generalize bC:aq wB (a/b)=bH at*;generalize bR:aq wB (a% b)=aY at*;generalize aq wB a=x at*;generalize aq wB b=y at*;have e1:cb.wrap ((n:Int)-1)=o:=by rw[aI _ (by omega) (by omega)];omega
 have bv:(64:Int)-(ce d:Nat)=s:=by omega
 rw[bv]at aQ;rw[<-J]at hx;have bp:¬(n:Int)=1:=by omega
 have bq:¬n=1:=by omega
 simp[G,K,Y,bp,bq,w,e1,hx,af,ag,ad,aL,bF];refine c1 aQ ?_;simp;refine Nq ac ?_;simp[L];refine cp z (by simp[C];exact⟨rfl,rfl⟩) ?_ (h1:=by simp[eW,dz,C]);simp;refine Nq ab ?_;obtain⟨m,aR⟩:∃m,m=c-n:=⟨_,rfl⟩
 have e2:cb.wrap ((c:Int)-n)=m:=by rw[aI _ (by omega) (by omega)];omega
 have e3:cb.wrap ((m:Int)+1)=m+1:=bY (by omega);simp[aA,Z,e2,e3];refine⟨⟨by omega,by simp only[cC];omega⟩,?_⟩;have av:a*2^s% (V*wB^(m+1))=a*2^s:=eq (by rw[aR];exact a5);rw[KZ (Q:=a/b)];refine qM (fun s'=>aN s'.env 9=.p (.int .i64 s)/\aN s'.env 11=.sl 1 0 1 0 (c+1)/\aN s'.env 12=.p (.int .i64 n)/\aN s'.env 13=.sl 2 0 1 0 (m+1)/\s'.heap=[.arr .frozen 0 1 (l.map (AV.p∘fun x:Nat=>PV.int .u64 x)),.arr .exact 0 1 (cg (c+1) (ae wB (a% b*2^s))),.arr .exact 0 1 (cg (m+1) (ae wB (a/b)))]) ?_ ?_
 ·refine lp (α:=Nat) (fun j=>⟨[(14,.p (.int .i64 ((j:Int)-1))),(13,.sl 2 0 1 0 (m+1)),(12,.p (.int .i64 n)),(11,.sl 1 0 1 0 (c+1)),(10,.p (.seq (bG.map fun x:Nat=>.int .u64 x))),(9,.p (.int .i64 s))],[.arr .frozen 0 1 (l.map (AV.p∘fun x:Nat=>PV.int .u64 x)),.arr .exact 0 1 (cg (c+1) (ae wB (a*2^s% (V*wB^j)))),.arr .exact 0 1 (cg (m+1) (qF (a/b) j))]⟩)
   (fun j=>j<=m+1) (fun j=>j) (m+1) (gy _) ?_ (hn:=by simp[av]) (hh:=by simp[av])
  intro j k1
  by_cases bP:0<j
  ·obtain⟨k,rfl⟩:∃k,j=k+1:=⟨j-1,by omega⟩
   have e4:cb.wrap ((k:Int)-1)=k-1:=aI _ (by omega) (by omega);have e5:cb.wrap ((k:Int)+n)=k+n:=aI _ (by omega) (by omega);have a0:cb.wrap ((k:Int)+n+1)=k+n+1:=aI _ (by omega) (by omega);have aK:=gG (a*2^s% (V*wB^(k+1))) k (by omega) (e9 _ (Nat.mul_pos bc (fd (by decide))));have hq:a*2^s% (V*wB^(k+1))/(V*wB^k)=ae wB (a/b) k:=by
    rw[E];exact VG D
   have M:a*2^s% (V*wB^(k+1))% (V*wB^k)=a*2^s% (V*wB^k):=by
    rw[fb,<-g0,Nat.mod_mul_right_mod]
   rw[hq,M]at aK;generalize a*2^s% (V*wB^(k+1))=X at*;generalize aC:a*2^s% (V*wB^k)=bJ at*;have a4:((k:Int)+n+1).toNat=k+n+1:=by omega
   have f2:(0:Int)<=(k:Int)+n+1:=by omega
   have f3:(k:Int)+n+1<=(c:Int)+1:=by omega
   have f4:k<=k+n+1:=by omega
   have f5:¬k=k+n+1:=by omega
   have f6:k+n+1-k=n+1:=by omega
   have f7:k<m+1:=by omega
   have gk:=lW (n:=m+1) (qF (a/b) (k+1)) f7;have bE:=LI (m:=m+1) (Q:=a/b) (i:=k);simp[e4,e5,a0,KE,a4,f2,f3,f4,f5,f6];rw[show(if k=0 then({v:=.sl 1 0 1 0 (k+n+1),aj:=[(1,.arr .exact 0 1 (cg (c+1) (ae wB X)))]}:aU)else{v:=.sl 1 0 1 k (n+1),aj:=[(1,.arr .exact 0 1 (cg (c+1) (ae wB X)))]})={v:=.sl 1 0 1 k (n+1),aj:=[(1,.arr .exact 0 1 (cg (c+1) (ae wB X)))]}by split<;>simp[*]];simp;refine⟨by omega,?_⟩;refine cf aK [1] ?_;simp[gk,bE,e4,f7,ad,aL,bF];exact rd k (show k<=m+1 by omega) (hn:=by simp[aC]) (hh:=by simp[aC])
  ·obtain rfl:j=0:=by omega
   have a6:a*2^s% V=a% b*2^s:=by rw[E,ho]
   simp[KY,a6]
 rintro⟨bK,bO⟩ ⟨ai,ak,al,am,aT⟩;dsimp only at ai ak al am aT;subst aT;obtain⟨R,H⟩:∃R,R=a% b*2^s:=⟨_,rfl⟩
 rw[<-H];simp[ai,ak,al,am];refine lp (α:=Nat) (fun i=>⟨[(97,.p (.int .i64 i)),(96,.p (.int .i64 n)),(13,.sl 2 0 1 0 (m+1)),(12,.p (.int .i64 n)),(11,.sl 1 0 1 0 (c+1)),(9,.p (.int .i64 s))],[.arr .frozen 0 1 (l.map (AV.p∘fun x:Nat=>PV.int .u64 x)),.arr .exact 0 1 (cg (c+1) (dC 0 i (ae wB R) (ae wB (a% b)))),.arr .exact 0 1 (cg (m+1) (ae wB (a/b)))]⟩)
  (fun i=>i<=n) (fun i=>n-i) 0 (hd _) ?_ (hn:=by simp[rK]) (he:=by simp[ai,ak,al,am]) (hh:=by simp[rK])
 intro i k1;have O:=bY (i:=i) (by omega)
 by_cases hi:i<n
 ·have F:i<c+1:=by omega
  have aH:i+1<c+1:=by omega
  have ap:(cg (c+1) (dC 0 i (ae wB R) (ae wB (a% b))))[i]?=some (.p (.int .u64 (ae wB R i))):=by
   have:=xy (m:=c+1) (j:=0) (i:=i) (g:=ae wB R) (f:=ae wB (a% b)) (by omega)
   rwa [ha]at this
  have an:=tu (ae wB R i) s (by omega);have bo:i<c:=by omega
  by_cases ar:0<s
  ·obtain⟨t,bz⟩:∃t,t=64-s:=⟨_,rfl⟩
   have a2:cb.wrap (64-(s:Int))=(t:Int):=by rw[aI _ (by omega) (by omega)];omega
   have a3:=vO (ae wB R (i+1)) t (by omega);have aK:=yj hs;rw[<-bz]at aK;have ba:0<2^t:=fd (by decide);have bu:ae wB R i/2^s<2^t:=by rw[e6 D,eo,aK];exact cq bh _ _
   have aV:ae wB R (i+1)*2^t% wB=ae wB R (i+1)% 2^s*2^t:=by rw[<-aK,ho]
   have bt:ae wB R i/2^s|||(ae wB R (i+1)*2^t% wB)=ae wB (a% b) i:=by
    have u:=aCB D ba R i;rw[aK,H,Nat.mul_div_cancel _ D,<-H]at u;rw[hH,aV,Cs bu,<-aV,u,g2]
   have T:=Dz (ae wB R i/2^s) (ae wB R (i+1)*2^t% wB) (e8 (gm _ _) (cq bh _ _)) (e9 _ (by decide));rw[bt]at T;generalize ae wB R i/2^s=r at*;generalize ae wB R (i+1)*2^t% wB=ah at*;have aZ:b5.wrap ((r% 2^b5.bits|||((ah:Int)% 2^b5.bits).toNat:Nat):Int)=(ae wB (a% b) i:Nat):=by
    rw[TK];exact T
   have S:=oD (n:=c+1) (i:=i) (v:=r) (f:=dC 0 i (ae wB R) (ae wB (a% b))) (g:=fun k=>if k=i then r else dC 0 i (ae wB R) (ae wB (a% b)) k) (if_pos rfl) (fun k hk=>if_neg hk);have U:=lW (n:=c+1) (fun k=>if k=i then r else dC 0 i (ae wB R) (ae wB (a% b)) k) F;have ao:=lW (n:=c+1) (fun k=>if k=i then r else dC 0 i (ae wB R) (ae wB (a% b)) k) aH;rw[if_pos rfl]at U;rw[if_neg (by omega),dC,if_neg (by omega)]at ao;have bD:=oD (n:=c+1) (i:=i) (v:=ae wB (a% b) i) (f:=fun k=>if k=i then r else dC 0 i (ae wB R) (ae wB (a% b)) k) (g:=dC 0 (i+1) (ae wB R) (ae wB (a% b))) (by rw[dC,if_pos (by omega),hE]) (fun k hk=>by
    rw[if_neg hk,dC,dC]
    by_cases h:k<i
    ·rw[if_pos (by omega),if_pos (by omega)]
    ·rw[if_neg (by omega),if_neg (by omega)])
   generalize (fun k=>if k=i then r else dC 0 i (ae wB R) (ae wB (a% b)) k)=bL at*;simp[hi,F,ap,an,ar,O,S,ad,aL,bF];simp[F,aH,bo,a2,O,U,ao,ad,aL,bF];simp[a3,T,aZ,F,O,bD,U,ad,aL,bF];refine⟨by omega,⟨by rfl,by rfl,by rfl,by rfl,by rfl⟩,?_⟩;exact rd (i+1) (show i+1<=n by omega)
  ·have aX:s=0:=by omega
   have a9:ae wB R i=ae wB (a% b) i:=by rw[H,aX,fv,ht]
   have S:=xw (m:=c+1) (j:=0) (i:=i) (g:=ae wB R) (f:=ae wB (a% b)) (v:=ae wB R i) a9.symm;rw[ha]at S;have a1:(ae wB R i:Int).fdiv (2^(min s b5.bits))=(ae wB R i:Nat):=by rw[an,aX,fv,g7]
   simp[hi,F,ap,ar,O,S,a1,ad,aL,bF];exact rd (i+1) (show i+1<=n by omega)
 obtain rfl:i=n:=by omega
 obtain⟨bS,aO,br,ay⟩:=Ca (m:=m+1) (N:=a/b) (by rw[aR];exact a7) (by omega);obtain⟨P,aP,bs,bb⟩:∃P:List Nat,P.length=c+1/\cg (c+1) (dC 0 i (ae wB R) (ae wB (a% b)))=P.map (AV.p∘fun x:Nat=>PV.int .u64 x)/\az prog 291 [.seq (eW (P.take i))] (.seq (aY.map fun x:Nat=>.int .u64 x)):=by
  refine⟨(dp (c+1)).map (dC 0 i (ae wB R) (ae wB (a% b))),by simp,BB _ _,?_⟩;have e:((dp (c+1)).map (dC 0 i (ae wB R) (ae wB (a% b)))).take i=(dp i).map (ae wB (a% b)):=by
   exact KF (by omega) fun k hk=>by rw[dC,if_pos (by omega),hE]
  rw[e];have u:=sq ((dp i).map (ae wB (a% b))) (by simp;omega);rw[bA]at u;exact u
 simp only[eN,bC]at ay;simp[br,bs];refine ep ay (by simp[aO];exact⟨rfl,rfl⟩) (by simp;exact⟨rfl,rfl⟩) ?_ (h1:=by simp[eW,dz,aO]);simp[aP];refine⟨by omega,?_⟩;have bn:i<=c+1:=by omega
 refine ep bb (by simp[aP,bn];exact⟨rfl,rfl⟩) (by simp;exact⟨rfl,rfl⟩) ?_ (h1:=by simp[eW,ee]);simp;rfl
def bL(k:Nat)(q:Rat):Prop:=q.num.natAbs<2^k/\q.den<2^k
theorem bL.mono{k l:Nat}{q:Rat}(h:bL k q)(a:k<=l):bL l q:=
 ⟨ew h.1 (e7 (by omega) a),ew h.2 (e7 (by omega) a)⟩
theorem kV{n:Int}{d:Nat}(h:d≠0):(hM n d).num=n/(hF n.natAbs d:Nat)/\(hM n d).den=d/hF n.natAbs d:=by
 have:hM n d=Rat.normalize n d h:=by
  rw[hN];rfl
 rw[this,Rat.normalize_eq h];exact⟨rfl,rfl⟩
theorem Bx{n:Int}{d k:Nat}(h:d≠0)(a:n.natAbs<2^k)(b:d<2^k):bL k (hM n d):=by
 obtain⟨e1,e2⟩:=kV (n:=n) h;refine⟨?_,?_⟩
 ·rw[e1];refine e8 ?_ a;rw[Int.natAbs_ediv_of_dvd (Int.ofNat_dvd_left.2 (Nat.gcd_dvd_left _ _))];exact gm _ _
 ·rw[e2];exact e8 (gm _ _) b
theorem yE{a b:Nat}{x y:Rat}(h:bL a x)(c:bL b y):bL (a+b+1) (x+y):=by
 have e:x+y=hM (x.num*y.den+y.num*x.den) ((x.den*y.den:Nat):Int):=by rw[Rat.add_def'];rfl
 rw[e];have e1:2^(a+b+1)=2^a*2^b+2^a*2^b:=by rw[fb,gg];omega
 refine Bx (hy x.den_nz y.den_nz) ?_ ?_
 ·rw[e1];refine e8 (Int.natAbs_add_le _ _) ?_;rw[ck,ck,cv,cv];have f:=gj h.1 c.2;have d:=gj c.1 h.2;rw[eo (2^b)]at d;omega
 ·have:=gj h.2 c.2;rw[e1];omega
theorem sx{a:Nat}{x:Rat}(h:bL a x):bL a (-x):=by
 refine⟨by rw[Rat.neg_num,Int.natAbs_neg];exact h.1,by rw[Rat.neg_den];exact h.2⟩
theorem tX{a b:Nat}{x y:Rat}(h:bL a x)(c:bL b y):bL (a+b+1) (x-y):=by
 rw[hO];exact yE h (sx c)
theorem kA{a b:Nat}{x y:Rat}(h:bL a x)(c:bL b y):bL (a+b) (x*y):=by
 have e:x*y=hM (x.num*y.num) ((x.den*y.den:Nat):Int):=by
  rw[Rat.mul_def,hN];rfl
 rw[e];refine Bx (hy x.den_nz y.den_nz) ?_ ?_
 ·rw[ck,gg];exact gj h.1 c.1
 ·rw[gg];exact gj h.2 c.2
theorem U1{x:Rat}(h:x≠0):(x⁻¹).num=x.num.sign*x.den/\(x⁻¹).den=x.num.natAbs:=by
 have a:x.num≠0:=fun e=>h (hP.1 e);have e:x⁻¹=hM (x.num.sign*x.den) (x.num.natAbs:Nat):=by
  rw[Rat.inv_def];rcases cx x.num 0 with h|h|h
  ·have e1:x.num.sign= -1:=Int.sign_eq_neg_one_of_neg h;have e2:((x.num.natAbs:Nat):Int)= -x.num:=by omega
   rw[e1,e2,show(-1*(x.den:Int))= -(x.den:Int)by omega,Rat.divInt_neg',Int.neg_neg]
  ·exact(a h).elim
  ·have e1:x.num.sign=1:=Int.sign_eq_one_of_pos h;have e2:((x.num.natAbs:Nat):Int)=x.num:=by omega
   rw[e1,e2,Int.one_mul]
 have b:hF (x.num.sign*x.den).natAbs x.num.natAbs=1:=by
  rw[ck,dg a,gx,cv,Nat.gcd_comm];exact x.reduced
 obtain⟨e1,e2⟩:=kV (n:=x.num.sign*x.den) (d:=x.num.natAbs) (by omega);rw[e,e1,e2,b];simp
theorem aAc{a:Nat}{x:Rat}(h:bL a x):bL a x⁻¹:=by
 by_cases b:x=0
 ·subst b;have:(0:Rat)⁻¹=0:=Rat.inv_zero;rw[this];exact h
 ·obtain⟨e1,e2⟩:=U1 b;have c:x.num≠0:=fun e=>b (hP.1 e);refine⟨?_,by rw[e2];exact h.1⟩;rw[e1,ck,dg c,gx,cv];exact h.2
theorem Bw{k:Nat}{n:Int}(h:n.natAbs<2^k)(hk:0<k):bL k (n:Rat):=by
 refine⟨h,?_⟩;show(1:Nat)<2^k;exact Nat.one_lt_two_pow (by omega)
structure NI where
 v:Int
 m:Bool
def NI.sm(a:NI):Bool:=decide (-9223372036854775808<a.v/\a.v<9223372036854775808)||(decide (a.v= -9223372036854775808)&&a.m)
def NI.of(n:Int):NI:=⟨n,true⟩
def NI.mk'(n:Int):NI:=⟨n,false⟩
def NI.neg(a:NI):NI:=.mk' (-a.v)
def NI.abs(a:NI):NI:=if a.v<0 then .mk' (-a.v)else a
def NI.add(a b:NI):NI:=⟨a.v+b.v,a.sm&&b.sm⟩
def NI.sub(a b:NI):NI:=a.add b.neg
def NI.mul(a b:NI):NI:=.mk' (a.v*b.v)
def NI.div(a b:NI):NI:=⟨a.v/b.v,decide (a.v% b.v≠0)⟩
def NI.mod(a b:NI):NI:=.mk' (a.v% b.v)
structure NF where
 q:Rat
 m:Bool
def NF.num(a:NF):NI:=⟨a.q.num,a.m⟩
def NF.den(a:NF):NI:=.mk' a.q.den
def NF.whole(a:NI):NF:=⟨a.v,a.m⟩
def NF.int(n:Int):NF:=⟨n,true⟩
def NF.fk(a:NF):Bool:=decide (a.q.den=1)
def NF.add(a b:NF):NF:=⟨a.q+b.q,a.fk&&b.fk&&(a.num.sm&&b.num.sm)⟩
def NF.neg(a:NF):NF:=⟨-a.q,false⟩
def NF.sub(a b:NF):NF:=a.add b.neg
def NF.mul(a b:NF):NF:=⟨a.q*b.q,false⟩
def NF.inv(a:NF):NF:=⟨a.q⁻¹,false⟩
def NF.div(a b:NF):NF:=⟨a.q/b.q,false⟩
@[simp] theorem NI.qE(a b:NI):(a.add b).v=a.v+b.v:=rfl
@[simp] theorem NI.lA(a b:NI):(a.mul b).v=a.v*b.v:=rfl
@[simp] theorem NI.Dr(a:NI):a.neg.v= -a.v:=rfl
@[simp] theorem NI.Pw(a b:NI):(a.sub b).v=a.v-b.v:=by show a.v+-b.v=_;omega
@[simp] theorem NF.Ri(a b:NF):(a.add b).q=a.q+b.q:=rfl
@[simp] theorem NF.aIS(a:NF):a.neg.q= -a.q:=rfl
@[simp] theorem NF.lG(a b:NF):(a.sub b).q=a.q-b.q:=by show a.q+-b.q=_;rw[hO]
@[simp] theorem NF.aIR(a b:NF):(a.mul b).q=a.q*b.q:=rfl
@[simp] theorem NF.aHl(a:NF):a.inv.q=a.q⁻¹:=rfl
@[simp] theorem NF.aFG(a b:NF):(a.div b).q=a.q/b.q:=rfl
@[simp] theorem NF.aHk(n:Int):(NF.int n).q=n:=rfl
def eP(z:Int):PV:=.st 129 [.int .i64 z,.aF]
def jV(z:Int):PV:=.st 129 [.int .i64 (if z<0 then -1 else 1),eN z.natAbs]
def Dk(p:PV)(z:Int):Prop:=(p=eP z/\-9223372036854775808<=z/\z<=9223372036854775807)\/(p=jV z/\9223372036854775808<=z.natAbs)
theorem NH(a:NI):∃p,p=if a.sm=true then eP a.v else jV a.v:=⟨_,rfl⟩
noncomputable def eI(a:NI):PV:=b3 (NH a)
theorem iO(a:NI):eI a=if a.sm=true then eP a.v else jV a.v:=b2 (NH a)
theorem NI.yG{a:NI}(h:-9223372036854775808<a.v)(b:a.v<9223372036854775808):a.sm=true:=by
 simp[NI.sm,h,b]
theorem NI.oK{a:NI}(h:a.sm=true):-9223372036854775808<=a.v/\a.v<=9223372036854775807:=by
 simp only[NI.sm,b1,decide_eq_true_eq,b0]at h;omega
theorem NI.yn{a:NI}(h:¬a.sm=true):9223372036854775808<=a.v.natAbs:=by
 simp only[NI.sm,b1,decide_eq_true_eq,b0,not_or,not_and]at h;omega
theorem NI.O0(z:Int):(NI.mk' z).sm=decide (-9223372036854775808<z/\z<9223372036854775808):=by
 rw[NI.sm,NI.mk',Bool.and_false,Bool.or_false]
theorem NI.ig(z:Int):(NI.mk' z).v=z:=rfl
theorem lE(a:NI):Dk (eI a) a.v:=by
 rw[iO]
 by_cases h:a.sm=true
 ·rw[if_pos h];have:=NI.oK h;exact .inl ⟨rfl,this⟩
 ·rw[if_neg h];exact .inr ⟨rfl,NI.yn h⟩
theorem nG{z:Int}(h:-9223372036854775808<z)(a:z<9223372036854775808):eI (.mk' z)=eP z:=by
 rw[iO,NI.O0,if_pos (by simp[h,a]),NI.ig]
theorem NG{z:Int}(h:9223372036854775808<=z.natAbs):eI (.mk' z)=jV z:=by
 rw[iO,NI.O0,if_neg (by simp;omega),NI.ig]
theorem sP{z:Int}(h:-9223372036854775808<=z)(c:z<=9223372036854775807):eI (.of z)=eP z:=by
 rw[iO,if_pos]
 ·rfl
 ·by_cases b:z= -9223372036854775808
  ·subst b;rfl
  ·exact NI.yG (a:=.of z) (by show _<z;omega) (by show z<_;omega)
@[simp] theorem bxN(u:TypeId)(h:¬u=226):(Gl.bx u:Option TypeId)=none:=by
 have a:hG u 226=false:=by
  cases a:hG u 226
  ·rfl
  ·exact(h (Nat.eq_of_beq_eq_true a)).elim
 show(bif hG u 226 then some 227 else none)=none;rw[a];rfl
@[simp] theorem aFl:(Gl.bx 226:Option TypeId)=some 227:=(rfl)
theorem kG:aq wB 0=[]:=by simp[aq,mw]
theorem so{n:Nat}(a:0<n)(h:n<wB):aq wB n=[n]:=by
 have h1:=je bh (m:=1) (n:=n) (by rw[hg];exact h);rw[<-h1,row,ec,ei,ej,ae,fv,g7,eq h];have:=ua [] n (by omega)
 rwa [List.nil_append]at this
theorem qK(n:Int):az prog 171 [.int .i64 n] (eP n):=by
 refine aM nf MY mix (by simp[f171]) ?_;simp[f171,eP]
theorem CM(n:Int)(h:-9223372036854775808<=n)(b:n<=9223372036854775807):az prog 256 [.int .i64 n] (.int .u64 (n.natAbs:Nat)):=by
 refine aM nf L7 mix (by simp[f256]) ?_
 by_cases a:n<0
 ·have e:b5.wrap (cb.wrap (-n))=(n.natAbs:Nat):=by
   by_cases hm:n= -9223372036854775808
   ·subst hm;rfl
   ·rw[aI _ (by omega) (by omega),fh _ (by omega) (by simp only[wB];omega)];omega
  simp[f256,a,e]
 ·have e:b5.wrap n=(n.natAbs:Nat):=by rw[fh _ (by omega) (by simp only[wB];omega)];omega
  simp[f256,a,e]
theorem nj(p:PV)(z:Int)(h:Dk p z):az prog 248 [p] (.aD [.bool (decide (z<0)),eN z.natAbs]):=by
 refine aM nf Li mix (by simp[f248]) ?_;rcases h with⟨rfl,b,d⟩|⟨rfl,b⟩
 ·have hs:=CM z b d
  by_cases a:z=0
  ·subst a;simp[f248,eP,eN,kG,dh,cO]
  ·simp[f248,eP,a,dh,cO];refine e1 hs ?_;simp[eN,so (n:=z.natAbs) (by omega) (by simp only[wB];omega)]
   done
 ·have e:aq wB z.natAbs≠[]:=fun h=>by
   have:=cj bh z.natAbs;rw[h,ea,fv]at this;omega
  simp only[jV,eN];obtain⟨c,cs,hc⟩:=dq e;rw[hc];have f:decide ((if z<0 then(-1:Int)else 1)<0)=decide (z<0):=by split<;>simp[*]
  generalize (if z<0 then(-1:Int)else 1)=g at*;simp[f248,dh,cO,f]
theorem uZ(neg:Bool)(n:Nat)(k:(aq wB n).length<=1048576):az prog 249 [.bool neg,eN n] (eI (.mk' (if neg then -(n:Int)else n))):=by
 by_cases i:n=0
 ·subst i;rw[show(if neg=true then -((0:Nat):Int)else((0:Nat):Int))=0 by simp,nG (by decide) (by decide)];refine aM nf vr mix (by simp[f249]) ?_;simp[f249,eP,eN,kG,dh,cO]
 by_cases q:n<=9223372036854775807
 ·have d:=so (n:=n) (by omega) (by simp only[wB];omega);have hI:(n:Int)<=9223372036854775807:=by omega
  have f:cb.wrap (n:Int)=n:=aI _ (by omega) (by omega);have g:cb.wrap (-(n:Int))= -n:=aI _ (by omega) (by omega);cases neg
  ·rw[if_neg (by decide),nG (by omega) (by omega)];refine aM nf vr mix (by simp[f249]) ?_;simp[f249,eP,eN,d,hI,f,g,dh,cO]
  ·rw[if_pos rfl,nG (by omega) (by omega)];refine aM nf vr mix (by simp[f249]) ?_;simp[f249,eP,eN,d,hI,f,g,dh,cO]
 ·have l:aq wB n≠[]:=fun h=>by
   have:=cj bh n;rw[h,ea,fv]at this;omega
  have e:(aq wB n).length=1->(aq wB n)[0]?=some n:=fun h=>by
   have a:=cj bh n;rw[h,hg]at a;rw[so (by omega) a];rfl
  have hI:¬(n:Int)<=9223372036854775807:=by omega
  have b:(if neg then -(n:Int)else n).natAbs=n:=by cases neg<;>simp
  have m:(if(if neg then -(n:Int)else n)<0 then(-1:Int)else 1)=if neg then -1 else 1:=by
   cases neg
   ·simp only[Bool.false_eq_true,if_false];rw[if_neg (by omega)]
   ·simp only[if_true];rw[if_pos (by omega)]
  rw[NG (by rw[b];omega)];refine aM nf vr mix (by simp[f249]) ?_;rw[jV,b,m];simp only[eN];obtain⟨c,cs,hc⟩:=dq l;rw[hc]at e⊢;rw[hc]at k;cases cs with
  |nil=>
   have j:c=n:=by simpa using e rfl
   subst j;cases neg<;>simp[f249,hI,dh,cO]
  |cons c2 cs=>
   have o:¬((cs.length:Int)+1+1=1):=by omega
   have p:¬((cs.length:Int)+1+1=0):=by omega
   cases neg<;>simp[f249,o,p,dh,cO]
def okW(z:Int):Prop:=(aq wB z.natAbs).length<=900000
theorem ayT{p:PV}{z:Int}(h:Dk p z):∃a b,p=.st 129 [a,b]:=by
 rcases h with⟨rfl,_⟩|⟨rfl,_⟩
 ·exact⟨_,_,rfl⟩
 ·exact⟨_,_,rfl⟩
theorem uQ(a:NI):∃x y,eI a=.st 129 [x,y]:=ayT (lE a)
theorem sM(a:NI)(l:okW a.v):az prog 245 [eI a] (eI a.neg):=by
 have h:=lE a;have d:=nj (eI a) a.v h;have b:=uZ (!decide (a.v<0)) a.v.natAbs (by rw[okW]at l;omega);have k:(if(!decide (a.v<0))=true then -((a.v.natAbs:Nat):Int)else a.v.natAbs)= -a.v:=by
  by_cases e:a.v<0
  ·simp[e];omega
  ·simp[e];omega
 rw[k]at b;rw[show a.neg=.mk' (-a.v)from rfl];generalize a.v=z at*;generalize n:eI a=p at*;obtain⟨o,q,g⟩:=uQ (.mk' (-z));rcases h with⟨rfl,i,m⟩|⟨rfl,i⟩
 ·by_cases f:z= -9223372036854775808
  ·rw[g]at b⊢;refine aM nf yY mix (by simp[f245]) ?_;subst f;simp only[eP]at d⊢;simp[f245,dh,cO];refine c1 d ?_;simp[eN]at b⊢;refine c2 b ?_;simp[ad,aL,bF]
  ·rw[nG (by omega) (by omega)];have w:cb.wrap (-z)= -z:=aI _ (by omega) (by omega);refine aM nf yY mix (by simp[f245]) ?_;simp[f245,eP,f,w,dh,cO]
 ·rw[g]at b⊢;refine aM nf yY mix (by simp[f245]) ?_;have j:aq wB z.natAbs≠[]:=fun h=>by
   have:=cj bh z.natAbs;rw[h,ea,fv]at this;omega
  simp only[jV,eN]at d b⊢;obtain⟨c,cs,hc⟩:=dq j;rw[hc]at d b⊢;generalize (if z<0 then(-1:Int)else 1)=r at*;simp[f245,dh,cO];refine c1 d ?_;simp at b⊢;refine c2 b ?_;simp[ad,aL,bF]
theorem sA(a:NI):az prog 225 [eI a] (.int .i64 (if a.v<0 then -1 else if a.v=0 then 0 else 1)):=by
 have h:=lE a;generalize a.v=z at*;generalize eI a=p at*;refine aM nf FE mix (by simp[f225]) ?_;rcases h with⟨rfl,b,c⟩|⟨rfl,b⟩
 ·simp[f225,eP];rcases cx z 0 with h|h|h
  ·have e:z<1:=by omega
   simp[h,e];omega
  ·subst h;simp
  ·have e1:¬z<0:=by omega
   have e2:¬z=0:=by omega
   have e3:¬z<1:=by omega
   simp[e1,e2,e3]
 ·simp[f225,jV,eN]
  by_cases h:z<0
  ·simp[h]
  ·have e2:¬z=0:=by omega
   simp[h,e2]
theorem Uj{z:Int}(h:-18446744073709551616<=z)(a:z<=18446744073709551614):cb.wrap z=if z< -9223372036854775808 then z+18446744073709551616 else if 9223372036854775807<z then z-18446744073709551616 else z:=by
 rw[cc]
 split
 ·omega
 ·split<;>omega
theorem nh{z:Int}(h:okW z):(aq wB z.natAbs).length<=900000:=h
theorem SD{a b L:Nat}(c:(aq wB a).length<=L)(d:(aq wB b).length<=L):(aq wB (a+b)).length<=L+1:=by
 refine dJ bh _ _ ?_;have e:=ew (cj bh a) (e7 (show 0<wB by decide) c);have f:=ew (cj bh b) (e7 (show 0<wB by decide) d);have g:2*wB^L<=wB^(L+1):=by rw[fb,eo];exact fm _ bh
 omega
theorem Rh{a b:Int}(i:okW a)(j:okW b):
 ((decide (a<0)=decide (b<0)/\az prog 249 [.bool (decide (a<0)),eN (a.natAbs+b.natAbs)] (eI (.mk' (a+b))))\/
  (decide (a<0)≠decide (b<0)/\b.natAbs<=a.natAbs/\az prog 249 [.bool (decide (a<0)),eN (a.natAbs-b.natAbs)] (eI (.mk' (a+b))))\/
  (decide (a<0)≠decide (b<0)/\a.natAbs<b.natAbs/\az prog 249 [.bool (decide (b<0)),eN (b.natAbs-a.natAbs)] (eI (.mk' (a+b))))):=by
 have m:=SD (a:=a.natAbs) (b:=b.natAbs) i j;have l:∀n,n<=a.natAbs+b.natAbs->(aq wB n).length<=1048576:=fun n h=>by
  have:=dJ bh _ _ (e8 h (cj bh (a.natAbs+b.natAbs)));omega
 have f:∀(neg:Bool)(n:Nat),n<=a.natAbs+b.natAbs->(if neg then -(n:Int)else n)=a+b->az prog 249 [.bool neg,eN n] (eI (.mk' (a+b))):=fun neg n h e=>by
  have g:=uZ neg n (l n h);rw[e]at g;exact g
 by_cases d:decide (a<0)=decide (b<0)
 ·have c:=f (decide (a<0)) (a.natAbs+b.natAbs) (gy _) (by
   by_cases h:a<0
   ·have:b<0:=by simpa[h]using d
    simp[h];omega
   ·have:¬b<0:=by simpa[h]using d
    simp[h];omega)
  exact .inl ⟨d,c⟩
 ·by_cases k:b.natAbs<=a.natAbs
  ·have c:=f (decide (a<0)) (a.natAbs-b.natAbs) (by omega) (by
    by_cases h:a<0
    ·have:¬b<0:=by simpa[h]using d
     simp[h];omega
    ·have:b<0:=by simpa[h]using d
     simp[h];omega)
   exact .inr (.inl ⟨d,k,c⟩)
  ·have c:=f (decide (b<0)) (b.natAbs-a.natAbs) (by omega) (by
    by_cases h:b<0
    ·have:¬a<0:=fun c=>d (by simp[h,c]);simp[h];omega
    ·have:a<0:=by
      by_cases c:a<0
      ·exact c
      ·exact(d (by simp[h,c])).elim
     simp[h];omega)
   exact .inr (.inr ⟨d,by omega,c⟩)
theorem CD(a:NI):(eI a=eP a.v/\a.sm=true/\-9223372036854775808<=a.v/\a.v<=9223372036854775807)\/(a.sm=false/\∃d c cs,eI a=.st 129 [.int .i64 d,.seq (c::cs)]):=by
 by_cases h:a.sm=true
 ·left;exact⟨by rw[iO,if_pos h],h,NI.oK h⟩
 ·right;refine⟨by simpa using h,?_⟩;have e:=NI.yn h;have b:aq wB a.v.natAbs≠[]:=fun h=>by
   have:=cj bh a.v.natAbs;rw[h,ea,fv]at this;omega
  obtain⟨c,cs,hc⟩:=dq b;rw[iO,if_neg h,jV,eN,hc];exact⟨_,_,_,rfl⟩
theorem vp(a b:NI)(B:okW a.v)(D:okW b.v):az prog 188 [eI a,eI b] (eI (a.add b)):=by
 have o:=nj (eI a) a.v (lE a);have q:=nj (eI b) b.v (lE b);have U:=nh B;have V:=nh D;have t:=Gr a.v.natAbs b.v.natAbs (by omega) (by omega);have C:=Tf a.v.natAbs b.v.natAbs (by omega) (by omega);have y:=Rh B D;have tv:=CD a;have G:=CD b
 by_cases u:(a.sm=true/\b.sm=true)/\-9223372036854775808<=a.v+b.v/\a.v+b.v<=9223372036854775807
 ·obtain⟨⟨g,n⟩,d,l⟩:=u;rw[show eI a=eP a.v by rw[iO,if_pos g],show eI b=eP b.v by rw[iO,if_pos n],show a.add b=.of (a.v+b.v)by rw[NI.add,g,n];rfl,sP d l];generalize a.v=a at*;generalize b.v=b at*;refine aM nf zS mix (by simp[f188]) ?_;have w:=aI (a+b) d l;have e:(decide (a<a+b)==decide (0<b))=true:=by
   have:a<a+b↔0<b:=by omega
   simp[this]
  simp[f188,eP,w,dh,cO,e]
 have F:eI (a.add b)=eI (.mk' (a.v+b.v)):=by
  by_cases h:-9223372036854775808<a.v+b.v/\a.v+b.v<9223372036854775808
  ·rw[nG h.1 h.2,iO,if_pos (NI.yG h.1 h.2)];rfl
  ·by_cases l:(a.sm&&b.sm)=true
   ·have H:a.sm=true/\b.sm=true:=by simpa using l
    have I:¬(-9223372036854775808<=a.v+b.v/\a.v+b.v<=9223372036854775807):=fun h=>u ⟨H,h⟩;rw[NG (by omega),iO,if_neg,NI.qE];intro g;have:=NI.oK g;rw[NI.qE]at this;omega
   ·rw[NI.add,NI.mk'];rw[show(a.sm&&b.sm)=false by simpa using l]
 rw[F];clear F;obtain⟨M,N,J⟩:=uQ a;obtain⟨O,P,K⟩:=uQ b;obtain⟨Y,Z,L⟩:=uQ (.mk' (a.v+b.v));rw[L]at y⊢;rw[J]at o tv⊢;rw[K]at q G⊢;generalize a.v=f at*;generalize b.v=bv at*;refine aM nf zS mix (by simp[f188]) ?_;simp[f188,-br];rw[br];simp[-br];refine join (fun s=>aN s.env 2=.ptr 0 []/\aN s.env 3=.ptr 1 []/\aN s.env 4=.ptr 2 []/\s.heap=[.box false (.p (.st 129 [M,N])),.box false (.p (.st 129 [O,P])),.box false (.p (.st 129 [.int .i64 0,.aF]))]) ?_ ?_
 ·clear y t C o q;rcases tv with⟨d,m,l,g⟩|⟨m,Q,c,cs,d⟩
  ·simp only[eP,PV.st.injEq,en,and_true,true_and]at d;obtain⟨rfl,rfl⟩:=d;rcases G with⟨n,A,S,T⟩|⟨A,Q,c,cs,n⟩
   ·simp only[eP,PV.st.injEq,en,and_true,true_and]at n;obtain⟨rfl,rfl⟩:=n;have I:¬(-9223372036854775808<=f+bv/\f+bv<=9223372036854775807):=fun h=>u ⟨⟨m,A⟩,h⟩;have w:=Uj (z:=f+bv) (by omega) (by omega);have e:¬(f<cb.wrap (f+bv)↔0<bv):=by
     rw[w]
     by_cases W:0<bv
     ·rw[if_neg (by omega),if_pos (by omega)];omega
     ·rw[if_pos (by omega)];omega
    simp[dh,cO,e]
   ·simp only[PV.st.injEq,en,and_true,true_and]at n;obtain⟨rfl,rfl⟩:=n;simp[dh,cO]
  ·simp only[PV.st.injEq,en,and_true,true_and]at d;obtain⟨rfl,rfl⟩:=d;simp[dh,cO]
 rintro⟨R,X⟩ ⟨i,j,k,E⟩;dsimp only at i j k E;subst E;simp[i,j,k];refine c1 o ?_;simp[i,j,k,ad,aL,bF];refine c1 q ?_;rcases y with⟨d,g⟩|⟨d,l,g⟩|⟨d,l,g⟩
 ·have m:(f<0↔bv<0):=by simpa using d
  rw[d]at g;simp[i,j,k,m,ad,aL,bF];refine c2 C ?_;simp;refine c2 g ?_;simp[i,j,k,ad,aL,bF]
 ·have m:¬(f<0↔bv<0):=by simpa using d
  have r:0<=fA f.natAbs bv.natAbs:=by
   have h:=mt oH.1 (show¬f.natAbs<bv.natAbs by omega);omega
  have x:=Hv f.natAbs bv.natAbs l (by omega);simp[i,j,k,m,ad,aL,bF];refine c2 t ?_;simp[r];refine c2 x ?_;simp[i,j,k,ad,aL,bF];refine c2 g ?_;simp[i,j,k,ad,aL,bF]
 ·have m:¬(f<0↔bv<0):=by simpa using d
  have r:¬0<=fA f.natAbs bv.natAbs:=by have:=oH.2 l;omega
  have x:=Hv bv.natAbs f.natAbs (by omega) (by omega);simp[i,j,k,m,ad,aL,bF];refine c2 t ?_;simp[r];refine c2 x ?_;simp[i,j,k,ad,aL,bF];refine c2 g ?_;simp[i,j,k,ad,aL,bF]
@[simp] theorem aI9(a:NI):aL (eI a)=.agg 129:=by
 obtain⟨x,y,h⟩:=uQ a;rw[h];rfl
theorem Ps(a:NI):∃z:Int,z=if a.sm=true then a.v else if a.v<0 then -1 else 1:=⟨_,rfl⟩
noncomputable def sI(a:NI):Int:=b3 (Ps a)
theorem yo(a:NI):sI a=if a.sm=true then a.v else if a.v<0 then -1 else 1:=b2 (Ps a)
theorem PG(a:NI):∃p:PV,p=if a.sm=true then .aF else eN a.v.natAbs:=⟨_,rfl⟩
noncomputable def wI(a:NI):PV:=b3 (PG a)
theorem Cr(a:NI):wI a=if a.sm=true then .aF else eN a.v.natAbs:=b2 (PG a)
@[simp] theorem Yr(a:NI):cB (eI a)=[.int .i64 (sI a),wI a]:=by
 by_cases h:a.sm=true
 ·rw[iO,yo,Cr,if_pos h,if_pos h,if_pos h];rfl
 ·rw[iO,yo,Cr,if_neg h,if_neg h,if_neg h];rfl
theorem Pt(a:NI):sI a<0↔a.v<0:=by
 rw[yo];split
 ·exact Iff.rfl
 ·split<;>omega
theorem lB{a:NI}(h:a.sm=true):wI a=.aF:=by rw[Cr,if_pos h]
theorem nC{a:NI}(h:a.sm=false):∃c cs,wI a=.seq (c::cs):=by
 rcases CD a with⟨_,b,_⟩|⟨_,e,c,cs,d⟩
 ·rw[h]at b;exact absurd b (by decide)
 ·refine⟨c,cs,?_⟩;have:=Yr a;rw[d]at this;simp[cB]at this;exact this.2.symm
theorem mh{a:NI}(h:a.sm=true):sI a=a.v:=by rw[yo,if_pos h]
theorem C0(a b:NI)(d:okW a.v)(c:okW b.v):az prog 269 [eI a,eI b] (eI (a.sub b)):=by
 refine aM nf Eh mix (by simp[f269]) ?_;have e:okW b.neg.v:=by simpa[okW]using c
 simp[f269];refine e1 (sM b c) ?_;simp;refine e2 (vp a b.neg d e) ?_;simp[ad];exact Wk.refl _
theorem Nd(a:NI)(c:okW a.v):az prog 293 [eI a] (eI a.abs):=by
 refine aM nf LZ mix (by simp[f293]) ?_
 by_cases h:a.v<0
 ·have b:=(Pt a).2 h;have e:a.abs=a.neg:=by rw[NI.abs,if_pos h];rfl
  simp[f293,ad,b];refine c1 (sM a c) ?_;simp[ad,e]
 ·have b:=mt (Pt a).1 h;have e:a.abs=a:=by rw[NI.abs,if_neg h]
  simp[f293,ad,b,e]
def jB(x y:Int):Int:=if x<y then -1 else if x=y then 0 else 1
theorem Nf(a b:NI)(m:okW a.v)(n:okW b.v):az prog 220 [eI a,eI b] (.int .i64 (jB a.v b.v)):=by
 refine aM nf FJ mix (by simp[f220]) ?_;have p:(a.sm=true/\b.sm=true)\/¬(a.sm=true/\b.sm=true):=b4 _;rcases p with⟨d,l⟩|d
 ·have f:=lB d;have g:=lB l;have j:=mh d;have k:=mh l;rcases cx a.v b.v with h|h|h
  ·have e:jB a.v b.v= -1:=by rw[jB,if_pos h]
   simp[f220,ad,f,g,j,k,h,e,dh,cO]
  ·have e:jB b.v b.v=0:=by rw[jB,if_neg (by omega),if_pos rfl]
   have d:¬a.v<b.v:=by omega
   simp[f220,ad,f,g,j,k,h,e,dh,cO]
  ·have e:jB a.v b.v=1:=by rw[jB,if_neg (by omega),if_neg (by omega)]
   have d:¬a.v<b.v:=by omega
   simp[f220,ad,f,g,j,k,h,d,e,dh,cO]
 ·have e:(if(a.sub b).v<0 then(-1:Int)else if(a.sub b).v=0 then 0 else 1)=jB a.v b.v:=by
   rw[NI.Pw,jB];rcases cx a.v b.v with h|h|h
   ·rw[if_pos (by omega),if_pos h]
   ·rw[if_neg (by omega),if_pos (by omega),if_neg (by omega),if_pos h]
   ·rw[if_neg (by omega),if_neg (by omega),if_neg (by omega),if_neg (by omega)]
  have i:=sA (a.sub b);rw[e]at i;rcases hs:a.sm with _|_
  ·obtain⟨c,cs,f⟩:=nC hs;simp[f220,ad,f,dh,cO];refine c2 (C0 a b m n) ?_;simp;refine c1 i ?_;simp
  ·have f:=lB hs;obtain⟨c,cs,g⟩:=nC (a:=b) (by cases o:b.sm with|false=>rfl|true=>exact(d ⟨hs,o⟩).elim);simp[f220,ad,f,g,dh,cO];refine c2 (C0 a b m n) ?_;simp;refine c1 i ?_;simp
theorem SC{a b L M:Nat}(e:(aq wB a).length<=L)(f:(aq wB b).length<=M):(aq wB (a*b)).length<=L+M:=by
 refine dJ bh _ _ ?_;have c:=ew (cj bh a) (e7 (show 0<wB by decide) e);have d:=ew (cj bh b) (e7 (show 0<wB by decide) f);rw[gg];exact gj c d
theorem yN(a b:NI)(K:(aq wB a.v.natAbs).length+(aq wB b.v.natAbs).length<=900000):az prog 190 [eI a,eI b] (eI (a.mul b)):=by
 have I:=nj (eI a) a.v (lE a);have hq:=nj (eI b) b.v (lE b);have G:=Td a.v.natAbs b.v.natAbs (by omega);have N:=SC (gy (aq wB a.v.natAbs).length) (gy (aq wB b.v.natAbs).length);have z:=uZ (decide (a.v<0)!=decide (b.v<0)) (a.v.natAbs*b.v.natAbs) (by omega);have e:(if(decide (a.v<0)!=decide (b.v<0))=true then -((a.v.natAbs*b.v.natAbs:Nat):Int)else(a.v.natAbs*b.v.natAbs:Nat))=a.v*b.v:=by
  rw[<-ck];rcases dk a.v 0 with j|j
  ·rcases dk b.v 0 with d|d
   ·have:=Int.mul_nonneg_of_nonpos_of_nonpos (c9 j) (c9 d);simp[j,d];omega
   ·have:=Int.mul_nonpos_of_nonpos_of_nonneg (c9 j) d;have o:¬b.v<0:=by omega
    simp[j,o];omega
  ·have o:¬a.v<0:=by omega
   rcases dk b.v 0 with d|d
   ·have:=Int.mul_nonpos_of_nonneg_of_nonpos j (c9 d);simp[o,d];omega
   ·have:=Int.mul_nonneg j d;have E:¬b.v<0:=by omega
    simp[o,E];omega
 rw[e]at z;rw[show a.mul b=.mk' (a.v*b.v)from rfl];refine aM nf MU mix (by simp[f190]) ?_;simp[f190,-br];rw[br];simp[-br];refine join (fun s=>aN s.env 2=.ptr 0 []/\aN s.env 3=.ptr 1 []/\aN s.env 4=.ptr 2 []/\s.heap=[.box false (.p (eI a)),.box false (.p (eI b)),.box false (.p (.st 129 [.int .i64 0,.aF]))]) ?_ ?_
 ·rcases hs:a.sm with _|_
  ·obtain⟨c,cs,i⟩:=nC hs;simp[ad,i,dh,cO]
  ·have i:=lB hs;rcases q:b.sm with _|_
   ·obtain⟨c,cs,k⟩:=nC q;simp[ad,i,k,dh,cO]
   ·have k:=lB q;have f:=mh hs;have g:=mh q;have B:=NI.oK hs;have C:=NI.oK q;have t:=CM a.v B.1 B.2;have u:=CM b.v C.1 C.2;have M:=xU a.v.natAbs b.v.natAbs (by omega) (by omega);obtain⟨H,x⟩:∃H,H=a.v.natAbs*b.v.natAbs/18446744073709551616:=⟨_,rfl⟩
    obtain⟨L,r⟩:∃L,L=a.v.natAbs*b.v.natAbs% 18446744073709551616:=⟨_,rfl⟩
    rw[<-x,<-r]at M;have F:a.v.natAbs*b.v.natAbs=H*18446744073709551616+L:=by omega
    clear x r
    by_cases c1:H=0/\L<=9223372036854775807
    ·obtain⟨rfl,r⟩:=c1;have y:(L:Int)<=9223372036854775807:=by omega
     have w:cb.wrap (L:Int)=L:=aI _ (by omega) (by omega);have D:cb.wrap (-(L:Int))= -L:=aI _ (by omega) (by omega);rw[F]at e;simp only[g9,ha]at e;rw[nG (by rw[<-e];split<;>omega) (by rw[<-e];split<;>omega),eP]
     by_cases c2:a.v<0↔b.v<0
     ·rw[if_neg (by simp[c2])]at e;rw[<-e];simp[ad,i,k,f,g,dh,cO];refine e1 t ?_;simp[f,g];refine e1 u ?_;simp;refine e2 M ?_;simp[y,c2,ad,i,k,f,g,w]
     ·rw[if_pos (by simp[c2])]at e;rw[<-e];simp[ad,i,k,f,g,dh,cO];refine e1 t ?_;simp[f,g];refine e1 u ?_;simp;refine e2 M ?_;simp[y,c2,ad,i,k,f,g,w,D]
    ·simp[ad,i,k,f,g,dh,cO];refine e1 t ?_;simp[f,g];refine e1 u ?_;simp;refine e2 M ?_
     by_cases c2:H=0
     ·have c3:¬(L:Int)<=9223372036854775807:=fun h=>c1 ⟨c2,by omega⟩;simp[c2,c3]
     ·have c3:¬(H:Int)=0:=by omega
      simp[c2,c3]
 ·rintro⟨J,O⟩ ⟨l,m,n,A⟩;dsimp only at l m n A;subst A;simp[l,m,n];refine c1 I ?_;simp[l,m,n];refine c1 hq ?_;simp[l,m,n];refine c2 G ?_;simp;refine c2 z ?_;simp[l,m,n,ad]
  done
end Go.al
