import Derived.Test.YtanjnahmbanmaaaGreatDoorPE
/- Parts of a proof. -/
set_option linter.unusedSimpArgs false
set_option linter.unusedVariables false
set_option linter.unusedSectionVars false
open Go.Proofs.Tryz
open Bool renaming and_eq_true->b0, or_eq_true->b1
open Classical renaming choose_spec->b2, choose->b3, em->b4
open Go.IntKind renaming u64->b5, i64->cb, wrap_i64->cc
open Go.Lib renaming bitLen->ce
open Int renaming natAbs_mul->ck, natAbs_natCast->cv, lt_trichotomy->cx, natCast_mul->cy, lt_of_le_of_lt->c6, le_of_lt->c9, ediv_le_self->da, ediv_nonneg->db, natAbs_sign_of_ne_zero->dg, lt_or_le->dk
open List renaming getElem?_eq_getElem->dl, range->dp, exists_cons_of_ne_nil->dq, take_of_length_le->dx, length_nil->dy, map_congr_left->dz, range_one->ea, mem_range->eb, map_take->ec, map_cons->ed, map_nil->ee
open List.cons renaming injEq->ei
open Nat renaming mul_comm->ej, mod_eq_of_lt->en, lt_of_lt_of_le->eo, div_lt_iff_lt_mul->eq, pow_le_pow_right->ew, lt_of_le_of_lt->e6, mod_lt->e7, pow_succ->e8, pow_pos->e9, mul_le_mul_right->fb, mul_le_mul_left->fd, pow_zero->fl, mul_lt_mul_of_pos_right->fm, add_mul->fv, div_add_mod->gb, lt_or_ge->gc, pow_add->ge, add_mul_mod_self_right->gg, mul_lt_mul''->gi, div_le_self->gj, add_sub_cancel->gm, one_mul->gt, le_refl->gx, mul_assoc->gy, add_comm->g0, mul_right_comm->g4, div_eq_of_lt->g5, lt_trans->g6, div_div_eq_div_mul->g7, div_one->g8, div_mul_le_self->g9, zero_mul->ha, zero_add->hb, add_zero->hd, zero_le->hg, pow_one->hj, min_eq_left->hl, add_sub_cancel_left->ho, mul_mod_mul_right->hp, mul_div_mul_right->hr, add_mul_div_right->ht, mul_one->hu, mul_mod_mul_left->hv, eq_zero_or_pos->hw, lt_of_succ_lt->hy, mul_ne_zero->hz, mod_add_div->hA, lt_succ_iff->hB, mul_le_mul->hC, add_assoc->hD, zero_mod->hE, sub_zero->hF, gcd->hG, beq->hH, or_comm->hJ, mul_add->hK, not_lt->hL
open Rat renaming divInt->hM, normalize_eq_mkRat->hN, sub_eq_add_neg->hO, num_eq_zero->hP
namespace Go.az
open Go.Proofs
set_option maxHeartbeats 4000000
set_option maxRecDepth 100000
theorem xB(n:Nat):b5.wrap (n:Int)=(n%wB:Nat):=by
 rw[show b5.wrap (n:Int)=(n:Int)%18446744073709551616 from rfl];rfl
theorem vE(x s:Nat)(hs:s<64):b5.wrap ((x:Int)*2^(min s b5.bits))=(x*2^s%wB:Nat):=by
 rw[show b5.bits=64 from rfl,hl (by omega),<-xB];congr 1
theorem s8(x s:Nat)(hs:s<=64):(x:Int).fdiv (2^(min s b5.bits))=(x/2^s:Nat):=by
 rw[show b5.bits=64 from rfl,hl hs,show(2:Int)^s=((2^s:Nat):Int)by push_cast;rfl,Int.fdiv_eq_ediv_of_nonneg _ (Int.natCast_nonneg _)];rfl
theorem Dh(a b:Nat)(c:a<wB)(d:b<wB):b5.wrap ((a%2^b5.bits|||b%2^b5.bits:Nat):Int)=(a|||b:Nat):=by
 rw[show(2^b5.bits:Nat)=wB from rfl,en c,en d,xB,en];exact Nat.or_lt_two_pow (n:=64) c d
def cu(a s i:Nat):Nat:=if i=0 then 0 else ae wB a (i-1)/2^(64-s)
def gf(a s i k:Nat):Nat:=if k<i then ae wB (a*2^s) k else if k=i then cu a s i else 0
theorem xR{s:Nat}(hs:s<64):2^s*2^(64-s)=wB:=by rw[<-ge,show s+(64-s)=64 by omega];rfl
theorem Ju(a s i:Nat)(hs:s<64):cu a s i|||(ae wB a i*2^s%wB)=ae wB (a*2^s) i:=by
 have c:0<2^s:=e9 (by decide);have d:0<2^(64-s):=e9 (by decide);have b:=xR hs;have hc:cu a s i<2^s:=by
  rw[cu];split
  ·exact c
  ·rw[eq d,b];exact b8 bc _ _
 have e:ae wB a i*2^s%wB=ae wB a i%2^(64-s)*2^s:=by
  rw[<-b,ej,hv,ej]
 rw[hJ,e,Cm hc,<-e];cases i with
 |zero=>rw[cu,if_pos rfl,hd,<-b];exact(Un a).symm
 |succ i=>rw[cu,if_neg (by omega),gm,<-b];exact(Uo c d a i).symm
theorem Au{n:Nat}{f g:Nat->Nat}(h:∀k,k<n->f k=g k):bX n f=bX n g:=by
 rw[bX,bX];exact dz fun k hk=>by rw[h k (eb.1 hk)]
theorem Xf(a s n:Nat)(hs:s<64)(h:ae wB a n=0):cu a s n=ae wB (a*2^s) n:=by
 rw[<-Ju a s n hs,h,ha,hE,Nat.or_zero]
theorem HE(a s:Nat)(hs:s<64)(A:(aq wB a).length<=1000000):de prog 336 [] [.p (eN a),.p (.int .i64 s)] [.arr .exact 0 1 (bX ((aq wB a).length+1) (ae wB (a*2^s)))] (.sl 0 0 1 0 ((aq wB a).length+1)):=by
 refine jk nf LU mix (by simp[f336]) ?_;have C:∀i(h:i<(aq wB a).length),(aq wB a)[i]=ae wB a i:=fun i h=>et bc h;have F:=@BX a;simp only[eN];generalize aq wB a=x at*;obtain⟨n,c⟩:∃n,x.length=n:=⟨_,rfl⟩
 rw[c]at A;have J:cb.wrap ((n:Int)+1)=(n:Int)+1:=cQ (by omega);simp[f336,c,J];refine⟨⟨by omega,by simp only[cN];omega⟩,?_⟩;rw[Bw (f:=gf a s 0) (by intro j;simp[gf,cu])];refine lp (α:=Nat) (fun i=>⟨[(14,.p (.int .i64 i)),(13,.p (.int .i64 n)),(12,.p (.seq (x.map fun x:Nat=>.int .u64 x))),(5,.sl 0 0 1 0 (n+1)),(1,.p (.int .i64 s))],[.arr .exact 0 1 (bX (n+1) (gf a s i))]⟩)
  (fun i=>i<=n) (fun i=>n-i) 0 (by simp) ?_ (he:=by simp)
 intro i k1;have w:=cQ (i:=i) (by omega)
 by_cases hi:i<n
 ·have l:i<x.length:=by rw[c];exact hi
  have hx:=C i l;have e:i<n+1:=by omega
  have o:=l7 (gf a s i) e;have E:ae wB a i*2^s%wB<wB:=e7 _ (by decide);have B:gf a s i i<wB:=by
   rw[gf,if_neg (by omega),if_pos rfl,cu];split
   ·decide
   ·exact e6 (gj _ _) (b8 bc _ _)
  have e1:=vE (ae wB a i) s hs;have e2:=Dh (gf a s i i) (ae wB a i*2^s%wB) B E;have e3:gf a s i i|||(ae wB a i*2^s%wB)=ae wB (a*2^s) i:=by rw[<-Ju a s i hs,gf,if_neg (by omega),if_pos rfl]
  rw[e3]at e2;have y:cb.wrap (64-(s:Int))=((64-s:Nat):Int):=by rw[aO _ (by omega) (by omega)];omega
  have e4:=s8 (ae wB a i) (64-s) (by omega);have r:i+1<n+1:=by omega
  have u:=oi (n:=n+1) (i:=i) (f:=gf a s i) (g:=fun k=>if k=i then ae wB (a*2^s) i else gf a s i k) (if_pos rfl) (fun k hk=>if_neg hk);have G:=oi (n:=n+1) (i:=i+1) (v:=ae wB a i/2^(64-s)) (f:=fun k=>if k=i then ae wB (a*2^s) i else gf a s i k) (g:=gf a s (i+1)) (by
   simp[gf,cu]) (fun k hk=>by
   by_cases d:k=i
   ·subst d;simp[gf]
   ·simp only[gf,d,if_false]
    by_cases b:k<i
    ·rw[if_pos (by omega),if_pos b]
    ·rw[if_neg (by omega),if_neg hk,if_neg b])
  have D:=l7 (n:=n+1) (fun k=>if k=i then ae wB (a*2^s) i else gf a s i k) r;have H:s=0->bX (n+1) (fun k=>if k=i then ae wB (a*2^s) i else gf a s i k)=bX (n+1) (gf a s (i+1)):=fun h=>by
   have K:ae wB a i/2^(64-s)=0:=by rw[h];exact g5 (b8 bc _ _)
   refine AH fun k=>?_
   by_cases d:k=i
   ·subst d;simp[gf]
   ·simp only[gf,d,if_false]
    by_cases b:k<i
    ·rw[if_pos b,if_pos (by omega)]
    ·by_cases q:k=i+1
     ·rw[q,if_neg (by omega),if_neg (by omega),if_pos rfl,cu,if_neg (by omega),gm,K]
     ·rw[if_neg b,if_neg (by omega),if_neg q]
  generalize ae wB a i*2^s%wB=L at*;generalize ae wB a i/2^(64-s)=M at*;generalize (fun k=>if k=i then ae wB (a*2^s) i else gf a s i k)=g1 at*;obtain⟨t,I⟩:∃t,t=64-s:=⟨_,rfl⟩
  rw[<-I]at y e4
  by_cases m:0<s
  ·simp[c,hi,e,l,hx,o,e1,e2,m,y,e4,w,u,r,D,G,ad,aJ,bA];refine⟨⟨by rfl,by rfl,by rfl⟩,?_⟩;refine⟨by omega,?_⟩;exact rd (i+1) (show i+1<=n by omega)
  ·have z:s=0:=by omega
   simp[c,hi,e,l,hx,o,e1,e2,m,w,u,H z,ad,aJ,bA];refine⟨⟨by rfl,by rfl,by rfl⟩,?_⟩;exact rd (i+1) (show i+1<=n by omega)
 have:i=n:=by omega
 subst this;simp[c];refine .inl (Au fun k hk=>?_);rw[gf]
 by_cases b:k<i
 ·rw[if_pos b]
 ·obtain rfl:k=i:=by omega
  rw[if_neg b,if_pos rfl,Xf a s k hs (F (by omega))]
theorem wS:∀(n x:Nat),x<=n->0<x->x<2^64->1<=ce x/\2^(ce x-1)<=x/\x<2^ce x
 |0,x,h,a,_=>by omega
 |n+1,x,h,a,c=>by
  have d:=Lib.bitLen_half x (by omega) c
  by_cases b:x=1
  ·subst b;decide
  ·obtain⟨i1,i2,i3⟩:=wS n (x/2) (by omega) (by omega) (by omega);rw[d];generalize ce (x/2)=L at*;obtain⟨k,rfl⟩:∃k,L=k+1:=⟨L-1,by omega⟩
   rw[show 1+(k+1)=k+2 by omega,show k+2-1=k+1 by omega,e8,e8];rw[e8]at i3;simp only[gm]at i2;omega
theorem Nc{x:Nat}(a:0<x)(h:x<2^64):ce x<=64:=by
 obtain⟨_,b,_⟩:=wS x x (gx _) a h;have:=(Nat.pow_lt_pow_iff_right (show 1<2 by decide)).1 (e6 b h);omega
def wH:Nat:=4294967296
theorem wHH:wH*wH=wB:=rfl
theorem IX{y:Nat}(a:0<y)(h:y<2^64):∃s,s<64/\ce y+s=64/\wB<=2*(y*2^s)/\y*2^s<wB:=by
 obtain⟨d,b,c⟩:=wS y y (gx _) a h;have e:=Nc a h;refine⟨64-ce y,by omega,by omega,?_,?_⟩
 ·have:=fb (2^(64-ce y)) b;rw[<-ge,show ce y-1+(64-ce y)=63 by omega]at this;simp only[wB];omega
 ·have:=fm c (e9 (show 0<2 by decide) (n:=64-ce y));rw[<-ge,show ce y+(64-ce y)=64 by omega]at this;simp only[wB];omega
structure Pp(hi lo y s:Nat) where
 Y:Nat
 v1:Nat
 v0:Nat
 T:Nat
 u:Nat
 u1:Nat
 u0:Nat
 q1:Nat
 R:Nat
 q0:Nat
 hY:Y=y*2^s
 eY:Y=v1*wH+v0
 zm:v1<wH
 kU:v0<wH
 th:wH<=2*v1
 vI:T<Y
 yV:hi*2^s<wB
 Di:hi*2^s|||lo/2^(64-s)=T
 eu:u=lo*2^s%wB
 CZ:u1=u/wH
 CY:u0=u%wH
 zl:u1<wH
 zk:u0<wH
 nE:q1=hq wH v1 v0 T u1
 ze:q1<wH
 eR:R=T*wH+u1-q1*Y
 vH:R<Y
 O0:q1*Y<=T*wH+u1
 vo:q0=hq wH v1 v0 R u0
 zb:q0<wH
 OZ:q0*Y<=R*wH+u0
 B3:q1*wH+q0=(hi*wB+lo)/y
 rem:(R*wH+u0-q0*Y)/2^s=(hi*wB+lo)%y
theorem XO{hi lo y:Nat}(o:hi<y)(H:y<wB)(B:lo<wB):∃s,s<64/\ce y+s=64/\Nonempty (Pp hi lo y s):=by
 obtain⟨s,hs,w,J,m⟩:=IX (y:=y) (by omega) H;have g:=xR hs;have a:0<2^s:=e9 (by decide);have x:0<2^(64-s):=e9 (by decide);refine⟨s,hs,w,⟨?_⟩⟩;have e0:y*2^s=y*2^s/wH*wH+y*2^s%wH:=by rw[ej _ wH,gb]
 have E:y*2^s%wH<wH:=e7 _ (by decide);have F:y*2^s/wH<wH:=by rw[eq (by decide)];exact m
 have G:wH<=2*(y*2^s/wH):=by simp only[wH,wB]at*;omega
 have A:lo/2^(64-s)<2^s:=by rw[eq x,g];exact B
 have v:hi*2^s<wB:=g6 (fm o a) m;have h:hi*2^s+lo/2^(64-s)<y*2^s:=by
  have:=fb (2^s) (show hi+1<=y from o);rw[fv,gt]at this;omega
 have C:hi*2^s|||lo/2^(64-s)=hi*2^s+lo/2^(64-s):=Cm A
 have n:lo*2^s%wB/wH<wH:=by rw[eq (by decide)];exact e7 _ (by decide)
 have b:lo*2^s%wB%wH<wH:=e7 _ (by decide);have i:(hi*wB+lo)*2^s=((hi*2^s+lo/2^(64-s))*wH+lo*2^s%wB/wH)*wH+lo*2^s%wB%wH:=by
  have e1:lo*2^s=lo/2^(64-s)*wB+lo*2^s%wB:=by
   have e2:lo*2^s/wB=lo/2^(64-s):=by
    rw[<-g,ej lo,Nat.mul_div_mul_left _ _ a]
   rw[<-e2,ej _ wB,gb]
  have e3:lo*2^s%wB=lo*2^s%wB/wH*wH+lo*2^s%wB%wH:=by rw[ej _ wH,gb]
  rw[fv,g4,e1,fv (_*wH),gy (_+_) wH wH,wHH,fv];generalize hi*2^s*wB=I;rw[<-e1];generalize lo*2^s%wB=a2 at*;generalize lo/2^(64-s)*wB=a3 at*;omega
 have l:0<y*2^s:=by omega
 obtain⟨e,d⟩:=Yp (Y:=y*2^s) (U:=(hi*wB+lo)*2^s) (c:=wH) l;have j:(hi*wB+lo)*2^s/wH=(hi*2^s+lo/2^(64-s))*wH+lo*2^s%wB/wH:=by
  rw[i,g0,ht _ _ (by decide),g5 b,hb]
 have k:(hi*wB+lo)*2^s%wH=lo*2^s%wB%wH:=by
  rw[i,g0,gg,en b]
 rw[j,k,hr _ _ a]at e;rw[j,k,ej _ (2^s),ej y,hv]at d;rw[ej (2^s) y]at d;generalize z:y*2^s=Y at*;generalize hi*2^s+lo/2^(64-s)=T at*;generalize D:lo*2^s%wB=u at*;have t:=Kk (T:=T) (c:=wH) (u1:=u/wH) (v1:=Y/wH) (v0:=Y%wH);rw[<-e0]at t;have r:=Kk (T:=(T*wH+u/wH)%Y) (c:=wH) (u1:=u%wH) (v1:=Y/wH) (v0:=Y%wH);rw[<-e0]at r;have q:hq wH (Y/wH) (Y%wH) T (u/wH)=(T*wH+u/wH)/Y:=by rw[hq,<-e0]
 have p:hq wH (Y/wH) (Y%wH) ((T*wH+u/wH)%Y) (u%wH)=((T*wH+u/wH)%Y*wH+u%wH)/Y:=by rw[hq,<-e0]
 have f:(T*wH+u/wH)%Y<Y:=e7 _ l;exact{
  Y:=Y,v1:=Y/wH,v0:=Y%wH,T:=T,u:=u,u1:=u/wH,u0:=u%wH
  q1:=hq wH (Y/wH) (Y%wH) T (u/wH),R:=(T*wH+u/wH)%Y,q0:=hq wH (Y/wH) (Y%wH) ((T*wH+u/wH)%Y) (u%wH)
  hY:=z.symm,eY:=e0,zm:=F,kU:=E,th:=G,vI:=h,yV:=v,Di:=C,eu:=D.symm,CZ:=rfl,CY:=rfl,zl:=n,zk:=b
  nE:=rfl,ze:=NU (by rw[<-e0];exact h) n,eR:=t.symm,vH:=f
  O0:=by rw[q];exact g9 _ _
  vo:=rfl,zb:=NU (by rw[<-e0];exact f) b
  OZ:=by rw[p];exact g9 _ _
  B3:=by rw[q,p,<-e]
  rem:=by rw[r,<-d,Nat.mul_div_cancel_left _ a]}
section
variable[Gl]{P:Program}{ag:FuncId->Bool}{q:Nat×Nat}
theorem qP{b:Code}{Q:bm->St->Prop}{s:St}{id:Nat}(R:St->Prop)(f:eD P ag q (.loop b) (qd id (qu R (fun _ _=>False))) s)(c:∀s',R s'->Q .normal s'):eD P ag q (.loop b) (qd id Q) s:=by
 refine mK _ (fun e s a=>?_) f;cases e with
 |normal=>exact c s a
 |exit i=>
  simp only[qd,nj]at a⊢
  by_cases d:i=id
  ·simp[d,qu]at a⊢;exact c s a
  ·simp[d,qu]at a
 |ret=>exact a.elim
end
theorem HN(a:Nat)(b:a<wB):b5.wrap ((a%2^b5.bits&&&4294967295%2^b5.bits:Nat):Int)=(a%wH:Nat):=by
 rw[show(2^b5.bits:Nat)=wB from rfl,en b,show 4294967295%wB=2^32-1 from rfl,Nat.and_two_pow_sub_one_eq_mod,xB];rw[show(2:Nat)^32=wH from rfl,en (eo (e7 _ (by decide)) (show wH<=wB by decide))]
theorem Po{a b c:Int}{R:Nat}(h:a+b-c=R)(hR:R<wB):b5.wrap (b5.wrap (b5.wrap a+b)-b5.wrap c)=R:=by
 show(((a%18446744073709551616+b)%18446744073709551616)-c%18446744073709551616)%18446744073709551616=R;have:R<18446744073709551616:=hR;omega
theorem KB(hi lo y:Nat)(aC:hi<y)(aj:y<wB)(ah:lo<wB):au prog 334 [.int .u64 hi,.int .u64 lo,.int .u64 y] (.aA [.int .u64 ((hi*wB+lo)/y:Nat),.int .u64 ((hi*wB+lo)%y:Nat)]):=by
 refine aM nf LV mix (by simp[f334]) ?_;have H:¬(y:Int)=0:=by omega
 have N:¬(y:Int)<=hi:=by omega
 have af:¬y<=hi:=by omega
 have ae:¬y=0:=by omega
 by_cases ad:hi=0
 ·subst ad;have ag:b5.wrap ((lo:Int)/y)=(lo:Int)/y:=fo _ (db (by omega) (by omega)) (c6 (da _ (by omega)) (by omega));have ax:(lo:Int).tmod y=(lo:Int)%y:=Int.tmod_eq_emod_of_nonneg (by omega);simp[f334,H,N,ae,af,ag,ax]
 obtain⟨s,hs,aR,⟨Y,b,v0,T,u,u1,u0,q1,R,q0,ac,eY,zm,kU,th,vI,yV,Di,eu,CZ,CY,zl,zk,nE,ze,eR,vH,O0,vo,zb,OZ,B3,rem⟩⟩:=XO aC aj ah;have aA:=Mc y aj;obtain⟨t,ai⟩:∃t,t=64-s:=⟨_,rfl⟩
 have O:wH=4294967296:=rfl;have ay:wB=18446744073709551616:=rfl;have X:Y<wB:=by
  rw[O]at zm kU eY;rw[ay];omega
 have aw:b5.wrap (64-((ce y:Nat):Int))=s:=by rw[fo _ (by omega) (by omega)];omega
 have f2:b5.wrap (64-(s:Int))=t:=by rw[fo _ (by omega) (by omega)];omega
 have f3:b5.wrap ((y:Int)*2^(min s b5.bits))=Y:=by rw[vE y s hs,<-ac,en X]
 have f4:(Y:Int).fdiv (2^(min 32 b5.bits))=b:=by
  rw[s8 Y 32 (by omega)];rw[O]at kU eY;congr 1;omega
 have f5:b5.wrap ((hi:Int)*2^(min s b5.bits))=(hi*2^s:Nat):=by rw[vE hi s hs,en yV]
 have f6:(lo:Int).fdiv (2^(min t b5.bits))=(lo/2^t:Nat):=s8 lo t (by omega);have f7:=Dh (hi*2^s) (lo/2^t) yV (e6 (gj _ _) ah);rw[ai,Di,<-ai]at f7;have f8:b5.wrap ((lo:Int)*2^(min s b5.bits))=u:=by rw[vE lo s hs,<-eu]
 have aO:u<wB:=by rw[eu];exact e7 _ (by decide)
 have f9:(u:Int).fdiv (2^(min 32 b5.bits))=u1:=by
  rw[s8 u 32 (by omega)];congr 1;rw[CZ];rfl
 have d:0<b:=by rw[O]at th;omega
 have am:¬b=0:=by omega
 have an:¬(b:Int)=0:=by omega
 have aP:T<wB:=by omega
 generalize hi*2^s=aQ at*;generalize lo/2^t=aS at*;have aG:T/b<=wH+1:=NT d (by rw[<-eY];exact vI) th kU;have aK:T/b*b+T%b=T:=by rw[ej,gb]
 have aT:T%b<b:=e7 _ d;have aI:=Kl (T:=T) (u1:=u1) d kU zl;have g1:b5.wrap ((T:Int)/b)=(T/b:Nat):=by rw[fo _ (db (by omega) (by omega)) (c6 (da _ (by omega)) (by omega))];rfl
 generalize T/b=K at*;generalize T%b=ak at*;have g2:b5.wrap ((T:Int)-b5.wrap ((K:Int)*b))=ak:=by
  have e:((K*b:Nat):Int)=(K:Int)*b:=by push_cast;rfl
  rw[fo ((K:Int)*b) (by omega) (by omega),fo _ (by omega) (by omega)];omega
 have aa:=HN Y X;have ab:=HN u aO;rw[show Y%wH=v0 by rw[eY,g0,gg,en kU]]at aa;rw[<-CY]at ab;have aZ:b<4294967296:=zm;have aX:v0<4294967296:=kU;have aW:u1<4294967296:=zl;have aV:u0<4294967296:=zk;have aY:4294967296<=2*b:=th;have aH:R/b<=wH+1:=NT d (by rw[<-eY];exact vH) th kU;have aL:R/b*b+R%b=R:=by rw[ej,gb]
 have aU:R%b<b:=e7 _ d;have aq:R<wB:=by omega
 have aJ:=Kl (T:=R) (u1:=u0) d kU zk;have aD:b5.wrap ((R:Int)/b)=(R/b:Nat):=by rw[fo _ (db (by omega) (by omega)) (c6 (da _ (by omega)) (by omega))];rfl
 generalize R/b=L at*;generalize R%b=al at*;have aE:b5.wrap ((R:Int)-b5.wrap ((L:Int)*b))=al:=by
  have e:((L*b:Nat):Int)=(L:Int)*b:=by push_cast;rfl
  rw[fo ((L:Int)*b) (by omega) (by omega),fo _ (by omega) (by omega)];omega
 have ao:b5.wrap (b5.wrap (b5.wrap ((T:Int)*4294967296)+u1)-b5.wrap ((q1:Int)*Y))=R:=by
  refine Po (h:=?_) (hR:=aq);have e1:((T*wH:Nat):Int)=(T:Int)*4294967296:=by push_cast;rfl
  have e2:((q1*Y:Nat):Int)=(q1:Int)*Y:=by push_cast;rfl
  omega
 have M2:b5.wrap (b5.wrap ((q1:Int)*4294967296)+q0)=((q1*wH+q0:Nat):Int):=by
  have H:q1*4294967296+q0<18446744073709551616:=by
   have N:q1<4294967296:=ze;have ag:q0<4294967296:=zb;omega
  rw[fo ((q1:Int)*4294967296) (by omega) (by omega),fo _ (by omega) (by omega)];push_cast;rfl
 obtain⟨Z,P⟩:∃Z,Z=R*wH+u0-q0*Y:=⟨_,rfl⟩
 have ar:Z<wB:=by
  have H:Z/2^s<y:=by rw[P,rem];exact e7 _ (by omega)
  rw[eq (e9 (by decide)),<-ac]at H;omega
 have ap:b5.wrap (b5.wrap (b5.wrap ((R:Int)*4294967296)+u0)-b5.wrap ((q0:Int)*Y))=Z:=by
  refine Po (h:=?_) (hR:=ar);have e1:((R*wH:Nat):Int)=(R:Int)*4294967296:=by push_cast;rfl
  have e2:((q0*Y:Nat):Int)=(q0:Int)*Y:=by push_cast;rfl
  omega
 have M:=s8 Z s (by omega);rw[P,rem]at M;rw[<-P]at M;rw[B3]at M2;simp[f334,H,N,ae,af,ad];refine c1 aA ?_;simp[aw,f2,f3,f4,f5,f6,f7,f8,f9,am,an,g1,g2,aa,ab];refine qP (fun s'=>aN s'.env 15=.p (.int .u64 q1)/\aN s'.env 14=.p (.int .u64 u0)/\aN s'.env 13=.p (.int .u64 u1)/\aN s'.env 11=.p (.int .u64 T)/\aN s'.env 10=.p (.int .u64 v0)/\aN s'.env 9=.p (.int .u64 b)/\aN s'.env 8=.p (.int .u64 s)/\aN s'.env 2=.p (.int .u64 Y)/\s'.heap=[]) ?_ ?_
 ·refine lp (α:=Nat×Nat) (fun a=>⟨[(16,.p (.int .u64 a.2)),(15,.p (.int .u64 a.1)),(14,.p (.int .u64 u0)),(13,.p (.int .u64 u1)),(11,.p (.int .u64 T)),(10,.p (.int .u64 v0)),(9,.p (.int .u64 b)),(8,.p (.int .u64 s)),(2,.p (.int .u64 Y))],[]⟩) (fun a=>a.1*b+a.2=T/\hq wH b v0 T u1<=a.1/\a.2<wH/\a.1<=wH+1) (fun a=>a.1) (K,ak) ⟨aK,aI,by omega,aG⟩ ?_;rintro⟨x,r⟩ ⟨k1,k2,k3,k4⟩;dsimp only at k1 k2 k3 k4;have aF:r<4294967296:=k3;have W:x<=4294967297:=k4;have g:b5.wrap ((x:Int)*v0)=(x*v0:Nat):=by
   have:=hC W (show v0<=4294967295 by omega);rw[fo _ (by rw[<-cy];omega) (by rw[<-cy];omega)];push_cast;rfl
  have v:b5.wrap (4294967296*(r:Int))=4294967296*r:=fo _ (by omega) (by omega);have w:b5.wrap (4294967296*(r:Int)+u1)=4294967296*r+u1:=fo _ (by omega) (by omega);have m:b5.wrap ((r:Int)+b)=r+b:=fo _ (by omega) (by omega)
  by_cases i:4294967296<=x\/4294967296*r+u1<x*v0
  ·have j:=Mq d (show 0<wH by decide) k1 k2 (i.imp (fun h=>⟨h,by rw[<-nE];exact ze⟩) id);obtain⟨k,rfl⟩:∃k,x=k+1:=⟨x-1,by
    rcases i with h|h
    ·omega
    ·rcases hw x with e|e
     ·rw[e]at h;omega
     ·omega⟩
   have l:b5.wrap (k:Int)=k:=fo _ (by omega) (by omega);have k5:k*b+(r+b)=T:=by rw[<-k1,fv];omega
   rw[gm]at j;have kB:k<=wH+1:=by omega
   by_cases Q:4294967296<=r+b
   ·have hq:=Jf d (by rw[<-eY];exact vI) kU k5 Q j;have f:(4294967296:Int)<=(r:Int)+b:=by omega
    rw[<-nE]at hq;subst hq;rcases gc (k+1) 4294967296 with hc|hc
    ·have n:((k:Int)+1<4294967296):=by omega
     have c:¬((4294967296:Int)<=(k:Int)+1):=by omega
     have o:(4294967296*(r:Int)+u1<((k+1)*v0:Nat)):=by omega
     have q:4294967296*r+u1<(k+1)*v0:=by omega
     generalize (k+1)*v0=J at*;push_cast at g;simp[g,v,w,l,m,n,c,o,q,f]
    ·have c:((4294967296:Int)<=(k:Int)+1):=by omega
     simp[l,m,c,f]
   ·have f:¬(4294967296:Int)<=(r:Int)+b:=by omega
    rcases gc (k+1) 4294967296 with hc|hc
    ·have n:((k:Int)+1<4294967296):=by omega
     have c:¬((4294967296:Int)<=(k:Int)+1):=by omega
     have o:(4294967296*(r:Int)+u1<((k+1)*v0:Nat)):=by omega
     have q:4294967296*r+u1<(k+1)*v0:=by omega
     generalize (k+1)*v0=J at*;push_cast at g;simp[g,v,w,l,m,n,c,o,q,f];exact rd (k,r+b) ⟨k5,j,show r+b<4294967296 by omega,kB⟩
    ·have c:((4294967296:Int)<=(k:Int)+1):=by omega
     simp[l,m,c,f];exact rd (k,r+b) ⟨k5,j,show r+b<4294967296 by omega,kB⟩
  ·have aB:¬4294967296<=x:=fun h=>i (.inl h);have U:¬4294967296*r+u1<x*v0:=fun h=>i (.inr h);have hq:=BS d (show 0<wH by decide) k1 k2 (hL.1 U);rw[<-nE]at hq;subst hq;have S:¬(4294967296:Int)<=x:=by omega
   have V:¬(4294967296*(r:Int)+u1<(x*v0:Nat)):=by omega
   generalize x*v0=J at*;simp[g,v,w,S,V]
 rintro⟨av,az⟩ ⟨z,A,B,C,D,E,F,G,I⟩;dsimp only at z A B C D E F G I;subst I;simp[z,A,B,C,D,E,F,G,ao,am,an,aD,aE];refine qP (fun s'=>aN s'.env 18=.p (.int .u64 q0)/\aN s'.env 15=.p (.int .u64 q1)/\aN s'.env 17=.p (.int .u64 R)/\aN s'.env 14=.p (.int .u64 u0)/\aN s'.env 10=.p (.int .u64 v0)/\aN s'.env 9=.p (.int .u64 b)/\aN s'.env 8=.p (.int .u64 s)/\aN s'.env 2=.p (.int .u64 Y)/\s'.heap=[]) ?_ ?_
 ·refine lp (α:=Nat×Nat) (fun a=>⟨[(16,.p (.int .u64 a.2)),(18,.p (.int .u64 a.1)),(15,.p (.int .u64 q1)),(17,.p (.int .u64 R)),(14,.p (.int .u64 u0)),(10,.p (.int .u64 v0)),(9,.p (.int .u64 b)),(8,.p (.int .u64 s)),(2,.p (.int .u64 Y))],[]⟩) (fun a=>a.1*b+a.2=R/\hq wH b v0 R u0<=a.1/\a.2<wH/\a.1<=wH+1) (fun a=>a.1) (L,al) ⟨aL,aJ,by omega,aH⟩ ?_ (he:=by simp[z,A,B,C,D,E,F,G]);rintro⟨x,r⟩ ⟨k1,k2,k3,k4⟩;dsimp only at k1 k2 k3 k4;have aF:r<4294967296:=k3;have W:x<=4294967297:=k4;have g:b5.wrap ((x:Int)*v0)=(x*v0:Nat):=by
   have:=hC W (show v0<=4294967295 by omega);rw[fo _ (by rw[<-cy];omega) (by rw[<-cy];omega)];push_cast;rfl
  have v:b5.wrap (4294967296*(r:Int))=4294967296*r:=fo _ (by omega) (by omega);have w:b5.wrap (4294967296*(r:Int)+u0)=4294967296*r+u0:=fo _ (by omega) (by omega);have m:b5.wrap ((r:Int)+b)=r+b:=fo _ (by omega) (by omega)
  by_cases i:4294967296<=x\/4294967296*r+u0<x*v0
  ·have j:=Mq d (show 0<wH by decide) k1 k2 (i.imp (fun h=>⟨h,by rw[<-vo];exact zb⟩) id);obtain⟨k,rfl⟩:∃k,x=k+1:=⟨x-1,by
    rcases i with h|h
    ·omega
    ·rcases hw x with e|e
     ·rw[e]at h;omega
     ·omega⟩
   have l:b5.wrap (k:Int)=k:=fo _ (by omega) (by omega);have k5:k*b+(r+b)=R:=by rw[<-k1,fv];omega
   rw[gm]at j;have kB:k<=wH+1:=by omega
   by_cases Q:4294967296<=r+b
   ·have hq:=Jf d (by rw[<-eY];exact vH) kU k5 Q j;have f:(4294967296:Int)<=(r:Int)+b:=by omega
    rw[<-vo]at hq;subst hq;rcases gc (k+1) 4294967296 with hc|hc
    ·have n:((k:Int)+1<4294967296):=by omega
     have c:¬((4294967296:Int)<=(k:Int)+1):=by omega
     have o:(4294967296*(r:Int)+u0<((k+1)*v0:Nat)):=by omega
     have q:4294967296*r+u0<(k+1)*v0:=by omega
     generalize (k+1)*v0=J at*;push_cast at g;simp[g,v,w,l,m,n,c,o,q,f]
    ·have c:((4294967296:Int)<=(k:Int)+1):=by omega
     simp[l,m,c,f]
   ·have f:¬(4294967296:Int)<=(r:Int)+b:=by omega
    rcases gc (k+1) 4294967296 with hc|hc
    ·have n:((k:Int)+1<4294967296):=by omega
     have c:¬((4294967296:Int)<=(k:Int)+1):=by omega
     have o:(4294967296*(r:Int)+u0<((k+1)*v0:Nat)):=by omega
     have q:4294967296*r+u0<(k+1)*v0:=by omega
     generalize (k+1)*v0=J at*;push_cast at g;simp[g,v,w,l,m,n,c,o,q,f];exact rd (k,r+b) ⟨k5,j,show r+b<4294967296 by omega,kB⟩
    ·have c:((4294967296:Int)<=(k:Int)+1):=by omega
     simp[l,m,c,f];exact rd (k,r+b) ⟨k5,j,show r+b<4294967296 by omega,kB⟩
  ·have aB:¬4294967296<=x:=fun h=>i (.inl h);have U:¬4294967296*r+u0<x*v0:=fun h=>i (.inr h);have hq:=BS d (show 0<wH by decide) k1 k2 (hL.1 U);rw[<-vo]at hq;subst hq;have S:¬(4294967296:Int)<=x:=by omega
   have V:¬(4294967296*(r:Int)+u0<(x*v0:Nat)):=by omega
   generalize x*v0=J at*;simp[g,v,w,S,V]
 rintro⟨av,az⟩ ⟨z,A,B,C,D,E,F,G,I⟩;dsimp only at z A B C D E F G I;subst I;simp[z,A,B,C,D,E,F,G,M2,ap,M]
def dw(j n:Nat)(g f:Nat->Nat)(k:Nat):Nat:=if j<=k/\k<j+n then f (k-j)else g k
theorem rC{j:Nat}{g f:Nat->Nat}:dw j 0 g f=g:=by
 funext k;rw[dw,if_neg (by omega)]
theorem xe{m j i:Nat}{g f:Nat->Nat}{v:Nat}(a:f i=v):(bX m (dw j i g f)).set (j+i) (.p (.int .u64 v))=bX m (dw j (i+1) g f):=by
 refine oi ?_ fun k hk=>?_
 ·rw[dw,if_pos (by omega),ho,a]
 ·rw[dw,dw]
  by_cases h:j<=k/\k<j+i
  ·rw[if_pos h,if_pos (by omega)]
  ·rw[if_neg h,if_neg (by omega)]
theorem xf{m j i:Nat}{g f:Nat->Nat}(h:j+i<m):(bX m (dw j i g f))[j+i]?=some (.p (.int .u64 (g (j+i)))):=by
 rw[l7 _ h,dw,if_neg (by omega)]
theorem U5{j n:Nat}{g f a:Nat->Nat}:dw j n (dw j n g f) a=dw j n g a:=by
 funext k;rw[dw,dw,dw];split<;>rfl
theorem Yh(X V m j n:Nat)(t:(aq wB V).length=n)(G:2<=n)(bl:j+n+1<=m)(bo:m<=1000002)(aS:X<V*wB^(j+1)):
 de prog 337 [.arr .exact 0 1 (bX m (ae wB X))] [.sl 0 0 1 j (n+1),.p (eN V)] [.arr .exact 0 1 (bX m (ae wB (X%(V*wB^j))))] (.p (.int .u64 (X/(V*wB^j):Nat))):=by
 refine jk nf LS mix (by simp[f337]) ?_;have l:=bY bc V;have I:wB^(n-1)<=V:=by
  rcases gc V (wB^(n-1))with h|h
  ·have:=dN bc (n-1) V h;omega
  ·exact h
 rw[t]at l;have U:∀i(h:i<(aq wB V).length),(aq wB V)[i]=ae wB V i:=fun i h=>et bc h;have aC:0<V:=Bg bc G I;obtain⟨W,w⟩:∃W,X/wB^j=W:=⟨_,rfl⟩
 have af:W<V*wB:=by
  rw[<-w,eq (e9 (by decide)),gy,ej wB,<-e8];exact aS
 have T:W<wB^(n+1):=g6 af (by rw[e8];exact fm l (by decide));have aj:∀i,i<n+1->(bX m (ae wB X))[j+i]?=some (.p (.int .u64 (ae wB W i))):=fun i hi=>by rw[l7 _ (by omega),<-w,pN]
 have aU:X/(V*wB^j)=W/V:=by rw[wQ.2,w]
 have aF:∀f:Nat->Nat,(∀i,i<n+1->f i=ae wB (W%V) i)->bX m (dw j (n+1) (ae wB X) f)=bX m (ae wB (X%(V*wB^j))):=fun f hf=>Au fun k hk=>by
  rw[wQ.1,w,G8 bc,dw]
  by_cases u:k<j
  ·rw[if_neg (by omega),if_pos u]
  ·rw[if_neg u]
   by_cases H:k<j+(n+1)
   ·rw[if_pos (by omega),hf _ (by omega)]
   ·have e1:ae wB X k=0:=by
     obtain⟨e,rfl⟩:∃e,k=j+e:=⟨k-j,by omega⟩
     rw[<-pN,w];exact jh (eo T (ew (by decide) (by omega)))
    have e2:ae wB (W%V) (k-j)=0:=jh (eo (e6 (Nat.mod_le _ _) T) (ew (by decide) (by omega)));rw[if_neg (by omega),e1,e2]
 rw[aU];simp only[eN];generalize aq wB V=x at*;have aA:∀i,i<n->i<x.length:=fun i h=>by omega
 have e1:cb.wrap ((n:Int)-1)=((n-1:Nat):Int):=by rw[aO _ (by omega) (by omega)];omega
 have e2:cb.wrap ((n:Int)-2)=((n-2:Nat):Int):=by rw[aO _ (by omega) (by omega)];omega
 obtain⟨b,E⟩:∃b,b=n-1:=⟨_,rfl⟩
 obtain⟨d,am⟩:∃d,d=n-2:=⟨_,rfl⟩
 rw[<-E]at e1;rw[<-am]at e2;have F:=U b (by omega);have aI:=U d (by omega);have bb:b<x.length:=by omega
 have bd:d<x.length:=by omega
 have L:x[b]?=some (ae wB V b):=by rw[dl bb,F]
 have ba:x[d]?=some (ae wB V d):=by rw[dl bd,aI]
 have O:b<n:=by omega
 have Y:d<n:=by omega
 have R:b<n+1:=by omega
 have Z:d<n+1:=by omega
 have aw:=aj n (by omega);have g1:=aj b (by omega);have g2:=aj d (by omega);have aZ:n=b+1:=by omega
 have az:W/wB^n=ae wB W n:=by
  rw[ae,en];rw[eq (e9 (by decide)),ej,<-e8];exact T
 have ag:W/wB^b=ae wB W n*wB+ae wB W b:=by rw[rl,<-aZ,az]
 simp[f337,-aH,t];rw[aH];simp[-aH,t];rw[aH];simp[-aH,t];rw[aH];simp[-aH,t];rw[aH];simp[-aH,t];refine join (fun s=>∃q r o:Nat,q*ae wB V b+(r+o*wB)=W/wB^b/\W/V<=q/\q<wB/\r<wB/\o<=1/\aN s.env 0=.sl 0 0 1 j (n+1)/\aN s.env 1=.p (.seq (x.map fun x:Nat=>.int .u64 x))/\aN s.env 5=.p (.int .i64 n)/\aN s.env 6=.p (.int .u64 q)/\aN s.env 7=.p (.int .u64 r)/\aN s.env 8=.p (.int .u64 o)/\s.heap=[.arr .exact 0 1 (bX m (ae wB X))]) ?_ ?_
 ·by_cases hc:ae wB V b<=ae wB W n
  ·have ah:(ae wB V b:Int)<=ae wB W n:=by omega
   simp[e1,e2,F,L,O,R,aw,g1,ah,t,ad,aJ,bA];refine e3 (pV (ae wB W b) (ae wB V b) 0 (by omega)) ?_;simp;have aL:=b8 bc W b;have av:=b8 bc V b;have aM:ae wB W n=ae wB V b:=by
    have:=(BT bc (by omega) l af).1;rw[az,<-E]at this;omega
   refine⟨18446744073709551615,(ae wB W b+ae wB V b)%wB,(ae wB W b+ae wB V b)/wB,?_,?_,by decide,e7 _ (by decide),?_,rfl,rfl,rfl⟩
   ·rw[ag,aM];simp only[wB];omega
   ·have:=(BT bc (by omega) l af).2;simp only[wB]at this;omega
   ·simp only[wB]at*;omega
  ·have ah:¬(ae wB V b:Int)<=ae wB W n:=by omega
   simp[e1,e2,F,L,O,R,aw,g1,ah,t,ad,aJ,bA];refine e3 (KB (ae wB W n) (ae wB W b) (ae wB V b) (by omega) (b8 bc _ _) (b8 bc _ _)) ?_;simp;have aL:=b8 bc W b;have av:=b8 bc V b;refine⟨(ae wB W n*wB+ae wB W b)/ae wB V b,(ae wB W n*wB+ae wB W b)%ae wB V b,0,?_,?_,?_,?_,by omega,rfl,rfl,rfl⟩
   ·rw[ag,ha,hd,ej,gb]
   ·rw[<-ag,E];exact Ko bc G I l
   ·rw[eq (by omega)];have:=fb wB (show ae wB W n+1<=ae wB V b by omega);rw[fv,gt]at this;rw[ej wB];omega
   ·exact g6 (e7 _ (by omega)) av
 rintro⟨aP,aW⟩ ⟨q,r,o,k1,k2,k3,k4,k5,y,z,A,B,ao,ap,K⟩;dsimp only at y z A B ao ap K;subst K;simp[y,z,A,B,ao,ap];refine qP (fun s=>∃q:Nat,W/V<=q/\q<=W/V+1/\q<wB/\aN s.env 0=.sl 0 0 1 j (n+1)/\aN s.env 1=.p (.seq (x.map fun x:Nat=>.int .u64 x))/\aN s.env 5=.p (.int .i64 n)/\aN s.env 6=.p (.int .u64 q)/\s.heap=[.arr .exact 0 1 (bX m (ae wB X))]) ?_ ?_
 ·have a2:q*ae wB V b+(r+o*wB)=W/wB^b/\W/V<=q/\q<wB/\r<wB/\o<=1:=⟨k1,k2,k3,k4,k5⟩
  clear k1 k2 k3 k4 k5;refine lp (α:=Nat×Nat×Nat) (fun a=>⟨[(8,.p (.int .u64 a.2.2)),(7,.p (.int .u64 a.2.1)),(6,.p (.int .u64 a.1)),(5,.p (.int .i64 n)),(1,.p (.seq (x.map fun x:Nat=>.int .u64 x))),(0,.sl 0 0 1 j (n+1))],[.arr .exact 0 1 (bX m (ae wB X))]⟩)
   (fun a=>a.1*ae wB V b+(a.2.1+a.2.2*wB)=W/wB^b/\W/V<=a.1/\a.1<wB/\a.2.1<wB/\a.2.2<=1) (fun a=>a.1) (q,r,o) a2 ?_ (he:=by simp[y,z,A,B,ao,ap])
  rintro⟨q,r,o⟩ ⟨k1,k2,k3,k4,k5⟩;dsimp only at k1 k2 k3 k4 k5
  by_cases a0:o=0
  ·subst a0;rw[ha,hd]at k1;have S:=xG q (ae wB V d) k3 (b8 bc _ _);rw[show(18446744073709551616:Nat)=wB from rfl]at S;have bh:=gb (q*ae wB V d) wB;have bi:q*ae wB V d%wB<wB:=e7 _ (by decide);have ay:=fun h=>C1 bc G I l (by rw[<-E];exact k1) k3 (by rw[<-am];exact h);have ax:=fun h=>Ms (q:=q) (r:=r) bc G I l (by rw[<-E];exact k1) (by rw[<-am];exact h);have bj:=b8 bc W d;generalize q*ae wB V d%wB=lo at*;generalize q*ae wB V d/wB=hi at*;generalize q*ae wB V d=P at*;have v:=pV r (ae wB V b) 0 (by omega);simp[e1,e2,F,L,aI,ba,O,R,Y,Z,t];refine c2 S ?_;rcases Nat.lt_trichotomy hi r with h|h|h
   ·have hI:(hi:Int)<r:=by omega
    simp[hI];refine⟨q,k2,ay (by
     have:=fd wB (show hi+1<=r by omega);rw[hK,hu,ej wB r]at this;omega),k3,rfl⟩
   ·subst h
    by_cases bm:lo<=ae wB W d
    ·have hI:(lo:Int)<=ae wB W d:=by omega
     simp[hI,e2,g2,Y,Z];exact⟨q,k2,ay (by rw[ej hi];omega),k3,rfl⟩
    ·have hI:¬(lo:Int)<=ae wB W d:=by omega
     have J:=ax (by rw[ej hi];omega);have a3:0<q:=e6 (hg _) J;obtain⟨k,rfl⟩:∃k,q=k+1:=⟨q-1,by omega⟩
     have w1:b5.wrap (k:Int)=k:=fo _ (by omega) (by omega);simp[hI,e1,e2,g2,O,R,Y,Z,F,L,w1,ad,aJ,bA];refine c3 v ?_;simp;have z1:=hA (hi+ae wB V b) wB;have z2:k*ae wB V b+((hi+ae wB V b)%wB+(hi+ae wB V b)/wB*wB)=W/wB^b:=by
      rw[ej _ wB,z1,<-k1,fv,gt,hD,g0 hi]
     have z3:=b8 bc V b;have z4:(hi+ae wB V b)/wB<=1:=by
      have z5:=k4;simp only[wB]at z3 z5⊢;omega
     exact rd (k,(hi+ae wB V b)%wB,(hi+ae wB V b)/wB) ⟨z2,hB.1 J,hy k3,e7 _ (by decide),z4⟩
   ·have hI:¬(hi:Int)<r:=by omega
    have aR:¬(hi:Int)=r:=by omega
    have aT:=fd wB (show r+1<=hi by omega);rw[hK,hu,ej wB r]at aT;have J:=ax (by omega);have a3:0<q:=e6 (hg _) J;obtain⟨k,rfl⟩:∃k,q=k+1:=⟨q-1,by omega⟩
    have w1:b5.wrap (k:Int)=k:=fo _ (by omega) (by omega);simp[hI,aR,e1,e2,g2,O,R,Y,Z,F,L,w1,ad,aJ,bA];refine c3 v ?_;simp;have z1:=hA (r+ae wB V b) wB;have z2:k*ae wB V b+((r+ae wB V b)%wB+(r+ae wB V b)/wB*wB)=W/wB^b:=by
     rw[ej _ wB,z1,<-k1,fv,gt,hD,g0 r]
    have z3:=b8 bc V b;have z4:(r+ae wB V b)/wB<=1:=by
     have z5:=k4;simp only[wB]at z3 z5⊢;omega
    exact rd (k,(r+ae wB V b)%wB,(r+ae wB V b)/wB) ⟨z2,hB.1 J,hy k3,e7 _ (by decide),z4⟩
  ·have a1:o=1:=by omega
   subst a1;simp;exact⟨q,k2,C1 bc G I l (by rw[<-E];exact k1) k3 (Kn bc (by omega) k3),k3,rfl⟩
 rintro⟨aP,aW⟩ ⟨q,k2,k3,k4,y,z,A,B,K⟩;dsimp only at y z A B K;subst K;have a4:q*V<wB^(n+1):=Sq k4 l;have aD:q*V<=W+wB^(n+1):=by omega
 obtain⟨D,ac⟩:∃D,D=W+wB^(n+1)-q*V:=⟨_,rfl⟩
 have aG:∀i,i<n+1->au prog 350 [.int .u64 (ae wB W i),.int .u64 (ae wB (q*V) i),.int .u64 (eX wB (W+wB^(n+1)) (q*V) i)] (.aA [.int .u64 (ae wB D i),.int .u64 (eX wB (W+wB^(n+1)) (q*V) (i+1))]):=fun i hi=>by
  have h:=Ma aD i;rw[<-ac,ud hi]at h;exact h
 have a6:∀i,(q*ae wB V i%wB+iu wB V q i+0)%wB=ae wB (q*V) i/\b5.wrap (((q*ae wB V i/wB:Nat):Int)+((q*ae wB V i%wB+iu wB V q i+0)/wB:Nat))=(iu wB V q (i+1):Nat):=fun i=>by
  obtain⟨u,H⟩:=Vj (q:=q) (V:=V) bc i;have aQ:=aF6 (V:=V) bc k4 (i+1);rw[<-u,<-H];rw[<-H]at aQ;generalize q*ae wB V i=P at*;generalize iu wB V q i=c at*;have e:P/wB+(P%wB+c+0)/wB=(P+c)/wB:=by simp only[wB];omega
  refine⟨by simp only[wB];omega,?_⟩;rw[fo _ (by omega) (by omega)];omega
 have aV:=R0 (V:=V) (q:=q) T a4;have a5:=Vl bc k4 l;have bn:(bX m (ae wB X)).length=m:=JI _ _;simp[y,z,A,B];refine lp (α:=Nat) (fun i=>⟨[(105,.p (.int .i64 i)),(104,.p (.int .i64 n)),(12,.p (.int .u64 (iu wB V q i:Nat))),(11,.p (.int .u64 (eX wB (W+wB^(n+1)) (q*V) i:Nat))),(6,.p (.int .u64 q)),(5,.p (.int .i64 n)),(1,.p (.seq (x.map fun x:Nat=>.int .u64 x))),(0,.sl 0 0 1 j (n+1))],[.arr .exact 0 1 (bX m (dw j i (ae wB X) (ae wB D)))]⟩)
  (fun i=>i<=n) (fun i=>n-i) 0 (by simp) ?_ (hn:=by simp[rC]) (he:=by simp[y,z,A,B,TO,Al]) (hh:=by simp[rC])
 intro i k5;have a8:=cQ (i:=i) (by omega)
 by_cases hi:i<n
 ·have N:i<x.length:=aA i hi;have M:=U i N;have an:x[i]?=some (ae wB V i):=by rw[dl N,M]
  have S:=xG q (ae wB V i) k4 (b8 bc _ _);rw[show(18446744073709551616:Nat)=wB from rfl]at S;have v:=pV (q*ae wB V i%wB) (iu wB V q i) 0 (by omega);obtain⟨be,bf⟩:=a6 i;have aa:=aG i (by omega);rw[be]at v;generalize q*ae wB V i%wB=lo at*;generalize q*ae wB V i/wB=bk at*;generalize (lo+iu wB V q i+0)/wB=c' at*;have ak:i<n+1:=by omega
  have C:(bX m (dw j i (ae wB X) (ae wB D)))[j+i]?=some (.p (.int .u64 (ae wB W i))):=by rw[xf (by omega),<-w,pN]
  have ab:=xe (m:=m) (j:=j) (i:=i) (g:=ae wB X) (f:=ae wB D) rfl;simp[t,hi,M,an];refine c2 S ?_;simp;refine c3 v ?_;simp[bf,ak,C];refine c3 aa ?_;simp[ak,C,ab,a8,ad,aJ,bA];exact rd (i+1) (show i+1<=n by omega)
 have aX:i=n:=by omega
 subst aX;have C:(bX m (dw j i (ae wB X) (ae wB D)))[j+i]?=some (.p (.int .u64 (ae wB W i))):=by rw[xf (by omega),<-w,pN]
 have ab:=xe (m:=m) (j:=j) (i:=i) (g:=ae wB X) (f:=ae wB D) rfl;have aa:=aG i (by omega);rw[<-a5]at aa;simp[C];refine c3 aa ?_;rw[aV]
 by_cases aE:q*V<=W
 ·obtain⟨y1,y2⟩:=aF0 aE k3 aC k2;have ai:=aF (ae wB D) fun k hk=>by rw[ac,<-y2];exact aFZ aE hk
  have ar:(q:Int)=(W:Int)/V:=by rw[y1];rfl
  have al:(if W<q*V then 1 else 0:Nat)=0:=if_neg (by omega);rw[al];simp[C,ab,ai,<-ar,ad,aJ,bA]
 ·obtain⟨y1,y2⟩:=Vp (by omega) k3 aC k2;have y3:=y2 (wB^(i+1)) aD;rw[<-ac]at y3;have ai:=aF (ae wB (D+V)) fun k hk=>by rw[y3,ud hk]
  have al:(if W<q*V then 1 else 0:Nat)=1:=if_pos (by omega);have ar:b5.wrap ((q:Int)-1)=(W:Int)/V:=by
   have e:((W/V:Nat):Int)=(W:Int)/V:=rfl;rw[<-e];generalize W/V=Q at*;rw[fo _ (by omega) (by omega)];omega
  rw[al];simp[C,ab,ad,aJ,bA];refine lp (α:=Nat) (fun k=>⟨[(157,.p (.int .i64 k)),(156,.p (.int .i64 i)),(17,.p (.int .u64 (cS wB D V k:Nat))),(6,.p (.int .u64 q)),(5,.p (.int .i64 i)),(1,.p (.seq (x.map fun x:Nat=>.int .u64 x))),(0,.sl 0 0 1 j (i+1))],[.arr .exact 0 1 (bX m (dw j k (dw j (i+1) (ae wB X) (ae wB D)) (ae wB (D+V))))]⟩)
   (fun k=>k<=i) (fun k=>i-k) 0 (by simp) ?_ (hn:=by simp[rC]) (he:=by simp[wK]) (hh:=by simp[rC])
  intro k k6;have a9:=cQ (i:=k) (by omega);have gk:(bX m (dw j k (dw j (i+1) (ae wB X) (ae wB D)) (ae wB (D+V))))[j+k]?=some (.p (.int .u64 (ae wB D k))):=by rw[xf (by omega),dw,if_pos (by omega),ho]
  have aK:=xe (m:=m) (j:=j) (i:=k) (g:=dw j (i+1) (ae wB X) (ae wB D)) (f:=ae wB (D+V)) rfl;obtain⟨u,H⟩:=pz bc D V k
  by_cases hk:k<i
  ·have N:k<x.length:=aA k hk;have M:=U k N;have an:x[k]?=some (ae wB V k):=by rw[dl N,M]
   have v:=pV (ae wB D k) (ae wB V k) (cS wB D V k) (lg bc _ _ _);rw[u,H]at v;have aB:k<i+1:=by omega
   simp[t,hk,aB,M,an,gk,ad,aJ,bA];refine e3 v ?_;simp[aB,gk,aK,a9,ad,aJ,bA];refine⟨⟨by rfl,by rfl,by rfl⟩,?_⟩;exact rd (k+1) (show k+1<=i by omega)
  have aY:k=i:=by omega
  subst aY;have a7:ae wB V k=0:=jh l;rw[a7,hd]at u;have bg:b5.wrap ((ae wB D k:Int)+(cS wB D V k:Nat))=(ae wB (D+V) k:Nat):=by rw[<-Int.natCast_add,xB,u]
  simp[gk,aK,bg,ar,ai,U5,ad,aJ,bA]
theorem U2{a b i:Nat}(c:0<b):(a/wB^(i+1)%b*wB+ae wB a i)/b=ae wB (a/b) i/\(a/wB^(i+1)%b*wB+ae wB a i)%b=a/wB^i%b:=by
 have e:=rl (B:=wB) a i;have g:=gb (a/wB^(i+1)) b;have f:a/wB^i=(a/wB^(i+1)%b*wB+ae wB a i)+a/wB^(i+1)/b*wB*b:=by
  rw[e];generalize ae wB a i=d;generalize a/wB^(i+1)/b=Q at*;generalize a/wB^(i+1)%b=R at*;rw[<-g,fv,ej b,g4 Q b wB];omega
 have j:(a/wB^(i+1)%b*wB+ae wB a i)/b<wB:=by
  rw[eq c];have k:=b8 bc a i;have h:=fb wB (show a/wB^(i+1)%b+1<=b from e7 _ c);rw[fv,gt]at h;rw[ej wB];omega
 constructor
 ·conv=>rhs;rw[ae,g7,ej b,<-g7,f,ht _ _ c,gg,en j]
 ·rw[f,gg]
def qF(Q i k:Nat):Nat:=if i<=k then ae wB Q k else 0
theorem KK{m Q i:Nat}:(bX m (qF Q (i+1))).set i (.p (.int .u64 (ae wB Q i)))=bX m (qF Q i):=by
 refine oi ?_ fun k hk=>?_
 ·rw[qF,if_pos (gx _)]
 ·rw[qF,qF]
  by_cases h:i<=k
  ·rw[if_pos h,if_pos (by omega)]
  ·rw[if_neg h,if_neg (by omega)]
theorem JY{m Q:Nat}:bX m (qF Q 0)=bX m (ae wB Q):=AH fun k=>by rw[qF,if_pos (hg _)]
theorem JZ{m Q:Nat}:List.replicate m (AV.p (.int .u64 0))=bX m (qF Q m):=by
 rw[Bw (f:=fun _=>0) (fun _=>rfl)];exact Au fun k hk=>by rw[qF,if_neg (by omega)]
theorem B6{m N:Nat}(h:N<wB^m)(b:m<=1048576):∃l:List Nat,l.length=m/\bX m (ae wB N)=l.map (AV.p∘fun x:Nat=>PV.int .u64 x)/\au prog 313 [.seq (eW l)] (eN N):=by
 refine⟨(dp m).map (ae wB N),by simp,Bx m _,?_⟩;have a:=rX ((dp m).map (ae wB N)) (by simp;omega);rw[show eg ((dp m).map (ae wB N))=aq wB N from ji bc h]at a;exact a
theorem ou{a b:Nat}:fE a b<0↔a<b:=by
 rw[fE];split
 ·simp[*]
 ·split<;>simp[*]
theorem SQ(r:Nat):((r:Int)%2^b5.bits).toNat=r%2^b5.bits:=by
 rw[show b5.bits=64 from rfl];omega
theorem XS{b d n a s V:Nat}(g:b/wB^a=d)(h:n=a+1)(hs:s<64)(o:wB<=2*(d*2^s))(i:d*2^s<wB)(f:V=b*2^s):V<wB^n/\wB^n<=2*V:=by
 have m:0<wB^a:=e9 (by decide);have j:0<2^s:=e9 (by decide);have k:b<(d+1)*wB^a:=by
  rw[<-g,fv,gt];exact Nat.lt_div_mul_add m
 have l:(d+1)*2^s<=wB:=by
  have c:=xR hs;have e:d<2^(64-s):=by
   rw[<-c,ej d]at i;exact Nat.lt_of_mul_lt_mul_left i
  rw[<-c,ej];exact fd _ e
 constructor
 ·rw[f,h,e8,ej _ wB];refine eo (fm k j) ?_;rw[g4];exact fb _ l
 ·rw[f,h,e8,ej _ wB];refine Nat.le_trans (fb _ o) ?_;have c:d*wB^a<=b:=by rw[<-g];exact g9 _ _
  have e:=fb (2^s) c;rw[gy 2,g4 d];exact fd _ e
theorem UT{a n b s V:Nat}(f:a<wB^b)(hs:s<64)(e:wB^n<=2*V)(i:n<=b):a*2^s<V*wB^(b-n+1):=by
 have d:2*2^s<=wB:=by
  have c:2^(s+1)<=2^64:=ew (by decide) hs;rw[e8,ej]at c;exact c
 have g:=fb (wB^(b-n+1)) e;rw[<-ge,show n+(b-n+1)=b+1 by omega,e8,gy]at g;have c:=fd a d;have h:=fm f (show 0<wB by decide);rw[Nat.mul_left_comm]at c;generalize wB^b*wB=z1 at*;generalize V*wB^(b-n+1)=z2 at*;generalize a*2^s=z3 at*;generalize a*wB=z4 at*;clear d e f;omega
theorem XT{a b n d c:Nat}(h:a<wB^c)(f:0<b)(i:n=d+1)(g:wB^d<=b)(j:n<=c):a/b<wB^(c-n+1):=by
 rw[eq f];refine eo h ?_;have e:=fd (wB^(c-n+1)) g;rw[<-ge,show c-n+1+d=c by omega]at e;exact e
theorem UU{a b s k:Nat}(c:0<2^s):a*2^s%(b*2^s*wB^(k+1))/(b*2^s*wB^k)=ae wB (a/b) k:=by
 rw[e8,<-gy,Nat.mod_mul_right_div_self,<-g7,hr _ _ c,ae]
theorem JJ{n N:Nat}{f g:Nat->Nat}(a:n<=N)(h:∀k,k<n->f k=g k):((dp N).map f).take n=(dp n).map g:=by
 rw[<-ec,List.take_range,hl a];exact dz fun k hk=>h k (eb.1 hk)
theorem Bo(a b:Nat)(A:0<b)(be:(aq wB a).length<=1000000)(bL:(aq wB b).length<=1000000):au prog 302 [eN a,eN b] (.aA [eN (a/b),eN (a%b)]):=by
 refine aM nf Lj mix (by simp[f302]) ?_;have bh:=Fh a b (by omega) (by omega);simp[f302];refine c2 bh ?_
 by_cases I:a<b
 ·have G:=ou.2 I;simp[G,g5 I,en I,eN,aq,my]
 have G:¬fE a b<0:=fun h=>I (ou.1 h);have bk:∀i(h:i<(aq wB a).length),(aq wB a)[i]=ae wB a i:=fun i h=>et bc h;have U:∀i(h:i<(aq wB b).length),(aq wB b)[i]=ae wB b i:=fun i h=>et bc h;have B:=bY bc a;have q:=bY bc b
 by_cases K:(aq wB b).length=1
 ·rw[K,hj]at q;have W:((aq wB b).length:Int)=1:=by omega
  obtain⟨l,C,L,z⟩:=B6 (m:=(aq wB a).length) (N:=a/b) (e6 (gj _ _) B) (by omega);have aw:=rX [a%b] (by simp);have bj:eg [a%b]=aq wB (a%b):=by
   have M:a%b<wB:=g6 (e7 _ A) q;have:=ji bc (m:=1) (n:=a%b) (by rw[hj];exact M);rw[<-this,row,ea,ed,ee,ae,fl,g8,en M]
  rw[bj]at aw;have bf:(aq wB b)[0]?=some b:=by
   rw[dl (by omega),U 0 (by omega),ae,fl,g8,en q]
  have bg:∀h:0<(aq wB b).length,(aq wB b)[0]'h=b:=fun h=>by rw[U 0 h,ae,fl,g8,en q]
  have aE:a/wB^(aq wB a).length%b=0:=by rw[g5 B,hE]
  simp only[eN]at z⊢;generalize aq wB (a/b)=bF at*;generalize aq wB (a%b)=aW at*;generalize aq wB a=x at*;generalize aq wB b=y at*;obtain⟨n,w⟩:∃n,x.length=n:=⟨_,rfl⟩
  rw[w]at C L aE be;have e1:cb.wrap ((n:Int)-1)=n-1:=aO _ (by omega) (by omega);simp[G,K,W,w,e1];refine⟨by simp only[cN];omega,?_⟩;rw[JZ (Q:=a/b)];refine lp (α:=Nat) (fun i=>⟨[(8,.p (.int .i64 ((i:Int)-1))),(7,.p (.int .u64 (a/wB^i%b:Nat))),(6,.sl 0 0 1 0 n),(1,.p (.seq (y.map fun x:Nat=>.int .u64 x))),(0,.p (.seq (x.map fun x:Nat=>.int .u64 x)))],[.arr .exact 0 1 (bX n (qF (a/b) i))]⟩)
   (fun i=>i<=n) (fun i=>i) n (gx _) ?_ (he:=by simp[aE])
  intro i k1
  by_cases hi:0<i
  ·obtain⟨k,rfl⟩:∃k,i=k+1:=⟨i-1,by omega⟩
   have e2:cb.wrap ((k:Int)-1)=k-1:=aO _ (by omega) (by omega);have aU:k<x.length:=by omega
   have hx:=bk k aU;have ac:x[k]?=some (ae wB a k):=by rw[dl aU,hx]
   have av:=KB (a/wB^(k+1)%b) (ae wB a k) b (e7 _ A) q (b8 bc _ _);obtain⟨r,ag⟩:=U2 (a:=a) (i:=k) A;rw[r,ag]at av;have aK:=KK (m:=n) (Q:=a/b) (i:=k);have gk:=l7 (n:=n) (qF (a/b) (k+1)) (show k<n by omega);have aG:k<n:=by omega
   generalize a/wB^(k+1)%b=bG at*;simp[w,e2,hx,ac,bf,bg,K,aG,ad,aJ,bA];refine e3 av ?_;simp[aK,gk,e2,aG,ad,aJ,bA];refine⟨by rfl,?_⟩;exact rd k (show k<=n by omega)
  ·obtain rfl:i=0:=by omega
   simp[JY,L];refine cp z (by simp[C];exact⟨rfl,rfl⟩) ?_ (h1:=by simp[eW,dx,C]);simp;refine cp aw (by simp;exact⟨rfl,rfl⟩) ?_ (h1:=by simp[eW]);simp;exact bw.refl _
 have bO:2<=(aq wB b).length:=by
  rcases gc (aq wB b).length 1 with h|h
  ·have e:(aq wB b).length=0:=by omega
   rw[e,fl]at q;omega
  ·omega
 have W:¬((aq wB b).length:Int)=1:=by omega
 obtain⟨n,w⟩:∃n,(aq wB b).length=n:=⟨_,rfl⟩
 obtain⟨c,Y⟩:∃c,(aq wB a).length=c:=⟨_,rfl⟩
 obtain⟨o,Z⟩:∃o,n=o+1:=⟨n-1,by omega⟩
 have aC:wB^o<=b:=by
  rcases gc b (wB^o)with h|h
  ·have:=dN bc o b h;omega
  ·exact h
 obtain⟨d,J⟩:∃d,d=ae wB b o:=⟨_,rfl⟩
 have aD:d<wB:=by rw[J];exact b8 bc _ _
 have aB:b/wB^o=d:=by
  rw[J,ae,en];rw[eq (e9 (by decide)),ej,<-e8,show o.succ=n from Z.symm,<-w];exact q
 have bi:0<d:=by rw[<-aB];exact Nat.div_pos aC (e9 (by decide))
 obtain⟨s,hs,bK,bu,bv⟩:=IX bi aD;have aL:=Mc d aD;obtain⟨V,E⟩:∃V,V=b*2^s:=⟨_,rfl⟩
 have D:0<2^s:=e9 (by decide);have bb:b<=V:=by rw[E];exact Nat.le_mul_of_pos_right _ D
 have ba:0<V:=eo A bb;obtain⟨az,bd⟩:=XS aB Z hs bu bv E;have ay:(aq wB V).length=n:=by
  have u:=dN bc n V az;rcases gc (aq wB V).length n with h|h
  ·have ap:=eo (bY bc V) (ew (show 0<wB by decide) (show(aq wB V).length<=o by omega));omega
  ·omega
 have z:=B6 (m:=n+1) (N:=V) (eo az (ew (by decide) (by omega))) (by omega);obtain⟨l,C,L,z⟩:=z;have ab:=HE b s hs (by omega);have aa:=HE a s hs (by omega);have af:o<(aq wB b).length:=by omega
 have hx:=U o af;have ac:(aq wB b)[o]?=some d:=by rw[dl af,hx,J]
 rw[w,<-E]at ab;rw[Y]at aa;have aQ:n<=c:=by
  rcases gc c n with h|h
  ·have:=eo B (ew (show 0<wB by decide) (show(aq wB a).length<=o by omega));omega
  ·exact h
 rw[Y]at B;have a3:=UT (n:=n) B hs bd aQ;have a5:=XT (n:=n) B A Z aC aQ;have a6:a%b<wB^n:=g6 (e7 _ A) (by rw[w]at q;exact q);have bz:eg ((dp n).map (ae wB (a%b)))=aq wB (a%b):=ji bc a6;have gJ:∀X j,j+n+1<=c+1->X<V*wB^(j+1)->_:=fun X j u ap=>Yh X V (c+1) j n ay (by omega) u (by omega) ap;simp only[eN]at z⊢aa ab gJ;generalize aq wB V=bE at*;generalize bB:aq wB (a/b)=bF at*;generalize bP:aq wB (a%b)=aW at*;generalize aq wB a=x at*;generalize aq wB b=y at*;have e1:cb.wrap ((n:Int)-1)=o:=by rw[aO _ (by omega) (by omega)];omega
 have bt:(64:Int)-(ce d:Nat)=s:=by omega
 rw[bt]at aL;rw[<-J]at hx;have bn:¬(n:Int)=1:=by omega
 have bo:¬n=1:=by omega
 simp[G,K,W,bn,bo,w,e1,hx,ac,af,ad,aJ,bA];refine c1 aL ?_;simp;refine Np ab ?_;simp[L];refine cp z (by simp[C];exact⟨rfl,rfl⟩) ?_ (h1:=by simp[eW,dx,C]);simp;refine Np aa ?_;obtain⟨m,aP⟩:∃m,m=c-n:=⟨_,rfl⟩
 have e2:cb.wrap ((c:Int)-n)=m:=by rw[aO _ (by omega) (by omega)];omega
 have e3:cb.wrap ((m:Int)+1)=m+1:=cQ (by omega);simp[ay,Y,e2,e3];refine⟨⟨by omega,by simp only[cN];omega⟩,?_⟩;have ar:a*2^s%(V*wB^(m+1))=a*2^s:=en (by rw[aP];exact a3);rw[JZ (Q:=a/b)];refine qP (fun s'=>aN s'.env 9=.p (.int .i64 s)/\aN s'.env 11=.sl 1 0 1 0 (c+1)/\aN s'.env 12=.p (.int .i64 n)/\aN s'.env 13=.sl 2 0 1 0 (m+1)/\s'.heap=[.arr .frozen 0 1 (l.map (AV.p∘fun x:Nat=>PV.int .u64 x)),.arr .exact 0 1 (bX (c+1) (ae wB (a%b*2^s))),.arr .exact 0 1 (bX (m+1) (ae wB (a/b)))]) ?_ ?_
 ·refine lp (α:=Nat) (fun j=>⟨[(14,.p (.int .i64 ((j:Int)-1))),(13,.sl 2 0 1 0 (m+1)),(12,.p (.int .i64 n)),(11,.sl 1 0 1 0 (c+1)),(10,.p (.seq (bE.map fun x:Nat=>.int .u64 x))),(9,.p (.int .i64 s))],[.arr .frozen 0 1 (l.map (AV.p∘fun x:Nat=>PV.int .u64 x)),.arr .exact 0 1 (bX (c+1) (ae wB (a*2^s%(V*wB^j)))),.arr .exact 0 1 (bX (m+1) (qF (a/b) j))]⟩)
   (fun j=>j<=m+1) (fun j=>j) (m+1) (gx _) ?_ (hn:=by simp[ar]) (hh:=by simp[ar])
  intro j k1
  by_cases bN:0<j
  ·obtain⟨k,rfl⟩:∃k,j=k+1:=⟨j-1,by omega⟩
   have e4:cb.wrap ((k:Int)-1)=k-1:=aO _ (by omega) (by omega);have e5:cb.wrap ((k:Int)+n)=k+n:=aO _ (by omega) (by omega);have aY:cb.wrap ((k:Int)+n+1)=k+n+1:=aO _ (by omega) (by omega);have aK:=gJ (a*2^s%(V*wB^(k+1))) k (by omega) (e7 _ (Nat.mul_pos ba (e9 (by decide))));have hq:a*2^s%(V*wB^(k+1))/(V*wB^k)=ae wB (a/b) k:=by
    rw[E];exact UU D
   have M:a*2^s%(V*wB^(k+1))%(V*wB^k)=a*2^s%(V*wB^k):=by
    rw[e8,<-gy,Nat.mod_mul_right_mod]
   rw[hq,M]at aK;generalize a*2^s%(V*wB^(k+1))=X at*;generalize aA:a*2^s%(V*wB^k)=bH at*;have a2:((k:Int)+n+1).toNat=k+n+1:=by omega
   have f2:(0:Int)<=(k:Int)+n+1:=by omega
   have f3:(k:Int)+n+1<=(c:Int)+1:=by omega
   have f4:k<=k+n+1:=by omega
   have f5:¬k=k+n+1:=by omega
   have f6:k+n+1-k=n+1:=by omega
   have f7:k<m+1:=by omega
   have gk:=l7 (n:=m+1) (qF (a/b) (k+1)) f7;have bD:=KK (m:=m+1) (Q:=a/b) (i:=k);simp[e4,e5,aY,JI,a2,f2,f3,f4,f5,f6];rw[show(if k=0 then({v:=.sl 1 0 1 0 (k+n+1),ak:=[(1,.arr .exact 0 1 (bX (c+1) (ae wB X)))]}:aS)else{v:=.sl 1 0 1 k (n+1),ak:=[(1,.arr .exact 0 1 (bX (c+1) (ae wB X)))]})={v:=.sl 1 0 1 k (n+1),ak:=[(1,.arr .exact 0 1 (bX (c+1) (ae wB X)))]}by split<;>simp[*]];simp;refine⟨by omega,?_⟩;refine cf aK [1] ?_;simp[gk,bD,e4,f7,ad,aJ,bA];exact rd k (show k<=m+1 by omega) (hn:=by simp[aA]) (hh:=by simp[aA])
  ·obtain rfl:j=0:=by omega
   have a4:a*2^s%V=a%b*2^s:=by rw[E,hp]
   simp[JY,a4]
 rintro⟨bI,bM⟩ ⟨ah,ai,aj,al,aR⟩;dsimp only at ah ai aj al aR;subst aR;obtain⟨R,H⟩:∃R,R=a%b*2^s:=⟨_,rfl⟩
 rw[<-H];simp[ah,ai,aj,al];refine lp (α:=Nat) (fun i=>⟨[(97,.p (.int .i64 i)),(96,.p (.int .i64 n)),(13,.sl 2 0 1 0 (m+1)),(12,.p (.int .i64 n)),(11,.sl 1 0 1 0 (c+1)),(9,.p (.int .i64 s))],[.arr .frozen 0 1 (l.map (AV.p∘fun x:Nat=>PV.int .u64 x)),.arr .exact 0 1 (bX (c+1) (dw 0 i (ae wB R) (ae wB (a%b)))),.arr .exact 0 1 (bX (m+1) (ae wB (a/b)))]⟩)
  (fun i=>i<=n) (fun i=>n-i) 0 (hg _) ?_ (hn:=by simp[rC]) (he:=by simp[ah,ai,aj,al]) (hh:=by simp[rC])
 intro i k1;have O:=cQ (i:=i) (by omega)
 by_cases hi:i<n
 ·have F:i<c+1:=by omega
  have aF:i+1<c+1:=by omega
  have an:(bX (c+1) (dw 0 i (ae wB R) (ae wB (a%b))))[i]?=some (.p (.int .u64 (ae wB R i))):=by
   have:=xf (m:=c+1) (j:=0) (i:=i) (g:=ae wB R) (f:=ae wB (a%b)) (by omega)
   rwa [hb]at this
  have am:=s8 (ae wB R i) s (by omega);have bm:i<c:=by omega
  by_cases ao:0<s
  ·obtain⟨t,bx⟩:∃t,t=64-s:=⟨_,rfl⟩
   have a0:cb.wrap (64-(s:Int))=(t:Int):=by rw[aO _ (by omega) (by omega)];omega
   have a1:=vE (ae wB R (i+1)) t (by omega);have aK:=xR hs;rw[<-bx]at aK;have a8:0<2^t:=e9 (by decide);have bs:ae wB R i/2^s<2^t:=by rw[eq D,ej,aK];exact b8 bc _ _
   have aT:ae wB R (i+1)*2^t%wB=ae wB R (i+1)%2^s*2^t:=by rw[<-aK,hp]
   have br:ae wB R i/2^s|||(ae wB R (i+1)*2^t%wB)=ae wB (a%b) i:=by
    have u:=aGd D a8 R i;rw[aK,H,Nat.mul_div_cancel _ D,<-H]at u;rw[hJ,aT,Cm bs,<-aT,u,g0]
   have T:=Dh (ae wB R i/2^s) (ae wB R (i+1)*2^t%wB) (e6 (gj _ _) (b8 bc _ _)) (e7 _ (by decide));rw[br]at T;generalize ae wB R i/2^s=r at*;generalize ae wB R (i+1)*2^t%wB=ag at*;have aX:b5.wrap ((r%2^b5.bits|||((ag:Int)%2^b5.bits).toNat:Nat):Int)=(ae wB (a%b) i:Nat):=by
    rw[SQ];exact T
   have S:=oi (n:=c+1) (i:=i) (v:=r) (f:=dw 0 i (ae wB R) (ae wB (a%b))) (g:=fun k=>if k=i then r else dw 0 i (ae wB R) (ae wB (a%b)) k) (if_pos rfl) (fun k hk=>if_neg hk);have g2:=l7 (n:=c+1) (fun k=>if k=i then r else dw 0 i (ae wB R) (ae wB (a%b)) k) F;have g3:=l7 (n:=c+1) (fun k=>if k=i then r else dw 0 i (ae wB R) (ae wB (a%b)) k) aF;rw[if_pos rfl]at g2;rw[if_neg (by omega),dw,if_neg (by omega)]at g3;have bC:=oi (n:=c+1) (i:=i) (v:=ae wB (a%b) i) (f:=fun k=>if k=i then r else dw 0 i (ae wB R) (ae wB (a%b)) k) (g:=dw 0 (i+1) (ae wB R) (ae wB (a%b))) (by rw[dw,if_pos (by omega),hF]) (fun k hk=>by
    rw[if_neg hk,dw,dw]
    by_cases h:k<i
    ·rw[if_pos (by omega),if_pos (by omega)]
    ·rw[if_neg (by omega),if_neg (by omega)])
   generalize (fun k=>if k=i then r else dw 0 i (ae wB R) (ae wB (a%b)) k)=bJ at*;simp[hi,F,an,am,ao,O,S,ad,aJ,bA];simp[F,aF,bm,a0,O,g2,g3,ad,aJ,bA];simp[a1,T,aX,F,O,bC,g2,ad,aJ,bA];refine⟨by omega,⟨by rfl,by rfl,by rfl,by rfl,by rfl⟩,?_⟩;exact rd (i+1) (show i+1<=n by omega)
  ·have aV:s=0:=by omega
   have a7:ae wB R i=ae wB (a%b) i:=by rw[H,aV,fl,hu]
   have S:=xe (m:=c+1) (j:=0) (i:=i) (g:=ae wB R) (f:=ae wB (a%b)) (v:=ae wB R i) a7.symm;rw[hb]at S;have aZ:(ae wB R i:Int).fdiv (2^(min s b5.bits))=(ae wB R i:Nat):=by rw[am,aV,fl,g8]
   simp[hi,F,an,ao,O,S,aZ,ad,aJ,bA];exact rd (i+1) (show i+1<=n by omega)
 obtain rfl:i=n:=by omega
 obtain⟨bQ,aH,bp,ax⟩:=B6 (m:=m+1) (N:=a/b) (by rw[aP];exact a5) (by omega);obtain⟨P,aI,bq,a9⟩:∃P:List Nat,P.length=c+1/\bX (c+1) (dw 0 i (ae wB R) (ae wB (a%b)))=P.map (AV.p∘fun x:Nat=>PV.int .u64 x)/\au prog 313 [.seq (eW (P.take i))] (.seq (aW.map fun x:Nat=>.int .u64 x)):=by
  refine⟨(dp (c+1)).map (dw 0 i (ae wB R) (ae wB (a%b))),by simp,Bx _ _,?_⟩;have e:((dp (c+1)).map (dw 0 i (ae wB R) (ae wB (a%b)))).take i=(dp i).map (ae wB (a%b)):=by
   exact JJ (by omega) fun k hk=>by rw[dw,if_pos (by omega),hF]
  rw[e];have u:=rX ((dp i).map (ae wB (a%b))) (by simp;omega);rw[bz]at u;exact u
 simp only[eN,bB]at ax;simp[bp,bq];refine ep ax (by simp[aH];exact⟨rfl,rfl⟩) (by simp;exact⟨rfl,rfl⟩) ?_ (h1:=by simp[eW,dx,aH]);simp[aI];refine⟨by omega,?_⟩;have bl:i<=c+1:=by omega
 refine ep a9 (by simp[aI,bl];exact⟨rfl,rfl⟩) (by simp;exact⟨rfl,rfl⟩) ?_ (h1:=by simp[eW,ec]);simp;rfl
def bt(k:Nat)(q:Rat):Prop:=q.num.natAbs<2^k/\q.den<2^k
theorem bt.mono{k l:Nat}{q:Rat}(h:bt k q)(a:k<=l):bt l q:=
 ⟨eo h.1 (ew (by omega) a),eo h.2 (ew (by omega) a)⟩
theorem kZ{n:Int}{d:Nat}(h:d≠0):(hM n d).num=n/(hG n.natAbs d:Nat)/\(hM n d).den=d/hG n.natAbs d:=by
 have:hM n d=Rat.normalize n d h:=by
  rw[hN];rfl
 rw[this,Rat.normalize_eq h];exact⟨rfl,rfl⟩
theorem Bt{n:Int}{d k:Nat}(h:d≠0)(a:n.natAbs<2^k)(b:d<2^k):bt k (hM n d):=by
 obtain⟨e1,e2⟩:=kZ (n:=n) h;refine⟨?_,?_⟩
 ·rw[e1];refine e6 ?_ a;rw[Int.natAbs_ediv_of_dvd (Int.ofNat_dvd_left.2 (Nat.gcd_dvd_left _ _))];exact gj _ _
 ·rw[e2];exact e6 (gj _ _) b
theorem yj{a b:Nat}{x y:Rat}(h:bt a x)(c:bt b y):bt (a+b+1) (x+y):=by
 have e:x+y=hM (x.num*y.den+y.num*x.den) ((x.den*y.den:Nat):Int):=by rw[Rat.add_def'];rfl
 rw[e];have e1:2^(a+b+1)=2^a*2^b+2^a*2^b:=by rw[e8,ge];omega
 refine Bt (hz x.den_nz y.den_nz) ?_ ?_
 ·rw[e1];refine e6 (Int.natAbs_add_le _ _) ?_;rw[ck,ck,cv,cv];have g1:=gi h.1 c.2;have g2:=gi c.1 h.2;rw[ej (2^b)]at g2;omega
 ·have:=gi h.2 c.2;rw[e1];omega
theorem sc{a:Nat}{x:Rat}(h:bt a x):bt a (-x):=by
 refine⟨by rw[Rat.neg_num,Int.natAbs_neg];exact h.1,by rw[Rat.neg_den];exact h.2⟩
theorem tG{a b:Nat}{x y:Rat}(h:bt a x)(c:bt b y):bt (a+b+1) (x-y):=by
 rw[hO];exact yj h (sc c)
theorem jz{a b:Nat}{x y:Rat}(h:bt a x)(c:bt b y):bt (a+b) (x*y):=by
 have e:x*y=hM (x.num*y.num) ((x.den*y.den:Nat):Int):=by
  rw[Rat.mul_def,hN];rfl
 rw[e];refine Bt (hz x.den_nz y.den_nz) ?_ ?_
 ·rw[ck,ge];exact gi h.1 c.1
 ·rw[ge];exact gi h.2 c.2
theorem Ue{x:Rat}(h:x≠0):(x⁻¹).num=x.num.sign*x.den/\(x⁻¹).den=x.num.natAbs:=by
 have a:x.num≠0:=fun e=>h (hP.1 e);have e:x⁻¹=hM (x.num.sign*x.den) (x.num.natAbs:Nat):=by
  rw[Rat.inv_def];rcases cx x.num 0 with h|h|h
  ·have e1:x.num.sign= -1:=Int.sign_eq_neg_one_of_neg h;have e2:((x.num.natAbs:Nat):Int)= -x.num:=by omega
   rw[e1,e2,show(-1*(x.den:Int))= -(x.den:Int)by omega,Rat.divInt_neg',Int.neg_neg]
  ·exact(a h).elim
  ·have e1:x.num.sign=1:=Int.sign_eq_one_of_pos h;have e2:((x.num.natAbs:Nat):Int)=x.num:=by omega
   rw[e1,e2,Int.one_mul]
 have b:hG (x.num.sign*x.den).natAbs x.num.natAbs=1:=by
  rw[ck,dg a,gt,cv,Nat.gcd_comm];exact x.reduced
 obtain⟨e1,e2⟩:=kZ (n:=x.num.sign*x.den) (d:=x.num.natAbs) (by omega);rw[e,e1,e2,b];simp
theorem Ah{a:Nat}{x:Rat}(h:bt a x):bt a x⁻¹:=by
 by_cases b:x=0
 ·subst b;have:(0:Rat)⁻¹=0:=Rat.inv_zero;rw[this];exact h
 ·obtain⟨e1,e2⟩:=Ue b;have c:x.num≠0:=fun e=>b (hP.1 e);refine⟨?_,by rw[e2];exact h.1⟩;rw[e1,ck,dg c,gt,cv];exact h.2
theorem U3{a b:Nat}{x y:Rat}(h:bt a x)(c:bt b y):bt (a+b) (x/y):=by
 rw[Rat.div_def];exact jz h (Ah c)
theorem GP{k:Nat}{n:Int}(h:n.natAbs<2^k)(hk:0<k):bt k (n:Rat):=by
 refine⟨h,?_⟩;show(1:Nat)<2^k;exact Nat.one_lt_two_pow (by omega)
structure NI where
 v:Int
 m:Bool
def NI.sm(a:NI):Bool:=decide (-9223372036854775808<a.v/\a.v<9223372036854775808)||(decide (a.v= -9223372036854775808)&&a.m)
def NI.of(n:Int):NI:=⟨n,true⟩
def NI.mk'(n:Int):NI:=⟨n,false⟩
def NI.neg(a:NI):NI:=.mk' (-a.v)
def NI.abs(a:NI):NI:=if a.v<0 then .mk' (-a.v)else a
def NI.add(a b:NI):NI:=⟨a.v+b.v,a.sm&&b.sm⟩
def NI.sub(a b:NI):NI:=a.add b.neg
def NI.mul(a b:NI):NI:=.mk' (a.v*b.v)
def NI.div(a b:NI):NI:=⟨a.v/b.v,decide (a.v%b.v≠0)⟩
def NI.mod(a b:NI):NI:=.mk' (a.v%b.v)
structure NF where
 q:Rat
 m:Bool
def NF.num(a:NF):NI:=⟨a.q.num,a.m⟩
def NF.den(a:NF):NI:=.mk' a.q.den
def NF.whole(a:NI):NF:=⟨a.v,a.m⟩
def NF.int(n:Int):NF:=⟨n,true⟩
def NF.fp(a:NF):Bool:=decide (a.q.den=1)
def NF.add(a b:NF):NF:=⟨a.q+b.q,a.fp&&b.fp&&(a.num.sm&&b.num.sm)⟩
def NF.neg(a:NF):NF:=⟨-a.q,false⟩
def NF.sub(a b:NF):NF:=a.add b.neg
def NF.mul(a b:NF):NF:=⟨a.q*b.q,false⟩
def NF.inv(a:NF):NF:=⟨a.q⁻¹,false⟩
def NF.div(a b:NF):NF:=⟨a.q/b.q,false⟩
@[simp] theorem NI.qD(a b:NI):(a.add b).v=a.v+b.v:=rfl
@[simp] theorem NI.lF(a b:NI):(a.mul b).v=a.v*b.v:=rfl
@[simp] theorem NI.Da(a:NI):a.neg.v= -a.v:=rfl
@[simp] theorem NI.Pb(a b:NI):(a.sub b).v=a.v-b.v:=by show a.v+-b.v=_;omega
@[simp] theorem NF.Ac(a b:NF):(a.add b).q=a.q+b.q:=rfl
@[simp] theorem NF.aJz(a:NF):a.neg.q= -a.q:=rfl
@[simp] theorem NF.iK(a b:NF):(a.sub b).q=a.q-b.q:=by show a.q+-b.q=_;rw[hO]
@[simp] theorem NF.aJy(a b:NF):(a.mul b).q=a.q*b.q:=rfl
@[simp] theorem NF.aIU(a:NF):a.inv.q=a.q⁻¹:=rfl
@[simp] theorem NF.aH1(a b:NF):(a.div b).q=a.q/b.q:=rfl
@[simp] theorem NF.aIT(n:Int):(NF.int n).q=n:=rfl
def eU(z:Int):PV:=.st 128 [.int .i64 z,.aL]
def jX(z:Int):PV:=.st 128 [.int .i64 (if z<0 then -1 else 1),eN z.natAbs]
def C5(p:PV)(z:Int):Prop:=(p=eU z/\-9223372036854775808<=z/\z<=9223372036854775807)\/(p=jX z/\9223372036854775808<=z.natAbs)
theorem ND(a:NI):∃p,p=if a.sm=true then eU a.v else jX a.v:=⟨_,rfl⟩
noncomputable def eI(a:NI):PV:=b3 (ND a)
theorem iS(a:NI):eI a=if a.sm=true then eU a.v else jX a.v:=b2 (ND a)
theorem NI.yn{a:NI}(h:-9223372036854775808<a.v)(b:a.v<9223372036854775808):a.sm=true:=by
 simp[NI.sm,h,b]
theorem NI.oy{a:NI}(h:a.sm=true):-9223372036854775808<=a.v/\a.v<=9223372036854775807:=by
 simp only[NI.sm,b1,decide_eq_true_eq,b0]at h;omega
theorem NI.xU{a:NI}(h:¬a.sm=true):9223372036854775808<=a.v.natAbs:=by
 simp only[NI.sm,b1,decide_eq_true_eq,b0,not_or,not_and]at h;omega
theorem NI.OJ(z:Int):(NI.mk' z).sm=decide (-9223372036854775808<z/\z<9223372036854775808):=by
 rw[NI.sm,NI.mk',Bool.and_false,Bool.or_false]
theorem NI.im(z:Int):(NI.mk' z).v=z:=rfl
theorem lJ(a:NI):C5 (eI a) a.v:=by
 rw[iS]
 by_cases h:a.sm=true
 ·rw[if_pos h];have:=NI.oy h;exact .inl ⟨rfl,this⟩
 ·rw[if_neg h];exact .inr ⟨rfl,NI.xU h⟩
theorem ny{z:Int}(h:-9223372036854775808<z)(a:z<9223372036854775808):eI (.mk' z)=eU z:=by
 rw[iS,NI.OJ,if_pos (by simp[h,a]),NI.im]
theorem NC{z:Int}(h:9223372036854775808<=z.natAbs):eI (.mk' z)=jX z:=by
 rw[iS,NI.OJ,if_neg (by simp;omega),NI.im]
theorem sF{z:Int}(h:-9223372036854775808<=z)(c:z<=9223372036854775807):eI (.of z)=eU z:=by
 rw[iS,if_pos]
 ·rfl
 ·by_cases b:z= -9223372036854775808
  ·subst b;rfl
  ·exact NI.yn (a:=.of z) (by show _<z;omega) (by show z<_;omega)
@[simp] theorem bxN(u:TypeId)(h:¬u=359):(Gl.bx u:Option TypeId)=none:=by
 have a:hH u 359=false:=by
  cases a:hH u 359
  ·rfl
  ·exact(h (Nat.eq_of_beq_eq_true a)).elim
 show(bif hH u 359 then some 360 else none)=none;rw[a];rfl
@[simp] theorem aHN:(Gl.bx 359:Option TypeId)=some 360:=(rfl)
theorem kK:aq wB 0=[]:=by simp[aq,my]
theorem rW{n:Nat}(a:0<n)(h:n<wB):aq wB n=[n]:=by
 have h1:=ji bc (m:=1) (n:=n) (by rw[hj];exact h);rw[<-h1,row,ea,ed,ee,ae,fl,g8,en h];have:=tJ [] n (by omega)
 rwa [List.nil_append]at this
theorem qM(n:Int):au prog 198 [.int .i64 n] (eU n):=by
 refine aM nf MJ mix (by simp[f198]) ?_;simp[f198,eU]
theorem CH(n:Int)(h:-9223372036854775808<=n)(b:n<=9223372036854775807):au prog 253 [.int .i64 n] (.int .u64 (n.natAbs:Nat)):=by
 refine aM nf KZ mix (by simp[f253]) ?_
 by_cases a:n<0
 ·have e:b5.wrap (cb.wrap (-n))=(n.natAbs:Nat):=by
   by_cases hm:n= -9223372036854775808
   ·subst hm;rfl
   ·rw[aO _ (by omega) (by omega),fo _ (by omega) (by simp only[wB];omega)];omega
  simp[f253,a,e]
 ·have e:b5.wrap n=(n.natAbs:Nat):=by rw[fo _ (by omega) (by simp only[wB];omega)];omega
  simp[f253,a,e]
theorem mW(p:PV)(z:Int)(h:C5 p z):au prog 254 [p] (.aA [.bool (decide (z<0)),eN z.natAbs]):=by
 refine aM nf KY mix (by simp[f254]) ?_;rcases h with⟨rfl,b,d⟩|⟨rfl,b⟩
 ·have hs:=CH z b d
  by_cases a:z=0
  ·subst a;simp[f254,eU,eN,kK,dm,cH]
  ·simp[f254,eU,a,dm,cH];refine e1 hs ?_;simp[eN,rW (n:=z.natAbs) (by omega) (by simp only[wB];omega)]
   done
 ·have e:aq wB z.natAbs≠[]:=fun h=>by
   have:=bY bc z.natAbs;rw[h,dy,fl]at this;omega
  simp only[jX,eN];obtain⟨c,cs,hc⟩:=dq e;rw[hc];have f:decide ((if z<0 then(-1:Int)else 1)<0)=decide (z<0):=by split<;>simp[*]
  generalize (if z<0 then(-1:Int)else 1)=g at*;simp[f254,dm,cH,f]
theorem uO(neg:Bool)(n:Nat)(j:(aq wB n).length<=1048576):au prog 255 [.bool neg,eN n] (eI (.mk' (if neg then -(n:Int)else n))):=by
 by_cases g:n=0
 ·subst g;rw[show(if neg=true then -((0:Nat):Int)else((0:Nat):Int))=0 by simp,ny (by decide) (by decide)];refine aM nf uL mix (by simp[f255]) ?_;simp[f255,eU,eN,kK,dm,cH]
 by_cases p:n<=9223372036854775807
 ·have d:=rW (n:=n) (by omega) (by simp only[wB];omega);have hI:(n:Int)<=9223372036854775807:=by omega
  have w1:cb.wrap (n:Int)=n:=aO _ (by omega) (by omega);have f:cb.wrap (-(n:Int))= -n:=aO _ (by omega) (by omega);cases neg
  ·rw[if_neg (by decide),ny (by omega) (by omega)];refine aM nf uL mix (by simp[f255]) ?_;simp[f255,eU,eN,d,hI,w1,f,dm,cH]
  ·rw[if_pos rfl,ny (by omega) (by omega)];refine aM nf uL mix (by simp[f255]) ?_;simp[f255,eU,eN,d,hI,w1,f,dm,cH]
 ·have k:aq wB n≠[]:=fun h=>by
   have:=bY bc n;rw[h,dy,fl]at this;omega
  have e:(aq wB n).length=1->(aq wB n)[0]?=some n:=fun h=>by
   have a:=bY bc n;rw[h,hj]at a;rw[rW (by omega) a];rfl
  have hI:¬(n:Int)<=9223372036854775807:=by omega
  have b:(if neg then -(n:Int)else n).natAbs=n:=by cases neg<;>simp
  have l:(if(if neg then -(n:Int)else n)<0 then(-1:Int)else 1)=if neg then -1 else 1:=by
   cases neg
   ·simp only[Bool.false_eq_true,if_false];rw[if_neg (by omega)]
   ·simp only[if_true];rw[if_pos (by omega)]
  rw[NC (by rw[b];omega)];refine aM nf uL mix (by simp[f255]) ?_;rw[jX,b,l];simp only[eN];obtain⟨c,cs,hc⟩:=dq k;rw[hc]at e⊢;rw[hc]at j;cases cs with
  |nil=>
   have i:c=n:=by simpa using e rfl
   subst i;cases neg<;>simp[f255,hI,dm,cH]
  |cons c2 cs=>
   have m:¬((cs.length:Int)+1+1=1):=by omega
   have o:¬((cs.length:Int)+1+1=0):=by omega
   cases neg<;>simp[f255,m,o,dm,cH]
def okW(z:Int):Prop:=(aq wB z.natAbs).length<=900000
theorem aAw{p:PV}{z:Int}(h:C5 p z):∃a b,p=.st 128 [a,b]:=by
 rcases h with⟨rfl,_⟩|⟨rfl,_⟩
 ·exact⟨_,_,rfl⟩
 ·exact⟨_,_,rfl⟩
theorem uD(a:NI):∃x y,eI a=.st 128 [x,y]:=aAw (lJ a)
theorem sB(a:NI)(l:okW a.v):au prog 246 [eI a] (eI a.neg):=by
 have h:=lJ a;have d:=mW (eI a) a.v h;have b:=uO (!decide (a.v<0)) a.v.natAbs (by rw[okW]at l;omega);have k:(if(!decide (a.v<0))=true then -((a.v.natAbs:Nat):Int)else a.v.natAbs)= -a.v:=by
  by_cases e:a.v<0
  ·simp[e];omega
  ·simp[e];omega
 rw[k]at b;rw[show a.neg=.mk' (-a.v)from rfl];generalize a.v=z at*;generalize n:eI a=p at*;obtain⟨o,q,g⟩:=uD (.mk' (-z));rcases h with⟨rfl,i,m⟩|⟨rfl,i⟩
 ·by_cases f:z= -9223372036854775808
  ·rw[g]at b⊢;refine aM nf ye mix (by simp[f246]) ?_;subst f;simp only[eU]at d⊢;simp[f246,dm,cH];refine c1 d ?_;simp[eN]at b⊢;refine c2 b ?_;simp[ad,aJ,bA]
  ·rw[ny (by omega) (by omega)];have w:cb.wrap (-z)= -z:=aO _ (by omega) (by omega);refine aM nf ye mix (by simp[f246]) ?_;simp[f246,eU,f,w,dm,cH]
 ·rw[g]at b⊢;refine aM nf ye mix (by simp[f246]) ?_;have j:aq wB z.natAbs≠[]:=fun h=>by
   have:=bY bc z.natAbs;rw[h,dy,fl]at this;omega
  simp only[jX,eN]at d b⊢;obtain⟨c,cs,hc⟩:=dq j;rw[hc]at d b⊢;generalize (if z<0 then(-1:Int)else 1)=r at*;simp[f246,dm,cH];refine c1 d ?_;simp at b⊢;refine c2 b ?_;simp[ad,aJ,bA]
theorem sq(a:NI):au prog 258 [eI a] (.int .i64 (if a.v<0 then -1 else if a.v=0 then 0 else 1)):=by
 have h:=lJ a;generalize a.v=z at*;generalize eI a=p at*;refine aM nf Lw mix (by simp[f258]) ?_;rcases h with⟨rfl,b,c⟩|⟨rfl,b⟩
 ·simp[f258,eU];rcases cx z 0 with h|h|h
  ·have e:z<1:=by omega
   simp[h,e];omega
  ·subst h;simp
  ·have e1:¬z<0:=by omega
   have e2:¬z=0:=by omega
   have e3:¬z<1:=by omega
   simp[e1,e2,e3]
 ·simp[f258,jX,eN]
  by_cases h:z<0
  ·simp[h]
  ·have e2:¬z=0:=by omega
   simp[h,e2]
theorem Tu{z:Int}(h:-18446744073709551616<=z)(a:z<=18446744073709551614):cb.wrap z=if z< -9223372036854775808 then z+18446744073709551616 else if 9223372036854775807<z then z-18446744073709551616 else z:=by
 rw[cc]
 split
 ·omega
 ·split<;>omega
theorem mT{z:Int}(h:okW z):(aq wB z.natAbs).length<=900000:=h
theorem RL{a b L:Nat}(c:(aq wB a).length<=L)(d:(aq wB b).length<=L):(aq wB (a+b)).length<=L+1:=by
 refine dN bc _ _ ?_;have e:=eo (bY bc a) (ew (show 0<wB by decide) c);have f:=eo (bY bc b) (ew (show 0<wB by decide) d);have g:2*wB^L<=wB^(L+1):=by rw[e8,ej];exact fd _ bc
 omega
theorem Qr{a b:Int}(i:okW a)(j:okW b):
 ((decide (a<0)=decide (b<0)/\au prog 255 [.bool (decide (a<0)),eN (a.natAbs+b.natAbs)] (eI (.mk' (a+b))))\/
  (decide (a<0)≠decide (b<0)/\b.natAbs<=a.natAbs/\au prog 255 [.bool (decide (a<0)),eN (a.natAbs-b.natAbs)] (eI (.mk' (a+b))))\/
  (decide (a<0)≠decide (b<0)/\a.natAbs<b.natAbs/\au prog 255 [.bool (decide (b<0)),eN (b.natAbs-a.natAbs)] (eI (.mk' (a+b))))):=by
 have m:=RL (a:=a.natAbs) (b:=b.natAbs) i j;have l:∀n,n<=a.natAbs+b.natAbs->(aq wB n).length<=1048576:=fun n h=>by
  have:=dN bc _ _ (e6 h (bY bc (a.natAbs+b.natAbs)));omega
 have f:∀(neg:Bool)(n:Nat),n<=a.natAbs+b.natAbs->(if neg then -(n:Int)else n)=a+b->au prog 255 [.bool neg,eN n] (eI (.mk' (a+b))):=fun neg n h e=>by
  have g:=uO neg n (l n h);rw[e]at g;exact g
 by_cases d:decide (a<0)=decide (b<0)
 ·have c:=f (decide (a<0)) (a.natAbs+b.natAbs) (gx _) (by
   by_cases h:a<0
   ·have:b<0:=by simpa[h]using d
    simp[h];omega
   ·have:¬b<0:=by simpa[h]using d
    simp[h];omega)
  exact .inl ⟨d,c⟩
 ·by_cases k:b.natAbs<=a.natAbs
  ·have c:=f (decide (a<0)) (a.natAbs-b.natAbs) (by omega) (by
    by_cases h:a<0
    ·have:¬b<0:=by simpa[h]using d
     simp[h];omega
    ·have:b<0:=by simpa[h]using d
     simp[h];omega)
   exact .inr (.inl ⟨d,k,c⟩)
  ·have c:=f (decide (b<0)) (b.natAbs-a.natAbs) (by omega) (by
    by_cases h:b<0
    ·have:¬a<0:=fun c=>d (by simp[h,c]);simp[h];omega
    ·have:a<0:=by
      by_cases c:a<0
      ·exact c
      ·exact(d (by simp[h,c])).elim
     simp[h];omega)
   exact .inr (.inr ⟨d,by omega,c⟩)
theorem Cv(a:NI):(eI a=eU a.v/\a.sm=true/\-9223372036854775808<=a.v/\a.v<=9223372036854775807)\/(a.sm=false/\∃d c cs,eI a=.st 128 [.int .i64 d,.seq (c::cs)]):=by
 by_cases h:a.sm=true
 ·left;exact⟨by rw[iS,if_pos h],h,NI.oy h⟩
 ·right;refine⟨by simpa using h,?_⟩;have e:=NI.xU h;have b:aq wB a.v.natAbs≠[]:=fun h=>by
   have:=bY bc a.v.natAbs;rw[h,dy,fl]at this;omega
  obtain⟨c,cs,hc⟩:=dq b;rw[iS,if_neg h,jX,eN,hc];exact⟨_,_,_,rfl⟩
theorem vf(a b:NI)(B:okW a.v)(D:okW b.v):au prog 271 [eI a,eI b] (eI (a.add b)):=by
 have o:=mW (eI a) a.v (lJ a);have q:=mW (eI b) b.v (lJ b);have U:=mT B;have V:=mT D;have t:=Fh a.v.natAbs b.v.natAbs (by omega) (by omega);have C:=Sp a.v.natAbs b.v.natAbs (by omega) (by omega);have y:=Qr B D;have tf:=Cv a;have G:=Cv b
 by_cases u:(a.sm=true/\b.sm=true)/\-9223372036854775808<=a.v+b.v/\a.v+b.v<=9223372036854775807
 ·obtain⟨⟨g,n⟩,d,l⟩:=u;rw[show eI a=eU a.v by rw[iS,if_pos g],show eI b=eU b.v by rw[iS,if_pos n],show a.add b=.of (a.v+b.v)by rw[NI.add,g,n];rfl,sF d l];generalize a.v=a at*;generalize b.v=b at*;refine aM nf Cz mix (by simp[f271]) ?_;have w:=aO (a+b) d l;have e:(decide (a<a+b)==decide (0<b))=true:=by
   have:a<a+b↔0<b:=by omega
   simp[this]
  simp[f271,eU,w,dm,cH,e]
 have F:eI (a.add b)=eI (.mk' (a.v+b.v)):=by
  by_cases h:-9223372036854775808<a.v+b.v/\a.v+b.v<9223372036854775808
  ·rw[ny h.1 h.2,iS,if_pos (NI.yn h.1 h.2)];rfl
  ·by_cases l:(a.sm&&b.sm)=true
   ·have H:a.sm=true/\b.sm=true:=by simpa using l
    have I:¬(-9223372036854775808<=a.v+b.v/\a.v+b.v<=9223372036854775807):=fun h=>u ⟨H,h⟩;rw[NC (by omega),iS,if_neg,NI.qD];intro g;have:=NI.oy g;rw[NI.qD]at this;omega
   ·rw[NI.add,NI.mk'];rw[show(a.sm&&b.sm)=false by simpa using l]
 rw[F];clear F;obtain⟨M,N,J⟩:=uD a;obtain⟨O,P,K⟩:=uD b;obtain⟨Y,Z,L⟩:=uD (.mk' (a.v+b.v));rw[L]at y⊢;rw[J]at o tf⊢;rw[K]at q G⊢;generalize a.v=f at*;generalize b.v=bv at*;refine aM nf Cz mix (by simp[f271]) ?_;simp[f271,-aH];rw[aH];simp[-aH];refine join (fun s=>aN s.env 2=.ptr 0 []/\aN s.env 3=.ptr 1 []/\aN s.env 4=.ptr 2 []/\s.heap=[.box false (.p (.st 128 [M,N])),.box false (.p (.st 128 [O,P])),.box false (.p (.st 128 [.int .i64 0,.aL]))]) ?_ ?_
 ·clear y t C o q;rcases tf with⟨d,m,l,g⟩|⟨m,Q,c,cs,d⟩
  ·simp only[eU,PV.st.injEq,ei,and_true,true_and]at d;obtain⟨rfl,rfl⟩:=d;rcases G with⟨n,A,S,T⟩|⟨A,Q,c,cs,n⟩
   ·simp only[eU,PV.st.injEq,ei,and_true,true_and]at n;obtain⟨rfl,rfl⟩:=n;have I:¬(-9223372036854775808<=f+bv/\f+bv<=9223372036854775807):=fun h=>u ⟨⟨m,A⟩,h⟩;have w:=Tu (z:=f+bv) (by omega) (by omega);have e:¬(f<cb.wrap (f+bv)↔0<bv):=by
     rw[w]
     by_cases W:0<bv
     ·rw[if_neg (by omega),if_pos (by omega)];omega
     ·rw[if_pos (by omega)];omega
    simp[dm,cH,e]
   ·simp only[PV.st.injEq,ei,and_true,true_and]at n;obtain⟨rfl,rfl⟩:=n;simp[dm,cH]
  ·simp only[PV.st.injEq,ei,and_true,true_and]at d;obtain⟨rfl,rfl⟩:=d;simp[dm,cH]
 rintro⟨R,X⟩ ⟨i,j,k,E⟩;dsimp only at i j k E;subst E;simp[i,j,k];refine c1 o ?_;simp[i,j,k,ad,aJ,bA];refine c1 q ?_;rcases y with⟨d,g⟩|⟨d,l,g⟩|⟨d,l,g⟩
 ·have m:(f<0↔bv<0):=by simpa using d
  rw[d]at g;simp[i,j,k,m,ad,aJ,bA];refine c2 C ?_;simp;refine c2 g ?_;simp[i,j,k,ad,aJ,bA]
 ·have m:¬(f<0↔bv<0):=by simpa using d
  have r:0<=fE f.natAbs bv.natAbs:=by
   have h:=mt ou.1 (show¬f.natAbs<bv.natAbs by omega);omega
  have x:=Gj f.natAbs bv.natAbs l (by omega);simp[i,j,k,m,ad,aJ,bA];refine c2 t ?_;simp[r];refine c2 x ?_;simp[i,j,k,ad,aJ,bA];refine c2 g ?_;simp[i,j,k,ad,aJ,bA]
 ·have m:¬(f<0↔bv<0):=by simpa using d
  have r:¬0<=fE f.natAbs bv.natAbs:=by have:=ou.2 l;omega
  have x:=Gj bv.natAbs f.natAbs (by omega) (by omega);simp[i,j,k,m,ad,aJ,bA];refine c2 t ?_;simp[r];refine c2 x ?_;simp[i,j,k,ad,aJ,bA];refine c2 g ?_;simp[i,j,k,ad,aJ,bA]
@[simp] theorem aJS(a:NI):aJ (eI a)=.agg 128:=by
 obtain⟨x,y,h⟩:=uD a;rw[h];rfl
theorem O7(a:NI):∃z:Int,z=if a.sm=true then a.v else if a.v<0 then -1 else 1:=⟨_,rfl⟩
noncomputable def sI(a:NI):Int:=b3 (O7 a)
theorem xV(a:NI):sI a=if a.sm=true then a.v else if a.v<0 then -1 else 1:=b2 (O7 a)
theorem Pk(a:NI):∃p:PV,p=if a.sm=true then .aL else eN a.v.natAbs:=⟨_,rfl⟩
noncomputable def wI(a:NI):PV:=b3 (Pk a)
theorem Cl(a:NI):wI a=if a.sm=true then .aL else eN a.v.natAbs:=b2 (Pk a)
@[simp] theorem X8(a:NI):bV (eI a)=[.int .i64 (sI a),wI a]:=by
 by_cases h:a.sm=true
 ·rw[iS,xV,Cl,if_pos h,if_pos h,if_pos h];rfl
 ·rw[iS,xV,Cl,if_neg h,if_neg h,if_neg h];rfl
theorem O8(a:NI):sI a<0↔a.v<0:=by
 rw[xV];split
 ·exact Iff.rfl
 ·split<;>omega
theorem lG{a:NI}(h:a.sm=true):wI a=.aL:=by rw[Cl,if_pos h]
theorem nr{a:NI}(h:a.sm=false):∃c cs,wI a=.seq (c::cs):=by
 rcases Cv a with⟨_,b,_⟩|⟨_,e,c,cs,d⟩
 ·rw[h]at b;exact absurd b (by decide)
 ·refine⟨c,cs,?_⟩;have:=X8 a;rw[d]at this;simp[bV]at this;exact this.2.symm
theorem ml{a:NI}(h:a.sm=true):sI a=a.v:=by rw[xV,if_pos h]
theorem CS(a b:NI)(d:okW a.v)(c:okW b.v):au prog 257 [eI a,eI b] (eI (a.sub b)):=by
 refine aM nf Lx mix (by simp[f257]) ?_;have e:okW b.neg.v:=by simpa[okW]using c
 simp[f257];refine e1 (sB b c) ?_;simp;refine e2 (vf a b.neg d e) ?_;simp[ad];exact Wk.refl _
theorem Nd(a:NI)(c:okW a.v):au prog 331 [eI a] (eI a.abs):=by
 refine aM nf LX mix (by simp[f331]) ?_
 by_cases h:a.v<0
 ·have b:=(O8 a).2 h;have e:a.abs=a.neg:=by rw[NI.abs,if_pos h];rfl
  simp[f331,ad,b];refine c1 (sB a c) ?_;simp[ad,e]
 ·have b:=mt (O8 a).1 h;have e:a.abs=a:=by rw[NI.abs,if_neg h]
  simp[f331,ad,b,e]
def jG(x y:Int):Int:=if x<y then -1 else if x=y then 0 else 1
theorem Nf(a b:NI)(l:okW a.v)(m:okW b.v):au prog 169 [eI a,eI b] (.int .i64 (jG a.v b.v)):=by
 refine aM nf MS mix (by simp[f169]) ?_;have o:(a.sm=true/\b.sm=true)\/¬(a.sm=true/\b.sm=true):=b4 _;rcases o with⟨d,k⟩|d
 ·have w1:=lG d;have f:=lG k;have i:=ml d;have j:=ml k;rcases cx a.v b.v with h|h|h
  ·have e:jG a.v b.v= -1:=by rw[jG,if_pos h]
   simp[f169,ad,w1,f,i,j,h,e,dm,cH]
  ·have e:jG b.v b.v=0:=by rw[jG,if_neg (by omega),if_pos rfl]
   have d:¬a.v<b.v:=by omega
   simp[f169,ad,w1,f,i,j,h,e,dm,cH]
  ·have e:jG a.v b.v=1:=by rw[jG,if_neg (by omega),if_neg (by omega)]
   have d:¬a.v<b.v:=by omega
   simp[f169,ad,w1,f,i,j,h,d,e,dm,cH]
 ·have e:(if(a.sub b).v<0 then(-1:Int)else if(a.sub b).v=0 then 0 else 1)=jG a.v b.v:=by
   rw[NI.Pb,jG];rcases cx a.v b.v with h|h|h
   ·rw[if_pos (by omega),if_pos h]
   ·rw[if_neg (by omega),if_pos (by omega),if_neg (by omega),if_pos h]
   ·rw[if_neg (by omega),if_neg (by omega),if_neg (by omega),if_neg (by omega)]
  have g:=sq (a.sub b);rw[e]at g;rcases hs:a.sm with _|_
  ·obtain⟨c,cs,w1⟩:=nr hs;simp[f169,ad,w1,dm,cH];refine c2 (CS a b l m) ?_;simp;refine c1 g ?_;simp
  ·have w1:=lG hs;obtain⟨c,cs,f⟩:=nr (a:=b) (by cases n:b.sm with|false=>rfl|true=>exact(d ⟨hs,n⟩).elim);simp[f169,ad,w1,f,dm,cH];refine c2 (CS a b l m) ?_;simp;refine c1 g ?_;simp
theorem RJ{a b L M:Nat}(e:(aq wB a).length<=L)(f:(aq wB b).length<=M):(aq wB (a*b)).length<=L+M:=by
 refine dN bc _ _ ?_;have c:=eo (bY bc a) (ew (show 0<wB by decide) e);have d:=eo (bY bc b) (ew (show 0<wB by decide) f);rw[ge];exact gi c d
theorem yy(a b:NI)(G:(aq wB a.v.natAbs).length+(aq wB b.v.natAbs).length<=900000):au prog 168 [eI a,eI b] (eI (a.mul b)):=by
 have E:=mW (eI a) a.v (lJ a);have hq:=mW (eI b) b.v (lJ b);have D:=Sn a.v.natAbs b.v.natAbs (by omega);have I:=RJ (gx (aq wB a.v.natAbs).length) (gx (aq wB b.v.natAbs).length);have w:=uO (decide (a.v<0)!=decide (b.v<0)) (a.v.natAbs*b.v.natAbs) (by omega);have e:(if(decide (a.v<0)!=decide (b.v<0))=true then -((a.v.natAbs*b.v.natAbs:Nat):Int)else(a.v.natAbs*b.v.natAbs:Nat))=a.v*b.v:=by
  rw[<-ck];rcases dk a.v 0 with i|i
  ·rcases dk b.v 0 with d|d
   ·have:=Int.mul_nonneg_of_nonpos_of_nonpos (c9 i) (c9 d);simp[i,d];omega
   ·have:=Int.mul_nonpos_of_nonpos_of_nonneg (c9 i) d;have n:¬b.v<0:=by omega
    simp[i,n];omega
  ·have n:¬a.v<0:=by omega
   rcases dk b.v 0 with d|d
   ·have:=Int.mul_nonpos_of_nonneg_of_nonpos i (c9 d);simp[n,d];omega
   ·have:=Int.mul_nonneg i d;have B:¬b.v<0:=by omega
    simp[n,B];omega
 rw[e]at w;rw[show a.mul b=.mk' (a.v*b.v)from rfl];refine aM nf MT mix (by simp[f168]) ?_;simp[f168,-aH];rw[aH];simp[-aH];refine join (fun s=>aN s.env 2=.ptr 0 []/\aN s.env 3=.ptr 1 []/\aN s.env 4=.ptr 2 []/\s.heap=[.box false (.p (eI a)),.box false (.p (eI b)),.box false (.p (.st 128 [.int .i64 0,.aL]))]) ?_ ?_
 ·rcases hs:a.sm with _|_
  ·obtain⟨c,cs,w1⟩:=nr hs;simp[ad,w1,dm,cH]
  ·have w1:=lG hs;rcases o:b.sm with _|_
   ·obtain⟨c,cs,j⟩:=nr o;simp[ad,w1,j,dm,cH]
   ·have j:=lG o;have f:=ml hs;have g:=ml o;have y:=NI.oy hs;have z:=NI.oy o;have z1:=CH a.v y.1 y.2;have z2:=CH b.v z.1 z.2;have M:=xG a.v.natAbs b.v.natAbs (by omega) (by omega);obtain⟨H,t⟩:∃H,H=a.v.natAbs*b.v.natAbs/18446744073709551616:=⟨_,rfl⟩
    obtain⟨L,q⟩:∃L,L=a.v.natAbs*b.v.natAbs%18446744073709551616:=⟨_,rfl⟩
    rw[<-t,<-q]at M;have C:a.v.natAbs*b.v.natAbs=H*18446744073709551616+L:=by omega
    clear t q
    by_cases c1:H=0/\L<=9223372036854775807
    ·obtain⟨rfl,q⟩:=c1;have u:(L:Int)<=9223372036854775807:=by omega
     have r:cb.wrap (L:Int)=L:=aO _ (by omega) (by omega);have A:cb.wrap (-(L:Int))= -L:=aO _ (by omega) (by omega);rw[C]at e;simp only[ha,hb]at e;rw[ny (by rw[<-e];split<;>omega) (by rw[<-e];split<;>omega),eU]
     by_cases c2:a.v<0↔b.v<0
     ·rw[if_neg (by simp[c2])]at e;rw[<-e];simp[ad,w1,j,f,g,dm,cH];refine e1 z1 ?_;simp[f,g];refine e1 z2 ?_;simp;refine e2 M ?_;simp[u,c2,ad,w1,j,f,g,r]
     ·rw[if_pos (by simp[c2])]at e;rw[<-e];simp[ad,w1,j,f,g,dm,cH];refine e1 z1 ?_;simp[f,g];refine e1 z2 ?_;simp;refine e2 M ?_;simp[u,c2,ad,w1,j,f,g,r,A]
    ·simp[ad,w1,j,f,g,dm,cH];refine e1 z1 ?_;simp[f,g];refine e1 z2 ?_;simp;refine e2 M ?_
     by_cases c2:H=0
     ·have c3:¬(L:Int)<=9223372036854775807:=fun h=>c1 ⟨c2,by omega⟩;simp[c2,c3]
     ·have c3:¬(H:Int)=0:=by omega
      simp[c2,c3]
 ·rintro⟨F,J⟩ ⟨k,l,m,x⟩;dsimp only at k l m x;subst x;simp[k,l,m];refine c1 E ?_;simp[k,l,m];refine c1 hq ?_;simp[k,l,m];refine c2 D ?_;simp;refine c2 w ?_;simp[k,l,m,ad]
  done
end Go.az
