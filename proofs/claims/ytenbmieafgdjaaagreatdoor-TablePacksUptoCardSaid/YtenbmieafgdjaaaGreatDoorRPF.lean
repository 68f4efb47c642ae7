import Derived.Test.YtenbmieafgdjaaaGreatDoorRPE
/- Parts of a proof. -/
set_option linter.unusedSimpArgs false
set_option linter.unusedVariables false
set_option linter.unusedSectionVars false
open Go.Proofs.Tryz
open Bool renaming and_eq_true->b0, or_eq_true->b1
open Classical renaming choose_spec->b2, choose->b3, em->b4
open Go.IntKind renaming u64->b5, i64->cb, wrap_i64->cc
open Go.Lib renaming bitLen->ce
open Int renaming natAbs_mul->ck, natAbs_natCast->cv, lt_trichotomy->cx, natCast_mul->cy, lt_of_le_of_lt->c6, le_of_lt->c9, ediv_le_self->da, ediv_nonneg->db, natAbs_sign_of_ne_zero->dg, lt_or_le->dk
open List renaming getElem?_eq_getElem->dl, range->dp, exists_cons_of_ne_nil->dq, take_of_length_le->dz, length_nil->ea, map_congr_left->eb, range_one->ec, mem_range->ed, map_take->ee, map_cons->ei, map_nil->ej
open List.cons renaming injEq->en
open Nat renaming mul_comm->eo, mod_eq_of_lt->eq, lt_of_lt_of_le->ew, div_lt_iff_lt_mul->ey, pow_le_pow_right->e6, lt_of_le_of_lt->e7, mod_lt->e8, pow_succ->e9, pow_pos->fb, mul_le_mul_right->fd, mul_le_mul_left->fl, pow_zero->fm, mul_lt_mul_of_pos_right->fv, add_mul->fV, div_add_mod->gb, lt_or_ge->gc, pow_add->ge, add_mul_mod_self_right->gg, mul_lt_mul''->gi, div_le_self->gj, add_sub_cancel->gm, one_mul->gt, le_refl->gx, mul_assoc->gy, add_comm->gA, mul_right_comm->g0, div_eq_of_lt->g2, lt_trans->g3, div_div_eq_div_mul->g4, div_one->g5, div_mul_le_self->g6, zero_mul->g7, zero_add->g8, add_zero->g9, zero_le->ha, pow_one->hb, min_eq_left->hd, add_sub_cancel_left->hg, mul_mod_mul_right->hj, mul_div_mul_right->hl, add_mul_div_right->ho, mul_one->hp, mul_mod_mul_left->hr, eq_zero_or_pos->ht, lt_of_succ_lt->hu, mul_ne_zero->hv, mod_add_div->hw, lt_succ_iff->hy, mul_le_mul->hz, add_assoc->hA, zero_mod->hB, sub_zero->hC, gcd->hD, beq->hE, or_comm->hF, mul_add->hG, not_lt->hH
open Rat renaming divInt->hK, normalize_eq_mkRat->hL, sub_eq_add_neg->hM, num_eq_zero->hN
namespace Go.aj
open Go.Proofs
set_option maxHeartbeats 4000000
set_option maxRecDepth 100000
theorem yx(n:Nat):b5.wrap (n:Int)=(n% wB:Nat):=by
 rw[show b5.wrap (n:Int)=(n:Int)% 18446744073709551616 from rfl];rfl
theorem wU(x s:Nat)(hs:s<64):b5.wrap ((x:Int)*2^(min s b5.bits))=(x*2^s% wB:Nat):=by
 rw[show b5.bits=64 from rfl,hd (by omega),<-yx];congr 1
theorem ug(x s:Nat)(hs:s<=64):(x:Int).fdiv (2^(min s b5.bits))=(x/2^s:Nat):=by
 rw[show b5.bits=64 from rfl,hd hs,show(2:Int)^s=((2^s:Nat):Int)by push_cast;rfl,Int.fdiv_eq_ediv_of_nonneg _ (Int.natCast_nonneg _)];rfl
theorem EF(a b:Nat)(c:a<wB)(d:b<wB):b5.wrap ((a% 2^b5.bits|||b% 2^b5.bits:Nat):Int)=(a|||b:Nat):=by
 rw[show(2^b5.bits:Nat)=wB from rfl,eq c,eq d,yx,eq];exact Nat.or_lt_two_pow (n:=64) c d
def cu(a s i:Nat):Nat:=if i=0 then 0 else ae wB a (i-1)/2^(64-s)
def gw(a s i k:Nat):Nat:=if k<i then ae wB (a*2^s) k else if k=i then cu a s i else 0
theorem yR{s:Nat}(hs:s<64):2^s*2^(64-s)=wB:=by rw[<-ge,show s+(64-s)=64 by omega];rfl
theorem LO(a s i:Nat)(hs:s<64):cu a s i|||(ae wB a i*2^s% wB)=ae wB (a*2^s) i:=by
 have c:0<2^s:=fb (by decide);have d:0<2^(64-s):=fb (by decide);have b:=yR hs;have hc:cu a s i<2^s:=by
  rw[cu];split
  ·exact c
  ·rw[ey d,b];exact cm bd _ _
 have e:ae wB a i*2^s% wB=ae wB a i% 2^(64-s)*2^s:=by
  rw[<-b,eo,hr,eo]
 rw[hF,e,Db hc,<-e];cases i with
 |zero=>rw[cu,if_pos rfl,g9,<-b];exact(Wa a).symm
 |succ i=>rw[cu,if_neg (by omega),gm,<-b];exact(Wb c d a i).symm
theorem Bo{n:Nat}{f g:Nat->Nat}(h:∀k,k<n->f k=g k):b8 n f=b8 n g:=by
 rw[b8,b8];exact eb fun k hk=>by rw[h k (ed.1 hk)]
theorem YO(a s n:Nat)(hs:s<64)(h:ae wB a n=0):cu a s n=ae wB (a*2^s) n:=by
 rw[<-LO a s n hs,h,g7,hB,Nat.or_zero]
theorem J7(a s:Nat)(hs:s<64)(A:(aq wB a).length<=1000000):c7 prog 332 [] [.p (eN a),.p (.int .i64 s)] [.arr .exact 0 1 (b8 ((aq wB a).length+1) (ae wB (a*2^s)))] (.sl 0 0 1 0 ((aq wB a).length+1)):=by
 refine jc nf NY mix (by simp[f332]) ?_;have C:∀i(h:i<(aq wB a).length),(aq wB a)[i]=ae wB a i:=fun i h=>ek bd h;have F:=@CI a;simp only[eN];generalize aq wB a=x at*;obtain⟨n,c⟩:∃n,x.length=n:=⟨_,rfl⟩
 rw[c]at A;have J:cb.wrap ((n:Int)+1)=(n:Int)+1:=bX (by omega);simp[f332,c,J];refine⟨⟨by omega,by simp only[cO];omega⟩,?_⟩;rw[Ci (f:=gw a s 0) (by intro j;simp[gw,cu])];refine lp (α:=Nat) (fun i=>⟨[(14,.p (.int .i64 i)),(13,.p (.int .i64 n)),(12,.p (.seq (x.map fun x:Nat=>.int .u64 x))),(5,.sl 0 0 1 0 (n+1)),(1,.p (.int .i64 s))],[.arr .exact 0 1 (b8 (n+1) (gw a s i))]⟩)
  (fun i=>i<=n) (fun i=>n-i) 0 (by simp) ?_ (he:=by simp)
 intro i k1;have w:=bX (i:=i) (by omega)
 by_cases hi:i<n
 ·have l:i<x.length:=by rw[c];exact hi
  have hx:=C i l;have e:i<n+1:=by omega
  have o:=mw (gw a s i) e;have E:ae wB a i*2^s% wB<wB:=e8 _ (by decide);have B:gw a s i i<wB:=by
   rw[gw,if_neg (by omega),if_pos rfl,cu];split
   ·decide
   ·exact e7 (gj _ _) (cm bd _ _)
  have e1:=wU (ae wB a i) s hs;have e2:=EF (gw a s i i) (ae wB a i*2^s% wB) B E;have e3:gw a s i i|||(ae wB a i*2^s% wB)=ae wB (a*2^s) i:=by rw[<-LO a s i hs,gw,if_neg (by omega),if_pos rfl]
  rw[e3]at e2;have y:cb.wrap (64-(s:Int))=((64-s:Nat):Int):=by rw[aK _ (by omega) (by omega)];omega
  have e4:=ug (ae wB a i) (64-s) (by omega);have r:i+1<n+1:=by omega
  have u:=pj (n:=n+1) (i:=i) (f:=gw a s i) (g:=fun k=>if k=i then ae wB (a*2^s) i else gw a s i k) (if_pos rfl) (fun k hk=>if_neg hk);have G:=pj (n:=n+1) (i:=i+1) (v:=ae wB a i/2^(64-s)) (f:=fun k=>if k=i then ae wB (a*2^s) i else gw a s i k) (g:=gw a s (i+1)) (by
   simp[gw,cu]) (fun k hk=>by
   by_cases d:k=i
   ·subst d;simp[gw]
   ·simp only[gw,d,if_false]
    by_cases b:k<i
    ·rw[if_pos (by omega),if_pos b]
    ·rw[if_neg (by omega),if_neg hk,if_neg b])
  have D:=mw (n:=n+1) (fun k=>if k=i then ae wB (a*2^s) i else gw a s i k) r;have H:s=0->b8 (n+1) (fun k=>if k=i then ae wB (a*2^s) i else gw a s i k)=b8 (n+1) (gw a s (i+1)):=fun h=>by
   have K:ae wB a i/2^(64-s)=0:=by rw[h];exact g2 (cm bd _ _)
   refine BA fun k=>?_
   by_cases d:k=i
   ·subst d;simp[gw]
   ·simp only[gw,d,if_false]
    by_cases b:k<i
    ·rw[if_pos b,if_pos (by omega)]
    ·by_cases q:k=i+1
     ·rw[q,if_neg (by omega),if_neg (by omega),if_pos rfl,cu,if_neg (by omega),gm,K]
     ·rw[if_neg b,if_neg (by omega),if_neg q]
  generalize ae wB a i*2^s% wB=L at*;generalize ae wB a i/2^(64-s)=M at*;generalize (fun k=>if k=i then ae wB (a*2^s) i else gw a s i k)=g1 at*;obtain⟨t,I⟩:∃t,t=64-s:=⟨_,rfl⟩
  rw[<-I]at y e4
  by_cases m:0<s
  ·simp[c,hi,e,l,hx,o,e1,e2,m,y,e4,w,u,r,D,G,aa,aL,bD];refine⟨⟨by rfl,by rfl,by rfl⟩,?_⟩;refine⟨by omega,?_⟩;exact rd (i+1) (show i+1<=n by omega)
  ·have z:s=0:=by omega
   simp[c,hi,e,l,hx,o,e1,e2,m,w,u,H z,aa,aL,bD];refine⟨⟨by rfl,by rfl,by rfl⟩,?_⟩;exact rd (i+1) (show i+1<=n by omega)
 have:i=n:=by omega
 subst this;simp[c];refine .inl (Bo fun k hk=>?_);rw[gw]
 by_cases b:k<i
 ·rw[if_pos b]
 ·obtain rfl:k=i:=by omega
  rw[if_neg b,if_pos rfl,YO a s k hs (F (by omega))]
theorem xR:∀(n x:Nat),x<=n->0<x->x<2^64->1<=ce x/\2^(ce x-1)<=x/\x<2^ce x
 |0,x,h,a,_=>by omega
 |n+1,x,h,a,c=>by
  have d:=Lib.bitLen_half x (by omega) c
  by_cases b:x=1
  ·subst b;decide
  ·obtain⟨i1,i2,i3⟩:=xR n (x/2) (by omega) (by omega) (by omega);rw[d];generalize ce (x/2)=L at*;obtain⟨k,rfl⟩:∃k,L=k+1:=⟨L-1,by omega⟩
   rw[show 1+(k+1)=k+2 by omega,show k+2-1=k+1 by omega,e9,e9];rw[e9]at i3;simp only[gm]at i2;omega
theorem OM{x:Nat}(a:0<x)(h:x<2^64):ce x<=64:=by
 obtain⟨_,b,_⟩:=xR x x (gx _) a h;have:=(Nat.pow_lt_pow_iff_right (show 1<2 by decide)).1 (e7 b h);omega
def wH:Nat:=4294967296
theorem wHH:wH*wH=wB:=rfl
theorem Le{y:Nat}(a:0<y)(h:y<2^64):∃s,s<64/\ce y+s=64/\wB<=2*(y*2^s)/\y*2^s<wB:=by
 obtain⟨d,b,c⟩:=xR y y (gx _) a h;have e:=OM a h;refine⟨64-ce y,by omega,by omega,?_,?_⟩
 ·have:=fd (2^(64-ce y)) b;rw[<-ge,show ce y-1+(64-ce y)=63 by omega]at this;simp only[wB];omega
 ·have:=fv c (fb (show 0<2 by decide) (n:=64-ce y));rw[<-ge,show ce y+(64-ce y)=64 by omega]at this;simp only[wB];omega
structure Q9(hi lo y s:Nat) where
 Y:Nat
 v1:Nat
 v0:Nat
 T:Nat
 u:Nat
 u1:Nat
 u0:Nat
 q1:Nat
 R:Nat
 q0:Nat
 hY:Y=y*2^s
 eY:Y=v1*wH+v0
 Ag:v1<wH
 lD:v0<wH
 uk:wH<=2*v1
 wY:T<Y
 zU:hi*2^s<wB
 EG:hi*2^s|||lo/2^(64-s)=T
 eu:u=lo*2^s% wB
 DV:u1=u/wH
 DU:u0=u% wH
 Af:u1<wH
 Ae:u0<wH
 nZ:q1=hq wH v1 v0 T u1
 z7:q1<wH
 eR:R=T*wH+u1-q1*Y
 wX:R<Y
 QK:q1*Y<=T*wH+u1
 wF:q0=hq wH v1 v0 R u0
 z6:q0<wH
 QJ:q0*Y<=R*wH+u0
 CM:q1*wH+q0=(hi*wB+lo)/y
 rem:(R*wH+u0-q0*Y)/2^s=(hi*wB+lo)% y
theorem Zk{hi lo y:Nat}(o:hi<y)(H:y<wB)(B:lo<wB):∃s,s<64/\ce y+s=64/\Nonempty (Q9 hi lo y s):=by
 obtain⟨s,hs,w,J,m⟩:=Le (y:=y) (by omega) H;have g:=yR hs;have a:0<2^s:=fb (by decide);have x:0<2^(64-s):=fb (by decide);refine⟨s,hs,w,⟨?_⟩⟩;have e0:y*2^s=y*2^s/wH*wH+y*2^s% wH:=by rw[eo _ wH,gb]
 have E:y*2^s% wH<wH:=e8 _ (by decide);have F:y*2^s/wH<wH:=by rw[ey (by decide)];exact m
 have G:wH<=2*(y*2^s/wH):=by simp only[wH,wB]at*;omega
 have A:lo/2^(64-s)<2^s:=by rw[ey x,g];exact B
 have v:hi*2^s<wB:=g3 (fv o a) m;have h:hi*2^s+lo/2^(64-s)<y*2^s:=by
  have:=fd (2^s) (show hi+1<=y from o);rw[fV,gt]at this;omega
 have C:hi*2^s|||lo/2^(64-s)=hi*2^s+lo/2^(64-s):=Db A
 have n:lo*2^s% wB/wH<wH:=by rw[ey (by decide)];exact e8 _ (by decide)
 have b:lo*2^s% wB% wH<wH:=e8 _ (by decide);have i:(hi*wB+lo)*2^s=((hi*2^s+lo/2^(64-s))*wH+lo*2^s% wB/wH)*wH+lo*2^s% wB% wH:=by
  have e1:lo*2^s=lo/2^(64-s)*wB+lo*2^s% wB:=by
   have e2:lo*2^s/wB=lo/2^(64-s):=by
    rw[<-g,eo lo,Nat.mul_div_mul_left _ _ a]
   rw[<-e2,eo _ wB,gb]
  have e3:lo*2^s% wB=lo*2^s% wB/wH*wH+lo*2^s% wB% wH:=by rw[eo _ wH,gb]
  rw[fV,g0,e1,fV (_*wH),gy (_+_) wH wH,wHH,fV];generalize hi*2^s*wB=I;rw[<-e1];generalize lo*2^s% wB=a2 at*;generalize lo/2^(64-s)*wB=a3 at*;omega
 have l:0<y*2^s:=by omega
 obtain⟨e,d⟩:=ZO (Y:=y*2^s) (U:=(hi*wB+lo)*2^s) (c:=wH) l;have j:(hi*wB+lo)*2^s/wH=(hi*2^s+lo/2^(64-s))*wH+lo*2^s% wB/wH:=by
  rw[i,gA,ho _ _ (by decide),g2 b,g8]
 have k:(hi*wB+lo)*2^s% wH=lo*2^s% wB% wH:=by
  rw[i,gA,gg,eq b]
 rw[j,k,hl _ _ a]at e;rw[j,k,eo _ (2^s),eo y,hr]at d;rw[eo (2^s) y]at d;generalize z:y*2^s=Y at*;generalize hi*2^s+lo/2^(64-s)=T at*;generalize D:lo*2^s% wB=u at*;have t:=MH (T:=T) (c:=wH) (u1:=u/wH) (v1:=Y/wH) (v0:=Y% wH);rw[<-e0]at t;have r:=MH (T:=(T*wH+u/wH)% Y) (c:=wH) (u1:=u% wH) (v1:=Y/wH) (v0:=Y% wH);rw[<-e0]at r;have q:hq wH (Y/wH) (Y% wH) T (u/wH)=(T*wH+u/wH)/Y:=by rw[hq,<-e0]
 have p:hq wH (Y/wH) (Y% wH) ((T*wH+u/wH)% Y) (u% wH)=((T*wH+u/wH)% Y*wH+u% wH)/Y:=by rw[hq,<-e0]
 have f:(T*wH+u/wH)% Y<Y:=e8 _ l;exact{
  Y:=Y,v1:=Y/wH,v0:=Y% wH,T:=T,u:=u,u1:=u/wH,u0:=u% wH
  q1:=hq wH (Y/wH) (Y% wH) T (u/wH),R:=(T*wH+u/wH)% Y,q0:=hq wH (Y/wH) (Y% wH) ((T*wH+u/wH)% Y) (u% wH)
  hY:=z.symm,eY:=e0,Ag:=F,lD:=E,uk:=G,wY:=h,zU:=v,EG:=C,eu:=D.symm,DV:=rfl,DU:=rfl,Af:=n,Ae:=b
  nZ:=rfl,z7:=Pk (by rw[<-e0];exact h) n,eR:=t.symm,wX:=f
  QK:=by rw[q];exact g6 _ _
  wF:=rfl,z6:=Pk (by rw[<-e0];exact f) b
  QJ:=by rw[p];exact g6 _ _
  CM:=by rw[q,p,<-e]
  rem:=by rw[r,<-d,Nat.mul_div_cancel_left _ a]}
section
variable[Gl]{P:Program}{ag:FuncId->Bool}{q:Nat×Nat}
theorem rL{b:Code}{Q:bp->St->Prop}{s:St}{id:Nat}(R:St->Prop)(f:eP P ag q (.loop b) (qY id (rp R (fun _ _=>False))) s)(c:∀s',R s'->Q .normal s'):eP P ag q (.loop b) (qY id Q) s:=by
 refine nr _ (fun e s a=>?_) f;cases e with
 |normal=>exact c s a
 |exit i=>
  simp only[qY,nQ]at a⊢
  by_cases d:i=id
  ·simp[d,rp]at a⊢;exact c s a
  ·simp[d,rp]at a
 |ret=>exact a.elim
end
theorem Kf(a:Nat)(b:a<wB):b5.wrap ((a% 2^b5.bits&&&4294967295% 2^b5.bits:Nat):Int)=(a% wH:Nat):=by
 rw[show(2^b5.bits:Nat)=wB from rfl,eq b,show 4294967295% wB=2^32-1 from rfl,Nat.and_two_pow_sub_one_eq_mod,yx];rw[show(2:Nat)^32=wH from rfl,eq (ew (e8 _ (by decide)) (show wH<=wB by decide))]
theorem Q8{a b c:Int}{R:Nat}(h:a+b-c=R)(hR:R<wB):b5.wrap (b5.wrap (b5.wrap a+b)-b5.wrap c)=R:=by
 show(((a% 18446744073709551616+b)% 18446744073709551616)-c% 18446744073709551616)% 18446744073709551616=R;have:R<18446744073709551616:=hR;omega
theorem MX(hi lo y:Nat)(aE:hi<y)(aj:y<wB)(ah:lo<wB):aw prog 330 [.int .u64 hi,.int .u64 lo,.int .u64 y] (.aE [.int .u64 ((hi*wB+lo)/y:Nat),.int .u64 ((hi*wB+lo)% y:Nat)]):=by
 refine aI nf NZ mix (by simp[f330]) ?_;have H:¬(y:Int)=0:=by omega
 have N:¬(y:Int)<=hi:=by omega
 have af:¬y<=hi:=by omega
 have ae:¬y=0:=by omega
 by_cases ad:hi=0
 ·subst ad;have ag:b5.wrap ((lo:Int)/y)=(lo:Int)/y:=fp _ (db (by omega) (by omega)) (c6 (da _ (by omega)) (by omega));have az:(lo:Int).tmod y=(lo:Int)% y:=Int.tmod_eq_emod_of_nonneg (by omega);simp[f330,H,N,ae,af,ag,az]
 obtain⟨s,hs,aT,⟨Y,b,v0,T,u,u1,u0,q1,R,q0,ac,eY,Ag,lD,uk,wY,zU,EG,eu,DV,DU,Af,Ae,nZ,z7,eR,wX,QK,wF,z6,QJ,CM,rem⟩⟩:=Zk aE aj ah;have aC:=N9 y aj;obtain⟨t,ai⟩:∃t,t=64-s:=⟨_,rfl⟩
 have O:wH=4294967296:=rfl;have aA:wB=18446744073709551616:=rfl;have X:Y<wB:=by
  rw[O]at Ag lD eY;rw[aA];omega
 have av:b5.wrap (64-((ce y:Nat):Int))=s:=by rw[fp _ (by omega) (by omega)];omega
 have f2:b5.wrap (64-(s:Int))=t:=by rw[fp _ (by omega) (by omega)];omega
 have f3:b5.wrap ((y:Int)*2^(min s b5.bits))=Y:=by rw[wU y s hs,<-ac,eq X]
 have f4:(Y:Int).fdiv (2^(min 32 b5.bits))=b:=by
  rw[ug Y 32 (by omega)];rw[O]at lD eY;congr 1;omega
 have f5:b5.wrap ((hi:Int)*2^(min s b5.bits))=(hi*2^s:Nat):=by rw[wU hi s hs,eq zU]
 have f6:(lo:Int).fdiv (2^(min t b5.bits))=(lo/2^t:Nat):=ug lo t (by omega);have f7:=EF (hi*2^s) (lo/2^t) zU (e7 (gj _ _) ah);rw[ai,EG,<-ai]at f7;have f8:b5.wrap ((lo:Int)*2^(min s b5.bits))=u:=by rw[wU lo s hs,<-eu]
 have aQ:u<wB:=by rw[eu];exact e8 _ (by decide)
 have f9:(u:Int).fdiv (2^(min 32 b5.bits))=u1:=by
  rw[ug u 32 (by omega)];congr 1;rw[DV];rfl
 have d:0<b:=by rw[O]at uk;omega
 have am:¬b=0:=by omega
 have an:¬(b:Int)=0:=by omega
 have aR:T<wB:=by omega
 generalize hi*2^s=aS at*;generalize lo/2^t=aU at*;have aJ:T/b<=wH+1:=Pj d (by rw[<-eY];exact wY) uk lD;have aO:T/b*b+T% b=T:=by rw[eo,gb]
 have aV:T% b<b:=e8 _ d;have aL:=MI (T:=T) (u1:=u1) d lD Af;have ax:b5.wrap ((T:Int)/b)=(T/b:Nat):=by rw[fp _ (db (by omega) (by omega)) (c6 (da _ (by omega)) (by omega))];rfl
 generalize T/b=K at*;generalize T% b=ak at*;have ay:b5.wrap ((T:Int)-b5.wrap ((K:Int)*b))=ak:=by
  have e:((K*b:Nat):Int)=(K:Int)*b:=by push_cast;rfl
  rw[fp ((K:Int)*b) (by omega) (by omega),fp _ (by omega) (by omega)];omega
 have aa:=Kf Y X;have ab:=Kf u aQ;rw[show Y% wH=v0 by rw[eY,gA,gg,eq lD]]at aa;rw[<-DU]at ab;have a1:b<4294967296:=Ag;have aZ:v0<4294967296:=lD;have aY:u1<4294967296:=Af;have aX:u0<4294967296:=Ae;have a0:4294967296<=2*b:=uk;have aK:R/b<=wH+1:=Pj d (by rw[<-eY];exact wX) uk lD;have aP:R/b*b+R% b=R:=by rw[eo,gb]
 have aW:R% b<b:=e8 _ d;have aq:R<wB:=by omega
 have aN:=MI (T:=R) (u1:=u0) d lD Ae;have aF:b5.wrap ((R:Int)/b)=(R/b:Nat):=by rw[fp _ (db (by omega) (by omega)) (c6 (da _ (by omega)) (by omega))];rfl
 generalize R/b=L at*;generalize R% b=al at*;have aG:b5.wrap ((R:Int)-b5.wrap ((L:Int)*b))=al:=by
  have e:((L*b:Nat):Int)=(L:Int)*b:=by push_cast;rfl
  rw[fp ((L:Int)*b) (by omega) (by omega),fp _ (by omega) (by omega)];omega
 have ao:b5.wrap (b5.wrap (b5.wrap ((T:Int)*4294967296)+u1)-b5.wrap ((q1:Int)*Y))=R:=by
  refine Q8 (h:=?_) (hR:=aq);have e1:((T*wH:Nat):Int)=(T:Int)*4294967296:=by push_cast;rfl
  have e2:((q1*Y:Nat):Int)=(q1:Int)*Y:=by push_cast;rfl
  omega
 have M2:b5.wrap (b5.wrap ((q1:Int)*4294967296)+q0)=((q1*wH+q0:Nat):Int):=by
  have H:q1*4294967296+q0<18446744073709551616:=by
   have N:q1<4294967296:=z7;have ag:q0<4294967296:=z6;omega
  rw[fp ((q1:Int)*4294967296) (by omega) (by omega),fp _ (by omega) (by omega)];push_cast;rfl
 obtain⟨Z,P⟩:∃Z,Z=R*wH+u0-q0*Y:=⟨_,rfl⟩
 have ar:Z<wB:=by
  have H:Z/2^s<y:=by rw[P,rem];exact e8 _ (by omega)
  rw[ey (fb (by decide)),<-ac]at H;omega
 have ap:b5.wrap (b5.wrap (b5.wrap ((R:Int)*4294967296)+u0)-b5.wrap ((q0:Int)*Y))=Z:=by
  refine Q8 (h:=?_) (hR:=ar);have e1:((R*wH:Nat):Int)=(R:Int)*4294967296:=by push_cast;rfl
  have e2:((q0*Y:Nat):Int)=(q0:Int)*Y:=by push_cast;rfl
  omega
 have M:=ug Z s (by omega);rw[P,rem]at M;rw[<-P]at M;rw[CM]at M2;simp[f330,H,N,ae,af,ad];refine c1 aC ?_;simp[av,f2,f3,f4,f5,f6,f7,f8,f9,am,an,ax,ay,aa,ab];refine rL (fun s'=>aM s'.env 15=.p (.int .u64 q1)/\aM s'.env 14=.p (.int .u64 u0)/\aM s'.env 13=.p (.int .u64 u1)/\aM s'.env 11=.p (.int .u64 T)/\aM s'.env 10=.p (.int .u64 v0)/\aM s'.env 9=.p (.int .u64 b)/\aM s'.env 8=.p (.int .u64 s)/\aM s'.env 2=.p (.int .u64 Y)/\s'.heap=[]) ?_ ?_
 ·refine lp (α:=Nat×Nat) (fun a=>⟨[(16,.p (.int .u64 a.2)),(15,.p (.int .u64 a.1)),(14,.p (.int .u64 u0)),(13,.p (.int .u64 u1)),(11,.p (.int .u64 T)),(10,.p (.int .u64 v0)),(9,.p (.int .u64 b)),(8,.p (.int .u64 s)),(2,.p (.int .u64 Y))],[]⟩) (fun a=>a.1*b+a.2=T/\hq wH b v0 T u1<=a.1/\a.2<wH/\a.1<=wH+1) (fun a=>a.1) (K,ak) ⟨aO,aL,by omega,aJ⟩ ?_;rintro⟨x,r⟩ ⟨k1,k2,k3,k4⟩;dsimp only at k1 k2 k3 k4;have aH:r<4294967296:=k3;have W:x<=4294967297:=k4;have g:b5.wrap ((x:Int)*v0)=(x*v0:Nat):=by
   have:=hz W (show v0<=4294967295 by omega);rw[fp _ (by rw[<-cy];omega) (by rw[<-cy];omega)];push_cast;rfl
  have v:b5.wrap (4294967296*(r:Int))=4294967296*r:=fp _ (by omega) (by omega);have w:b5.wrap (4294967296*(r:Int)+u1)=4294967296*r+u1:=fp _ (by omega) (by omega);have m:b5.wrap ((r:Int)+b)=r+b:=fp _ (by omega) (by omega)
  by_cases i:4294967296<=x\/4294967296*r+u1<x*v0
  ·have j:=Od d (show 0<wH by decide) k1 k2 (i.imp (fun h=>⟨h,by rw[<-nZ];exact z7⟩) id);obtain⟨k,rfl⟩:∃k,x=k+1:=⟨x-1,by
    rcases i with h|h
    ·omega
    ·rcases ht x with e|e
     ·rw[e]at h;omega
     ·omega⟩
   have l:b5.wrap (k:Int)=k:=fp _ (by omega) (by omega);have k5:k*b+(r+b)=T:=by rw[<-k1,fV];omega
   rw[gm]at j;have kB:k<=wH+1:=by omega
   by_cases Q:4294967296<=r+b
   ·have hq:=Lx d (by rw[<-eY];exact wY) lD k5 Q j;have f:(4294967296:Int)<=(r:Int)+b:=by omega
    rw[<-nZ]at hq;subst hq;rcases gc (k+1) 4294967296 with hc|hc
    ·have n:((k:Int)+1<4294967296):=by omega
     have c:¬((4294967296:Int)<=(k:Int)+1):=by omega
     have o:(4294967296*(r:Int)+u1<((k+1)*v0:Nat)):=by omega
     have q:4294967296*r+u1<(k+1)*v0:=by omega
     generalize (k+1)*v0=J at*;push_cast at g;simp[g,v,w,l,m,n,c,o,q,f]
    ·have c:((4294967296:Int)<=(k:Int)+1):=by omega
     simp[l,m,c,f]
   ·have f:¬(4294967296:Int)<=(r:Int)+b:=by omega
    rcases gc (k+1) 4294967296 with hc|hc
    ·have n:((k:Int)+1<4294967296):=by omega
     have c:¬((4294967296:Int)<=(k:Int)+1):=by omega
     have o:(4294967296*(r:Int)+u1<((k+1)*v0:Nat)):=by omega
     have q:4294967296*r+u1<(k+1)*v0:=by omega
     generalize (k+1)*v0=J at*;push_cast at g;simp[g,v,w,l,m,n,c,o,q,f];exact rd (k,r+b) ⟨k5,j,show r+b<4294967296 by omega,kB⟩
    ·have c:((4294967296:Int)<=(k:Int)+1):=by omega
     simp[l,m,c,f];exact rd (k,r+b) ⟨k5,j,show r+b<4294967296 by omega,kB⟩
  ·have aD:¬4294967296<=x:=fun h=>i (.inl h);have U:¬4294967296*r+u1<x*v0:=fun h=>i (.inr h);have hq:=CD d (show 0<wH by decide) k1 k2 (hH.1 U);rw[<-nZ]at hq;subst hq;have S:¬(4294967296:Int)<=x:=by omega
   have V:¬(4294967296*(r:Int)+u1<(x*v0:Nat)):=by omega
   generalize x*v0=J at*;simp[g,v,w,S,V]
 rintro⟨au,aB⟩ ⟨z,A,B,C,D,E,F,G,I⟩;dsimp only at z A B C D E F G I;subst I;simp[z,A,B,C,D,E,F,G,ao,am,an,aF,aG];refine rL (fun s'=>aM s'.env 18=.p (.int .u64 q0)/\aM s'.env 15=.p (.int .u64 q1)/\aM s'.env 17=.p (.int .u64 R)/\aM s'.env 14=.p (.int .u64 u0)/\aM s'.env 10=.p (.int .u64 v0)/\aM s'.env 9=.p (.int .u64 b)/\aM s'.env 8=.p (.int .u64 s)/\aM s'.env 2=.p (.int .u64 Y)/\s'.heap=[]) ?_ ?_
 ·refine lp (α:=Nat×Nat) (fun a=>⟨[(16,.p (.int .u64 a.2)),(18,.p (.int .u64 a.1)),(15,.p (.int .u64 q1)),(17,.p (.int .u64 R)),(14,.p (.int .u64 u0)),(10,.p (.int .u64 v0)),(9,.p (.int .u64 b)),(8,.p (.int .u64 s)),(2,.p (.int .u64 Y))],[]⟩) (fun a=>a.1*b+a.2=R/\hq wH b v0 R u0<=a.1/\a.2<wH/\a.1<=wH+1) (fun a=>a.1) (L,al) ⟨aP,aN,by omega,aK⟩ ?_ (he:=by simp[z,A,B,C,D,E,F,G]);rintro⟨x,r⟩ ⟨k1,k2,k3,k4⟩;dsimp only at k1 k2 k3 k4;have aH:r<4294967296:=k3;have W:x<=4294967297:=k4;have g:b5.wrap ((x:Int)*v0)=(x*v0:Nat):=by
   have:=hz W (show v0<=4294967295 by omega);rw[fp _ (by rw[<-cy];omega) (by rw[<-cy];omega)];push_cast;rfl
  have v:b5.wrap (4294967296*(r:Int))=4294967296*r:=fp _ (by omega) (by omega);have w:b5.wrap (4294967296*(r:Int)+u0)=4294967296*r+u0:=fp _ (by omega) (by omega);have m:b5.wrap ((r:Int)+b)=r+b:=fp _ (by omega) (by omega)
  by_cases i:4294967296<=x\/4294967296*r+u0<x*v0
  ·have j:=Od d (show 0<wH by decide) k1 k2 (i.imp (fun h=>⟨h,by rw[<-wF];exact z6⟩) id);obtain⟨k,rfl⟩:∃k,x=k+1:=⟨x-1,by
    rcases i with h|h
    ·omega
    ·rcases ht x with e|e
     ·rw[e]at h;omega
     ·omega⟩
   have l:b5.wrap (k:Int)=k:=fp _ (by omega) (by omega);have k5:k*b+(r+b)=R:=by rw[<-k1,fV];omega
   rw[gm]at j;have kB:k<=wH+1:=by omega
   by_cases Q:4294967296<=r+b
   ·have hq:=Lx d (by rw[<-eY];exact wX) lD k5 Q j;have f:(4294967296:Int)<=(r:Int)+b:=by omega
    rw[<-wF]at hq;subst hq;rcases gc (k+1) 4294967296 with hc|hc
    ·have n:((k:Int)+1<4294967296):=by omega
     have c:¬((4294967296:Int)<=(k:Int)+1):=by omega
     have o:(4294967296*(r:Int)+u0<((k+1)*v0:Nat)):=by omega
     have q:4294967296*r+u0<(k+1)*v0:=by omega
     generalize (k+1)*v0=J at*;push_cast at g;simp[g,v,w,l,m,n,c,o,q,f]
    ·have c:((4294967296:Int)<=(k:Int)+1):=by omega
     simp[l,m,c,f]
   ·have f:¬(4294967296:Int)<=(r:Int)+b:=by omega
    rcases gc (k+1) 4294967296 with hc|hc
    ·have n:((k:Int)+1<4294967296):=by omega
     have c:¬((4294967296:Int)<=(k:Int)+1):=by omega
     have o:(4294967296*(r:Int)+u0<((k+1)*v0:Nat)):=by omega
     have q:4294967296*r+u0<(k+1)*v0:=by omega
     generalize (k+1)*v0=J at*;push_cast at g;simp[g,v,w,l,m,n,c,o,q,f];exact rd (k,r+b) ⟨k5,j,show r+b<4294967296 by omega,kB⟩
    ·have c:((4294967296:Int)<=(k:Int)+1):=by omega
     simp[l,m,c,f];exact rd (k,r+b) ⟨k5,j,show r+b<4294967296 by omega,kB⟩
  ·have aD:¬4294967296<=x:=fun h=>i (.inl h);have U:¬4294967296*r+u0<x*v0:=fun h=>i (.inr h);have hq:=CD d (show 0<wH by decide) k1 k2 (hH.1 U);rw[<-wF]at hq;subst hq;have S:¬(4294967296:Int)<=x:=by omega
   have V:¬(4294967296*(r:Int)+u0<(x*v0:Nat)):=by omega
   generalize x*v0=J at*;simp[g,v,w,S,V]
 rintro⟨au,aB⟩ ⟨z,A,B,C,D,E,F,G,I⟩;dsimp only at z A B C D E F G I;subst I;simp[z,A,B,C,D,E,F,G,M2,ap,M]
def dA(j n:Nat)(g f:Nat->Nat)(k:Nat):Nat:=if j<=k/\k<j+n then f (k-j)else g k
theorem sJ{j:Nat}{g f:Nat->Nat}:dA j 0 g f=g:=by
 funext k;rw[dA,if_neg (by omega)]
theorem yd{m j i:Nat}{g f:Nat->Nat}{v:Nat}(a:f i=v):(b8 m (dA j i g f)).set (j+i) (.p (.int .u64 v))=b8 m (dA j (i+1) g f):=by
 refine pj ?_ fun k hk=>?_
 ·rw[dA,if_pos (by omega),hg,a]
 ·rw[dA,dA]
  by_cases h:j<=k/\k<j+i
  ·rw[if_pos h,if_pos (by omega)]
  ·rw[if_neg h,if_neg (by omega)]
theorem ye{m j i:Nat}{g f:Nat->Nat}(h:j+i<m):(b8 m (dA j i g f))[j+i]?=some (.p (.int .u64 (g (j+i)))):=by
 rw[mw _ h,dA,if_neg (by omega)]
theorem WS{j n:Nat}{g f a:Nat->Nat}:dA j n (dA j n g f) a=dA j n g a:=by
 funext k;rw[dA,dA,dA];split<;>rfl
theorem ZE(X V m j n:Nat)(t:(aq wB V).length=n)(G:2<=n)(bw:j+n+1<=m)(bA:m<=1000002)(a2:X<V*wB^(j+1)):
 c7 prog 333 [.arr .exact 0 1 (b8 m (ae wB X))] [.sl 0 0 1 j (n+1),.p (eN V)] [.arr .exact 0 1 (b8 m (ae wB (X% (V*wB^j))))] (.p (.int .u64 (X/(V*wB^j):Nat))):=by
 refine jc nf GM mix (by simp[f333]) ?_;have l:=cj bd V;have I:wB^(n-1)<=V:=by
  rcases gc V (wB^(n-1))with h|h
  ·have:=dK bd (n-1) V h;omega
  ·exact h
 rw[t]at l;have U:∀i(h:i<(aq wB V).length),(aq wB V)[i]=ae wB V i:=fun i h=>ek bd h;have aO:0<V:=B3 bd G I;obtain⟨W,w⟩:∃W,X/wB^j=W:=⟨_,rfl⟩
 have ag:W<V*wB:=by
  rw[<-w,ey (fb (by decide)),gy,eo wB,<-e9];exact a2
 have T:W<wB^(n+1):=g3 ag (by rw[e9];exact fv l (by decide));have al:∀i,i<n+1->(b8 m (ae wB X))[j+i]?=some (.p (.int .u64 (ae wB W i))):=fun i hi=>by rw[mw _ (by omega),<-w,qI]
 have a4:X/(V*wB^j)=W/V:=by rw[xO.2,w]
 have aR:∀f:Nat->Nat,(∀i,i<n+1->f i=ae wB (W% V) i)->b8 m (dA j (n+1) (ae wB X) f)=b8 m (ae wB (X% (V*wB^j))):=fun f hf=>Bo fun k hk=>by
  rw[xO.1,w,JF bd,dA]
  by_cases u:k<j
  ·rw[if_neg (by omega),if_pos u]
  ·rw[if_neg u]
   by_cases H:k<j+(n+1)
   ·rw[if_pos (by omega),hf _ (by omega)]
   ·have e1:ae wB X k=0:=by
     obtain⟨e,rfl⟩:∃e,k=j+e:=⟨k-j,by omega⟩
     rw[<-qI,w];exact jn (ew T (e6 (by decide) (by omega)))
    have e2:ae wB (W% V) (k-j)=0:=jn (ew (e7 (Nat.mod_le _ _) T) (e6 (by decide) (by omega)));rw[if_neg (by omega),e1,e2]
 rw[a4];simp only[eN];generalize aq wB V=x at*;have aJ:∀i,i<n->i<x.length:=fun i h=>by omega
 have e1:cb.wrap ((n:Int)-1)=((n-1:Nat):Int):=by rw[aK _ (by omega) (by omega)];omega
 have e2:cb.wrap ((n:Int)-2)=((n-2:Nat):Int):=by rw[aK _ (by omega) (by omega)];omega
 obtain⟨b,E⟩:∃b,b=n-1:=⟨_,rfl⟩
 obtain⟨d,an⟩:∃d,d=n-2:=⟨_,rfl⟩
 rw[<-E]at e1;rw[<-an]at e2;have F:=U b (by omega);have aT:=U d (by omega);have bn:b<x.length:=by omega
 have bo:d<x.length:=by omega
 have L:x[b]?=some (ae wB V b):=by rw[dl bn,F]
 have bm:x[d]?=some (ae wB V d):=by rw[dl bo,aT]
 have O:b<n:=by omega
 have Y:d<n:=by omega
 have R:b<n+1:=by omega
 have Z:d<n+1:=by omega
 have aE:=al n (by omega);have aF:=al b (by omega);have ad:=al d (by omega);have a9:n=b+1:=by omega
 have aI:W/wB^n=ae wB W n:=by
  rw[ae,eq];rw[ey (fb (by decide)),eo,<-e9];exact T
 have ah:W/wB^b=ae wB W n*wB+ae wB W b:=by rw[sv,<-a9,aI]
 simp[f333,-bh,t];rw[bh];simp[-bh,t];rw[bh];simp[-bh,t];rw[bh];simp[-bh,t];rw[bh];simp[-bh,t];refine join (fun s=>∃q r o:Nat,q*ae wB V b+(r+o*wB)=W/wB^b/\W/V<=q/\q<wB/\r<wB/\o<=1/\aM s.env 0=.sl 0 0 1 j (n+1)/\aM s.env 1=.p (.seq (x.map fun x:Nat=>.int .u64 x))/\aM s.env 5=.p (.int .i64 n)/\aM s.env 6=.p (.int .u64 q)/\aM s.env 7=.p (.int .u64 r)/\aM s.env 8=.p (.int .u64 o)/\s.heap=[.arr .exact 0 1 (b8 m (ae wB X))]) ?_ ?_
 ·by_cases hc:ae wB V b<=ae wB W n
  ·have ai:(ae wB V b:Int)<=ae wB W n:=by omega
   simp[e1,e2,F,L,O,R,aE,aF,ai,t,aa,aL,bD];refine e3 (qP (ae wB W b) (ae wB V b) 0 (by omega)) ?_;simp;have aX:=cm bd W b;have aD:=cm bd V b;have aY:ae wB W n=ae wB V b:=by
    have:=(CE bd (by omega) l ag).1;rw[aI,<-E]at this;omega
   refine⟨18446744073709551615,(ae wB W b+ae wB V b)% wB,(ae wB W b+ae wB V b)/wB,?_,?_,by decide,e8 _ (by decide),?_,rfl,rfl,rfl⟩
   ·rw[ah,aY];simp only[wB];omega
   ·have:=(CE bd (by omega) l ag).2;simp only[wB]at this;omega
   ·simp only[wB]at*;omega
  ·have ai:¬(ae wB V b:Int)<=ae wB W n:=by omega
   simp[e1,e2,F,L,O,R,aE,aF,ai,t,aa,aL,bD];refine e3 (MX (ae wB W n) (ae wB W b) (ae wB V b) (by omega) (cm bd _ _) (cm bd _ _)) ?_;simp;have aX:=cm bd W b;have aD:=cm bd V b;refine⟨(ae wB W n*wB+ae wB W b)/ae wB V b,(ae wB W n*wB+ae wB W b)% ae wB V b,0,?_,?_,?_,?_,by omega,rfl,rfl,rfl⟩
   ·rw[ah,g7,g9,eo,gb]
   ·rw[<-ah,E];exact ML bd G I l
   ·rw[ey (by omega)];have:=fd wB (show ae wB W n+1<=ae wB V b by omega);rw[fV,gt]at this;rw[eo wB];omega
   ·exact g3 (e8 _ (by omega)) aD
 rintro⟨aZ,a6⟩ ⟨q,r,o,k1,k2,k3,k4,k5,y,z,A,B,ar,au,K⟩;dsimp only at y z A B ar au K;subst K;simp[y,z,A,B,ar,au];refine rL (fun s=>∃q:Nat,W/V<=q/\q<=W/V+1/\q<wB/\aM s.env 0=.sl 0 0 1 j (n+1)/\aM s.env 1=.p (.seq (x.map fun x:Nat=>.int .u64 x))/\aM s.env 5=.p (.int .i64 n)/\aM s.env 6=.p (.int .u64 q)/\s.heap=[.arr .exact 0 1 (b8 m (ae wB X))]) ?_ ?_
 ·have bc:q*ae wB V b+(r+o*wB)=W/wB^b/\W/V<=q/\q<wB/\r<wB/\o<=1:=⟨k1,k2,k3,k4,k5⟩
  clear k1 k2 k3 k4 k5;refine lp (α:=Nat×Nat×Nat) (fun a=>⟨[(8,.p (.int .u64 a.2.2)),(7,.p (.int .u64 a.2.1)),(6,.p (.int .u64 a.1)),(5,.p (.int .i64 n)),(1,.p (.seq (x.map fun x:Nat=>.int .u64 x))),(0,.sl 0 0 1 j (n+1))],[.arr .exact 0 1 (b8 m (ae wB X))]⟩)
   (fun a=>a.1*ae wB V b+(a.2.1+a.2.2*wB)=W/wB^b/\W/V<=a.1/\a.1<wB/\a.2.1<wB/\a.2.2<=1) (fun a=>a.1) (q,r,o) bc ?_ (he:=by simp[y,z,A,B,ar,au])
  rintro⟨q,r,o⟩ ⟨k1,k2,k3,k4,k5⟩;dsimp only at k1 k2 k3 k4 k5
  by_cases ba:o=0
  ·subst ba;rw[g7,g9]at k1;have S:=yC q (ae wB V d) k3 (cm bd _ _);rw[show(18446744073709551616:Nat)=wB from rfl]at S;have bs:=gb (q*ae wB V d) wB;have bt:q*ae wB V d% wB<wB:=e8 _ (by decide);have aH:=fun h=>DZ bd G I l (by rw[<-E];exact k1) k3 (by rw[<-an];exact h);have aG:=fun h=>Of (q:=q) (r:=r) bd G I l (by rw[<-E];exact k1) (by rw[<-an];exact h);have bu:=cm bd W d;generalize q*ae wB V d% wB=lo at*;generalize q*ae wB V d/wB=hi at*;generalize q*ae wB V d=P at*;have v:=qP r (ae wB V b) 0 (by omega);simp[e1,e2,F,L,aT,bm,O,R,Y,Z,t];refine c2 S ?_;rcases Nat.lt_trichotomy hi r with h|h|h
   ·have hI:(hi:Int)<r:=by omega
    simp[hI];refine⟨q,k2,aH (by
     have:=fl wB (show hi+1<=r by omega);rw[hG,hp,eo wB r]at this;omega),k3,rfl⟩
   ·subst h
    by_cases bx:lo<=ae wB W d
    ·have hI:(lo:Int)<=ae wB W d:=by omega
     simp[hI,e2,ad,Y,Z];exact⟨q,k2,aH (by rw[eo hi];omega),k3,rfl⟩
    ·have hI:¬(lo:Int)<=ae wB W d:=by omega
     have J:=aG (by rw[eo hi];omega);have be:0<q:=e7 (ha _) J;obtain⟨k,rfl⟩:∃k,q=k+1:=⟨q-1,by omega⟩
     have ap:b5.wrap (k:Int)=k:=fp _ (by omega) (by omega);simp[hI,e1,e2,ad,O,R,Y,Z,F,L,ap,aa,aL,bD];refine c3 v ?_;simp;have ay:=hw (hi+ae wB V b) wB;have az:k*ae wB V b+((hi+ae wB V b)% wB+(hi+ae wB V b)/wB*wB)=W/wB^b:=by
      rw[eo _ wB,ay,<-k1,fV,gt,hA,gA hi]
     have aA:=cm bd V b;have aB:(hi+ae wB V b)/wB<=1:=by
      have aC:=k4;simp only[wB]at aA aC⊢;omega
     exact rd (k,(hi+ae wB V b)% wB,(hi+ae wB V b)/wB) ⟨az,hy.1 J,hu k3,e8 _ (by decide),aB⟩
   ·have hI:¬(hi:Int)<r:=by omega
    have a1:¬(hi:Int)=r:=by omega
    have a3:=fl wB (show r+1<=hi by omega);rw[hG,hp,eo wB r]at a3;have J:=aG (by omega);have be:0<q:=e7 (ha _) J;obtain⟨k,rfl⟩:∃k,q=k+1:=⟨q-1,by omega⟩
    have ap:b5.wrap (k:Int)=k:=fp _ (by omega) (by omega);simp[hI,a1,e1,e2,ad,O,R,Y,Z,F,L,ap,aa,aL,bD];refine c3 v ?_;simp;have ay:=hw (r+ae wB V b) wB;have az:k*ae wB V b+((r+ae wB V b)% wB+(r+ae wB V b)/wB*wB)=W/wB^b:=by
     rw[eo _ wB,ay,<-k1,fV,gt,hA,gA r]
    have aA:=cm bd V b;have aB:(r+ae wB V b)/wB<=1:=by
     have aC:=k4;simp only[wB]at aA aC⊢;omega
    exact rd (k,(r+ae wB V b)% wB,(r+ae wB V b)/wB) ⟨az,hy.1 J,hu k3,e8 _ (by decide),aB⟩
  ·have bb:o=1:=by omega
   subst bb;simp;exact⟨q,k2,DZ bd G I l (by rw[<-E];exact k1) k3 (MK bd (by omega) k3),k3,rfl⟩
 rintro⟨aZ,a6⟩ ⟨q,k2,k3,k4,y,z,A,B,K⟩;dsimp only at y z A B K;subst K;have bf:q*V<wB^(n+1):=Uq k4 l;have aP:q*V<=W+wB^(n+1):=by omega
 obtain⟨D,af⟩:∃D,D=W+wB^(n+1)-q*V:=⟨_,rfl⟩
 have aS:∀i,i<n+1->aw prog 292 [.int .u64 (ae wB W i),.int .u64 (ae wB (q*V) i),.int .u64 (fa wB (W+wB^(n+1)) (q*V) i)] (.aE [.int .u64 (ae wB D i),.int .u64 (fa wB (W+wB^(n+1)) (q*V) (i+1))]):=fun i hi=>by
  have h:=N7 aP i;rw[<-af,vk hi]at h;exact h
 have bi:∀i,(q*ae wB V i% wB+iy wB V q i+0)% wB=ae wB (q*V) i/\b5.wrap (((q*ae wB V i/wB:Nat):Int)+((q*ae wB V i% wB+iy wB V q i+0)/wB:Nat))=(iy wB V q (i+1):Nat):=fun i=>by
  obtain⟨u,H⟩:=Xb (q:=q) (V:=V) bd i;have a0:=aFi (V:=V) bd k4 (i+1);rw[<-u,<-H];rw[<-H]at a0;generalize q*ae wB V i=P at*;generalize iy wB V q i=c at*;have e:P/wB+(P% wB+c+0)/wB=(P+c)/wB:=by simp only[wB];omega
  refine⟨by simp only[wB];omega,?_⟩;rw[fp _ (by omega) (by omega)];omega
 have a5:=T5 (V:=V) (q:=q) T bf;have bg:=Xd bd k4 l;have bz:(b8 m (ae wB X)).length=m:=L6 _ _;simp[y,z,A,B];refine lp (α:=Nat) (fun i=>⟨[(105,.p (.int .i64 i)),(104,.p (.int .i64 n)),(12,.p (.int .u64 (iy wB V q i:Nat))),(11,.p (.int .u64 (fa wB (W+wB^(n+1)) (q*V) i:Nat))),(6,.p (.int .u64 q)),(5,.p (.int .i64 n)),(1,.p (.seq (x.map fun x:Nat=>.int .u64 x))),(0,.sl 0 0 1 j (n+1))],[.arr .exact 0 1 (b8 m (dA j i (ae wB X) (ae wB D)))]⟩)
  (fun i=>i<=n) (fun i=>n-i) 0 (by simp) ?_ (hn:=by simp[sJ]) (he:=by simp[y,z,A,B,VD,Bg]) (hh:=by simp[sJ])
 intro i k5;have bk:=bX (i:=i) (by omega)
 by_cases hi:i<n
 ·have N:i<x.length:=aJ i hi;have M:=U i N;have ao:x[i]?=some (ae wB V i):=by rw[dl N,M]
  have S:=yC q (ae wB V i) k4 (cm bd _ _);rw[show(18446744073709551616:Nat)=wB from rfl]at S;have v:=qP (q*ae wB V i% wB) (iy wB V q i) 0 (by omega);obtain⟨bp,bq⟩:=bi i;have ab:=aS i (by omega);rw[bp]at v;generalize q*ae wB V i% wB=lo at*;generalize q*ae wB V i/wB=bv at*;generalize (lo+iy wB V q i+0)/wB=c' at*;have ak:i<n+1:=by omega
  have C:(b8 m (dA j i (ae wB X) (ae wB D)))[j+i]?=some (.p (.int .u64 (ae wB W i))):=by rw[ye (by omega),<-w,qI]
  have ac:=yd (m:=m) (j:=j) (i:=i) (g:=ae wB X) (f:=ae wB D) rfl;simp[t,hi,M,ao];refine c2 S ?_;simp;refine c3 v ?_;simp[bq,ak,C];refine c3 ab ?_;simp[ak,C,ac,bk,aa,aL,bD];exact rd (i+1) (show i+1<=n by omega)
 have a7:i=n:=by omega
 subst a7;have C:(b8 m (dA j i (ae wB X) (ae wB D)))[j+i]?=some (.p (.int .u64 (ae wB W i))):=by rw[ye (by omega),<-w,qI]
 have ac:=yd (m:=m) (j:=j) (i:=i) (g:=ae wB X) (f:=ae wB D) rfl;have ab:=aS i (by omega);rw[<-bg]at ab;simp[C];refine c3 ab ?_;rw[a5]
 by_cases aQ:q*V<=W
 ·obtain⟨aV,av⟩:=aEX aQ k3 aO k2;have aj:=aR (ae wB D) fun k hk=>by rw[af,<-av];exact aEW aQ hk
  have ax:(q:Int)=(W:Int)/V:=by rw[aV];rfl
  have am:(if W<q*V then 1 else 0:Nat)=0:=if_neg (by omega);rw[am];simp[C,ac,aj,<-ax,aa,aL,bD]
 ·obtain⟨aV,av⟩:=Xh (by omega) k3 aO k2;have aW:=av (wB^(i+1)) aP;rw[<-af]at aW;have aj:=aR (ae wB (D+V)) fun k hk=>by rw[aW,vk hk]
  have am:(if W<q*V then 1 else 0:Nat)=1:=if_pos (by omega);have ax:b5.wrap ((q:Int)-1)=(W:Int)/V:=by
   have e:((W/V:Nat):Int)=(W:Int)/V:=rfl;rw[<-e];generalize W/V=Q at*;rw[fp _ (by omega) (by omega)];omega
  rw[am];simp[C,ac,aa,aL,bD];refine lp (α:=Nat) (fun k=>⟨[(157,.p (.int .i64 k)),(156,.p (.int .i64 i)),(17,.p (.int .u64 (cZ wB D V k:Nat))),(6,.p (.int .u64 q)),(5,.p (.int .i64 i)),(1,.p (.seq (x.map fun x:Nat=>.int .u64 x))),(0,.sl 0 0 1 j (i+1))],[.arr .exact 0 1 (b8 m (dA j k (dA j (i+1) (ae wB X) (ae wB D)) (ae wB (D+V))))]⟩)
   (fun k=>k<=i) (fun k=>i-k) 0 (by simp) ?_ (hn:=by simp[sJ]) (he:=by simp[xH]) (hh:=by simp[sJ])
  intro k k6;have bl:=bX (i:=k) (by omega);have gk:(b8 m (dA j k (dA j (i+1) (ae wB X) (ae wB D)) (ae wB (D+V))))[j+k]?=some (.p (.int .u64 (ae wB D k))):=by rw[ye (by omega),dA,if_pos (by omega),hg]
  have aU:=yd (m:=m) (j:=j) (i:=k) (g:=dA j (i+1) (ae wB X) (ae wB D)) (f:=ae wB (D+V)) rfl;obtain⟨u,H⟩:=qt bd D V k
  by_cases hk:k<i
  ·have N:k<x.length:=aJ k hk;have M:=U k N;have ao:x[k]?=some (ae wB V k):=by rw[dl N,M]
   have v:=qP (ae wB D k) (ae wB V k) (cZ wB D V k) (lN bd _ _ _);rw[u,H]at v;have aN:k<i+1:=by omega
   simp[t,hk,aN,M,ao,gk,aa,aL,bD];refine e3 v ?_;simp[aN,gk,aU,bl,aa,aL,bD];refine⟨⟨by rfl,by rfl,by rfl⟩,?_⟩;exact rd (k+1) (show k+1<=i by omega)
  have a8:k=i:=by omega
  subst a8;have bj:ae wB V k=0:=jn l;rw[bj,g9]at u;have br:b5.wrap ((ae wB D k:Int)+(cZ wB D V k:Nat))=(ae wB (D+V) k:Nat):=by rw[<-Int.natCast_add,yx,u]
  simp[gk,aU,br,ax,aj,WS,aa,aL,bD]
theorem WQ{a b i:Nat}(c:0<b):(a/wB^(i+1)% b*wB+ae wB a i)/b=ae wB (a/b) i/\(a/wB^(i+1)% b*wB+ae wB a i)% b=a/wB^i% b:=by
 have e:=sv (B:=wB) a i;have g:=gb (a/wB^(i+1)) b;have f:a/wB^i=(a/wB^(i+1)% b*wB+ae wB a i)+a/wB^(i+1)/b*wB*b:=by
  rw[e];generalize ae wB a i=d;generalize a/wB^(i+1)/b=Q at*;generalize a/wB^(i+1)% b=R at*;rw[<-g,fV,eo b,g0 Q b wB];omega
 have j:(a/wB^(i+1)% b*wB+ae wB a i)/b<wB:=by
  rw[ey c];have k:=cm bd a i;have h:=fd wB (show a/wB^(i+1)% b+1<=b from e8 _ c);rw[fV,gt]at h;rw[eo wB];omega
 constructor
 ·conv=>rhs;rw[ae,g4,eo b,<-g4,f,ho _ _ c,gg,eq j]
 ·rw[f,gg]
def qF(Q i k:Nat):Nat:=if i<=k then ae wB Q k else 0
theorem Nb{m Q i:Nat}:(b8 m (qF Q (i+1))).set i (.p (.int .u64 (ae wB Q i)))=b8 m (qF Q i):=by
 refine pj ?_ fun k hk=>?_
 ·rw[qF,if_pos (gx _)]
 ·rw[qF,qF]
  by_cases h:i<=k
  ·rw[if_pos h,if_pos (by omega)]
  ·rw[if_neg h,if_neg (by omega)]
theorem Mm{m Q:Nat}:b8 m (qF Q 0)=b8 m (ae wB Q):=BA fun k=>by rw[qF,if_pos (ha _)]
theorem Mn{m Q:Nat}:List.replicate m (AV.p (.int .u64 0))=b8 m (qF Q m):=by
 rw[Ci (f:=fun _=>0) (fun _=>rfl)];exact Bo fun k hk=>by rw[qF,if_neg (by omega)]
theorem CS{m N:Nat}(h:N<wB^m)(b:m<=1048576):∃l:List Nat,l.length=m/\b8 m (ae wB N)=l.map (AV.p∘fun x:Nat=>PV.int .u64 x)/\aw prog 291 [.seq (eW l)] (eN N):=by
 refine⟨(dp m).map (ae wB N),by simp,Cj m _,?_⟩;have a:=tq ((dp m).map (ae wB N)) (by simp;omega);rw[show dZ ((dp m).map (ae wB N))=aq wB N from jo bd h]at a;exact a
theorem pq{a b:Nat}:fG a b<0↔a<b:=by
 rw[fG];split
 ·simp[*]
 ·split<;>simp[*]
theorem UM(r:Nat):((r:Int)% 2^b5.bits).toNat=r% 2^b5.bits:=by
 rw[show b5.bits=64 from rfl];omega
theorem Zo{b d n a s V:Nat}(g:b/wB^a=d)(h:n=a+1)(hs:s<64)(o:wB<=2*(d*2^s))(i:d*2^s<wB)(f:V=b*2^s):V<wB^n/\wB^n<=2*V:=by
 have m:0<wB^a:=fb (by decide);have j:0<2^s:=fb (by decide);have k:b<(d+1)*wB^a:=by
  rw[<-g,fV,gt];exact Nat.lt_div_mul_add m
 have l:(d+1)*2^s<=wB:=by
  have c:=yR hs;have e:d<2^(64-s):=by
   rw[<-c,eo d]at i;exact Nat.lt_of_mul_lt_mul_left i
  rw[<-c,eo];exact fl _ e
 constructor
 ·rw[f,h,e9,eo _ wB];refine ew (fv k j) ?_;rw[g0];exact fd _ l
 ·rw[f,h,e9,eo _ wB];refine Nat.le_trans (fd _ o) ?_;have c:d*wB^a<=b:=by rw[<-g];exact g6 _ _
  have e:=fd (2^s) c;rw[gy 2,g0 d];exact fl _ e
theorem WH{a n b s V:Nat}(f:a<wB^b)(hs:s<64)(e:wB^n<=2*V)(i:n<=b):a*2^s<V*wB^(b-n+1):=by
 have d:2*2^s<=wB:=by
  have c:2^(s+1)<=2^64:=e6 (by decide) hs;rw[e9,eo]at c;exact c
 have g:=fd (wB^(b-n+1)) e;rw[<-ge,show n+(b-n+1)=b+1 by omega,e9,gy]at g;have c:=fl a d;have h:=fv f (show 0<wB by decide);rw[Nat.mul_left_comm]at c;generalize wB^b*wB=j at*;generalize V*wB^(b-n+1)=z2 at*;generalize a*2^s=z3 at*;generalize a*wB=z4 at*;clear d e f;omega
theorem Zp{a b n d c:Nat}(h:a<wB^c)(f:0<b)(i:n=d+1)(g:wB^d<=b)(j:n<=c):a/b<wB^(c-n+1):=by
 rw[ey f];refine ew h ?_;have e:=fl (wB^(c-n+1)) g;rw[<-ge,show c-n+1+d=c by omega]at e;exact e
theorem WI{a b s k:Nat}(c:0<2^s):a*2^s% (b*2^s*wB^(k+1))/(b*2^s*wB^k)=ae wB (a/b) k:=by
 rw[e9,<-gy,Nat.mod_mul_right_div_self,<-g4,hl _ _ c,ae]
theorem L7{n N:Nat}{f g:Nat->Nat}(a:n<=N)(h:∀k,k<n->f k=g k):((dp N).map f).take n=(dp n).map g:=by
 rw[<-ee,List.take_range,hd a];exact eb fun k hk=>h k (ed.1 hk)
theorem Ca(a b:Nat)(A:0<b)(bg:(aq wB a).length<=1000000)(bN:(aq wB b).length<=1000000):aw prog 287 [eN a,eN b] (.aE [eN (a/b),eN (a% b)]):=by
 refine aI nf GP mix (by simp[f287]) ?_;have bj:=HK a b (by omega) (by omega);simp[f287];refine c2 bj ?_
 by_cases I:a<b
 ·have G:=pq.2 I;simp[G,g2 I,eq I,eN,aq,mV]
 have G:¬fG a b<0:=fun h=>I (pq.1 h);have bm:∀i(h:i<(aq wB a).length),(aq wB a)[i]=ae wB a i:=fun i h=>ek bd h;have W:∀i(h:i<(aq wB b).length),(aq wB b)[i]=ae wB b i:=fun i h=>ek bd h;have B:=cj bd a;have q:=cj bd b
 by_cases K:(aq wB b).length=1
 ·rw[K,hb]at q;have Y:((aq wB b).length:Int)=1:=by omega
  obtain⟨l,C,L,z⟩:=CS (m:=(aq wB a).length) (N:=a/b) (e7 (gj _ _) B) (by omega);have ay:=tq [a% b] (by simp);have bl:dZ [a% b]=aq wB (a% b):=by
   have M:a% b<wB:=g3 (e8 _ A) q;have:=jo bd (m:=1) (n:=a% b) (by rw[hb];exact M);rw[<-this,row,ec,ei,ej,ae,fm,g5,eq M]
  rw[bl]at ay;have bh:(aq wB b)[0]?=some b:=by
   rw[dl (by omega),W 0 (by omega),ae,fm,g5,eq q]
  have bi:∀h:0<(aq wB b).length,(aq wB b)[0]'h=b:=fun h=>by rw[W 0 h,ae,fm,g5,eq q]
  have aH:a/wB^(aq wB a).length% b=0:=by rw[g2 B,hB]
  simp only[eN]at z⊢;generalize aq wB (a/b)=bH at*;generalize aq wB (a% b)=aY at*;generalize aq wB a=x at*;generalize aq wB b=y at*;obtain⟨n,w⟩:∃n,x.length=n:=⟨_,rfl⟩
  rw[w]at C L aH bg;have e1:cb.wrap ((n:Int)-1)=n-1:=aK _ (by omega) (by omega);simp[G,K,Y,w,e1];refine⟨by simp only[cO];omega,?_⟩;rw[Mn (Q:=a/b)];refine lp (α:=Nat) (fun i=>⟨[(8,.p (.int .i64 ((i:Int)-1))),(7,.p (.int .u64 (a/wB^i% b:Nat))),(6,.sl 0 0 1 0 n),(1,.p (.seq (y.map fun x:Nat=>.int .u64 x))),(0,.p (.seq (x.map fun x:Nat=>.int .u64 x)))],[.arr .exact 0 1 (b8 n (qF (a/b) i))]⟩)
   (fun i=>i<=n) (fun i=>i) n (gx _) ?_ (he:=by simp[aH])
  intro i k1
  by_cases hi:0<i
  ·obtain⟨k,rfl⟩:∃k,i=k+1:=⟨i-1,by omega⟩
   have e2:cb.wrap ((k:Int)-1)=k-1:=aK _ (by omega) (by omega);have aW:k<x.length:=by omega
   have hx:=bm k aW;have af:x[k]?=some (ae wB a k):=by rw[dl aW,hx]
   have ax:=MX (a/wB^(k+1)% b) (ae wB a k) b (e8 _ A) q (cm bd _ _);obtain⟨r,ah⟩:=WQ (a:=a) (i:=k) A;rw[r,ah]at ax;have aB:=Nb (m:=n) (Q:=a/b) (i:=k);have gk:=mw (n:=n) (qF (a/b) (k+1)) (show k<n by omega);have aN:k<n:=by omega
   generalize a/wB^(k+1)% b=bI at*;simp[w,e2,hx,af,bh,bi,K,aN,aa,aL,bD];refine e3 ax ?_;simp[aB,gk,e2,aN,aa,aL,bD];refine⟨by rfl,?_⟩;exact rd k (show k<=n by omega)
  ·obtain rfl:i=0:=by omega
   simp[Mm,L];refine cp z (by simp[C];exact⟨rfl,rfl⟩) ?_ (h1:=by simp[eW,dz,C]);simp;refine cp ay (by simp;exact⟨rfl,rfl⟩) ?_ (h1:=by simp[eW]);simp;exact bA.refl _
 have bQ:2<=(aq wB b).length:=by
  rcases gc (aq wB b).length 1 with h|h
  ·have e:(aq wB b).length=0:=by omega
   rw[e,fm]at q;omega
  ·omega
 have Y:¬((aq wB b).length:Int)=1:=by omega
 obtain⟨n,w⟩:∃n,(aq wB b).length=n:=⟨_,rfl⟩
 obtain⟨c,Z⟩:∃c,(aq wB a).length=c:=⟨_,rfl⟩
 obtain⟨o,ab⟩:∃o,n=o+1:=⟨n-1,by omega⟩
 have aF:wB^o<=b:=by
  rcases gc b (wB^o)with h|h
  ·have:=dK bd o b h;omega
  ·exact h
 obtain⟨d,J⟩:∃d,d=ae wB b o:=⟨_,rfl⟩
 have aG:d<wB:=by rw[J];exact cm bd _ _
 have aE:b/wB^o=d:=by
  rw[J,ae,eq];rw[ey (fb (by decide)),eo,<-e9,show o.succ=n from ab.symm,<-w];exact q
 have bk:0<d:=by rw[<-aE];exact Nat.div_pos aF (fb (by decide))
 obtain⟨s,hs,bM,bw,bx⟩:=Le bk aG;have aQ:=N9 d aG;obtain⟨V,E⟩:∃V,V=b*2^s:=⟨_,rfl⟩
 have D:0<2^s:=fb (by decide);have be:b<=V:=by rw[E];exact Nat.le_mul_of_pos_right _ D
 have bc:0<V:=ew A be;obtain⟨aC,bf⟩:=Zo aE ab hs bw bx E;have aA:(aq wB V).length=n:=by
  have u:=dK bd n V aC;rcases gc (aq wB V).length n with h|h
  ·have au:=ew (cj bd V) (e6 (show 0<wB by decide) (show(aq wB V).length<=o by omega));omega
  ·omega
 have z:=CS (m:=n+1) (N:=V) (ew aC (e6 (by decide) (by omega))) (by omega);obtain⟨l,C,L,z⟩:=z;have ad:=J7 b s hs (by omega);have ac:=J7 a s hs (by omega);have ag:o<(aq wB b).length:=by omega
 have hx:=W o ag;have af:(aq wB b)[o]?=some d:=by rw[dl ag,hx,J]
 rw[w,<-E]at ad;rw[Z]at ac;have aT:n<=c:=by
  rcases gc c n with h|h
  ·have:=ew B (e6 (show 0<wB by decide) (show(aq wB a).length<=o by omega));omega
  ·exact h
 rw[Z]at B;have a5:=WH (n:=n) B hs bf aT;have a7:=Zp (n:=n) B A ab aF aT;have a8:a% b<wB^n:=g3 (e8 _ A) (by rw[w]at q;exact q);have bB:dZ ((dp n).map (ae wB (a% b)))=aq wB (a% b):=jo bd a8;have gT:∀X j,j+n+1<=c+1->X<V*wB^(j+1)->_:=fun X j u au=>ZE X V (c+1) j n aA (by omega) u (by omega) au;simp only[eN]at z⊢ac ad gT;generalize aq wB V=bG at*;generalize bC:aq wB (a/b)=bH at*;generalize bR:aq wB (a% b)=aY at*;generalize aq wB a=x at*;generalize aq wB b=y at*;have e1:cb.wrap ((n:Int)-1)=o:=by rw[aK _ (by omega) (by omega)];omega
 have bv:(64:Int)-(ce d:Nat)=s:=by omega
 rw[bv]at aQ;rw[<-J]at hx;have bp:¬(n:Int)=1:=by omega
 have bq:¬n=1:=by omega
 simp[G,K,Y,bp,bq,w,e1,hx,af,ag,aa,aL,bD];refine c1 aQ ?_;simp;refine OV ad ?_;simp[L];refine cp z (by simp[C];exact⟨rfl,rfl⟩) ?_ (h1:=by simp[eW,dz,C]);simp;refine OV ac ?_;obtain⟨m,aR⟩:∃m,m=c-n:=⟨_,rfl⟩
 have e2:cb.wrap ((c:Int)-n)=m:=by rw[aK _ (by omega) (by omega)];omega
 have e3:cb.wrap ((m:Int)+1)=m+1:=bX (by omega);simp[aA,Z,e2,e3];refine⟨⟨by omega,by simp only[cO];omega⟩,?_⟩;have av:a*2^s% (V*wB^(m+1))=a*2^s:=eq (by rw[aR];exact a5);rw[Mn (Q:=a/b)];refine rL (fun s'=>aM s'.env 9=.p (.int .i64 s)/\aM s'.env 11=.sl 1 0 1 0 (c+1)/\aM s'.env 12=.p (.int .i64 n)/\aM s'.env 13=.sl 2 0 1 0 (m+1)/\s'.heap=[.arr .frozen 0 1 (l.map (AV.p∘fun x:Nat=>PV.int .u64 x)),.arr .exact 0 1 (b8 (c+1) (ae wB (a% b*2^s))),.arr .exact 0 1 (b8 (m+1) (ae wB (a/b)))]) ?_ ?_
 ·refine lp (α:=Nat) (fun j=>⟨[(14,.p (.int .i64 ((j:Int)-1))),(13,.sl 2 0 1 0 (m+1)),(12,.p (.int .i64 n)),(11,.sl 1 0 1 0 (c+1)),(10,.p (.seq (bG.map fun x:Nat=>.int .u64 x))),(9,.p (.int .i64 s))],[.arr .frozen 0 1 (l.map (AV.p∘fun x:Nat=>PV.int .u64 x)),.arr .exact 0 1 (b8 (c+1) (ae wB (a*2^s% (V*wB^j)))),.arr .exact 0 1 (b8 (m+1) (qF (a/b) j))]⟩)
   (fun j=>j<=m+1) (fun j=>j) (m+1) (gx _) ?_ (hn:=by simp[av]) (hh:=by simp[av])
  intro j k1
  by_cases bP:0<j
  ·obtain⟨k,rfl⟩:∃k,j=k+1:=⟨j-1,by omega⟩
   have e4:cb.wrap ((k:Int)-1)=k-1:=aK _ (by omega) (by omega);have e5:cb.wrap ((k:Int)+n)=k+n:=aK _ (by omega) (by omega);have a0:cb.wrap ((k:Int)+n+1)=k+n+1:=aK _ (by omega) (by omega);have aB:=gT (a*2^s% (V*wB^(k+1))) k (by omega) (e8 _ (Nat.mul_pos bc (fb (by decide))));have hq:a*2^s% (V*wB^(k+1))/(V*wB^k)=ae wB (a/b) k:=by
    rw[E];exact WI D
   have M:a*2^s% (V*wB^(k+1))% (V*wB^k)=a*2^s% (V*wB^k):=by
    rw[e9,<-gy,Nat.mod_mul_right_mod]
   rw[hq,M]at aB;generalize a*2^s% (V*wB^(k+1))=X at*;generalize aD:a*2^s% (V*wB^k)=bJ at*;have a4:((k:Int)+n+1).toNat=k+n+1:=by omega
   have f2:(0:Int)<=(k:Int)+n+1:=by omega
   have f3:(k:Int)+n+1<=(c:Int)+1:=by omega
   have f4:k<=k+n+1:=by omega
   have f5:¬k=k+n+1:=by omega
   have f6:k+n+1-k=n+1:=by omega
   have f7:k<m+1:=by omega
   have gk:=mw (n:=m+1) (qF (a/b) (k+1)) f7;have bF:=Nb (m:=m+1) (Q:=a/b) (i:=k);simp[e4,e5,a0,L6,a4,f2,f3,f4,f5,f6];rw[show(if k=0 then({v:=.sl 1 0 1 0 (k+n+1),ak:=[(1,.arr .exact 0 1 (b8 (c+1) (ae wB X)))]}:aS)else{v:=.sl 1 0 1 k (n+1),ak:=[(1,.arr .exact 0 1 (b8 (c+1) (ae wB X)))]})={v:=.sl 1 0 1 k (n+1),ak:=[(1,.arr .exact 0 1 (b8 (c+1) (ae wB X)))]}by split<;>simp[*]];simp;refine⟨by omega,?_⟩;refine cf aB [1] ?_;simp[gk,bF,e4,f7,aa,aL,bD];exact rd k (show k<=m+1 by omega) (hn:=by simp[aD]) (hh:=by simp[aD])
  ·obtain rfl:j=0:=by omega
   have a6:a*2^s% V=a% b*2^s:=by rw[E,hj]
   simp[Mm,a6]
 rintro⟨bK,bO⟩ ⟨ai,aj,al,am,aU⟩;dsimp only at ai aj al am aU;subst aU;obtain⟨R,H⟩:∃R,R=a% b*2^s:=⟨_,rfl⟩
 rw[<-H];simp[ai,aj,al,am];refine lp (α:=Nat) (fun i=>⟨[(97,.p (.int .i64 i)),(96,.p (.int .i64 n)),(13,.sl 2 0 1 0 (m+1)),(12,.p (.int .i64 n)),(11,.sl 1 0 1 0 (c+1)),(9,.p (.int .i64 s))],[.arr .frozen 0 1 (l.map (AV.p∘fun x:Nat=>PV.int .u64 x)),.arr .exact 0 1 (b8 (c+1) (dA 0 i (ae wB R) (ae wB (a% b)))),.arr .exact 0 1 (b8 (m+1) (ae wB (a/b)))]⟩)
  (fun i=>i<=n) (fun i=>n-i) 0 (ha _) ?_ (hn:=by simp[sJ]) (he:=by simp[ai,aj,al,am]) (hh:=by simp[sJ])
 intro i k1;have O:=bX (i:=i) (by omega)
 by_cases hi:i<n
 ·have F:i<c+1:=by omega
  have aJ:i+1<c+1:=by omega
  have ap:(b8 (c+1) (dA 0 i (ae wB R) (ae wB (a% b))))[i]?=some (.p (.int .u64 (ae wB R i))):=by
   have:=ye (m:=c+1) (j:=0) (i:=i) (g:=ae wB R) (f:=ae wB (a% b)) (by omega)
   rwa [g8]at this
  have an:=ug (ae wB R i) s (by omega);have bo:i<c:=by omega
  by_cases ar:0<s
  ·obtain⟨t,bz⟩:∃t,t=64-s:=⟨_,rfl⟩
   have a2:cb.wrap (64-(s:Int))=(t:Int):=by rw[aK _ (by omega) (by omega)];omega
   have a3:=wU (ae wB R (i+1)) t (by omega);have aB:=yR hs;rw[<-bz]at aB;have ba:0<2^t:=fb (by decide);have bu:ae wB R i/2^s<2^t:=by rw[ey D,eo,aB];exact cm bd _ _
   have aV:ae wB R (i+1)*2^t% wB=ae wB R (i+1)% 2^s*2^t:=by rw[<-aB,hj]
   have bt:ae wB R i/2^s|||(ae wB R (i+1)*2^t% wB)=ae wB (a% b) i:=by
    have u:=aFH D ba R i;rw[aB,H,Nat.mul_div_cancel _ D,<-H]at u;rw[hF,aV,Db bu,<-aV,u,gA]
   have T:=EF (ae wB R i/2^s) (ae wB R (i+1)*2^t% wB) (e7 (gj _ _) (cm bd _ _)) (e8 _ (by decide));rw[bt]at T;generalize ae wB R i/2^s=r at*;generalize ae wB R (i+1)*2^t% wB=ah at*;have aZ:b5.wrap ((r% 2^b5.bits|||((ah:Int)% 2^b5.bits).toNat:Nat):Int)=(ae wB (a% b) i:Nat):=by
    rw[UM];exact T
   have S:=pj (n:=c+1) (i:=i) (v:=r) (f:=dA 0 i (ae wB R) (ae wB (a% b))) (g:=fun k=>if k=i then r else dA 0 i (ae wB R) (ae wB (a% b)) k) (if_pos rfl) (fun k hk=>if_neg hk);have U:=mw (n:=c+1) (fun k=>if k=i then r else dA 0 i (ae wB R) (ae wB (a% b)) k) F;have ao:=mw (n:=c+1) (fun k=>if k=i then r else dA 0 i (ae wB R) (ae wB (a% b)) k) aJ;rw[if_pos rfl]at U;rw[if_neg (by omega),dA,if_neg (by omega)]at ao;have bE:=pj (n:=c+1) (i:=i) (v:=ae wB (a% b) i) (f:=fun k=>if k=i then r else dA 0 i (ae wB R) (ae wB (a% b)) k) (g:=dA 0 (i+1) (ae wB R) (ae wB (a% b))) (by rw[dA,if_pos (by omega),hC]) (fun k hk=>by
    rw[if_neg hk,dA,dA]
    by_cases h:k<i
    ·rw[if_pos (by omega),if_pos (by omega)]
    ·rw[if_neg (by omega),if_neg (by omega)])
   generalize (fun k=>if k=i then r else dA 0 i (ae wB R) (ae wB (a% b)) k)=bL at*;simp[hi,F,ap,an,ar,O,S,aa,aL,bD];simp[F,aJ,bo,a2,O,U,ao,aa,aL,bD];simp[a3,T,aZ,F,O,bE,U,aa,aL,bD];refine⟨by omega,⟨by rfl,by rfl,by rfl,by rfl,by rfl⟩,?_⟩;exact rd (i+1) (show i+1<=n by omega)
  ·have aX:s=0:=by omega
   have a9:ae wB R i=ae wB (a% b) i:=by rw[H,aX,fm,hp]
   have S:=yd (m:=c+1) (j:=0) (i:=i) (g:=ae wB R) (f:=ae wB (a% b)) (v:=ae wB R i) a9.symm;rw[g8]at S;have a1:(ae wB R i:Int).fdiv (2^(min s b5.bits))=(ae wB R i:Nat):=by rw[an,aX,fm,g5]
   simp[hi,F,ap,ar,O,S,a1,aa,aL,bD];exact rd (i+1) (show i+1<=n by omega)
 obtain rfl:i=n:=by omega
 obtain⟨bS,aO,br,az⟩:=CS (m:=m+1) (N:=a/b) (by rw[aR];exact a7) (by omega);obtain⟨P,aP,bs,bb⟩:∃P:List Nat,P.length=c+1/\b8 (c+1) (dA 0 i (ae wB R) (ae wB (a% b)))=P.map (AV.p∘fun x:Nat=>PV.int .u64 x)/\aw prog 291 [.seq (eW (P.take i))] (.seq (aY.map fun x:Nat=>.int .u64 x)):=by
  refine⟨(dp (c+1)).map (dA 0 i (ae wB R) (ae wB (a% b))),by simp,Cj _ _,?_⟩;have e:((dp (c+1)).map (dA 0 i (ae wB R) (ae wB (a% b)))).take i=(dp i).map (ae wB (a% b)):=by
   exact L7 (by omega) fun k hk=>by rw[dA,if_pos (by omega),hC]
  rw[e];have u:=tq ((dp i).map (ae wB (a% b))) (by simp;omega);rw[bB]at u;exact u
 simp only[eN,bC]at az;simp[br,bs];refine ep az (by simp[aO];exact⟨rfl,rfl⟩) (by simp;exact⟨rfl,rfl⟩) ?_ (h1:=by simp[eW,dz,aO]);simp[aP];refine⟨by omega,?_⟩;have bn:i<=c+1:=by omega
 refine ep bb (by simp[aP,bn];exact⟨rfl,rfl⟩) (by simp;exact⟨rfl,rfl⟩) ?_ (h1:=by simp[eW,ee]);simp;rfl
def bE(k:Nat)(q:Rat):Prop:=q.num.natAbs<2^k/\q.den<2^k
theorem bE.mono{k l:Nat}{q:Rat}(h:bE k q)(a:k<=l):bE l q:=
 ⟨ew h.1 (e6 (by omega) a),ew h.2 (e6 (by omega) a)⟩
theorem lL{n:Int}{d:Nat}(h:d≠0):(hK n d).num=n/(hD n.natAbs d:Nat)/\(hK n d).den=d/hD n.natAbs d:=by
 have:hK n d=Rat.normalize n d h:=by
  rw[hL];rfl
 rw[this,Rat.normalize_eq h];exact⟨rfl,rfl⟩
theorem Cf{n:Int}{d k:Nat}(h:d≠0)(a:n.natAbs<2^k)(b:d<2^k):bE k (hK n d):=by
 obtain⟨e1,e2⟩:=lL (n:=n) h;refine⟨?_,?_⟩
 ·rw[e1];refine e7 ?_ a;rw[Int.natAbs_ediv_of_dvd (Int.ofNat_dvd_left.2 (Nat.gcd_dvd_left _ _))];exact gj _ _
 ·rw[e2];exact e7 (gj _ _) b
theorem zd{a b:Nat}{x y:Rat}(h:bE a x)(c:bE b y):bE (a+b+1) (x+y):=by
 have e:x+y=hK (x.num*y.den+y.num*x.den) ((x.den*y.den:Nat):Int):=by rw[Rat.add_def'];rfl
 rw[e];have e1:2^(a+b+1)=2^a*2^b+2^a*2^b:=by rw[e9,ge];omega
 refine Cf (hv x.den_nz y.den_nz) ?_ ?_
 ·rw[e1];refine e7 (Int.natAbs_add_le _ _) ?_;rw[ck,ck,cv,cv];have f:=gi h.1 c.2;have d:=gi c.1 h.2;rw[eo (2^b)]at d;omega
 ·have:=gi h.2 c.2;rw[e1];omega
theorem vr{a:Nat}{x:Rat}(h:bE a x):bE a (-x):=by
 refine⟨by rw[Rat.neg_num,Int.natAbs_neg];exact h.1,by rw[Rat.neg_den];exact h.2⟩
theorem xD{a b:Nat}{x y:Rat}(h:bE a x)(c:bE b y):bE (a+b+1) (x-y):=by
 rw[hM];exact zd h (vr c)
theorem lK{a b:Nat}{x y:Rat}(h:bE a x)(c:bE b y):bE (a+b) (x*y):=by
 have e:x*y=hK (x.num*y.num) ((x.den*y.den:Nat):Int):=by
  rw[Rat.mul_def,hL];rfl
 rw[e];refine Cf (hv x.den_nz y.den_nz) ?_ ?_
 ·rw[ck,ge];exact gi h.1 c.1
 ·rw[ge];exact gi h.2 c.2
theorem V0{x:Rat}(h:x≠0):(x⁻¹).num=x.num.sign*x.den/\(x⁻¹).den=x.num.natAbs:=by
 have a:x.num≠0:=fun e=>h (hN.1 e);have e:x⁻¹=hK (x.num.sign*x.den) (x.num.natAbs:Nat):=by
  rw[Rat.inv_def];rcases cx x.num 0 with h|h|h
  ·have e1:x.num.sign= -1:=Int.sign_eq_neg_one_of_neg h;have e2:((x.num.natAbs:Nat):Int)= -x.num:=by omega
   rw[e1,e2,show(-1*(x.den:Int))= -(x.den:Int)by omega,Rat.divInt_neg',Int.neg_neg]
  ·exact(a h).elim
  ·have e1:x.num.sign=1:=Int.sign_eq_one_of_pos h;have e2:((x.num.natAbs:Nat):Int)=x.num:=by omega
   rw[e1,e2,Int.one_mul]
 have b:hD (x.num.sign*x.den).natAbs x.num.natAbs=1:=by
  rw[ck,dg a,gt,cv,Nat.gcd_comm];exact x.reduced
 obtain⟨e1,e2⟩:=lL (n:=x.num.sign*x.den) (d:=x.num.natAbs) (by omega);rw[e,e1,e2,b];simp
theorem HJ{a:Nat}{x:Rat}(h:bE a x):bE a x⁻¹:=by
 by_cases b:x=0
 ·subst b;have:(0:Rat)⁻¹=0:=Rat.inv_zero;rw[this];exact h
 ·obtain⟨e1,e2⟩:=V0 b;have c:x.num≠0:=fun e=>b (hN.1 e);refine⟨?_,by rw[e2];exact h.1⟩;rw[e1,ck,dg c,gt,cv];exact h.2
theorem zj{a b:Nat}{x y:Rat}(h:bE a x)(c:bE b y):bE (a+b) (x/y):=by
 rw[Rat.div_def];exact lK h (HJ c)
theorem ju{k:Nat}{n:Int}(h:n.natAbs<2^k)(hk:0<k):bE k (n:Rat):=by
 refine⟨h,?_⟩;show(1:Nat)<2^k;exact Nat.one_lt_two_pow (by omega)
structure NI where
 v:Int
 m:Bool
def NI.sm(a:NI):Bool:=decide (-9223372036854775808<a.v/\a.v<9223372036854775808)||(decide (a.v= -9223372036854775808)&&a.m)
def NI.of(n:Int):NI:=⟨n,true⟩
def NI.mk'(n:Int):NI:=⟨n,false⟩
def NI.neg(a:NI):NI:=.mk' (-a.v)
def NI.abs(a:NI):NI:=if a.v<0 then .mk' (-a.v)else a
def NI.add(a b:NI):NI:=⟨a.v+b.v,a.sm&&b.sm⟩
def NI.sub(a b:NI):NI:=a.add b.neg
def NI.mul(a b:NI):NI:=.mk' (a.v*b.v)
def NI.div(a b:NI):NI:=⟨a.v/b.v,decide (a.v% b.v≠0)⟩
def NI.mod(a b:NI):NI:=.mk' (a.v% b.v)
structure NF where
 q:Rat
 m:Bool
def NF.num(a:NF):NI:=⟨a.q.num,a.m⟩
def NF.den(a:NF):NI:=.mk' a.q.den
def NF.whole(a:NI):NF:=⟨a.v,a.m⟩
def NF.int(n:Int):NF:=⟨n,true⟩
def NF.fu(a:NF):Bool:=decide (a.q.den=1)
def NF.add(a b:NF):NF:=⟨a.q+b.q,a.fu&&b.fu&&(a.num.sm&&b.num.sm)⟩
def NF.neg(a:NF):NF:=⟨-a.q,false⟩
def NF.sub(a b:NF):NF:=a.add b.neg
def NF.mul(a b:NF):NF:=⟨a.q*b.q,false⟩
def NF.inv(a:NF):NF:=⟨a.q⁻¹,false⟩
def NF.div(a b:NF):NF:=⟨a.q/b.q,false⟩
@[simp] theorem NI.rC(a b:NI):(a.add b).v=a.v+b.v:=rfl
@[simp] theorem NI.lY(a b:NI):(a.mul b).v=a.v*b.v:=rfl
@[simp] theorem NI.Ew(a:NI):a.neg.v= -a.v:=rfl
@[simp] theorem NI.QU(a b:NI):(a.sub b).v=a.v-b.v:=by show a.v+-b.v=_;omega
@[simp] theorem NF.xm(a b:NF):(a.add b).q=a.q+b.q:=rfl
@[simp] theorem NF.aKz(a:NF):a.neg.q= -a.q:=rfl
@[simp] theorem NF.q9(a b:NF):(a.sub b).q=a.q-b.q:=by show a.q+-b.q=_;rw[hM]
@[simp] theorem NF.aKy(a b:NF):(a.mul b).q=a.q*b.q:=rfl
@[simp] theorem NF.aJU(a:NF):a.inv.q=a.q⁻¹:=rfl
@[simp] theorem NF.aJb(a b:NF):(a.div b).q=a.q/b.q:=rfl
@[simp] theorem NF.aJT(n:Int):(NF.int n).q=n:=rfl
def eX(z:Int):PV:=.st 129 [.int .i64 z,.aN]
def kz(z:Int):PV:=.st 129 [.int .i64 (if z<0 then -1 else 1),eN z.natAbs]
def D4(p:PV)(z:Int):Prop:=(p=eX z/\-9223372036854775808<=z/\z<=9223372036854775807)\/(p=kz z/\9223372036854775808<=z.natAbs)
theorem O9(a:NI):∃p,p=if a.sm=true then eX a.v else kz a.v:=⟨_,rfl⟩
noncomputable def eI(a:NI):PV:=b3 (O9 a)
theorem jb(a:NI):eI a=if a.sm=true then eX a.v else kz a.v:=b2 (O9 a)
theorem NI.zg{a:NI}(h:-9223372036854775808<a.v)(b:a.v<9223372036854775808):a.sm=true:=by
 simp[NI.sm,h,b]
theorem NI.pB{a:NI}(h:a.sm=true):-9223372036854775808<=a.v/\a.v<=9223372036854775807:=by
 simp only[NI.sm,b1,decide_eq_true_eq,b0]at h;omega
theorem NI.yV{a:NI}(h:¬a.sm=true):9223372036854775808<=a.v.natAbs:=by
 simp only[NI.sm,b1,decide_eq_true_eq,b0,not_or,not_and]at h;omega
theorem NI.Qp(z:Int):(NI.mk' z).sm=decide (-9223372036854775808<z/\z<9223372036854775808):=by
 rw[NI.sm,NI.mk',Bool.and_false,Bool.or_false]
theorem NI.iw(z:Int):(NI.mk' z).v=z:=rfl
theorem l8(a:NI):D4 (eI a) a.v:=by
 rw[jb]
 by_cases h:a.sm=true
 ·rw[if_pos h];have:=NI.pB h;exact .inl ⟨rfl,this⟩
 ·rw[if_neg h];exact .inr ⟨rfl,NI.yV h⟩
theorem nV{z:Int}(h:-9223372036854775808<z)(a:z<9223372036854775808):eI (.mk' z)=eX z:=by
 rw[jb,NI.Qp,if_pos (by simp[h,a]),NI.iw]
theorem O8{z:Int}(h:9223372036854775808<=z.natAbs):eI (.mk' z)=kz z:=by
 rw[jb,NI.Qp,if_neg (by simp;omega),NI.iw]
theorem tP{z:Int}(h:-9223372036854775808<=z)(c:z<=9223372036854775807):eI (.of z)=eX z:=by
 rw[jb,if_pos]
 ·rfl
 ·by_cases b:z= -9223372036854775808
  ·subst b;rfl
  ·exact NI.zg (a:=.of z) (by show _<z;omega) (by show z<_;omega)
@[simp] theorem bxN(u:TypeId)(h:¬u=226):(Gl.bx u:Option TypeId)=none:=by
 have a:hE u 226=false:=by
  cases a:hE u 226
  ·rfl
  ·exact(h (Nat.eq_of_beq_eq_true a)).elim
 show(bif hE u 226 then some 227 else none)=none;rw[a];rfl
@[simp] theorem aHY:(Gl.bx 226:Option TypeId)=some 227:=(rfl)
theorem ly:aq wB 0=[]:=by simp[aq,mV]
theorem tj{n:Nat}(a:0<n)(h:n<wB):aq wB n=[n]:=by
 have h1:=jo bd (m:=1) (n:=n) (by rw[hb];exact h);rw[<-h1,row,ec,ei,ej,ae,fm,g5,eq h];have:=uT [] n (by omega)
 rwa [List.nil_append]at this
theorem rJ(n:Int):aw prog 171 [.int .i64 n] (eX n):=by
 refine aI nf Oy mix (by simp[f171]) ?_;simp[f171,eX]
theorem Dx(n:Int)(h:-9223372036854775808<=n)(b:n<=9223372036854775807):aw prog 256 [.int .i64 n] (.int .u64 (n.natAbs:Nat)):=by
 refine aI nf NA mix (by simp[f256]) ?_
 by_cases a:n<0
 ·have e:b5.wrap (cb.wrap (-n))=(n.natAbs:Nat):=by
   by_cases hm:n= -9223372036854775808
   ·subst hm;rfl
   ·rw[aK _ (by omega) (by omega),fp _ (by omega) (by simp only[wB];omega)];omega
  simp[f256,a,e]
 ·have e:b5.wrap n=(n.natAbs:Nat):=by rw[fp _ (by omega) (by simp only[wB];omega)];omega
  simp[f256,a,e]
theorem nH(p:PV)(z:Int)(h:D4 p z):aw prog 248 [p] (.aE [.bool (decide (z<0)),eN z.natAbs]):=by
 refine aI nf MG mix (by simp[f248]) ?_;rcases h with⟨rfl,b,d⟩|⟨rfl,b⟩
 ·have hs:=Dx z b d
  by_cases a:z=0
  ·subst a;simp[f248,eX,eN,ly,du,cS]
  ·simp[f248,eX,a,du,cS];refine e1 hs ?_;simp[eN,tj (n:=z.natAbs) (by omega) (by simp only[wB];omega)]
   done
 ·have e:aq wB z.natAbs≠[]:=fun h=>by
   have:=cj bd z.natAbs;rw[h,ea,fm]at this;omega
  simp only[kz,eN];obtain⟨c,cs,hc⟩:=dq e;rw[hc];have f:decide ((if z<0 then(-1:Int)else 1)<0)=decide (z<0):=by split<;>simp[*]
  generalize (if z<0 then(-1:Int)else 1)=g at*;simp[f248,du,cS,f]
theorem vQ(neg:Bool)(n:Nat)(k:(aq wB n).length<=1048576):aw prog 249 [.bool neg,eN n] (eI (.mk' (if neg then -(n:Int)else n))):=by
 by_cases i:n=0
 ·subst i;rw[show(if neg=true then -((0:Nat):Int)else((0:Nat):Int))=0 by simp,nV (by decide) (by decide)];refine aI nf wz mix (by simp[f249]) ?_;simp[f249,eX,eN,ly,du,cS]
 by_cases q:n<=9223372036854775807
 ·have d:=tj (n:=n) (by omega) (by simp only[wB];omega);have hI:(n:Int)<=9223372036854775807:=by omega
  have f:cb.wrap (n:Int)=n:=aK _ (by omega) (by omega);have g:cb.wrap (-(n:Int))= -n:=aK _ (by omega) (by omega);cases neg
  ·rw[if_neg (by decide),nV (by omega) (by omega)];refine aI nf wz mix (by simp[f249]) ?_;simp[f249,eX,eN,d,hI,f,g,du,cS]
  ·rw[if_pos rfl,nV (by omega) (by omega)];refine aI nf wz mix (by simp[f249]) ?_;simp[f249,eX,eN,d,hI,f,g,du,cS]
 ·have l:aq wB n≠[]:=fun h=>by
   have:=cj bd n;rw[h,ea,fm]at this;omega
  have e:(aq wB n).length=1->(aq wB n)[0]?=some n:=fun h=>by
   have a:=cj bd n;rw[h,hb]at a;rw[tj (by omega) a];rfl
  have hI:¬(n:Int)<=9223372036854775807:=by omega
  have b:(if neg then -(n:Int)else n).natAbs=n:=by cases neg<;>simp
  have m:(if(if neg then -(n:Int)else n)<0 then(-1:Int)else 1)=if neg then -1 else 1:=by
   cases neg
   ·simp only[Bool.false_eq_true,if_false];rw[if_neg (by omega)]
   ·simp only[if_true];rw[if_pos (by omega)]
  rw[O8 (by rw[b];omega)];refine aI nf wz mix (by simp[f249]) ?_;rw[kz,b,m];simp only[eN];obtain⟨c,cs,hc⟩:=dq l;rw[hc]at e⊢;rw[hc]at k;cases cs with
  |nil=>
   have j:c=n:=by simpa using e rfl
   subst j;cases neg<;>simp[f249,hI,du,cS]
  |cons c2 cs=>
   have o:¬((cs.length:Int)+1+1=1):=by omega
   have p:¬((cs.length:Int)+1+1=0):=by omega
   cases neg<;>simp[f249,o,p,du,cS]
def okW(z:Int):Prop:=(aq wB z.natAbs).length<=900000
theorem aBn{p:PV}{z:Int}(h:D4 p z):∃a b,p=.st 129 [a,b]:=by
 rcases h with⟨rfl,_⟩|⟨rfl,_⟩
 ·exact⟨_,_,rfl⟩
 ·exact⟨_,_,rfl⟩
theorem vG(a:NI):∃x y,eI a=.st 129 [x,y]:=aBn (l8 a)
theorem tL(a:NI)(l:okW a.v):aw prog 245 [eI a] (eI a.neg):=by
 have h:=l8 a;have d:=nH (eI a) a.v h;have b:=vQ (!decide (a.v<0)) a.v.natAbs (by rw[okW]at l;omega);have k:(if(!decide (a.v<0))=true then -((a.v.natAbs:Nat):Int)else a.v.natAbs)= -a.v:=by
  by_cases e:a.v<0
  ·simp[e];omega
  ·simp[e];omega
 rw[k]at b;rw[show a.neg=.mk' (-a.v)from rfl];generalize a.v=z at*;generalize n:eI a=p at*;obtain⟨o,q,g⟩:=vG (.mk' (-z));rcases h with⟨rfl,i,m⟩|⟨rfl,i⟩
 ·by_cases f:z= -9223372036854775808
  ·rw[g]at b⊢;refine aI nf zG mix (by simp[f245]) ?_;subst f;simp only[eX]at d⊢;simp[f245,du,cS];refine c1 d ?_;simp[eN]at b⊢;refine c2 b ?_;simp[aa,aL,bD]
  ·rw[nV (by omega) (by omega)];have w:cb.wrap (-z)= -z:=aK _ (by omega) (by omega);refine aI nf zG mix (by simp[f245]) ?_;simp[f245,eX,f,w,du,cS]
 ·rw[g]at b⊢;refine aI nf zG mix (by simp[f245]) ?_;have j:aq wB z.natAbs≠[]:=fun h=>by
   have:=cj bd z.natAbs;rw[h,ea,fm]at this;omega
  simp only[kz,eN]at d b⊢;obtain⟨c,cs,hc⟩:=dq j;rw[hc]at d b⊢;generalize (if z<0 then(-1:Int)else 1)=r at*;simp[f245,du,cS];refine c1 d ?_;simp at b⊢;refine c2 b ?_;simp[aa,aL,bD]
theorem tz(a:NI):aw prog 225 [eI a] (.int .i64 (if a.v<0 then -1 else if a.v=0 then 0 else 1)):=by
 have h:=l8 a;generalize a.v=z at*;generalize eI a=p at*;refine aI nf Hj mix (by simp[f225]) ?_;rcases h with⟨rfl,b,c⟩|⟨rfl,b⟩
 ·simp[f225,eX];rcases cx z 0 with h|h|h
  ·have e:z<1:=by omega
   simp[h,e];omega
  ·subst h;simp
  ·have e1:¬z<0:=by omega
   have e2:¬z=0:=by omega
   have e3:¬z<1:=by omega
   simp[e1,e2,e3]
 ·simp[f225,kz,eN]
  by_cases h:z<0
  ·simp[h]
  ·have e2:¬z=0:=by omega
   simp[h,e2]
theorem Vk{z:Int}(h:-18446744073709551616<=z)(a:z<=18446744073709551614):cb.wrap z=if z< -9223372036854775808 then z+18446744073709551616 else if 9223372036854775807<z then z-18446744073709551616 else z:=by
 rw[cc]
 split
 ·omega
 ·split<;>omega
theorem nF{z:Int}(h:okW z):(aq wB z.natAbs).length<=900000:=h
theorem TP{a b L:Nat}(c:(aq wB a).length<=L)(d:(aq wB b).length<=L):(aq wB (a+b)).length<=L+1:=by
 refine dK bd _ _ ?_;have e:=ew (cj bd a) (e6 (show 0<wB by decide) c);have f:=ew (cj bd b) (e6 (show 0<wB by decide) d);have g:2*wB^L<=wB^(L+1):=by rw[e9,eo];exact fl _ bd
 omega
theorem Sv{a b:Int}(i:okW a)(j:okW b):
 ((decide (a<0)=decide (b<0)/\aw prog 249 [.bool (decide (a<0)),eN (a.natAbs+b.natAbs)] (eI (.mk' (a+b))))\/
  (decide (a<0)≠decide (b<0)/\b.natAbs<=a.natAbs/\aw prog 249 [.bool (decide (a<0)),eN (a.natAbs-b.natAbs)] (eI (.mk' (a+b))))\/
  (decide (a<0)≠decide (b<0)/\a.natAbs<b.natAbs/\aw prog 249 [.bool (decide (b<0)),eN (b.natAbs-a.natAbs)] (eI (.mk' (a+b))))):=by
 have m:=TP (a:=a.natAbs) (b:=b.natAbs) i j;have l:∀n,n<=a.natAbs+b.natAbs->(aq wB n).length<=1048576:=fun n h=>by
  have:=dK bd _ _ (e7 h (cj bd (a.natAbs+b.natAbs)));omega
 have f:∀(neg:Bool)(n:Nat),n<=a.natAbs+b.natAbs->(if neg then -(n:Int)else n)=a+b->aw prog 249 [.bool neg,eN n] (eI (.mk' (a+b))):=fun neg n h e=>by
  have g:=vQ neg n (l n h);rw[e]at g;exact g
 by_cases d:decide (a<0)=decide (b<0)
 ·have c:=f (decide (a<0)) (a.natAbs+b.natAbs) (gx _) (by
   by_cases h:a<0
   ·have:b<0:=by simpa[h]using d
    simp[h];omega
   ·have:¬b<0:=by simpa[h]using d
    simp[h];omega)
  exact .inl ⟨d,c⟩
 ·by_cases k:b.natAbs<=a.natAbs
  ·have c:=f (decide (a<0)) (a.natAbs-b.natAbs) (by omega) (by
    by_cases h:a<0
    ·have:¬b<0:=by simpa[h]using d
     simp[h];omega
    ·have:b<0:=by simpa[h]using d
     simp[h];omega)
   exact .inr (.inl ⟨d,k,c⟩)
  ·have c:=f (decide (b<0)) (b.natAbs-a.natAbs) (by omega) (by
    by_cases h:b<0
    ·have:¬a<0:=fun c=>d (by simp[h,c]);simp[h];omega
    ·have:a<0:=by
      by_cases c:a<0
      ·exact c
      ·exact(d (by simp[h,c])).elim
     simp[h];omega)
   exact .inr (.inr ⟨d,by omega,c⟩)
theorem Dl(a:NI):(eI a=eX a.v/\a.sm=true/\-9223372036854775808<=a.v/\a.v<=9223372036854775807)\/(a.sm=false/\∃d c cs,eI a=.st 129 [.int .i64 d,.seq (c::cs)]):=by
 by_cases h:a.sm=true
 ·left;exact⟨by rw[jb,if_pos h],h,NI.pB h⟩
 ·right;refine⟨by simpa using h,?_⟩;have e:=NI.yV h;have b:aq wB a.v.natAbs≠[]:=fun h=>by
   have:=cj bd a.v.natAbs;rw[h,ea,fm]at this;omega
  obtain⟨c,cs,hc⟩:=dq b;rw[jb,if_neg h,kz,eN,hc];exact⟨_,_,_,rfl⟩
theorem wx(a b:NI)(B:okW a.v)(D:okW b.v):aw prog 188 [eI a,eI b] (eI (a.add b)):=by
 have o:=nH (eI a) a.v (l8 a);have q:=nH (eI b) b.v (l8 b);have U:=nF B;have V:=nF D;have t:=HK a.v.natAbs b.v.natAbs (by omega) (by omega);have C:=Up a.v.natAbs b.v.natAbs (by omega) (by omega);have y:=Sv B D;have uh:=Dl a;have G:=Dl b
 by_cases u:(a.sm=true/\b.sm=true)/\-9223372036854775808<=a.v+b.v/\a.v+b.v<=9223372036854775807
 ·obtain⟨⟨g,n⟩,d,l⟩:=u;rw[show eI a=eX a.v by rw[jb,if_pos g],show eI b=eX b.v by rw[jb,if_pos n],show a.add b=.of (a.v+b.v)by rw[NI.add,g,n];rfl,tP d l];generalize a.v=a at*;generalize b.v=b at*;refine aI nf AE mix (by simp[f188]) ?_;have w:=aK (a+b) d l;have e:(decide (a<a+b)==decide (0<b))=true:=by
   have:a<a+b↔0<b:=by omega
   simp[this]
  simp[f188,eX,w,du,cS,e]
 have F:eI (a.add b)=eI (.mk' (a.v+b.v)):=by
  by_cases h:-9223372036854775808<a.v+b.v/\a.v+b.v<9223372036854775808
  ·rw[nV h.1 h.2,jb,if_pos (NI.zg h.1 h.2)];rfl
  ·by_cases l:(a.sm&&b.sm)=true
   ·have H:a.sm=true/\b.sm=true:=by simpa using l
    have I:¬(-9223372036854775808<=a.v+b.v/\a.v+b.v<=9223372036854775807):=fun h=>u ⟨H,h⟩;rw[O8 (by omega),jb,if_neg,NI.rC];intro g;have:=NI.pB g;rw[NI.rC]at this;omega
   ·rw[NI.add,NI.mk'];rw[show(a.sm&&b.sm)=false by simpa using l]
 rw[F];clear F;obtain⟨M,N,J⟩:=vG a;obtain⟨O,P,K⟩:=vG b;obtain⟨Y,Z,L⟩:=vG (.mk' (a.v+b.v));rw[L]at y⊢;rw[J]at o uh⊢;rw[K]at q G⊢;generalize a.v=f at*;generalize b.v=bv at*;refine aI nf AE mix (by simp[f188]) ?_;simp[f188,-bh];rw[bh];simp[-bh];refine join (fun s=>aM s.env 2=.ptr 0 []/\aM s.env 3=.ptr 1 []/\aM s.env 4=.ptr 2 []/\s.heap=[.box false (.p (.st 129 [M,N])),.box false (.p (.st 129 [O,P])),.box false (.p (.st 129 [.int .i64 0,.aN]))]) ?_ ?_
 ·clear y t C o q;rcases uh with⟨d,m,l,g⟩|⟨m,Q,c,cs,d⟩
  ·simp only[eX,PV.st.injEq,en,and_true,true_and]at d;obtain⟨rfl,rfl⟩:=d;rcases G with⟨n,A,S,T⟩|⟨A,Q,c,cs,n⟩
   ·simp only[eX,PV.st.injEq,en,and_true,true_and]at n;obtain⟨rfl,rfl⟩:=n;have I:¬(-9223372036854775808<=f+bv/\f+bv<=9223372036854775807):=fun h=>u ⟨⟨m,A⟩,h⟩;have w:=Vk (z:=f+bv) (by omega) (by omega);have e:¬(f<cb.wrap (f+bv)↔0<bv):=by
     rw[w]
     by_cases W:0<bv
     ·rw[if_neg (by omega),if_pos (by omega)];omega
     ·rw[if_pos (by omega)];omega
    simp[du,cS,e]
   ·simp only[PV.st.injEq,en,and_true,true_and]at n;obtain⟨rfl,rfl⟩:=n;simp[du,cS]
  ·simp only[PV.st.injEq,en,and_true,true_and]at d;obtain⟨rfl,rfl⟩:=d;simp[du,cS]
 rintro⟨R,X⟩ ⟨i,j,k,E⟩;dsimp only at i j k E;subst E;simp[i,j,k];refine c1 o ?_;simp[i,j,k,aa,aL,bD];refine c1 q ?_;rcases y with⟨d,g⟩|⟨d,l,g⟩|⟨d,l,g⟩
 ·have m:(f<0↔bv<0):=by simpa using d
  rw[d]at g;simp[i,j,k,m,aa,aL,bD];refine c2 C ?_;simp;refine c2 g ?_;simp[i,j,k,aa,aL,bD]
 ·have m:¬(f<0↔bv<0):=by simpa using d
  have r:0<=fG f.natAbs bv.natAbs:=by
   have h:=mt pq.1 (show¬f.natAbs<bv.natAbs by omega);omega
  have x:=IV f.natAbs bv.natAbs l (by omega);simp[i,j,k,m,aa,aL,bD];refine c2 t ?_;simp[r];refine c2 x ?_;simp[i,j,k,aa,aL,bD];refine c2 g ?_;simp[i,j,k,aa,aL,bD]
 ·have m:¬(f<0↔bv<0):=by simpa using d
  have r:¬0<=fG f.natAbs bv.natAbs:=by have:=pq.2 l;omega
  have x:=IV bv.natAbs f.natAbs (by omega) (by omega);simp[i,j,k,m,aa,aL,bD];refine c2 t ?_;simp[r];refine c2 x ?_;simp[i,j,k,aa,aL,bD];refine c2 g ?_;simp[i,j,k,aa,aL,bD]
@[simp] theorem aKS(a:NI):aL (eI a)=.agg 129:=by
 obtain⟨x,y,h⟩:=vG a;rw[h];rfl
theorem QQ(a:NI):∃z:Int,z=if a.sm=true then a.v else if a.v<0 then -1 else 1:=⟨_,rfl⟩
noncomputable def sI(a:NI):Int:=b3 (QQ a)
theorem yW(a:NI):sI a=if a.sm=true then a.v else if a.v<0 then -1 else 1:=b2 (QQ a)
theorem Q5(a:NI):∃p:PV,p=if a.sm=true then .aN else eN a.v.natAbs:=⟨_,rfl⟩
noncomputable def wI(a:NI):PV:=b3 (Q5 a)
theorem Da(a:NI):wI a=if a.sm=true then .aN else eN a.v.natAbs:=b2 (Q5 a)
@[simp] theorem Zw(a:NI):cF (eI a)=[.int .i64 (sI a),wI a]:=by
 by_cases h:a.sm=true
 ·rw[jb,yW,Da,if_pos h,if_pos h,if_pos h];rfl
 ·rw[jb,yW,Da,if_neg h,if_neg h,if_neg h];rfl
theorem QR(a:NI):sI a<0↔a.v<0:=by
 rw[yW];split
 ·exact Iff.rfl
 ·split<;>omega
theorem lZ{a:NI}(h:a.sm=true):wI a=.aN:=by rw[Da,if_pos h]
theorem nS{a:NI}(h:a.sm=false):∃c cs,wI a=.seq (c::cs):=by
 rcases Dl a with⟨_,b,_⟩|⟨_,e,c,cs,d⟩
 ·rw[h]at b;exact absurd b (by decide)
 ·refine⟨c,cs,?_⟩;have:=Zw a;rw[d]at this;simp[cF]at this;exact this.2.symm
theorem mM{a:NI}(h:a.sm=true):sI a=a.v:=by rw[yW,if_pos h]
theorem DM(a b:NI)(d:okW a.v)(c:okW b.v):aw prog 269 [eI a,eI b] (eI (a.sub b)):=by
 refine aI nf FI mix (by simp[f269]) ?_;have e:okW b.neg.v:=by simpa[okW]using c
 simp[f269];refine e1 (tL b c) ?_;simp;refine e2 (wx a b.neg d e) ?_;simp[aa];exact Wk.refl _
theorem ON(a:NI)(c:okW a.v):aw prog 293 [eI a] (eI a.abs):=by
 refine aI nf Nv mix (by simp[f293]) ?_
 by_cases h:a.v<0
 ·have b:=(QR a).2 h;have e:a.abs=a.neg:=by rw[NI.abs,if_pos h];rfl
  simp[f293,aa,b];refine c1 (tL a c) ?_;simp[aa,e]
 ·have b:=mt (QR a).1 h;have e:a.abs=a:=by rw[NI.abs,if_neg h]
  simp[f293,aa,b,e]
def jN(x y:Int):Int:=if x<y then -1 else if x=y then 0 else 1
theorem OO(a b:NI)(m:okW a.v)(n:okW b.v):aw prog 220 [eI a,eI b] (.int .i64 (jN a.v b.v)):=by
 refine aI nf Hp mix (by simp[f220]) ?_;have p:(a.sm=true/\b.sm=true)\/¬(a.sm=true/\b.sm=true):=b4 _;rcases p with⟨d,l⟩|d
 ·have f:=lZ d;have g:=lZ l;have j:=mM d;have k:=mM l;rcases cx a.v b.v with h|h|h
  ·have e:jN a.v b.v= -1:=by rw[jN,if_pos h]
   simp[f220,aa,f,g,j,k,h,e,du,cS]
  ·have e:jN b.v b.v=0:=by rw[jN,if_neg (by omega),if_pos rfl]
   have d:¬a.v<b.v:=by omega
   simp[f220,aa,f,g,j,k,h,e,du,cS]
  ·have e:jN a.v b.v=1:=by rw[jN,if_neg (by omega),if_neg (by omega)]
   have d:¬a.v<b.v:=by omega
   simp[f220,aa,f,g,j,k,h,d,e,du,cS]
 ·have e:(if(a.sub b).v<0 then(-1:Int)else if(a.sub b).v=0 then 0 else 1)=jN a.v b.v:=by
   rw[NI.QU,jN];rcases cx a.v b.v with h|h|h
   ·rw[if_pos (by omega),if_pos h]
   ·rw[if_neg (by omega),if_pos (by omega),if_neg (by omega),if_pos h]
   ·rw[if_neg (by omega),if_neg (by omega),if_neg (by omega),if_neg (by omega)]
  have i:=tz (a.sub b);rw[e]at i;rcases hs:a.sm with _|_
  ·obtain⟨c,cs,f⟩:=nS hs;simp[f220,aa,f,du,cS];refine c2 (DM a b m n) ?_;simp;refine c1 i ?_;simp
  ·have f:=lZ hs;obtain⟨c,cs,g⟩:=nS (a:=b) (by cases o:b.sm with|false=>rfl|true=>exact(d ⟨hs,o⟩).elim);simp[f220,aa,f,g,du,cS];refine c2 (DM a b m n) ?_;simp;refine c1 i ?_;simp
theorem TO{a b L M:Nat}(e:(aq wB a).length<=L)(f:(aq wB b).length<=M):(aq wB (a*b)).length<=L+M:=by
 refine dK bd _ _ ?_;have c:=ew (cj bd a) (e6 (show 0<wB by decide) e);have d:=ew (cj bd b) (e6 (show 0<wB by decide) f);rw[ge];exact gi c d
theorem zt(a b:NI)(K:(aq wB a.v.natAbs).length+(aq wB b.v.natAbs).length<=900000):aw prog 190 [eI a,eI b] (eI (a.mul b)):=by
 have I:=nH (eI a) a.v (l8 a);have hq:=nH (eI b) b.v (l8 b);have G:=Un a.v.natAbs b.v.natAbs (by omega);have N:=TO (gx (aq wB a.v.natAbs).length) (gx (aq wB b.v.natAbs).length);have z:=vQ (decide (a.v<0)!=decide (b.v<0)) (a.v.natAbs*b.v.natAbs) (by omega);have e:(if(decide (a.v<0)!=decide (b.v<0))=true then -((a.v.natAbs*b.v.natAbs:Nat):Int)else(a.v.natAbs*b.v.natAbs:Nat))=a.v*b.v:=by
  rw[<-ck];rcases dk a.v 0 with j|j
  ·rcases dk b.v 0 with d|d
   ·have:=Int.mul_nonneg_of_nonpos_of_nonpos (c9 j) (c9 d);simp[j,d];omega
   ·have:=Int.mul_nonpos_of_nonpos_of_nonneg (c9 j) d;have o:¬b.v<0:=by omega
    simp[j,o];omega
  ·have o:¬a.v<0:=by omega
   rcases dk b.v 0 with d|d
   ·have:=Int.mul_nonpos_of_nonneg_of_nonpos j (c9 d);simp[o,d];omega
   ·have:=Int.mul_nonneg j d;have E:¬b.v<0:=by omega
    simp[o,E];omega
 rw[e]at z;rw[show a.mul b=.mk' (a.v*b.v)from rfl];refine aI nf Ou mix (by simp[f190]) ?_;simp[f190,-bh];rw[bh];simp[-bh];refine join (fun s=>aM s.env 2=.ptr 0 []/\aM s.env 3=.ptr 1 []/\aM s.env 4=.ptr 2 []/\s.heap=[.box false (.p (eI a)),.box false (.p (eI b)),.box false (.p (.st 129 [.int .i64 0,.aN]))]) ?_ ?_
 ·rcases hs:a.sm with _|_
  ·obtain⟨c,cs,i⟩:=nS hs;simp[aa,i,du,cS]
  ·have i:=lZ hs;rcases q:b.sm with _|_
   ·obtain⟨c,cs,k⟩:=nS q;simp[aa,i,k,du,cS]
   ·have k:=lZ q;have f:=mM hs;have g:=mM q;have B:=NI.pB hs;have C:=NI.pB q;have t:=Dx a.v B.1 B.2;have u:=Dx b.v C.1 C.2;have M:=yC a.v.natAbs b.v.natAbs (by omega) (by omega);obtain⟨H,x⟩:∃H,H=a.v.natAbs*b.v.natAbs/18446744073709551616:=⟨_,rfl⟩
    obtain⟨L,r⟩:∃L,L=a.v.natAbs*b.v.natAbs% 18446744073709551616:=⟨_,rfl⟩
    rw[<-x,<-r]at M;have F:a.v.natAbs*b.v.natAbs=H*18446744073709551616+L:=by omega
    clear x r
    by_cases c1:H=0/\L<=9223372036854775807
    ·obtain⟨rfl,r⟩:=c1;have y:(L:Int)<=9223372036854775807:=by omega
     have w:cb.wrap (L:Int)=L:=aK _ (by omega) (by omega);have D:cb.wrap (-(L:Int))= -L:=aK _ (by omega) (by omega);rw[F]at e;simp only[g7,g8]at e;rw[nV (by rw[<-e];split<;>omega) (by rw[<-e];split<;>omega),eX]
     by_cases c2:a.v<0↔b.v<0
     ·rw[if_neg (by simp[c2])]at e;rw[<-e];simp[aa,i,k,f,g,du,cS];refine e1 t ?_;simp[f,g];refine e1 u ?_;simp;refine e2 M ?_;simp[y,c2,aa,i,k,f,g,w]
     ·rw[if_pos (by simp[c2])]at e;rw[<-e];simp[aa,i,k,f,g,du,cS];refine e1 t ?_;simp[f,g];refine e1 u ?_;simp;refine e2 M ?_;simp[y,c2,aa,i,k,f,g,w,D]
    ·simp[aa,i,k,f,g,du,cS];refine e1 t ?_;simp[f,g];refine e1 u ?_;simp;refine e2 M ?_
     by_cases c2:H=0
     ·have c3:¬(L:Int)<=9223372036854775807:=fun h=>c1 ⟨c2,by omega⟩;simp[c2,c3]
     ·have c3:¬(H:Int)=0:=by omega
      simp[c2,c3]
 ·rintro⟨J,O⟩ ⟨l,m,n,A⟩;dsimp only at l m n A;subst A;simp[l,m,n];refine c1 I ?_;simp[l,m,n];refine c1 hq ?_;simp[l,m,n];refine c2 G ?_;simp;refine c2 z ?_;simp[l,m,n,aa]
  done
end Go.aj
