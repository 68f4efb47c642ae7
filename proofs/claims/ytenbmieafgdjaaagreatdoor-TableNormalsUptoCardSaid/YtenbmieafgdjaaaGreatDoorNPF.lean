import Derived.Test.YtenbmieafgdjaaaGreatDoorNPE
/- Parts of a proof. -/
set_option linter.unusedSimpArgs false
set_option linter.unusedVariables false
set_option linter.unusedSectionVars false
open Go.Proofs.Tryz
open Bool renaming and_eq_true->b0, or_eq_true->b1
open Classical renaming choose_spec->b2, choose->b3, em->b4
open Go.IntKind renaming u64->b5, i64->cb, wrap_i64->cc
open Go.Lib renaming bitLen->ce
open Int renaming natAbs_mul->ck, natAbs_natCast->cv, lt_trichotomy->cx, natCast_mul->cy, lt_of_le_of_lt->c6, le_of_lt->c9, ediv_le_self->da, ediv_nonneg->db, natAbs_sign_of_ne_zero->dg, lt_or_le->dk
open List renaming getElem?_eq_getElem->dl, range->dp, exists_cons_of_ne_nil->dq, take_of_length_le->dz, length_nil->ea, map_congr_left->eb, range_one->ec, mem_range->ed, map_take->ee, map_cons->ei, map_nil->ej
open List.cons renaming injEq->en
open Nat renaming mul_comm->eo, mod_eq_of_lt->eq, lt_of_lt_of_le->ew, div_lt_iff_lt_mul->e6, pow_le_pow_right->e7, lt_of_le_of_lt->e8, mod_lt->e9, pow_succ->fb, pow_pos->fd, mul_le_mul_right->fl, mul_le_mul_left->fm, pow_zero->fv, mul_lt_mul_of_pos_right->fI, add_mul->ga, div_add_mod->gb, lt_or_ge->gc, pow_add->ge, add_mul_mod_self_right->gg, mul_lt_mul''->gi, div_le_self->gj, add_sub_cancel->gl, one_mul->gm, le_refl->gt, mul_assoc->gx, add_comm->gy, mul_right_comm->g0, div_eq_of_lt->g2, lt_trans->g3, div_div_eq_div_mul->g4, div_one->g5, div_mul_le_self->g6, zero_mul->g7, zero_add->g8, add_zero->g9, zero_le->ha, pow_one->hb, min_eq_left->hd, add_sub_cancel_left->hg, mul_mod_mul_right->hj, mul_div_mul_right->ho, add_mul_div_right->hp, mul_one->hr, mul_mod_mul_left->ht, eq_zero_or_pos->hu, lt_of_succ_lt->hv, mul_ne_zero->hw, mod_add_div->hy, lt_succ_iff->hz, mul_le_mul->hA, add_assoc->hB, zero_mod->hC, sub_zero->hD, gcd->hE, beq->hF, or_comm->hG, mul_add->hH, not_lt->hJ
open Rat renaming divInt->hK, normalize_eq_mkRat->hL, sub_eq_add_neg->hM, num_eq_zero->hN
namespace Go.au
open Go.Proofs
set_option maxHeartbeats 4000000
set_option maxRecDepth 100000
theorem xD(n:Nat):b5.wrap (n:Int)=(n% wB:Nat):=by
 rw[show b5.wrap (n:Int)=(n:Int)% 18446744073709551616 from rfl];rfl
theorem vz(x s:Nat)(hs:s<64):b5.wrap ((x:Int)*2^(min s b5.bits))=(x*2^s% wB:Nat):=by
 rw[show b5.bits=64 from rfl,hd (by omega),<-xD];congr 1
theorem tg(x s:Nat)(hs:s<=64):(x:Int).fdiv (2^(min s b5.bits))=(x/2^s:Nat):=by
 rw[show b5.bits=64 from rfl,hd hs,show(2:Int)^s=((2^s:Nat):Int)by push_cast;rfl,Int.fdiv_eq_ediv_of_nonneg _ (Int.natCast_nonneg _)];rfl
theorem Dj(a b:Nat)(c:a<wB)(d:b<wB):b5.wrap ((a% 2^b5.bits|||b% 2^b5.bits:Nat):Int)=(a|||b:Nat):=by
 rw[show(2^b5.bits:Nat)=wB from rfl,eq c,eq d,xD,eq];exact Nat.or_lt_two_pow (n:=64) c d
def cu(a s i:Nat):Nat:=if i=0 then 0 else ae wB a (i-1)/2^(64-s)
def fU(a s i k:Nat):Nat:=if k<i then ae wB (a*2^s) k else if k=i then cu a s i else 0
theorem xY{s:Nat}(hs:s<64):2^s*2^(64-s)=wB:=by rw[<-ge,show s+(64-s)=64 by omega];rfl
theorem Kc(a s i:Nat)(hs:s<64):cu a s i|||(ae wB a i*2^s% wB)=ae wB (a*2^s) i:=by
 have c:0<2^s:=fd (by decide);have d:0<2^(64-s):=fd (by decide);have b:=xY hs;have hc:cu a s i<2^s:=by
  rw[cu];split
  ·exact c
  ·rw[e6 d,b];exact cq ba _ _
 have e:ae wB a i*2^s% wB=ae wB a i% 2^(64-s)*2^s:=by
  rw[<-b,eo,ht,eo]
 rw[hG,e,Ce hc,<-e];cases i with
 |zero=>rw[cu,if_pos rfl,g9,<-b];exact(Un a).symm
 |succ i=>rw[cu,if_neg (by omega),gl,<-b];exact(Uo c d a i).symm
theorem Ao{n:Nat}{f g:Nat->Nat}(h:∀k,k<n->f k=g k):b7 n f=b7 n g:=by
 rw[b7,b7];exact eb fun k hk=>by rw[h k (ed.1 hk)]
theorem W3(a s n:Nat)(hs:s<64)(h:ae wB a n=0):cu a s n=ae wB (a*2^s) n:=by
 rw[<-Kc a s n hs,h,g7,hC,Nat.or_zero]
theorem Iy(a s:Nat)(hs:s<64)(A:(aq wB a).length<=1000000):cR prog 332 [] [.p (eN a),.p (.int .i64 s)] [.arr .exact 0 1 (b7 ((aq wB a).length+1) (ae wB (a*2^s)))] (.sl 0 0 1 0 ((aq wB a).length+1)):=by
 refine gH nf Mc mix (by simp[f332]) ?_;have C:∀i(h:i<(aq wB a).length),(aq wB a)[i]=ae wB a i:=fun i h=>eg ba h;have F:=@BM a;simp only[eN];generalize aq wB a=x at*;obtain⟨n,c⟩:∃n,x.length=n:=⟨_,rfl⟩
 rw[c]at A;have J:cb.wrap ((n:Int)+1)=(n:Int)+1:=cJ (by omega);simp[f332,c,J];refine⟨⟨by omega,by simp only[cT];omega⟩,?_⟩;rw[Bm (f:=fU a s 0) (by intro j;simp[fU,cu])];refine lp (α:=Nat) (fun i=>⟨[(14,.p (.int .i64 i)),(13,.p (.int .i64 n)),(12,.p (.seq (x.map fun x:Nat=>.int .u64 x))),(5,.sl 0 0 1 0 (n+1)),(1,.p (.int .i64 s))],[.arr .exact 0 1 (b7 (n+1) (fU a s i))]⟩)
  (fun i=>i<=n) (fun i=>n-i) 0 (by simp) ?_ (he:=by simp)
 intro i k1;have w:=cJ (i:=i) (by omega)
 by_cases hi:i<n
 ·have l:i<x.length:=by rw[c];exact hi
  have hx:=C i l;have e:i<n+1:=by omega
  have o:=l6 (fU a s i) e;have E:ae wB a i*2^s% wB<wB:=e9 _ (by decide);have B:fU a s i i<wB:=by
   rw[fU,if_neg (by omega),if_pos rfl,cu];split
   ·decide
   ·exact e8 (gj _ _) (cq ba _ _)
  have e1:=vz (ae wB a i) s hs;have e2:=Dj (fU a s i i) (ae wB a i*2^s% wB) B E;have e3:fU a s i i|||(ae wB a i*2^s% wB)=ae wB (a*2^s) i:=by rw[<-Kc a s i hs,fU,if_neg (by omega),if_pos rfl]
  rw[e3]at e2;have y:cb.wrap (64-(s:Int))=((64-s:Nat):Int):=by rw[aN _ (by omega) (by omega)];omega
  have e4:=tg (ae wB a i) (64-s) (by omega);have r:i+1<n+1:=by omega
  have u:=oF (n:=n+1) (i:=i) (f:=fU a s i) (g:=fun k=>if k=i then ae wB (a*2^s) i else fU a s i k) (if_pos rfl) (fun k hk=>if_neg hk);have G:=oF (n:=n+1) (i:=i+1) (v:=ae wB a i/2^(64-s)) (f:=fun k=>if k=i then ae wB (a*2^s) i else fU a s i k) (g:=fU a s (i+1)) (by
   simp[fU,cu]) (fun k hk=>by
   by_cases d:k=i
   ·subst d;simp[fU]
   ·simp only[fU,d,if_false]
    by_cases b:k<i
    ·rw[if_pos (by omega),if_pos b]
    ·rw[if_neg (by omega),if_neg hk,if_neg b])
  have D:=l6 (n:=n+1) (fun k=>if k=i then ae wB (a*2^s) i else fU a s i k) r;have H:s=0->b7 (n+1) (fun k=>if k=i then ae wB (a*2^s) i else fU a s i k)=b7 (n+1) (fU a s (i+1)):=fun h=>by
   have K:ae wB a i/2^(64-s)=0:=by rw[h];exact g2 (cq ba _ _)
   refine AA fun k=>?_
   by_cases d:k=i
   ·subst d;simp[fU]
   ·simp only[fU,d,if_false]
    by_cases b:k<i
    ·rw[if_pos b,if_pos (by omega)]
    ·by_cases q:k=i+1
     ·rw[q,if_neg (by omega),if_neg (by omega),if_pos rfl,cu,if_neg (by omega),gl,K]
     ·rw[if_neg b,if_neg (by omega),if_neg q]
  generalize ae wB a i*2^s% wB=L at*;generalize ae wB a i/2^(64-s)=M at*;generalize (fun k=>if k=i then ae wB (a*2^s) i else fU a s i k)=g1 at*;obtain⟨t,I⟩:∃t,t=64-s:=⟨_,rfl⟩
  rw[<-I]at y e4
  by_cases m:0<s
  ·simp[c,hi,e,l,hx,o,e1,e2,m,y,e4,w,u,r,D,G,ad,aL,bE];refine⟨⟨by rfl,by rfl,by rfl⟩,?_⟩;refine⟨by omega,?_⟩;exact rd (i+1) (show i+1<=n by omega)
  ·have z:s=0:=by omega
   simp[c,hi,e,l,hx,o,e1,e2,m,w,u,H z,ad,aL,bE];refine⟨⟨by rfl,by rfl,by rfl⟩,?_⟩;exact rd (i+1) (show i+1<=n by omega)
 have:i=n:=by omega
 subst this;simp[c];refine .inl (Ao fun k hk=>?_);rw[fU]
 by_cases b:k<i
 ·rw[if_pos b]
 ·obtain rfl:k=i:=by omega
  rw[if_neg b,if_pos rfl,W3 a s k hs (F (by omega))]
theorem wU:∀(n x:Nat),x<=n->0<x->x<2^64->1<=ce x/\2^(ce x-1)<=x/\x<2^ce x
 |0,x,h,a,_=>by omega
 |n+1,x,h,a,c=>by
  have d:=Lib.bitLen_half x (by omega) c
  by_cases b:x=1
  ·subst b;decide
  ·obtain⟨i1,i2,i3⟩:=wU n (x/2) (by omega) (by omega) (by omega);rw[d];generalize ce (x/2)=L at*;obtain⟨k,rfl⟩:∃k,L=k+1:=⟨L-1,by omega⟩
   rw[show 1+(k+1)=k+2 by omega,show k+2-1=k+1 by omega,fb,fb];rw[fb]at i3;simp only[gl]at i2;omega
theorem MP{x:Nat}(a:0<x)(h:x<2^64):ce x<=64:=by
 obtain⟨_,b,_⟩:=wU x x (gt _) a h;have:=(Nat.pow_lt_pow_iff_right (show 1<2 by decide)).1 (e8 b h);omega
def wH:Nat:=4294967296
theorem wHH:wH*wH=wB:=rfl
theorem JE{y:Nat}(a:0<y)(h:y<2^64):∃s,s<64/\ce y+s=64/\wB<=2*(y*2^s)/\y*2^s<wB:=by
 obtain⟨d,b,c⟩:=wU y y (gt _) a h;have e:=MP a h;refine⟨64-ce y,by omega,by omega,?_,?_⟩
 ·have:=fl (2^(64-ce y)) b;rw[<-ge,show ce y-1+(64-ce y)=63 by omega]at this;simp only[wB];omega
 ·have:=fI c (fd (show 0<2 by decide) (n:=64-ce y));rw[<-ge,show ce y+(64-ce y)=64 by omega]at this;simp only[wB];omega
structure Pa(hi lo y s:Nat) where
 Y:Nat
 v1:Nat
 v0:Nat
 T:Nat
 u:Nat
 u1:Nat
 u0:Nat
 q1:Nat
 R:Nat
 q0:Nat
 hY:Y=y*2^s
 eY:Y=v1*wH+v0
 zo:v1<wH
 kM:v0<wH
 tq:wH<=2*v1
 vC:T<Y
 y8:hi*2^s<wB
 Dk:hi*2^s|||lo/2^(64-s)=T
 eu:u=lo*2^s% wB
 CX:u1=u/wH
 CW:u0=u% wH
 zn:u1<wH
 zm:u0<wH
 nI:q1=hq wH v1 v0 T u1
 zg:q1<wH
 eR:R=T*wH+u1-q1*Y
 vB:R<Y
 OK:q1*Y<=T*wH+u1
 vk:q0=hq wH v1 v0 R u0
 zf:q0<wH
 OJ:q0*Y<=R*wH+u0
 BQ:q1*wH+q0=(hi*wB+lo)/y
 rem:(R*wH+u0-q0*Y)/2^s=(hi*wB+lo)% y
theorem Xz{hi lo y:Nat}(o:hi<y)(H:y<wB)(B:lo<wB):∃s,s<64/\ce y+s=64/\Nonempty (Pa hi lo y s):=by
 obtain⟨s,hs,w,J,m⟩:=JE (y:=y) (by omega) H;have g:=xY hs;have a:0<2^s:=fd (by decide);have x:0<2^(64-s):=fd (by decide);refine⟨s,hs,w,⟨?_⟩⟩;have e0:y*2^s=y*2^s/wH*wH+y*2^s% wH:=by rw[eo _ wH,gb]
 have E:y*2^s% wH<wH:=e9 _ (by decide);have F:y*2^s/wH<wH:=by rw[e6 (by decide)];exact m
 have G:wH<=2*(y*2^s/wH):=by simp only[wH,wB]at*;omega
 have A:lo/2^(64-s)<2^s:=by rw[e6 x,g];exact B
 have v:hi*2^s<wB:=g3 (fI o a) m;have h:hi*2^s+lo/2^(64-s)<y*2^s:=by
  have:=fl (2^s) (show hi+1<=y from o);rw[ga,gm]at this;omega
 have C:hi*2^s|||lo/2^(64-s)=hi*2^s+lo/2^(64-s):=Ce A
 have n:lo*2^s% wB/wH<wH:=by rw[e6 (by decide)];exact e9 _ (by decide)
 have b:lo*2^s% wB% wH<wH:=e9 _ (by decide);have i:(hi*wB+lo)*2^s=((hi*2^s+lo/2^(64-s))*wH+lo*2^s% wB/wH)*wH+lo*2^s% wB% wH:=by
  have e1:lo*2^s=lo/2^(64-s)*wB+lo*2^s% wB:=by
   have e2:lo*2^s/wB=lo/2^(64-s):=by
    rw[<-g,eo lo,Nat.mul_div_mul_left _ _ a]
   rw[<-e2,eo _ wB,gb]
  have e3:lo*2^s% wB=lo*2^s% wB/wH*wH+lo*2^s% wB% wH:=by rw[eo _ wH,gb]
  rw[ga,g0,e1,ga (_*wH),gx (_+_) wH wH,wHH,ga];generalize hi*2^s*wB=I;rw[<-e1];generalize lo*2^s% wB=a2 at*;generalize lo/2^(64-s)*wB=a3 at*;omega
 have l:0<y*2^s:=by omega
 obtain⟨e,d⟩:=Ye (Y:=y*2^s) (U:=(hi*wB+lo)*2^s) (c:=wH) l;have j:(hi*wB+lo)*2^s/wH=(hi*2^s+lo/2^(64-s))*wH+lo*2^s% wB/wH:=by
  rw[i,gy,hp _ _ (by decide),g2 b,g8]
 have k:(hi*wB+lo)*2^s% wH=lo*2^s% wB% wH:=by
  rw[i,gy,gg,eq b]
 rw[j,k,ho _ _ a]at e;rw[j,k,eo _ (2^s),eo y,ht]at d;rw[eo (2^s) y]at d;generalize z:y*2^s=Y at*;generalize hi*2^s+lo/2^(64-s)=T at*;generalize D:lo*2^s% wB=u at*;have t:=K6 (T:=T) (c:=wH) (u1:=u/wH) (v1:=Y/wH) (v0:=Y% wH);rw[<-e0]at t;have r:=K6 (T:=(T*wH+u/wH)% Y) (c:=wH) (u1:=u% wH) (v1:=Y/wH) (v0:=Y% wH);rw[<-e0]at r;have q:hq wH (Y/wH) (Y% wH) T (u/wH)=(T*wH+u/wH)/Y:=by rw[hq,<-e0]
 have p:hq wH (Y/wH) (Y% wH) ((T*wH+u/wH)% Y) (u% wH)=((T*wH+u/wH)% Y*wH+u% wH)/Y:=by rw[hq,<-e0]
 have f:(T*wH+u/wH)% Y<Y:=e9 _ l;exact{
  Y:=Y,v1:=Y/wH,v0:=Y% wH,T:=T,u:=u,u1:=u/wH,u0:=u% wH
  q1:=hq wH (Y/wH) (Y% wH) T (u/wH),R:=(T*wH+u/wH)% Y,q0:=hq wH (Y/wH) (Y% wH) ((T*wH+u/wH)% Y) (u% wH)
  hY:=z.symm,eY:=e0,zo:=F,kM:=E,tq:=G,vC:=h,y8:=v,Dk:=C,eu:=D.symm,CX:=rfl,CW:=rfl,zn:=n,zm:=b
  nI:=rfl,zg:=Nu (by rw[<-e0];exact h) n,eR:=t.symm,vB:=f
  OK:=by rw[q];exact g6 _ _
  vk:=rfl,zf:=Nu (by rw[<-e0];exact f) b
  OJ:=by rw[p];exact g6 _ _
  BQ:=by rw[q,p,<-e]
  rem:=by rw[r,<-d,Nat.mul_div_cancel_left _ a]}
section
variable[Gl]{P:Program}{ag:FuncId->Bool}{q:Nat×Nat}
theorem qN{b:Code}{Q:bn->St->Prop}{s:St}{id:Nat}(R:St->Prop)(f:eC P ag q (.loop b) (qe id (qw R (fun _ _=>False))) s)(c:∀s',R s'->Q .normal s'):eC P ag q (.loop b) (qe id Q) s:=by
 refine mR _ (fun e s a=>?_) f;cases e with
 |normal=>exact c s a
 |exit i=>
  simp only[qe,nB]at a⊢
  by_cases d:i=id
  ·simp[d,qw]at a⊢;exact c s a
  ·simp[d,qw]at a
 |ret=>exact a.elim
end
theorem IG(a:Nat)(b:a<wB):b5.wrap ((a% 2^b5.bits&&&4294967295% 2^b5.bits:Nat):Int)=(a% wH:Nat):=by
 rw[show(2^b5.bits:Nat)=wB from rfl,eq b,show 4294967295% wB=2^32-1 from rfl,Nat.and_two_pow_sub_one_eq_mod,xD];rw[show(2:Nat)^32=wH from rfl,eq (ew (e9 _ (by decide)) (show wH<=wB by decide))]
theorem O8{a b c:Int}{R:Nat}(h:a+b-c=R)(hR:R<wB):b5.wrap (b5.wrap (b5.wrap a+b)-b5.wrap c)=R:=by
 show(((a% 18446744073709551616+b)% 18446744073709551616)-c% 18446744073709551616)% 18446744073709551616=R;have:R<18446744073709551616:=hR;omega
theorem Lo(hi lo y:Nat)(aE:hi<y)(aj:y<wB)(ah:lo<wB):az prog 330 [.int .u64 hi,.int .u64 lo,.int .u64 y] (.aC [.int .u64 ((hi*wB+lo)/y:Nat),.int .u64 ((hi*wB+lo)% y:Nat)]):=by
 refine aO nf Md mix (by simp[f330]) ?_;have H:¬(y:Int)=0:=by omega
 have N:¬(y:Int)<=hi:=by omega
 have af:¬y<=hi:=by omega
 have ae:¬y=0:=by omega
 by_cases ad:hi=0
 ·subst ad;have ag:b5.wrap ((lo:Int)/y)=(lo:Int)/y:=eK _ (db (by omega) (by omega)) (c6 (da _ (by omega)) (by omega));have ay:(lo:Int).tmod y=(lo:Int)% y:=Int.tmod_eq_emod_of_nonneg (by omega);simp[f330,H,N,ae,af,ag,ay]
 obtain⟨s,hs,aT,⟨Y,b,v0,T,u,u1,u0,q1,R,q0,ac,eY,zo,kM,tq,vC,y8,Dk,eu,CX,CW,zn,zm,nI,zg,eR,vB,OK,vk,zf,OJ,BQ,rem⟩⟩:=Xz aE aj ah;have aC:=Ml y aj;obtain⟨t,ai⟩:∃t,t=64-s:=⟨_,rfl⟩
 have O:wH=4294967296:=rfl;have aA:wB=18446744073709551616:=rfl;have X:Y<wB:=by
  rw[O]at zo kM eY;rw[aA];omega
 have av:b5.wrap (64-((ce y:Nat):Int))=s:=by rw[eK _ (by omega) (by omega)];omega
 have f2:b5.wrap (64-(s:Int))=t:=by rw[eK _ (by omega) (by omega)];omega
 have f3:b5.wrap ((y:Int)*2^(min s b5.bits))=Y:=by rw[vz y s hs,<-ac,eq X]
 have f4:(Y:Int).fdiv (2^(min 32 b5.bits))=b:=by
  rw[tg Y 32 (by omega)];rw[O]at kM eY;congr 1;omega
 have f5:b5.wrap ((hi:Int)*2^(min s b5.bits))=(hi*2^s:Nat):=by rw[vz hi s hs,eq y8]
 have f6:(lo:Int).fdiv (2^(min t b5.bits))=(lo/2^t:Nat):=tg lo t (by omega);have f7:=Dj (hi*2^s) (lo/2^t) y8 (e8 (gj _ _) ah);rw[ai,Dk,<-ai]at f7;have f8:b5.wrap ((lo:Int)*2^(min s b5.bits))=u:=by rw[vz lo s hs,<-eu]
 have aQ:u<wB:=by rw[eu];exact e9 _ (by decide)
 have f9:(u:Int).fdiv (2^(min 32 b5.bits))=u1:=by
  rw[tg u 32 (by omega)];congr 1;rw[CX];rfl
 have d:0<b:=by rw[O]at tq;omega
 have am:¬b=0:=by omega
 have an:¬(b:Int)=0:=by omega
 have aR:T<wB:=by omega
 generalize hi*2^s=aS at*;generalize lo/2^t=aU at*;have aI:T/b<=wH+1:=Nt d (by rw[<-eY];exact vC) tq kM;have aN:T/b*b+T% b=T:=by rw[eo,gb]
 have aV:T% b<b:=e9 _ d;have aK:=K7 (T:=T) (u1:=u1) d kM zn;have aw:b5.wrap ((T:Int)/b)=(T/b:Nat):=by rw[eK _ (db (by omega) (by omega)) (c6 (da _ (by omega)) (by omega))];rfl
 generalize T/b=K at*;generalize T% b=ak at*;have ax:b5.wrap ((T:Int)-b5.wrap ((K:Int)*b))=ak:=by
  have e:((K*b:Nat):Int)=(K:Int)*b:=by push_cast;rfl
  rw[eK ((K:Int)*b) (by omega) (by omega),eK _ (by omega) (by omega)];omega
 have aa:=IG Y X;have ab:=IG u aQ;rw[show Y% wH=v0 by rw[eY,gy,gg,eq kM]]at aa;rw[<-CW]at ab;have a1:b<4294967296:=zo;have aZ:v0<4294967296:=kM;have aY:u1<4294967296:=zn;have aX:u0<4294967296:=zm;have a0:4294967296<=2*b:=tq;have aJ:R/b<=wH+1:=Nt d (by rw[<-eY];exact vB) tq kM;have aP:R/b*b+R% b=R:=by rw[eo,gb]
 have aW:R% b<b:=e9 _ d;have aq:R<wB:=by omega
 have aL:=K7 (T:=R) (u1:=u0) d kM zm;have aF:b5.wrap ((R:Int)/b)=(R/b:Nat):=by rw[eK _ (db (by omega) (by omega)) (c6 (da _ (by omega)) (by omega))];rfl
 generalize R/b=L at*;generalize R% b=al at*;have aG:b5.wrap ((R:Int)-b5.wrap ((L:Int)*b))=al:=by
  have e:((L*b:Nat):Int)=(L:Int)*b:=by push_cast;rfl
  rw[eK ((L:Int)*b) (by omega) (by omega),eK _ (by omega) (by omega)];omega
 have ao:b5.wrap (b5.wrap (b5.wrap ((T:Int)*4294967296)+u1)-b5.wrap ((q1:Int)*Y))=R:=by
  refine O8 (h:=?_) (hR:=aq);have e1:((T*wH:Nat):Int)=(T:Int)*4294967296:=by push_cast;rfl
  have e2:((q1*Y:Nat):Int)=(q1:Int)*Y:=by push_cast;rfl
  omega
 have M2:b5.wrap (b5.wrap ((q1:Int)*4294967296)+q0)=((q1*wH+q0:Nat):Int):=by
  have H:q1*4294967296+q0<18446744073709551616:=by
   have N:q1<4294967296:=zg;have ag:q0<4294967296:=zf;omega
  rw[eK ((q1:Int)*4294967296) (by omega) (by omega),eK _ (by omega) (by omega)];push_cast;rfl
 obtain⟨Z,P⟩:∃Z,Z=R*wH+u0-q0*Y:=⟨_,rfl⟩
 have ar:Z<wB:=by
  have H:Z/2^s<y:=by rw[P,rem];exact e9 _ (by omega)
  rw[e6 (fd (by decide)),<-ac]at H;omega
 have ap:b5.wrap (b5.wrap (b5.wrap ((R:Int)*4294967296)+u0)-b5.wrap ((q0:Int)*Y))=Z:=by
  refine O8 (h:=?_) (hR:=ar);have e1:((R*wH:Nat):Int)=(R:Int)*4294967296:=by push_cast;rfl
  have e2:((q0*Y:Nat):Int)=(q0:Int)*Y:=by push_cast;rfl
  omega
 have M:=tg Z s (by omega);rw[P,rem]at M;rw[<-P]at M;rw[BQ]at M2;simp[f330,H,N,ae,af,ad];refine c1 aC ?_;simp[av,f2,f3,f4,f5,f6,f7,f8,f9,am,an,aw,ax,aa,ab];refine qN (fun s'=>aM s'.env 15=.p (.int .u64 q1)/\aM s'.env 14=.p (.int .u64 u0)/\aM s'.env 13=.p (.int .u64 u1)/\aM s'.env 11=.p (.int .u64 T)/\aM s'.env 10=.p (.int .u64 v0)/\aM s'.env 9=.p (.int .u64 b)/\aM s'.env 8=.p (.int .u64 s)/\aM s'.env 2=.p (.int .u64 Y)/\s'.heap=[]) ?_ ?_
 ·refine lp (α:=Nat×Nat) (fun a=>⟨[(16,.p (.int .u64 a.2)),(15,.p (.int .u64 a.1)),(14,.p (.int .u64 u0)),(13,.p (.int .u64 u1)),(11,.p (.int .u64 T)),(10,.p (.int .u64 v0)),(9,.p (.int .u64 b)),(8,.p (.int .u64 s)),(2,.p (.int .u64 Y))],[]⟩) (fun a=>a.1*b+a.2=T/\hq wH b v0 T u1<=a.1/\a.2<wH/\a.1<=wH+1) (fun a=>a.1) (K,ak) ⟨aN,aK,by omega,aI⟩ ?_;rintro⟨x,r⟩ ⟨k1,k2,k3,k4⟩;dsimp only at k1 k2 k3 k4;have aH:r<4294967296:=k3;have W:x<=4294967297:=k4;have g:b5.wrap ((x:Int)*v0)=(x*v0:Nat):=by
   have:=hA W (show v0<=4294967295 by omega);rw[eK _ (by rw[<-cy];omega) (by rw[<-cy];omega)];push_cast;rfl
  have v:b5.wrap (4294967296*(r:Int))=4294967296*r:=eK _ (by omega) (by omega);have w:b5.wrap (4294967296*(r:Int)+u1)=4294967296*r+u1:=eK _ (by omega) (by omega);have m:b5.wrap ((r:Int)+b)=r+b:=eK _ (by omega) (by omega)
  by_cases i:4294967296<=x\/4294967296*r+u1<x*v0
  ·have j:=Mo d (show 0<wH by decide) k1 k2 (i.imp (fun h=>⟨h,by rw[<-nI];exact zg⟩) id);obtain⟨k,rfl⟩:∃k,x=k+1:=⟨x-1,by
    rcases i with h|h
    ·omega
    ·rcases hu x with e|e
     ·rw[e]at h;omega
     ·omega⟩
   have l:b5.wrap (k:Int)=k:=eK _ (by omega) (by omega);have k5:k*b+(r+b)=T:=by rw[<-k1,ga];omega
   rw[gl]at j;have kB:k<=wH+1:=by omega
   by_cases Q:4294967296<=r+b
   ·have hq:=JW d (by rw[<-eY];exact vC) kM k5 Q j;have f:(4294967296:Int)<=(r:Int)+b:=by omega
    rw[<-nI]at hq;subst hq;rcases gc (k+1) 4294967296 with hc|hc
    ·have n:((k:Int)+1<4294967296):=by omega
     have c:¬((4294967296:Int)<=(k:Int)+1):=by omega
     have o:(4294967296*(r:Int)+u1<((k+1)*v0:Nat)):=by omega
     have q:4294967296*r+u1<(k+1)*v0:=by omega
     generalize (k+1)*v0=J at*;push_cast at g;simp[g,v,w,l,m,n,c,o,q,f]
    ·have c:((4294967296:Int)<=(k:Int)+1):=by omega
     simp[l,m,c,f]
   ·have f:¬(4294967296:Int)<=(r:Int)+b:=by omega
    rcases gc (k+1) 4294967296 with hc|hc
    ·have n:((k:Int)+1<4294967296):=by omega
     have c:¬((4294967296:Int)<=(k:Int)+1):=by omega
     have o:(4294967296*(r:Int)+u1<((k+1)*v0:Nat)):=by omega
     have q:4294967296*r+u1<(k+1)*v0:=by omega
     generalize (k+1)*v0=J at*;push_cast at g;simp[g,v,w,l,m,n,c,o,q,f];exact rd (k,r+b) ⟨k5,j,show r+b<4294967296 by omega,kB⟩
    ·have c:((4294967296:Int)<=(k:Int)+1):=by omega
     simp[l,m,c,f];exact rd (k,r+b) ⟨k5,j,show r+b<4294967296 by omega,kB⟩
  ·have aD:¬4294967296<=x:=fun h=>i (.inl h);have U:¬4294967296*r+u1<x*v0:=fun h=>i (.inr h);have hq:=BG d (show 0<wH by decide) k1 k2 (hJ.1 U);rw[<-nI]at hq;subst hq;have S:¬(4294967296:Int)<=x:=by omega
   have V:¬(4294967296*(r:Int)+u1<(x*v0:Nat)):=by omega
   generalize x*v0=J at*;simp[g,v,w,S,V]
 rintro⟨au,aB⟩ ⟨z,A,B,C,D,E,F,G,I⟩;dsimp only at z A B C D E F G I;subst I;simp[z,A,B,C,D,E,F,G,ao,am,an,aF,aG];refine qN (fun s'=>aM s'.env 18=.p (.int .u64 q0)/\aM s'.env 15=.p (.int .u64 q1)/\aM s'.env 17=.p (.int .u64 R)/\aM s'.env 14=.p (.int .u64 u0)/\aM s'.env 10=.p (.int .u64 v0)/\aM s'.env 9=.p (.int .u64 b)/\aM s'.env 8=.p (.int .u64 s)/\aM s'.env 2=.p (.int .u64 Y)/\s'.heap=[]) ?_ ?_
 ·refine lp (α:=Nat×Nat) (fun a=>⟨[(16,.p (.int .u64 a.2)),(18,.p (.int .u64 a.1)),(15,.p (.int .u64 q1)),(17,.p (.int .u64 R)),(14,.p (.int .u64 u0)),(10,.p (.int .u64 v0)),(9,.p (.int .u64 b)),(8,.p (.int .u64 s)),(2,.p (.int .u64 Y))],[]⟩) (fun a=>a.1*b+a.2=R/\hq wH b v0 R u0<=a.1/\a.2<wH/\a.1<=wH+1) (fun a=>a.1) (L,al) ⟨aP,aL,by omega,aJ⟩ ?_ (he:=by simp[z,A,B,C,D,E,F,G]);rintro⟨x,r⟩ ⟨k1,k2,k3,k4⟩;dsimp only at k1 k2 k3 k4;have aH:r<4294967296:=k3;have W:x<=4294967297:=k4;have g:b5.wrap ((x:Int)*v0)=(x*v0:Nat):=by
   have:=hA W (show v0<=4294967295 by omega);rw[eK _ (by rw[<-cy];omega) (by rw[<-cy];omega)];push_cast;rfl
  have v:b5.wrap (4294967296*(r:Int))=4294967296*r:=eK _ (by omega) (by omega);have w:b5.wrap (4294967296*(r:Int)+u0)=4294967296*r+u0:=eK _ (by omega) (by omega);have m:b5.wrap ((r:Int)+b)=r+b:=eK _ (by omega) (by omega)
  by_cases i:4294967296<=x\/4294967296*r+u0<x*v0
  ·have j:=Mo d (show 0<wH by decide) k1 k2 (i.imp (fun h=>⟨h,by rw[<-vk];exact zf⟩) id);obtain⟨k,rfl⟩:∃k,x=k+1:=⟨x-1,by
    rcases i with h|h
    ·omega
    ·rcases hu x with e|e
     ·rw[e]at h;omega
     ·omega⟩
   have l:b5.wrap (k:Int)=k:=eK _ (by omega) (by omega);have k5:k*b+(r+b)=R:=by rw[<-k1,ga];omega
   rw[gl]at j;have kB:k<=wH+1:=by omega
   by_cases Q:4294967296<=r+b
   ·have hq:=JW d (by rw[<-eY];exact vB) kM k5 Q j;have f:(4294967296:Int)<=(r:Int)+b:=by omega
    rw[<-vk]at hq;subst hq;rcases gc (k+1) 4294967296 with hc|hc
    ·have n:((k:Int)+1<4294967296):=by omega
     have c:¬((4294967296:Int)<=(k:Int)+1):=by omega
     have o:(4294967296*(r:Int)+u0<((k+1)*v0:Nat)):=by omega
     have q:4294967296*r+u0<(k+1)*v0:=by omega
     generalize (k+1)*v0=J at*;push_cast at g;simp[g,v,w,l,m,n,c,o,q,f]
    ·have c:((4294967296:Int)<=(k:Int)+1):=by omega
     simp[l,m,c,f]
   ·have f:¬(4294967296:Int)<=(r:Int)+b:=by omega
    rcases gc (k+1) 4294967296 with hc|hc
    ·have n:((k:Int)+1<4294967296):=by omega
     have c:¬((4294967296:Int)<=(k:Int)+1):=by omega
     have o:(4294967296*(r:Int)+u0<((k+1)*v0:Nat)):=by omega
     have q:4294967296*r+u0<(k+1)*v0:=by omega
     generalize (k+1)*v0=J at*;push_cast at g;simp[g,v,w,l,m,n,c,o,q,f];exact rd (k,r+b) ⟨k5,j,show r+b<4294967296 by omega,kB⟩
    ·have c:((4294967296:Int)<=(k:Int)+1):=by omega
     simp[l,m,c,f];exact rd (k,r+b) ⟨k5,j,show r+b<4294967296 by omega,kB⟩
  ·have aD:¬4294967296<=x:=fun h=>i (.inl h);have U:¬4294967296*r+u0<x*v0:=fun h=>i (.inr h);have hq:=BG d (show 0<wH by decide) k1 k2 (hJ.1 U);rw[<-vk]at hq;subst hq;have S:¬(4294967296:Int)<=x:=by omega
   have V:¬(4294967296*(r:Int)+u0<(x*v0:Nat)):=by omega
   generalize x*v0=J at*;simp[g,v,w,S,V]
 rintro⟨au,aB⟩ ⟨z,A,B,C,D,E,F,G,I⟩;dsimp only at z A B C D E F G I;subst I;simp[z,A,B,C,D,E,F,G,M2,ap,M]
def dB(j n:Nat)(g f:Nat->Nat)(k:Nat):Nat:=if j<=k/\k<j+n then f (k-j)else g k
theorem rJ{j:Nat}{g f:Nat->Nat}:dB j 0 g f=g:=by
 funext k;rw[dB,if_neg (by omega)]
theorem xf{m j i:Nat}{g f:Nat->Nat}{v:Nat}(a:f i=v):(b7 m (dB j i g f)).set (j+i) (.p (.int .u64 v))=b7 m (dB j (i+1) g f):=by
 refine oF ?_ fun k hk=>?_
 ·rw[dB,if_pos (by omega),hg,a]
 ·rw[dB,dB]
  by_cases h:j<=k/\k<j+i
  ·rw[if_pos h,if_pos (by omega)]
  ·rw[if_neg h,if_neg (by omega)]
theorem xg{m j i:Nat}{g f:Nat->Nat}(h:j+i<m):(b7 m (dB j i g f))[j+i]?=some (.p (.int .u64 (g (j+i)))):=by
 rw[l6 _ h,dB,if_neg (by omega)]
theorem U3{j n:Nat}{g f a:Nat->Nat}:dB j n (dB j n g f) a=dB j n g a:=by
 funext k;rw[dB,dB,dB];split<;>rfl
theorem XZ(X V m j n:Nat)(t:(aq wB V).length=n)(G:2<=n)(bw:j+n+1<=m)(bz:m<=1000002)(a2:X<V*wB^(j+1)):
 cR prog 333 [.arr .exact 0 1 (b7 m (ae wB X))] [.sl 0 0 1 j (n+1),.p (eN V)] [.arr .exact 0 1 (b7 m (ae wB (X% (V*wB^j))))] (.p (.int .u64 (X/(V*wB^j):Nat))):=by
 refine gH nf EX mix (by simp[f333]) ?_;have l:=cj ba V;have I:wB^(n-1)<=V:=by
  rcases gc V (wB^(n-1))with h|h
  ·have:=dK ba (n-1) V h;omega
  ·exact h
 rw[t]at l;have U:∀i(h:i<(aq wB V).length),(aq wB V)[i]=ae wB V i:=fun i h=>eg ba h;have aO:0<V:=A8 ba G I;obtain⟨W,w⟩:∃W,X/wB^j=W:=⟨_,rfl⟩
 have ag:W<V*wB:=by
  rw[<-w,e6 (fd (by decide)),gx,eo wB,<-fb];exact a2
 have T:W<wB^(n+1):=g3 ag (by rw[fb];exact fI l (by decide));have al:∀i,i<n+1->(b7 m (ae wB X))[j+i]?=some (.p (.int .u64 (ae wB W i))):=fun i hi=>by rw[l6 _ (by omega),<-w,pN]
 have a4:X/(V*wB^j)=W/V:=by rw[wR.2,w]
 have aR:∀f:Nat->Nat,(∀i,i<n+1->f i=ae wB (W% V) i)->b7 m (dB j (n+1) (ae wB X) f)=b7 m (ae wB (X% (V*wB^j))):=fun f hf=>Ao fun k hk=>by
  rw[wR.1,w,H5 ba,dB]
  by_cases u:k<j
  ·rw[if_neg (by omega),if_pos u]
  ·rw[if_neg u]
   by_cases H:k<j+(n+1)
   ·rw[if_pos (by omega),hf _ (by omega)]
   ·have e1:ae wB X k=0:=by
     obtain⟨e,rfl⟩:∃e,k=j+e:=⟨k-j,by omega⟩
     rw[<-pN,w];exact jf (ew T (e7 (by decide) (by omega)))
    have e2:ae wB (W% V) (k-j)=0:=jf (ew (e8 (Nat.mod_le _ _) T) (e7 (by decide) (by omega)));rw[if_neg (by omega),e1,e2]
 rw[a4];simp only[eN];generalize aq wB V=x at*;have aJ:∀i,i<n->i<x.length:=fun i h=>by omega
 have e1:cb.wrap ((n:Int)-1)=((n-1:Nat):Int):=by rw[aN _ (by omega) (by omega)];omega
 have e2:cb.wrap ((n:Int)-2)=((n-2:Nat):Int):=by rw[aN _ (by omega) (by omega)];omega
 obtain⟨b,E⟩:∃b,b=n-1:=⟨_,rfl⟩
 obtain⟨d,an⟩:∃d,d=n-2:=⟨_,rfl⟩
 rw[<-E]at e1;rw[<-an]at e2;have F:=U b (by omega);have aT:=U d (by omega);have bn:b<x.length:=by omega
 have bo:d<x.length:=by omega
 have L:x[b]?=some (ae wB V b):=by rw[dl bn,F]
 have bl:x[d]?=some (ae wB V d):=by rw[dl bo,aT]
 have O:b<n:=by omega
 have Y:d<n:=by omega
 have R:b<n+1:=by omega
 have Z:d<n+1:=by omega
 have aE:=al n (by omega);have aF:=al b (by omega);have ac:=al d (by omega);have a9:n=b+1:=by omega
 have aI:W/wB^n=ae wB W n:=by
  rw[ae,eq];rw[e6 (fd (by decide)),eo,<-fb];exact T
 have ah:W/wB^b=ae wB W n*wB+ae wB W b:=by rw[ry,<-a9,aI]
 simp[f333,-bm,t];rw[bm];simp[-bm,t];rw[bm];simp[-bm,t];rw[bm];simp[-bm,t];rw[bm];simp[-bm,t];refine join (fun s=>∃q r o:Nat,q*ae wB V b+(r+o*wB)=W/wB^b/\W/V<=q/\q<wB/\r<wB/\o<=1/\aM s.env 0=.sl 0 0 1 j (n+1)/\aM s.env 1=.p (.seq (x.map fun x:Nat=>.int .u64 x))/\aM s.env 5=.p (.int .i64 n)/\aM s.env 6=.p (.int .u64 q)/\aM s.env 7=.p (.int .u64 r)/\aM s.env 8=.p (.int .u64 o)/\s.heap=[.arr .exact 0 1 (b7 m (ae wB X))]) ?_ ?_
 ·by_cases hc:ae wB V b<=ae wB W n
  ·have ai:(ae wB V b:Int)<=ae wB W n:=by omega
   simp[e1,e2,F,L,O,R,aE,aF,ai,t,ad,aL,bE];refine e3 (pV (ae wB W b) (ae wB V b) 0 (by omega)) ?_;simp;have aX:=cq ba W b;have aD:=cq ba V b;have aY:ae wB W n=ae wB V b:=by
    have:=(BH ba (by omega) l ag).1;rw[aI,<-E]at this;omega
   refine⟨18446744073709551615,(ae wB W b+ae wB V b)% wB,(ae wB W b+ae wB V b)/wB,?_,?_,by decide,e9 _ (by decide),?_,rfl,rfl,rfl⟩
   ·rw[ah,aY];simp only[wB];omega
   ·have:=(BH ba (by omega) l ag).2;simp only[wB]at this;omega
   ·simp only[wB]at*;omega
  ·have ai:¬(ae wB V b:Int)<=ae wB W n:=by omega
   simp[e1,e2,F,L,O,R,aE,aF,ai,t,ad,aL,bE];refine e3 (Lo (ae wB W n) (ae wB W b) (ae wB V b) (by omega) (cq ba _ _) (cq ba _ _)) ?_;simp;have aX:=cq ba W b;have aD:=cq ba V b;refine⟨(ae wB W n*wB+ae wB W b)/ae wB V b,(ae wB W n*wB+ae wB W b)% ae wB V b,0,?_,?_,?_,?_,by omega,rfl,rfl,rfl⟩
   ·rw[ah,g7,g9,eo,gb]
   ·rw[<-ah,E];exact La ba G I l
   ·rw[e6 (by omega)];have:=fl wB (show ae wB W n+1<=ae wB V b by omega);rw[ga,gm]at this;rw[eo wB];omega
   ·exact g3 (e9 _ (by omega)) aD
 rintro⟨aZ,a6⟩ ⟨q,r,o,k1,k2,k3,k4,k5,y,z,A,B,ar,au,K⟩;dsimp only at y z A B ar au K;subst K;simp[y,z,A,B,ar,au];refine qN (fun s=>∃q:Nat,W/V<=q/\q<=W/V+1/\q<wB/\aM s.env 0=.sl 0 0 1 j (n+1)/\aM s.env 1=.p (.seq (x.map fun x:Nat=>.int .u64 x))/\aM s.env 5=.p (.int .i64 n)/\aM s.env 6=.p (.int .u64 q)/\s.heap=[.arr .exact 0 1 (b7 m (ae wB X))]) ?_ ?_
 ·have bd:q*ae wB V b+(r+o*wB)=W/wB^b/\W/V<=q/\q<wB/\r<wB/\o<=1:=⟨k1,k2,k3,k4,k5⟩
  clear k1 k2 k3 k4 k5;refine lp (α:=Nat×Nat×Nat) (fun a=>⟨[(8,.p (.int .u64 a.2.2)),(7,.p (.int .u64 a.2.1)),(6,.p (.int .u64 a.1)),(5,.p (.int .i64 n)),(1,.p (.seq (x.map fun x:Nat=>.int .u64 x))),(0,.sl 0 0 1 j (n+1))],[.arr .exact 0 1 (b7 m (ae wB X))]⟩)
   (fun a=>a.1*ae wB V b+(a.2.1+a.2.2*wB)=W/wB^b/\W/V<=a.1/\a.1<wB/\a.2.1<wB/\a.2.2<=1) (fun a=>a.1) (q,r,o) bd ?_ (he:=by simp[y,z,A,B,ar,au])
  rintro⟨q,r,o⟩ ⟨k1,k2,k3,k4,k5⟩;dsimp only at k1 k2 k3 k4 k5
  by_cases bb:o=0
  ·subst bb;rw[g7,g9]at k1;have S:=xI q (ae wB V d) k3 (cq ba _ _);rw[show(18446744073709551616:Nat)=wB from rfl]at S;have bs:=gb (q*ae wB V d) wB;have bt:q*ae wB V d% wB<wB:=e9 _ (by decide);have aH:=fun h=>C0 ba G I l (by rw[<-E];exact k1) k3 (by rw[<-an];exact h);have aG:=fun h=>Mq (q:=q) (r:=r) ba G I l (by rw[<-E];exact k1) (by rw[<-an];exact h);have bu:=cq ba W d;generalize q*ae wB V d% wB=lo at*;generalize q*ae wB V d/wB=hi at*;generalize q*ae wB V d=P at*;have v:=pV r (ae wB V b) 0 (by omega);simp[e1,e2,F,L,aT,bl,O,R,Y,Z,t];refine c2 S ?_;rcases Nat.lt_trichotomy hi r with h|h|h
   ·have hI:(hi:Int)<r:=by omega
    simp[hI];refine⟨q,k2,aH (by
     have:=fm wB (show hi+1<=r by omega);rw[hH,hr,eo wB r]at this;omega),k3,rfl⟩
   ·subst h
    by_cases hl:lo<=ae wB W d
    ·have hI:(lo:Int)<=ae wB W d:=by omega
     simp[hI,e2,ac,Y,Z];exact⟨q,k2,aH (by rw[eo hi];omega),k3,rfl⟩
    ·have hI:¬(lo:Int)<=ae wB W d:=by omega
     have J:=aG (by rw[eo hi];omega);have be:0<q:=e8 (ha _) J;obtain⟨k,rfl⟩:∃k,q=k+1:=⟨q-1,by omega⟩
     have ap:b5.wrap (k:Int)=k:=eK _ (by omega) (by omega);simp[hI,e1,e2,ac,O,R,Y,Z,F,L,ap,ad,aL,bE];refine c3 v ?_;simp;have ax:=hy (hi+ae wB V b) wB;have ay:k*ae wB V b+((hi+ae wB V b)% wB+(hi+ae wB V b)/wB*wB)=W/wB^b:=by
      rw[eo _ wB,ax,<-k1,ga,gm,hB,gy hi]
     have aA:=cq ba V b;have aB:(hi+ae wB V b)/wB<=1:=by
      have aC:=k4;simp only[wB]at aA aC⊢;omega
     exact rd (k,(hi+ae wB V b)% wB,(hi+ae wB V b)/wB) ⟨ay,hz.1 J,hv k3,e9 _ (by decide),aB⟩
   ·have hI:¬(hi:Int)<r:=by omega
    have a1:¬(hi:Int)=r:=by omega
    have a3:=fm wB (show r+1<=hi by omega);rw[hH,hr,eo wB r]at a3;have J:=aG (by omega);have be:0<q:=e8 (ha _) J;obtain⟨k,rfl⟩:∃k,q=k+1:=⟨q-1,by omega⟩
    have ap:b5.wrap (k:Int)=k:=eK _ (by omega) (by omega);simp[hI,a1,e1,e2,ac,O,R,Y,Z,F,L,ap,ad,aL,bE];refine c3 v ?_;simp;have ax:=hy (r+ae wB V b) wB;have ay:k*ae wB V b+((r+ae wB V b)% wB+(r+ae wB V b)/wB*wB)=W/wB^b:=by
     rw[eo _ wB,ax,<-k1,ga,gm,hB,gy r]
    have aA:=cq ba V b;have aB:(r+ae wB V b)/wB<=1:=by
     have aC:=k4;simp only[wB]at aA aC⊢;omega
    exact rd (k,(r+ae wB V b)% wB,(r+ae wB V b)/wB) ⟨ay,hz.1 J,hv k3,e9 _ (by decide),aB⟩
  ·have bc:o=1:=by omega
   subst bc;simp;exact⟨q,k2,C0 ba G I l (by rw[<-E];exact k1) k3 (K9 ba (by omega) k3),k3,rfl⟩
 rintro⟨aZ,a6⟩ ⟨q,k2,k3,k4,y,z,A,B,K⟩;dsimp only at y z A B K;subst K;have bf:q*V<wB^(n+1):=Su k4 l;have aP:q*V<=W+wB^(n+1):=by omega
 obtain⟨D,af⟩:∃D,D=W+wB^(n+1)-q*V:=⟨_,rfl⟩
 have aS:∀i,i<n+1->az prog 292 [.int .u64 (ae wB W i),.int .u64 (ae wB (q*V) i),.int .u64 (eM wB (W+wB^(n+1)) (q*V) i)] (.aC [.int .u64 (ae wB D i),.int .u64 (eM wB (W+wB^(n+1)) (q*V) (i+1))]):=fun i hi=>by
  have h:=Mj aP i;rw[<-af,uq hi]at h;exact h
 have bh:∀i,(q*ae wB V i% wB+ig wB V q i+0)% wB=ae wB (q*V) i/\b5.wrap (((q*ae wB V i/wB:Nat):Int)+((q*ae wB V i% wB+ig wB V q i+0)/wB:Nat))=(ig wB V q (i+1):Nat):=fun i=>by
  obtain⟨u,H⟩:=Vh (q:=q) (V:=V) ba i;have a0:=aAD (V:=V) ba k4 (i+1);rw[<-u,<-H];rw[<-H]at a0;generalize q*ae wB V i=P at*;generalize ig wB V q i=c at*;have e:P/wB+(P% wB+c+0)/wB=(P+c)/wB:=by simp only[wB];omega
  refine⟨by simp only[wB];omega,?_⟩;rw[eK _ (by omega) (by omega)];omega
 have a5:=R6 (V:=V) (q:=q) T bf;have bg:=Vj ba k4 l;have bx:(b7 m (ae wB X)).length=m:=Kp _ _;simp[y,z,A,B];refine lp (α:=Nat) (fun i=>⟨[(105,.p (.int .i64 i)),(104,.p (.int .i64 n)),(12,.p (.int .u64 (ig wB V q i:Nat))),(11,.p (.int .u64 (eM wB (W+wB^(n+1)) (q*V) i:Nat))),(6,.p (.int .u64 q)),(5,.p (.int .i64 n)),(1,.p (.seq (x.map fun x:Nat=>.int .u64 x))),(0,.sl 0 0 1 j (n+1))],[.arr .exact 0 1 (b7 m (dB j i (ae wB X) (ae wB D)))]⟩)
  (fun i=>i<=n) (fun i=>n-i) 0 (by simp) ?_ (hn:=by simp[rJ]) (he:=by simp[y,z,A,B,TP,Af]) (hh:=by simp[rJ])
 intro i k5;have bj:=cJ (i:=i) (by omega)
 by_cases hi:i<n
 ·have N:i<x.length:=aJ i hi;have M:=U i N;have ao:x[i]?=some (ae wB V i):=by rw[dl N,M]
  have S:=xI q (ae wB V i) k4 (cq ba _ _);rw[show(18446744073709551616:Nat)=wB from rfl]at S;have v:=pV (q*ae wB V i% wB) (ig wB V q i) 0 (by omega);obtain⟨bp,bq⟩:=bh i;have aa:=aS i (by omega);rw[bp]at v;generalize q*ae wB V i% wB=lo at*;generalize q*ae wB V i/wB=bv at*;generalize (lo+ig wB V q i+0)/wB=c' at*;have aj:i<n+1:=by omega
  have C:(b7 m (dB j i (ae wB X) (ae wB D)))[j+i]?=some (.p (.int .u64 (ae wB W i))):=by rw[xg (by omega),<-w,pN]
  have ab:=xf (m:=m) (j:=j) (i:=i) (g:=ae wB X) (f:=ae wB D) rfl;simp[t,hi,M,ao];refine c2 S ?_;simp;refine c3 v ?_;simp[bq,aj,C];refine c3 aa ?_;simp[aj,C,ab,bj,ad,aL,bE];exact rd (i+1) (show i+1<=n by omega)
 have a7:i=n:=by omega
 subst a7;have C:(b7 m (dB j i (ae wB X) (ae wB D)))[j+i]?=some (.p (.int .u64 (ae wB W i))):=by rw[xg (by omega),<-w,pN]
 have ab:=xf (m:=m) (j:=j) (i:=i) (g:=ae wB X) (f:=ae wB D) rfl;have aa:=aS i (by omega);rw[<-bg]at aa;simp[C];refine c3 aa ?_;rw[a5]
 by_cases aQ:q*V<=W
 ·obtain⟨aV,av⟩:=aAv aQ k3 aO k2;have ak:=aR (ae wB D) fun k hk=>by rw[af,<-av];exact aAu aQ hk
  have aw:(q:Int)=(W:Int)/V:=by rw[aV];rfl
  have am:(if W<q*V then 1 else 0:Nat)=0:=if_neg (by omega);rw[am];simp[C,ab,ak,<-aw,ad,aL,bE]
 ·obtain⟨aV,av⟩:=Vn (by omega) k3 aO k2;have aW:=av (wB^(i+1)) aP;rw[<-af]at aW;have ak:=aR (ae wB (D+V)) fun k hk=>by rw[aW,uq hk]
  have am:(if W<q*V then 1 else 0:Nat)=1:=if_pos (by omega);have aw:b5.wrap ((q:Int)-1)=(W:Int)/V:=by
   have e:((W/V:Nat):Int)=(W:Int)/V:=rfl;rw[<-e];generalize W/V=Q at*;rw[eK _ (by omega) (by omega)];omega
  rw[am];simp[C,ab,ad,aL,bE];refine lp (α:=Nat) (fun k=>⟨[(157,.p (.int .i64 k)),(156,.p (.int .i64 i)),(17,.p (.int .u64 (dc wB D V k:Nat))),(6,.p (.int .u64 q)),(5,.p (.int .i64 i)),(1,.p (.seq (x.map fun x:Nat=>.int .u64 x))),(0,.sl 0 0 1 j (i+1))],[.arr .exact 0 1 (b7 m (dB j k (dB j (i+1) (ae wB X) (ae wB D)) (ae wB (D+V))))]⟩)
   (fun k=>k<=i) (fun k=>i-k) 0 (by simp) ?_ (hn:=by simp[rJ]) (he:=by simp[wG]) (hh:=by simp[rJ])
  intro k k6;have bk:=cJ (i:=k) (by omega);have gk:(b7 m (dB j k (dB j (i+1) (ae wB X) (ae wB D)) (ae wB (D+V))))[j+k]?=some (.p (.int .u64 (ae wB D k))):=by rw[xg (by omega),dB,if_pos (by omega),hg]
  have aU:=xf (m:=m) (j:=j) (i:=k) (g:=dB j (i+1) (ae wB X) (ae wB D)) (f:=ae wB (D+V)) rfl;obtain⟨u,H⟩:=pA ba D V k
  by_cases hk:k<i
  ·have N:k<x.length:=aJ k hk;have M:=U k N;have ao:x[k]?=some (ae wB V k):=by rw[dl N,M]
   have v:=pV (ae wB D k) (ae wB V k) (dc wB D V k) (lh ba _ _ _);rw[u,H]at v;have aK:k<i+1:=by omega
   simp[t,hk,aK,M,ao,gk,ad,aL,bE];refine e3 v ?_;simp[aK,gk,aU,bk,ad,aL,bE];refine⟨⟨by rfl,by rfl,by rfl⟩,?_⟩;exact rd (k+1) (show k+1<=i by omega)
  have a8:k=i:=by omega
  subst a8;have bi:ae wB V k=0:=jf l;rw[bi,g9]at u;have br:b5.wrap ((ae wB D k:Int)+(dc wB D V k:Nat))=(ae wB (D+V) k:Nat):=by rw[<-Int.natCast_add,xD,u]
  simp[gk,aU,br,aw,ak,U3,ad,aL,bE]
theorem U1{a b i:Nat}(c:0<b):(a/wB^(i+1)% b*wB+ae wB a i)/b=ae wB (a/b) i/\(a/wB^(i+1)% b*wB+ae wB a i)% b=a/wB^i% b:=by
 have e:=ry (B:=wB) a i;have g:=gb (a/wB^(i+1)) b;have f:a/wB^i=(a/wB^(i+1)% b*wB+ae wB a i)+a/wB^(i+1)/b*wB*b:=by
  rw[e];generalize ae wB a i=d;generalize a/wB^(i+1)/b=Q at*;generalize a/wB^(i+1)% b=R at*;rw[<-g,ga,eo b,g0 Q b wB];omega
 have j:(a/wB^(i+1)% b*wB+ae wB a i)/b<wB:=by
  rw[e6 c];have k:=cq ba a i;have h:=fl wB (show a/wB^(i+1)% b+1<=b from e9 _ c);rw[ga,gm]at h;rw[eo wB];omega
 constructor
 ·conv=>rhs;rw[ae,g4,eo b,<-g4,f,hp _ _ c,gg,eq j]
 ·rw[f,gg]
def qF(Q i k:Nat):Nat:=if i<=k then ae wB Q k else 0
theorem Lv{m Q i:Nat}:(b7 m (qF Q (i+1))).set i (.p (.int .u64 (ae wB Q i)))=b7 m (qF Q i):=by
 refine oF ?_ fun k hk=>?_
 ·rw[qF,if_pos (gt _)]
 ·rw[qF,qF]
  by_cases h:i<=k
  ·rw[if_pos h,if_pos (by omega)]
  ·rw[if_neg h,if_neg (by omega)]
theorem KF{m Q:Nat}:b7 m (qF Q 0)=b7 m (ae wB Q):=AA fun k=>by rw[qF,if_pos (ha _)]
theorem KG{m Q:Nat}:List.replicate m (AV.p (.int .u64 0))=b7 m (qF Q m):=by
 rw[Bm (f:=fun _=>0) (fun _=>rfl)];exact Ao fun k hk=>by rw[qF,if_neg (by omega)]
theorem BV{m N:Nat}(h:N<wB^m)(b:m<=1048576):∃l:List Nat,l.length=m/\b7 m (ae wB N)=l.map (AV.p∘fun x:Nat=>PV.int .u64 x)/\az prog 291 [.seq (eW l)] (eN N):=by
 refine⟨(dp m).map (ae wB N),by simp,Bn m _,?_⟩;have a:=sn ((dp m).map (ae wB N)) (by simp;omega);rw[show dW ((dp m).map (ae wB N))=aq wB N from jg ba h]at a;exact a
theorem oI{a b:Nat}:fu a b<0↔a<b:=by
 rw[fu];split
 ·simp[*]
 ·split<;>simp[*]
theorem SU(r:Nat):((r:Int)% 2^b5.bits).toNat=r% 2^b5.bits:=by
 rw[show b5.bits=64 from rfl];omega
theorem XD{b d n a s V:Nat}(g:b/wB^a=d)(h:n=a+1)(hs:s<64)(o:wB<=2*(d*2^s))(i:d*2^s<wB)(f:V=b*2^s):V<wB^n/\wB^n<=2*V:=by
 have m:0<wB^a:=fd (by decide);have j:0<2^s:=fd (by decide);have k:b<(d+1)*wB^a:=by
  rw[<-g,ga,gm];exact Nat.lt_div_mul_add m
 have l:(d+1)*2^s<=wB:=by
  have c:=xY hs;have e:d<2^(64-s):=by
   rw[<-c,eo d]at i;exact Nat.lt_of_mul_lt_mul_left i
  rw[<-c,eo];exact fm _ e
 constructor
 ·rw[f,h,fb,eo _ wB];refine ew (fI k j) ?_;rw[g0];exact fl _ l
 ·rw[f,h,fb,eo _ wB];refine Nat.le_trans (fl _ o) ?_;have c:d*wB^a<=b:=by rw[<-g];exact g6 _ _
  have e:=fl (2^s) c;rw[gx 2,g0 d];exact fm _ e
theorem US{a n b s V:Nat}(f:a<wB^b)(hs:s<64)(e:wB^n<=2*V)(i:n<=b):a*2^s<V*wB^(b-n+1):=by
 have d:2*2^s<=wB:=by
  have c:2^(s+1)<=2^64:=e7 (by decide) hs;rw[fb,eo]at c;exact c
 have g:=fl (wB^(b-n+1)) e;rw[<-ge,show n+(b-n+1)=b+1 by omega,fb,gx]at g;have c:=fm a d;have h:=fI f (show 0<wB by decide);rw[Nat.mul_left_comm]at c;generalize wB^b*wB=j at*;generalize V*wB^(b-n+1)=z2 at*;generalize a*2^s=z3 at*;generalize a*wB=z4 at*;clear d e f;omega
theorem XE{a b n d c:Nat}(h:a<wB^c)(f:0<b)(i:n=d+1)(g:wB^d<=b)(j:n<=c):a/b<wB^(c-n+1):=by
 rw[e6 f];refine ew h ?_;have e:=fm (wB^(c-n+1)) g;rw[<-ge,show c-n+1+d=c by omega]at e;exact e
theorem UT{a b s k:Nat}(c:0<2^s):a*2^s% (b*2^s*wB^(k+1))/(b*2^s*wB^k)=ae wB (a/b) k:=by
 rw[fb,<-gx,Nat.mod_mul_right_div_self,<-g4,ho _ _ c,ae]
theorem Kq{n N:Nat}{f g:Nat->Nat}(a:n<=N)(h:∀k,k<n->f k=g k):((dp N).map f).take n=(dp n).map g:=by
 rw[<-ee,List.take_range,hd a];exact eb fun k hk=>h k (ed.1 hk)
theorem Bg(a b:Nat)(A:0<b)(bg:(aq wB a).length<=1000000)(bN:(aq wB b).length<=1000000):az prog 287 [eN a,eN b] (.aC [eN (a/b),eN (a% b)]):=by
 refine aO nf E0 mix (by simp[f287]) ?_;have bj:=F8 a b (by omega) (by omega);simp[f287];refine c2 bj ?_
 by_cases I:a<b
 ·have G:=oI.2 I;simp[G,g2 I,eq I,eN,aq,mA]
 have G:¬fu a b<0:=fun h=>I (oI.1 h);have bm:∀i(h:i<(aq wB a).length),(aq wB a)[i]=ae wB a i:=fun i h=>eg ba h;have W:∀i(h:i<(aq wB b).length),(aq wB b)[i]=ae wB b i:=fun i h=>eg ba h;have B:=cj ba a;have q:=cj ba b
 by_cases K:(aq wB b).length=1
 ·rw[K,hb]at q;have Y:((aq wB b).length:Int)=1:=by omega
  obtain⟨l,C,L,z⟩:=BV (m:=(aq wB a).length) (N:=a/b) (e8 (gj _ _) B) (by omega);have ax:=sn [a% b] (by simp);have bl:dW [a% b]=aq wB (a% b):=by
   have M:a% b<wB:=g3 (e9 _ A) q;have:=jg ba (m:=1) (n:=a% b) (by rw[hb];exact M);rw[<-this,row,ec,ei,ej,ae,fv,g5,eq M]
  rw[bl]at ax;have bh:(aq wB b)[0]?=some b:=by
   rw[dl (by omega),W 0 (by omega),ae,fv,g5,eq q]
  have bi:∀h:0<(aq wB b).length,(aq wB b)[0]'h=b:=fun h=>by rw[W 0 h,ae,fv,g5,eq q]
  have aG:a/wB^(aq wB a).length% b=0:=by rw[g2 B,hC]
  simp only[eN]at z⊢;generalize aq wB (a/b)=bH at*;generalize aq wB (a% b)=aY at*;generalize aq wB a=x at*;generalize aq wB b=y at*;obtain⟨n,w⟩:∃n,x.length=n:=⟨_,rfl⟩
  rw[w]at C L aG bg;have e1:cb.wrap ((n:Int)-1)=n-1:=aN _ (by omega) (by omega);simp[G,K,Y,w,e1];refine⟨by simp only[cT];omega,?_⟩;rw[KG (Q:=a/b)];refine lp (α:=Nat) (fun i=>⟨[(8,.p (.int .i64 ((i:Int)-1))),(7,.p (.int .u64 (a/wB^i% b:Nat))),(6,.sl 0 0 1 0 n),(1,.p (.seq (y.map fun x:Nat=>.int .u64 x))),(0,.p (.seq (x.map fun x:Nat=>.int .u64 x)))],[.arr .exact 0 1 (b7 n (qF (a/b) i))]⟩)
   (fun i=>i<=n) (fun i=>i) n (gt _) ?_ (he:=by simp[aG])
  intro i k1
  by_cases hi:0<i
  ·obtain⟨k,rfl⟩:∃k,i=k+1:=⟨i-1,by omega⟩
   have e2:cb.wrap ((k:Int)-1)=k-1:=aN _ (by omega) (by omega);have aW:k<x.length:=by omega
   have hx:=bm k aW;have af:x[k]?=some (ae wB a k):=by rw[dl aW,hx]
   have aw:=Lo (a/wB^(k+1)% b) (ae wB a k) b (e9 _ A) q (cq ba _ _);obtain⟨r,ah⟩:=U1 (a:=a) (i:=k) A;rw[r,ah]at aw;have aI:=Lv (m:=n) (Q:=a/b) (i:=k);have gk:=l6 (n:=n) (qF (a/b) (k+1)) (show k<n by omega);have aJ:k<n:=by omega
   generalize a/wB^(k+1)% b=bI at*;simp[w,e2,hx,af,bh,bi,K,aJ,ad,aL,bE];refine e3 aw ?_;simp[aI,gk,e2,aJ,ad,aL,bE];refine⟨by rfl,?_⟩;exact rd k (show k<=n by omega)
  ·obtain rfl:i=0:=by omega
   simp[KF,L];refine cp z (by simp[C];exact⟨rfl,rfl⟩) ?_ (h1:=by simp[eW,dz,C]);simp;refine cp ax (by simp;exact⟨rfl,rfl⟩) ?_ (h1:=by simp[eW]);simp;exact bB.refl _
 have bQ:2<=(aq wB b).length:=by
  rcases gc (aq wB b).length 1 with h|h
  ·have e:(aq wB b).length=0:=by omega
   rw[e,fv]at q;omega
  ·omega
 have Y:¬((aq wB b).length:Int)=1:=by omega
 obtain⟨n,w⟩:∃n,(aq wB b).length=n:=⟨_,rfl⟩
 obtain⟨c,Z⟩:∃c,(aq wB a).length=c:=⟨_,rfl⟩
 obtain⟨o,aa⟩:∃o,n=o+1:=⟨n-1,by omega⟩
 have aE:wB^o<=b:=by
  rcases gc b (wB^o)with h|h
  ·have:=dK ba o b h;omega
  ·exact h
 obtain⟨d,J⟩:∃d,d=ae wB b o:=⟨_,rfl⟩
 have aF:d<wB:=by rw[J];exact cq ba _ _
 have aD:b/wB^o=d:=by
  rw[J,ae,eq];rw[e6 (fd (by decide)),eo,<-fb,show o.succ=n from aa.symm,<-w];exact q
 have bk:0<d:=by rw[<-aD];exact Nat.div_pos aE (fd (by decide))
 obtain⟨s,hs,bM,bw,bx⟩:=JE bk aF;have aQ:=Ml d aF;obtain⟨V,E⟩:∃V,V=b*2^s:=⟨_,rfl⟩
 have D:0<2^s:=fd (by decide);have be:b<=V:=by rw[E];exact Nat.le_mul_of_pos_right _ D
 have bd:0<V:=ew A be;obtain⟨aB,bf⟩:=XD aD aa hs bw bx E;have aA:(aq wB V).length=n:=by
  have u:=dK ba n V aB;rcases gc (aq wB V).length n with h|h
  ·have au:=ew (cj ba V) (e7 (show 0<wB by decide) (show(aq wB V).length<=o by omega));omega
  ·omega
 have z:=BV (m:=n+1) (N:=V) (ew aB (e7 (by decide) (by omega))) (by omega);obtain⟨l,C,L,z⟩:=z;have ac:=Iy b s hs (by omega);have ab:=Iy a s hs (by omega);have ag:o<(aq wB b).length:=by omega
 have hx:=W o ag;have af:(aq wB b)[o]?=some d:=by rw[dl ag,hx,J]
 rw[w,<-E]at ac;rw[Z]at ab;have aS:n<=c:=by
  rcases gc c n with h|h
  ·have:=ew B (e7 (show 0<wB by decide) (show(aq wB a).length<=o by omega));omega
  ·exact h
 rw[Z]at B;have a5:=US (n:=n) B hs bf aS;have a7:=XE (n:=n) B A aa aE aS;have a8:a% b<wB^n:=g3 (e9 _ A) (by rw[w]at q;exact q);have bA:dW ((dp n).map (ae wB (a% b)))=aq wB (a% b):=jg ba a8;have gJ:∀X j,j+n+1<=c+1->X<V*wB^(j+1)->_:=fun X j u au=>XZ X V (c+1) j n aA (by omega) u (by omega) au;simp only[eN]at z⊢ab ac gJ;generalize aq wB V=bG at*;generalize bC:aq wB (a/b)=bH at*;generalize bR:aq wB (a% b)=aY at*;generalize aq wB a=x at*;generalize aq wB b=y at*;have e1:cb.wrap ((n:Int)-1)=o:=by rw[aN _ (by omega) (by omega)];omega
 have bv:(64:Int)-(ce d:Nat)=s:=by omega
 rw[bv]at aQ;rw[<-J]at hx;have bp:¬(n:Int)=1:=by omega
 have bq:¬n=1:=by omega
 simp[G,K,Y,bp,bq,w,e1,hx,af,ag,ad,aL,bE];refine c1 aQ ?_;simp;refine CQ ac ?_;simp[L];refine cp z (by simp[C];exact⟨rfl,rfl⟩) ?_ (h1:=by simp[eW,dz,C]);simp;refine CQ ab ?_;obtain⟨m,aR⟩:∃m,m=c-n:=⟨_,rfl⟩
 have e2:cb.wrap ((c:Int)-n)=m:=by rw[aN _ (by omega) (by omega)];omega
 have e3:cb.wrap ((m:Int)+1)=m+1:=cJ (by omega);simp[aA,Z,e2,e3];refine⟨⟨by omega,by simp only[cT];omega⟩,?_⟩;have av:a*2^s% (V*wB^(m+1))=a*2^s:=eq (by rw[aR];exact a5);rw[KG (Q:=a/b)];refine qN (fun s'=>aM s'.env 9=.p (.int .i64 s)/\aM s'.env 11=.sl 1 0 1 0 (c+1)/\aM s'.env 12=.p (.int .i64 n)/\aM s'.env 13=.sl 2 0 1 0 (m+1)/\s'.heap=[.arr .frozen 0 1 (l.map (AV.p∘fun x:Nat=>PV.int .u64 x)),.arr .exact 0 1 (b7 (c+1) (ae wB (a% b*2^s))),.arr .exact 0 1 (b7 (m+1) (ae wB (a/b)))]) ?_ ?_
 ·refine lp (α:=Nat) (fun j=>⟨[(14,.p (.int .i64 ((j:Int)-1))),(13,.sl 2 0 1 0 (m+1)),(12,.p (.int .i64 n)),(11,.sl 1 0 1 0 (c+1)),(10,.p (.seq (bG.map fun x:Nat=>.int .u64 x))),(9,.p (.int .i64 s))],[.arr .frozen 0 1 (l.map (AV.p∘fun x:Nat=>PV.int .u64 x)),.arr .exact 0 1 (b7 (c+1) (ae wB (a*2^s% (V*wB^j)))),.arr .exact 0 1 (b7 (m+1) (qF (a/b) j))]⟩)
   (fun j=>j<=m+1) (fun j=>j) (m+1) (gt _) ?_ (hn:=by simp[av]) (hh:=by simp[av])
  intro j k1
  by_cases bP:0<j
  ·obtain⟨k,rfl⟩:∃k,j=k+1:=⟨j-1,by omega⟩
   have e4:cb.wrap ((k:Int)-1)=k-1:=aN _ (by omega) (by omega);have e5:cb.wrap ((k:Int)+n)=k+n:=aN _ (by omega) (by omega);have a0:cb.wrap ((k:Int)+n+1)=k+n+1:=aN _ (by omega) (by omega);have aI:=gJ (a*2^s% (V*wB^(k+1))) k (by omega) (e9 _ (Nat.mul_pos bd (fd (by decide))));have hq:a*2^s% (V*wB^(k+1))/(V*wB^k)=ae wB (a/b) k:=by
    rw[E];exact UT D
   have M:a*2^s% (V*wB^(k+1))% (V*wB^k)=a*2^s% (V*wB^k):=by
    rw[fb,<-gx,Nat.mod_mul_right_mod]
   rw[hq,M]at aI;generalize a*2^s% (V*wB^(k+1))=X at*;generalize aC:a*2^s% (V*wB^k)=bJ at*;have a4:((k:Int)+n+1).toNat=k+n+1:=by omega
   have f2:(0:Int)<=(k:Int)+n+1:=by omega
   have f3:(k:Int)+n+1<=(c:Int)+1:=by omega
   have f4:k<=k+n+1:=by omega
   have f5:¬k=k+n+1:=by omega
   have f6:k+n+1-k=n+1:=by omega
   have f7:k<m+1:=by omega
   have gk:=l6 (n:=m+1) (qF (a/b) (k+1)) f7;have bF:=Lv (m:=m+1) (Q:=a/b) (i:=k);simp[e4,e5,a0,Kp,a4,f2,f3,f4,f5,f6];rw[show(if k=0 then({v:=.sl 1 0 1 0 (k+n+1),aj:=[(1,.arr .exact 0 1 (b7 (c+1) (ae wB X)))]}:aU)else{v:=.sl 1 0 1 k (n+1),aj:=[(1,.arr .exact 0 1 (b7 (c+1) (ae wB X)))]})={v:=.sl 1 0 1 k (n+1),aj:=[(1,.arr .exact 0 1 (b7 (c+1) (ae wB X)))]}by split<;>simp[*]];simp;refine⟨by omega,?_⟩;refine cf aI [1] ?_;simp[gk,bF,e4,f7,ad,aL,bE];exact rd k (show k<=m+1 by omega) (hn:=by simp[aC]) (hh:=by simp[aC])
  ·obtain rfl:j=0:=by omega
   have a6:a*2^s% V=a% b*2^s:=by rw[E,hj]
   simp[KF,a6]
 rintro⟨bK,bO⟩ ⟨ai,ak,al,am,aT⟩;dsimp only at ai ak al am aT;subst aT;obtain⟨R,H⟩:∃R,R=a% b*2^s:=⟨_,rfl⟩
 rw[<-H];simp[ai,ak,al,am];refine lp (α:=Nat) (fun i=>⟨[(97,.p (.int .i64 i)),(96,.p (.int .i64 n)),(13,.sl 2 0 1 0 (m+1)),(12,.p (.int .i64 n)),(11,.sl 1 0 1 0 (c+1)),(9,.p (.int .i64 s))],[.arr .frozen 0 1 (l.map (AV.p∘fun x:Nat=>PV.int .u64 x)),.arr .exact 0 1 (b7 (c+1) (dB 0 i (ae wB R) (ae wB (a% b)))),.arr .exact 0 1 (b7 (m+1) (ae wB (a/b)))]⟩)
  (fun i=>i<=n) (fun i=>n-i) 0 (ha _) ?_ (hn:=by simp[rJ]) (he:=by simp[ai,ak,al,am]) (hh:=by simp[rJ])
 intro i k1;have O:=cJ (i:=i) (by omega)
 by_cases hi:i<n
 ·have F:i<c+1:=by omega
  have aH:i+1<c+1:=by omega
  have ap:(b7 (c+1) (dB 0 i (ae wB R) (ae wB (a% b))))[i]?=some (.p (.int .u64 (ae wB R i))):=by
   have:=xg (m:=c+1) (j:=0) (i:=i) (g:=ae wB R) (f:=ae wB (a% b)) (by omega)
   rwa [g8]at this
  have an:=tg (ae wB R i) s (by omega);have bo:i<c:=by omega
  by_cases ar:0<s
  ·obtain⟨t,bz⟩:∃t,t=64-s:=⟨_,rfl⟩
   have a2:cb.wrap (64-(s:Int))=(t:Int):=by rw[aN _ (by omega) (by omega)];omega
   have a3:=vz (ae wB R (i+1)) t (by omega);have aI:=xY hs;rw[<-bz]at aI;have bb:0<2^t:=fd (by decide);have bu:ae wB R i/2^s<2^t:=by rw[e6 D,eo,aI];exact cq ba _ _
   have aV:ae wB R (i+1)*2^t% wB=ae wB R (i+1)% 2^s*2^t:=by rw[<-aI,hj]
   have bt:ae wB R i/2^s|||(ae wB R (i+1)*2^t% wB)=ae wB (a% b) i:=by
    have u:=aAM D bb R i;rw[aI,H,Nat.mul_div_cancel _ D,<-H]at u;rw[hG,aV,Ce bu,<-aV,u,gy]
   have T:=Dj (ae wB R i/2^s) (ae wB R (i+1)*2^t% wB) (e8 (gj _ _) (cq ba _ _)) (e9 _ (by decide));rw[bt]at T;generalize ae wB R i/2^s=r at*;generalize ae wB R (i+1)*2^t% wB=ah at*;have aZ:b5.wrap ((r% 2^b5.bits|||((ah:Int)% 2^b5.bits).toNat:Nat):Int)=(ae wB (a% b) i:Nat):=by
    rw[SU];exact T
   have S:=oF (n:=c+1) (i:=i) (v:=r) (f:=dB 0 i (ae wB R) (ae wB (a% b))) (g:=fun k=>if k=i then r else dB 0 i (ae wB R) (ae wB (a% b)) k) (if_pos rfl) (fun k hk=>if_neg hk);have U:=l6 (n:=c+1) (fun k=>if k=i then r else dB 0 i (ae wB R) (ae wB (a% b)) k) F;have ao:=l6 (n:=c+1) (fun k=>if k=i then r else dB 0 i (ae wB R) (ae wB (a% b)) k) aH;rw[if_pos rfl]at U;rw[if_neg (by omega),dB,if_neg (by omega)]at ao;have bD:=oF (n:=c+1) (i:=i) (v:=ae wB (a% b) i) (f:=fun k=>if k=i then r else dB 0 i (ae wB R) (ae wB (a% b)) k) (g:=dB 0 (i+1) (ae wB R) (ae wB (a% b))) (by rw[dB,if_pos (by omega),hD]) (fun k hk=>by
    rw[if_neg hk,dB,dB]
    by_cases h:k<i
    ·rw[if_pos (by omega),if_pos (by omega)]
    ·rw[if_neg (by omega),if_neg (by omega)])
   generalize (fun k=>if k=i then r else dB 0 i (ae wB R) (ae wB (a% b)) k)=bL at*;simp[hi,F,ap,an,ar,O,S,ad,aL,bE];simp[F,aH,bo,a2,O,U,ao,ad,aL,bE];simp[a3,T,aZ,F,O,bD,U,ad,aL,bE];refine⟨by omega,⟨by rfl,by rfl,by rfl,by rfl,by rfl⟩,?_⟩;exact rd (i+1) (show i+1<=n by omega)
  ·have aX:s=0:=by omega
   have a9:ae wB R i=ae wB (a% b) i:=by rw[H,aX,fv,hr]
   have S:=xf (m:=c+1) (j:=0) (i:=i) (g:=ae wB R) (f:=ae wB (a% b)) (v:=ae wB R i) a9.symm;rw[g8]at S;have a1:(ae wB R i:Int).fdiv (2^(min s b5.bits))=(ae wB R i:Nat):=by rw[an,aX,fv,g5]
   simp[hi,F,ap,ar,O,S,a1,ad,aL,bE];exact rd (i+1) (show i+1<=n by omega)
 obtain rfl:i=n:=by omega
 obtain⟨bS,aK,br,ay⟩:=BV (m:=m+1) (N:=a/b) (by rw[aR];exact a7) (by omega);obtain⟨P,aP,bs,bc⟩:∃P:List Nat,P.length=c+1/\b7 (c+1) (dB 0 i (ae wB R) (ae wB (a% b)))=P.map (AV.p∘fun x:Nat=>PV.int .u64 x)/\az prog 291 [.seq (eW (P.take i))] (.seq (aY.map fun x:Nat=>.int .u64 x)):=by
  refine⟨(dp (c+1)).map (dB 0 i (ae wB R) (ae wB (a% b))),by simp,Bn _ _,?_⟩;have e:((dp (c+1)).map (dB 0 i (ae wB R) (ae wB (a% b)))).take i=(dp i).map (ae wB (a% b)):=by
   exact Kq (by omega) fun k hk=>by rw[dB,if_pos (by omega),hD]
  rw[e];have u:=sn ((dp i).map (ae wB (a% b))) (by simp;omega);rw[bA]at u;exact u
 simp only[eN,bC]at ay;simp[br,bs];refine ep ay (by simp[aK];exact⟨rfl,rfl⟩) (by simp;exact⟨rfl,rfl⟩) ?_ (h1:=by simp[eW,dz,aK]);simp[aP];refine⟨by omega,?_⟩;have bn:i<=c+1:=by omega
 refine ep bc (by simp[aP,bn];exact⟨rfl,rfl⟩) (by simp;exact⟨rfl,rfl⟩) ?_ (h1:=by simp[eW,ee]);simp;rfl
def ch(k:Nat)(q:Rat):Prop:=q.num.natAbs<2^k/\q.den<2^k
theorem ch.mono{k l:Nat}{q:Rat}(h:ch k q)(hl:k<=l):ch l q:=
 ⟨ew h.1 (e7 (by omega) hl),ew h.2 (e7 (by omega) hl)⟩
theorem ld{n:Int}{d:Nat}(h:d≠0):(hK n d).num=n/(hE n.natAbs d:Nat)/\(hK n d).den=d/hE n.natAbs d:=by
 have:hK n d=Rat.normalize n d h:=by
  rw[hL];rfl
 rw[this,Rat.normalize_eq h];exact⟨rfl,rfl⟩
theorem Bk{n:Int}{d k:Nat}(h:d≠0)(a:n.natAbs<2^k)(b:d<2^k):ch k (hK n d):=by
 obtain⟨e1,e2⟩:=ld (n:=n) h;refine⟨?_,?_⟩
 ·rw[e1];refine e8 ?_ a;rw[Int.natAbs_ediv_of_dvd (Int.ofNat_dvd_left.2 (Nat.gcd_dvd_left _ _))];exact gj _ _
 ·rw[e2];exact e8 (gj _ _) b
theorem azA{a b:Nat}{x y:Rat}(h:ch a x)(c:ch b y):ch (a+b+1) (x+y):=by
 have e:x+y=hK (x.num*y.den+y.num*x.den) ((x.den*y.den:Nat):Int):=by rw[Rat.add_def'];rfl
 rw[e];have e1:2^(a+b+1)=2^a*2^b+2^a*2^b:=by rw[fb,ge];omega
 refine Bk (hw x.den_nz y.den_nz) ?_ ?_
 ·rw[e1];refine e8 (Int.natAbs_add_le _ _) ?_;rw[ck,ck,cv,cv];have f:=gi h.1 c.2;have d:=gi c.1 h.2;rw[eo (2^b)]at d;omega
 ·have:=gi h.2 c.2;rw[e1];omega
theorem AH{a:Nat}{x:Rat}(h:ch a x):ch a (-x):=by
 refine⟨by rw[Rat.neg_num,Int.natAbs_neg];exact h.1,by rw[Rat.neg_den];exact h.2⟩
theorem wC{a b:Nat}{x y:Rat}(h:ch a x)(c:ch b y):ch (a+b+1) (x-y):=by
 rw[hM];exact azA h (AH c)
theorem rz{a b:Nat}{x y:Rat}(h:ch a x)(c:ch b y):ch (a+b) (x*y):=by
 have e:x*y=hK (x.num*y.num) ((x.den*y.den:Nat):Int):=by
  rw[Rat.mul_def,hL];rfl
 rw[e];refine Bk (hw x.den_nz y.den_nz) ?_ ?_
 ·rw[ck,ge];exact gi h.1 c.1
 ·rw[ge];exact gi h.2 c.2
theorem Uf{x:Rat}(h:x≠0):(x⁻¹).num=x.num.sign*x.den/\(x⁻¹).den=x.num.natAbs:=by
 have a:x.num≠0:=fun e=>h (hN.1 e);have e:x⁻¹=hK (x.num.sign*x.den) (x.num.natAbs:Nat):=by
  rw[Rat.inv_def];rcases cx x.num 0 with h|h|h
  ·have e1:x.num.sign= -1:=Int.sign_eq_neg_one_of_neg h;have e2:((x.num.natAbs:Nat):Int)= -x.num:=by omega
   rw[e1,e2,show(-1*(x.den:Int))= -(x.den:Int)by omega,Rat.divInt_neg',Int.neg_neg]
  ·exact(a h).elim
  ·have e1:x.num.sign=1:=Int.sign_eq_one_of_pos h;have e2:((x.num.natAbs:Nat):Int)=x.num:=by omega
   rw[e1,e2,Int.one_mul]
 have b:hE (x.num.sign*x.den).natAbs x.num.natAbs=1:=by
  rw[ck,dg a,gm,cv,Nat.gcd_comm];exact x.reduced
 obtain⟨e1,e2⟩:=ld (n:=x.num.sign*x.den) (d:=x.num.natAbs) (by omega);rw[e,e1,e2,b];simp
theorem azB{a:Nat}{x:Rat}(h:ch a x):ch a x⁻¹:=by
 by_cases b:x=0
 ·subst b;have:(0:Rat)⁻¹=0:=Rat.inv_zero;rw[this];exact h
 ·obtain⟨e1,e2⟩:=Uf b;have c:x.num≠0:=fun e=>b (hN.1 e);refine⟨?_,by rw[e2];exact h.1⟩;rw[e1,ck,dg c,gm,cv];exact h.2
theorem HI{k:Nat}{n:Int}(h:n.natAbs<2^k)(hk:0<k):ch k (n:Rat):=by
 refine⟨h,?_⟩;show(1:Nat)<2^k;exact Nat.one_lt_two_pow (by omega)
structure NI where
 v:Int
 m:Bool
def NI.sm(a:NI):Bool:=decide (-9223372036854775808<a.v/\a.v<9223372036854775808)||(decide (a.v= -9223372036854775808)&&a.m)
def NI.of(n:Int):NI:=⟨n,true⟩
def NI.mk'(n:Int):NI:=⟨n,false⟩
def NI.neg(a:NI):NI:=.mk' (-a.v)
def NI.abs(a:NI):NI:=if a.v<0 then .mk' (-a.v)else a
def NI.add(a b:NI):NI:=⟨a.v+b.v,a.sm&&b.sm⟩
def NI.sub(a b:NI):NI:=a.add b.neg
def NI.mul(a b:NI):NI:=.mk' (a.v*b.v)
def NI.div(a b:NI):NI:=⟨a.v/b.v,decide (a.v% b.v≠0)⟩
def NI.mod(a b:NI):NI:=.mk' (a.v% b.v)
structure NF where
 q:Rat
 m:Bool
def NF.num(a:NF):NI:=⟨a.q.num,a.m⟩
def NF.den(a:NF):NI:=.mk' a.q.den
def NF.whole(a:NI):NF:=⟨a.v,a.m⟩
def NF.int(n:Int):NF:=⟨n,true⟩
def NF.fe(a:NF):Bool:=decide (a.q.den=1)
def NF.add(a b:NF):NF:=⟨a.q+b.q,a.fe&&b.fe&&(a.num.sm&&b.num.sm)⟩
def NF.neg(a:NF):NF:=⟨-a.q,false⟩
def NF.sub(a b:NF):NF:=a.add b.neg
def NF.mul(a b:NF):NF:=⟨a.q*b.q,false⟩
def NF.inv(a:NF):NF:=⟨a.q⁻¹,false⟩
def NF.div(a b:NF):NF:=⟨a.q/b.q,false⟩
@[simp] theorem NI.qE(a b:NI):(a.add b).v=a.v+b.v:=rfl
@[simp] theorem NI.lF(a b:NI):(a.mul b).v=a.v*b.v:=rfl
@[simp] theorem NI.Db(a:NI):a.neg.v= -a.v:=rfl
@[simp] theorem NI.OY(a b:NI):(a.sub b).v=a.v-b.v:=by show a.v+-b.v=_;omega
@[simp] theorem NF.Qy(a b:NF):(a.add b).q=a.q+b.q:=rfl
@[simp] theorem NF.aGG(a:NF):a.neg.q= -a.q:=rfl
@[simp] theorem NF.qj(a b:NF):(a.sub b).q=a.q-b.q:=by show a.q+-b.q=_;rw[hM]
@[simp] theorem NF.aGF(a b:NF):(a.mul b).q=a.q*b.q:=rfl
@[simp] theorem NF.aFR(a:NF):a.inv.q=a.q⁻¹:=rfl
@[simp] theorem NF.aEk(a b:NF):(a.div b).q=a.q/b.q:=rfl
@[simp] theorem NF.aFP(n:Int):(NF.int n).q=n:=rfl
def eJ(z:Int):PV:=.st 129 [.int .i64 z,.aG]
def jT(z:Int):PV:=.st 129 [.int .i64 (if z<0 then -1 else 1),eN z.natAbs]
def C5(p:PV)(z:Int):Prop:=(p=eJ z/\-9223372036854775808<=z/\z<=9223372036854775807)\/(p=jT z/\9223372036854775808<=z.natAbs)
theorem Ng(a:NI):∃p,p=if a.sm=true then eJ a.v else jT a.v:=⟨_,rfl⟩
noncomputable def eI(a:NI):PV:=b3 (Ng a)
theorem iN(a:NI):eI a=if a.sm=true then eJ a.v else jT a.v:=b2 (Ng a)
theorem NI.yw{a:NI}(h:-9223372036854775808<a.v)(b:a.v<9223372036854775808):a.sm=true:=by
 simp[NI.sm,h,b]
theorem NI.oL{a:NI}(h:a.sm=true):-9223372036854775808<=a.v/\a.v<=9223372036854775807:=by
 simp only[NI.sm,b1,decide_eq_true_eq,b0]at h;omega
theorem NI.yb{a:NI}(h:¬a.sm=true):9223372036854775808<=a.v.natAbs:=by
 simp only[NI.sm,b1,decide_eq_true_eq,b0,not_or,not_and]at h;omega
theorem NI.Oo(z:Int):(NI.mk' z).sm=decide (-9223372036854775808<z/\z<9223372036854775808):=by
 rw[NI.sm,NI.mk',Bool.and_false,Bool.or_false]
theorem NI.ie(z:Int):(NI.mk' z).v=z:=rfl
theorem lJ(a:NI):C5 (eI a) a.v:=by
 rw[iN]
 by_cases h:a.sm=true
 ·rw[if_pos h];have:=NI.oL h;exact .inl ⟨rfl,this⟩
 ·rw[if_neg h];exact .inr ⟨rfl,NI.yb h⟩
theorem nF{z:Int}(h:-9223372036854775808<z)(a:z<9223372036854775808):eI (.mk' z)=eJ z:=by
 rw[iN,NI.Oo,if_pos (by simp[h,a]),NI.ie]
theorem Nf{z:Int}(h:9223372036854775808<=z.natAbs):eI (.mk' z)=jT z:=by
 rw[iN,NI.Oo,if_neg (by simp;omega),NI.ie]
theorem sJ{z:Int}(h:-9223372036854775808<=z)(c:z<=9223372036854775807):eI (.of z)=eJ z:=by
 rw[iN,if_pos]
 ·rfl
 ·by_cases b:z= -9223372036854775808
  ·subst b;rfl
  ·exact NI.yw (a:=.of z) (by show _<z;omega) (by show z<_;omega)
@[simp] theorem bxN(u:TypeId)(h:¬u=226):(Gl.bx u:Option TypeId)=none:=by
 have a:hF u 226=false:=by
  cases a:hF u 226
  ·rfl
  ·exact(h (Nat.eq_of_beq_eq_true a)).elim
 show(bif hF u 226 then some 227 else none)=none;rw[a];rfl
@[simp] theorem aDP:(Gl.bx 226:Option TypeId)=some 227:=(rfl)
theorem kH:aq wB 0=[]:=by simp[aq,mA]
theorem sj{n:Nat}(a:0<n)(h:n<wB):aq wB n=[n]:=by
 have h1:=jg ba (m:=1) (n:=n) (by rw[hb];exact h);rw[<-h1,row,ec,ei,ej,ae,fv,g5,eq h];have:=tV [] n (by omega)
 rwa [List.nil_append]at this
theorem qK(n:Int):az prog 171 [.int .i64 n] (eJ n):=by
 refine aO nf MG mix (by simp[f171]) ?_;simp[f171,eJ]
theorem Cz(n:Int)(h:-9223372036854775808<=n)(b:n<=9223372036854775807):az prog 256 [.int .i64 n] (.int .u64 (n.natAbs:Nat)):=by
 refine aO nf LS mix (by simp[f256]) ?_
 by_cases a:n<0
 ·have e:b5.wrap (cb.wrap (-n))=(n.natAbs:Nat):=by
   by_cases hm:n= -9223372036854775808
   ·subst hm;rfl
   ·rw[aN _ (by omega) (by omega),eK _ (by omega) (by simp only[wB];omega)];omega
  simp[f256,a,e]
 ·have e:b5.wrap n=(n.natAbs:Nat):=by rw[eK _ (by omega) (by simp only[wB];omega)];omega
  simp[f256,a,e]
theorem nj(p:PV)(z:Int)(h:C5 p z):az prog 248 [p] (.aC [.bool (decide (z<0)),eN z.natAbs]):=by
 refine aO nf K5 mix (by simp[f248]) ?_;rcases h with⟨rfl,b,d⟩|⟨rfl,b⟩
 ·have hs:=Cz z b d
  by_cases a:z=0
  ·subst a;simp[f248,eJ,eN,kH,di,cM]
  ·simp[f248,eJ,a,di,cM];refine e1 hs ?_;simp[eN,sj (n:=z.natAbs) (by omega) (by simp only[wB];omega)]
   done
 ·have e:aq wB z.natAbs≠[]:=fun h=>by
   have:=cj ba z.natAbs;rw[h,ea,fv]at this;omega
  simp only[jT,eN];obtain⟨c,cs,hc⟩:=dq e;rw[hc];have f:decide ((if z<0 then(-1:Int)else 1)<0)=decide (z<0):=by split<;>simp[*]
  generalize (if z<0 then(-1:Int)else 1)=g at*;simp[f248,di,cM,f]
theorem uS(neg:Bool)(n:Nat)(k:(aq wB n).length<=1048576):az prog 249 [.bool neg,eN n] (eI (.mk' (if neg then -(n:Int)else n))):=by
 by_cases i:n=0
 ·subst i;rw[show(if neg=true then -((0:Nat):Int)else((0:Nat):Int))=0 by simp,nF (by decide) (by decide)];refine aO nf vf mix (by simp[f249]) ?_;simp[f249,eJ,eN,kH,di,cM]
 by_cases q:n<=9223372036854775807
 ·have d:=sj (n:=n) (by omega) (by simp only[wB];omega);have hI:(n:Int)<=9223372036854775807:=by omega
  have f:cb.wrap (n:Int)=n:=aN _ (by omega) (by omega);have g:cb.wrap (-(n:Int))= -n:=aN _ (by omega) (by omega);cases neg
  ·rw[if_neg (by decide),nF (by omega) (by omega)];refine aO nf vf mix (by simp[f249]) ?_;simp[f249,eJ,eN,d,hI,f,g,di,cM]
  ·rw[if_pos rfl,nF (by omega) (by omega)];refine aO nf vf mix (by simp[f249]) ?_;simp[f249,eJ,eN,d,hI,f,g,di,cM]
 ·have l:aq wB n≠[]:=fun h=>by
   have:=cj ba n;rw[h,ea,fv]at this;omega
  have e:(aq wB n).length=1->(aq wB n)[0]?=some n:=fun h=>by
   have a:=cj ba n;rw[h,hb]at a;rw[sj (by omega) a];rfl
  have hI:¬(n:Int)<=9223372036854775807:=by omega
  have b:(if neg then -(n:Int)else n).natAbs=n:=by cases neg<;>simp
  have m:(if(if neg then -(n:Int)else n)<0 then(-1:Int)else 1)=if neg then -1 else 1:=by
   cases neg
   ·simp only[Bool.false_eq_true,if_false];rw[if_neg (by omega)]
   ·simp only[if_true];rw[if_pos (by omega)]
  rw[Nf (by rw[b];omega)];refine aO nf vf mix (by simp[f249]) ?_;rw[jT,b,m];simp only[eN];obtain⟨c,cs,hc⟩:=dq l;rw[hc]at e⊢;rw[hc]at k;cases cs with
  |nil=>
   have j:c=n:=by simpa using e rfl
   subst j;cases neg<;>simp[f249,hI,di,cM]
  |cons c2 cs=>
   have o:¬((cs.length:Int)+1+1=1):=by omega
   have p:¬((cs.length:Int)+1+1=0):=by omega
   cases neg<;>simp[f249,o,p,di,cM]
def okW(z:Int):Prop:=(aq wB z.natAbs).length<=900000
theorem axK{p:PV}{z:Int}(h:C5 p z):∃a b,p=.st 129 [a,b]:=by
 rcases h with⟨rfl,_⟩|⟨rfl,_⟩
 ·exact⟨_,_,rfl⟩
 ·exact⟨_,_,rfl⟩
theorem uK(a:NI):∃x y,eI a=.st 129 [x,y]:=axK (lJ a)
theorem sF(a:NI)(l:okW a.v):az prog 245 [eI a] (eI a.neg):=by
 have h:=lJ a;have d:=nj (eI a) a.v h;have b:=uS (!decide (a.v<0)) a.v.natAbs (by rw[okW]at l;omega);have k:(if(!decide (a.v<0))=true then -((a.v.natAbs:Nat):Int)else a.v.natAbs)= -a.v:=by
  by_cases e:a.v<0
  ·simp[e];omega
  ·simp[e];omega
 rw[k]at b;rw[show a.neg=.mk' (-a.v)from rfl];generalize a.v=z at*;generalize n:eI a=p at*;obtain⟨o,q,g⟩:=uK (.mk' (-z));rcases h with⟨rfl,i,m⟩|⟨rfl,i⟩
 ·by_cases f:z= -9223372036854775808
  ·rw[g]at b⊢;refine aO nf yP mix (by simp[f245]) ?_;subst f;simp only[eJ]at d⊢;simp[f245,di,cM];refine c1 d ?_;simp[eN]at b⊢;refine c2 b ?_;simp[ad,aL,bE]
  ·rw[nF (by omega) (by omega)];have w:cb.wrap (-z)= -z:=aN _ (by omega) (by omega);refine aO nf yP mix (by simp[f245]) ?_;simp[f245,eJ,f,w,di,cM]
 ·rw[g]at b⊢;refine aO nf yP mix (by simp[f245]) ?_;have j:aq wB z.natAbs≠[]:=fun h=>by
   have:=cj ba z.natAbs;rw[h,ea,fv]at this;omega
  simp only[jT,eN]at d b⊢;obtain⟨c,cs,hc⟩:=dq j;rw[hc]at d b⊢;generalize (if z<0 then(-1:Int)else 1)=r at*;simp[f245,di,cM];refine c1 d ?_;simp at b⊢;refine c2 b ?_;simp[ad,aL,bE]
theorem su(a:NI):az prog 225 [eI a] (.int .i64 (if a.v<0 then -1 else if a.v=0 then 0 else 1)):=by
 have h:=lJ a;generalize a.v=z at*;generalize eI a=p at*;refine aO nf Fk mix (by simp[f225]) ?_;rcases h with⟨rfl,b,c⟩|⟨rfl,b⟩
 ·simp[f225,eJ];rcases cx z 0 with h|h|h
  ·have e:z<1:=by omega
   simp[h,e];omega
  ·subst h;simp
  ·have e1:¬z<0:=by omega
   have e2:¬z=0:=by omega
   have e3:¬z<1:=by omega
   simp[e1,e2,e3]
 ·simp[f225,jT,eN]
  by_cases h:z<0
  ·simp[h]
  ·have e2:¬z=0:=by omega
   simp[h,e2]
theorem Tv{z:Int}(h:-18446744073709551616<=z)(a:z<=18446744073709551614):cb.wrap z=if z< -9223372036854775808 then z+18446744073709551616 else if 9223372036854775807<z then z-18446744073709551616 else z:=by
 rw[cc]
 split
 ·omega
 ·split<;>omega
theorem nh{z:Int}(h:okW z):(aq wB z.natAbs).length<=900000:=h
theorem RP{a b L:Nat}(c:(aq wB a).length<=L)(d:(aq wB b).length<=L):(aq wB (a+b)).length<=L+1:=by
 refine dK ba _ _ ?_;have e:=ew (cj ba a) (e7 (show 0<wB by decide) c);have f:=ew (cj ba b) (e7 (show 0<wB by decide) d);have g:2*wB^L<=wB^(L+1):=by rw[fb,eo];exact fm _ ba
 omega
theorem Qx{a b:Int}(i:okW a)(j:okW b):
 ((decide (a<0)=decide (b<0)/\az prog 249 [.bool (decide (a<0)),eN (a.natAbs+b.natAbs)] (eI (.mk' (a+b))))\/
  (decide (a<0)≠decide (b<0)/\b.natAbs<=a.natAbs/\az prog 249 [.bool (decide (a<0)),eN (a.natAbs-b.natAbs)] (eI (.mk' (a+b))))\/
  (decide (a<0)≠decide (b<0)/\a.natAbs<b.natAbs/\az prog 249 [.bool (decide (b<0)),eN (b.natAbs-a.natAbs)] (eI (.mk' (a+b))))):=by
 have hl:=RP (a:=a.natAbs) (b:=b.natAbs) i j;have l:∀n,n<=a.natAbs+b.natAbs->(aq wB n).length<=1048576:=fun n h=>by
  have:=dK ba _ _ (e8 h (cj ba (a.natAbs+b.natAbs)));omega
 have f:∀(neg:Bool)(n:Nat),n<=a.natAbs+b.natAbs->(if neg then -(n:Int)else n)=a+b->az prog 249 [.bool neg,eN n] (eI (.mk' (a+b))):=fun neg n h e=>by
  have g:=uS neg n (l n h);rw[e]at g;exact g
 by_cases d:decide (a<0)=decide (b<0)
 ·have c:=f (decide (a<0)) (a.natAbs+b.natAbs) (gt _) (by
   by_cases h:a<0
   ·have:b<0:=by simpa[h]using d
    simp[h];omega
   ·have:¬b<0:=by simpa[h]using d
    simp[h];omega)
  exact .inl ⟨d,c⟩
 ·by_cases k:b.natAbs<=a.natAbs
  ·have c:=f (decide (a<0)) (a.natAbs-b.natAbs) (by omega) (by
    by_cases h:a<0
    ·have:¬b<0:=by simpa[h]using d
     simp[h];omega
    ·have:b<0:=by simpa[h]using d
     simp[h];omega)
   exact .inr (.inl ⟨d,k,c⟩)
  ·have c:=f (decide (b<0)) (b.natAbs-a.natAbs) (by omega) (by
    by_cases h:b<0
    ·have:¬a<0:=fun c=>d (by simp[h,c]);simp[h];omega
    ·have:a<0:=by
      by_cases c:a<0
      ·exact c
      ·exact(d (by simp[h,c])).elim
     simp[h];omega)
   exact .inr (.inr ⟨d,by omega,c⟩)
theorem Co(a:NI):(eI a=eJ a.v/\a.sm=true/\-9223372036854775808<=a.v/\a.v<=9223372036854775807)\/(a.sm=false/\∃d c cs,eI a=.st 129 [.int .i64 d,.seq (c::cs)]):=by
 by_cases h:a.sm=true
 ·left;exact⟨by rw[iN,if_pos h],h,NI.oL h⟩
 ·right;refine⟨by simpa using h,?_⟩;have e:=NI.yb h;have b:aq wB a.v.natAbs≠[]:=fun h=>by
   have:=cj ba a.v.natAbs;rw[h,ea,fv]at this;omega
  obtain⟨c,cs,hc⟩:=dq b;rw[iN,if_neg h,jT,eN,hc];exact⟨_,_,_,rfl⟩
theorem vc(a b:NI)(B:okW a.v)(D:okW b.v):az prog 188 [eI a,eI b] (eI (a.add b)):=by
 have o:=nj (eI a) a.v (lJ a);have q:=nj (eI b) b.v (lJ b);have U:=nh B;have V:=nh D;have t:=F8 a.v.natAbs b.v.natAbs (by omega) (by omega);have C:=Ss a.v.natAbs b.v.natAbs (by omega) (by omega);have y:=Qx B D;have th:=Co a;have G:=Co b
 by_cases u:(a.sm=true/\b.sm=true)/\-9223372036854775808<=a.v+b.v/\a.v+b.v<=9223372036854775807
 ·obtain⟨⟨g,n⟩,d,l⟩:=u;rw[show eI a=eJ a.v by rw[iN,if_pos g],show eI b=eJ b.v by rw[iN,if_pos n],show a.add b=.of (a.v+b.v)by rw[NI.add,g,n];rfl,sJ d l];generalize a.v=a at*;generalize b.v=b at*;refine aO nf zJ mix (by simp[f188]) ?_;have w:=aN (a+b) d l;have e:(decide (a<a+b)==decide (0<b))=true:=by
   have:a<a+b↔0<b:=by omega
   simp[this]
  simp[f188,eJ,w,di,cM,e]
 have F:eI (a.add b)=eI (.mk' (a.v+b.v)):=by
  by_cases h:-9223372036854775808<a.v+b.v/\a.v+b.v<9223372036854775808
  ·rw[nF h.1 h.2,iN,if_pos (NI.yw h.1 h.2)];rfl
  ·by_cases l:(a.sm&&b.sm)=true
   ·have H:a.sm=true/\b.sm=true:=by simpa using l
    have I:¬(-9223372036854775808<=a.v+b.v/\a.v+b.v<=9223372036854775807):=fun h=>u ⟨H,h⟩;rw[Nf (by omega),iN,if_neg,NI.qE];intro g;have:=NI.oL g;rw[NI.qE]at this;omega
   ·rw[NI.add,NI.mk'];rw[show(a.sm&&b.sm)=false by simpa using l]
 rw[F];clear F;obtain⟨M,N,J⟩:=uK a;obtain⟨O,P,K⟩:=uK b;obtain⟨Y,Z,L⟩:=uK (.mk' (a.v+b.v));rw[L]at y⊢;rw[J]at o th⊢;rw[K]at q G⊢;generalize a.v=f at*;generalize b.v=bv at*;refine aO nf zJ mix (by simp[f188]) ?_;simp[f188,-bm];rw[bm];simp[-bm];refine join (fun s=>aM s.env 2=.ptr 0 []/\aM s.env 3=.ptr 1 []/\aM s.env 4=.ptr 2 []/\s.heap=[.box false (.p (.st 129 [M,N])),.box false (.p (.st 129 [O,P])),.box false (.p (.st 129 [.int .i64 0,.aG]))]) ?_ ?_
 ·clear y t C o q;rcases th with⟨d,m,l,g⟩|⟨m,Q,c,cs,d⟩
  ·simp only[eJ,PV.st.injEq,en,and_true,true_and]at d;obtain⟨rfl,rfl⟩:=d;rcases G with⟨n,A,S,T⟩|⟨A,Q,c,cs,n⟩
   ·simp only[eJ,PV.st.injEq,en,and_true,true_and]at n;obtain⟨rfl,rfl⟩:=n;have I:¬(-9223372036854775808<=f+bv/\f+bv<=9223372036854775807):=fun h=>u ⟨⟨m,A⟩,h⟩;have w:=Tv (z:=f+bv) (by omega) (by omega);have e:¬(f<cb.wrap (f+bv)↔0<bv):=by
     rw[w]
     by_cases W:0<bv
     ·rw[if_neg (by omega),if_pos (by omega)];omega
     ·rw[if_pos (by omega)];omega
    simp[di,cM,e]
   ·simp only[PV.st.injEq,en,and_true,true_and]at n;obtain⟨rfl,rfl⟩:=n;simp[di,cM]
  ·simp only[PV.st.injEq,en,and_true,true_and]at d;obtain⟨rfl,rfl⟩:=d;simp[di,cM]
 rintro⟨R,X⟩ ⟨i,j,k,E⟩;dsimp only at i j k E;subst E;simp[i,j,k];refine c1 o ?_;simp[i,j,k,ad,aL,bE];refine c1 q ?_;rcases y with⟨d,g⟩|⟨d,l,g⟩|⟨d,l,g⟩
 ·have m:(f<0↔bv<0):=by simpa using d
  rw[d]at g;simp[i,j,k,m,ad,aL,bE];refine c2 C ?_;simp;refine c2 g ?_;simp[i,j,k,ad,aL,bE]
 ·have m:¬(f<0↔bv<0):=by simpa using d
  have r:0<=fu f.natAbs bv.natAbs:=by
   have h:=mt oI.1 (show¬f.natAbs<bv.natAbs by omega);omega
  have x:=Hd f.natAbs bv.natAbs l (by omega);simp[i,j,k,m,ad,aL,bE];refine c2 t ?_;simp[r];refine c2 x ?_;simp[i,j,k,ad,aL,bE];refine c2 g ?_;simp[i,j,k,ad,aL,bE]
 ·have m:¬(f<0↔bv<0):=by simpa using d
  have r:¬0<=fu f.natAbs bv.natAbs:=by have:=oI.2 l;omega
  have x:=Hd bv.natAbs f.natAbs (by omega) (by omega);simp[i,j,k,m,ad,aL,bE];refine c2 t ?_;simp[r];refine c2 x ?_;simp[i,j,k,ad,aL,bE];refine c2 g ?_;simp[i,j,k,ad,aL,bE]
@[simp] theorem aG9(a:NI):aL (eI a)=.agg 129:=by
 obtain⟨x,y,h⟩:=uK a;rw[h];rfl
theorem OQ(a:NI):∃z:Int,z=if a.sm=true then a.v else if a.v<0 then -1 else 1:=⟨_,rfl⟩
noncomputable def sI(a:NI):Int:=b3 (OQ a)
theorem yd(a:NI):sI a=if a.sm=true then a.v else if a.v<0 then -1 else 1:=b2 (OQ a)
theorem O5(a:NI):∃p:PV,p=if a.sm=true then .aG else eN a.v.natAbs:=⟨_,rfl⟩
noncomputable def wI(a:NI):PV:=b3 (O5 a)
theorem Cd(a:NI):wI a=if a.sm=true then .aG else eN a.v.natAbs:=b2 (O5 a)
@[simp] theorem XR(a:NI):cE (eI a)=[.int .i64 (sI a),wI a]:=by
 by_cases h:a.sm=true
 ·rw[iN,yd,Cd,if_pos h,if_pos h,if_pos h];rfl
 ·rw[iN,yd,Cd,if_neg h,if_neg h,if_neg h];rfl
theorem OR(a:NI):sI a<0↔a.v<0:=by
 rw[yd];split
 ·exact Iff.rfl
 ·split<;>omega
theorem lG{a:NI}(h:a.sm=true):wI a=.aG:=by rw[Cd,if_pos h]
theorem nC{a:NI}(h:a.sm=false):∃c cs,wI a=.seq (c::cs):=by
 rcases Co a with⟨_,b,_⟩|⟨_,e,c,cs,d⟩
 ·rw[h]at b;exact absurd b (by decide)
 ·refine⟨c,cs,?_⟩;have:=XR a;rw[d]at this;simp[cE]at this;exact this.2.symm
theorem mq{a:NI}(h:a.sm=true):sI a=a.v:=by rw[yd,if_pos h]
theorem CN(a b:NI)(d:okW a.v)(c:okW b.v):az prog 269 [eI a,eI b] (eI (a.sub b)):=by
 refine aO nf D9 mix (by simp[f269]) ?_;have e:okW b.neg.v:=by simpa[okW]using c
 simp[f269];refine e1 (sF b c) ?_;simp;refine e2 (vc a b.neg d e) ?_;simp[ad];exact Wk.refl _
theorem MQ(a:NI)(c:okW a.v):az prog 293 [eI a] (eI a.abs):=by
 refine aO nf LN mix (by simp[f293]) ?_
 by_cases h:a.v<0
 ·have b:=(OR a).2 h;have e:a.abs=a.neg:=by rw[NI.abs,if_pos h];rfl
  simp[f293,ad,b];refine c1 (sF a c) ?_;simp[ad,e]
 ·have b:=mt (OR a).1 h;have e:a.abs=a:=by rw[NI.abs,if_neg h]
  simp[f293,ad,b,e]
def jB(x y:Int):Int:=if x<y then -1 else if x=y then 0 else 1
theorem MR(a b:NI)(m:okW a.v)(n:okW b.v):az prog 220 [eI a,eI b] (.int .i64 (jB a.v b.v)):=by
 refine aO nf Fq mix (by simp[f220]) ?_;have p:(a.sm=true/\b.sm=true)\/¬(a.sm=true/\b.sm=true):=b4 _;rcases p with⟨d,l⟩|d
 ·have f:=lG d;have g:=lG l;have j:=mq d;have k:=mq l;rcases cx a.v b.v with h|h|h
  ·have e:jB a.v b.v= -1:=by rw[jB,if_pos h]
   simp[f220,ad,f,g,j,k,h,e,di,cM]
  ·have e:jB b.v b.v=0:=by rw[jB,if_neg (by omega),if_pos rfl]
   have d:¬a.v<b.v:=by omega
   simp[f220,ad,f,g,j,k,h,e,di,cM]
  ·have e:jB a.v b.v=1:=by rw[jB,if_neg (by omega),if_neg (by omega)]
   have d:¬a.v<b.v:=by omega
   simp[f220,ad,f,g,j,k,h,d,e,di,cM]
 ·have e:(if(a.sub b).v<0 then(-1:Int)else if(a.sub b).v=0 then 0 else 1)=jB a.v b.v:=by
   rw[NI.OY,jB];rcases cx a.v b.v with h|h|h
   ·rw[if_pos (by omega),if_pos h]
   ·rw[if_neg (by omega),if_pos (by omega),if_neg (by omega),if_pos h]
   ·rw[if_neg (by omega),if_neg (by omega),if_neg (by omega),if_neg (by omega)]
  have i:=su (a.sub b);rw[e]at i;rcases hs:a.sm with _|_
  ·obtain⟨c,cs,f⟩:=nC hs;simp[f220,ad,f,di,cM];refine c2 (CN a b m n) ?_;simp;refine c1 i ?_;simp
  ·have f:=lG hs;obtain⟨c,cs,g⟩:=nC (a:=b) (by cases o:b.sm with|false=>rfl|true=>exact(d ⟨hs,o⟩).elim);simp[f220,ad,f,g,di,cM];refine c2 (CN a b m n) ?_;simp;refine c1 i ?_;simp
theorem RO{a b L M:Nat}(e:(aq wB a).length<=L)(f:(aq wB b).length<=M):(aq wB (a*b)).length<=L+M:=by
 refine dK ba _ _ ?_;have c:=ew (cj ba a) (e7 (show 0<wB by decide) e);have d:=ew (cj ba b) (e7 (show 0<wB by decide) f);rw[ge];exact gi c d
theorem yE(a b:NI)(K:(aq wB a.v.natAbs).length+(aq wB b.v.natAbs).length<=900000):az prog 190 [eI a,eI b] (eI (a.mul b)):=by
 have I:=nj (eI a) a.v (lJ a);have hq:=nj (eI b) b.v (lJ b);have G:=Sq a.v.natAbs b.v.natAbs (by omega);have N:=RO (gt (aq wB a.v.natAbs).length) (gt (aq wB b.v.natAbs).length);have z:=uS (decide (a.v<0)!=decide (b.v<0)) (a.v.natAbs*b.v.natAbs) (by omega);have e:(if(decide (a.v<0)!=decide (b.v<0))=true then -((a.v.natAbs*b.v.natAbs:Nat):Int)else(a.v.natAbs*b.v.natAbs:Nat))=a.v*b.v:=by
  rw[<-ck];rcases dk a.v 0 with j|j
  ·rcases dk b.v 0 with d|d
   ·have:=Int.mul_nonneg_of_nonpos_of_nonpos (c9 j) (c9 d);simp[j,d];omega
   ·have:=Int.mul_nonpos_of_nonpos_of_nonneg (c9 j) d;have o:¬b.v<0:=by omega
    simp[j,o];omega
  ·have o:¬a.v<0:=by omega
   rcases dk b.v 0 with d|d
   ·have:=Int.mul_nonpos_of_nonneg_of_nonpos j (c9 d);simp[o,d];omega
   ·have:=Int.mul_nonneg j d;have E:¬b.v<0:=by omega
    simp[o,E];omega
 rw[e]at z;rw[show a.mul b=.mk' (a.v*b.v)from rfl];refine aO nf MC mix (by simp[f190]) ?_;simp[f190,-bm];rw[bm];simp[-bm];refine join (fun s=>aM s.env 2=.ptr 0 []/\aM s.env 3=.ptr 1 []/\aM s.env 4=.ptr 2 []/\s.heap=[.box false (.p (eI a)),.box false (.p (eI b)),.box false (.p (.st 129 [.int .i64 0,.aG]))]) ?_ ?_
 ·rcases hs:a.sm with _|_
  ·obtain⟨c,cs,i⟩:=nC hs;simp[ad,i,di,cM]
  ·have i:=lG hs;rcases q:b.sm with _|_
   ·obtain⟨c,cs,k⟩:=nC q;simp[ad,i,k,di,cM]
   ·have k:=lG q;have f:=mq hs;have g:=mq q;have B:=NI.oL hs;have C:=NI.oL q;have t:=Cz a.v B.1 B.2;have u:=Cz b.v C.1 C.2;have M:=xI a.v.natAbs b.v.natAbs (by omega) (by omega);obtain⟨H,x⟩:∃H,H=a.v.natAbs*b.v.natAbs/18446744073709551616:=⟨_,rfl⟩
    obtain⟨L,r⟩:∃L,L=a.v.natAbs*b.v.natAbs% 18446744073709551616:=⟨_,rfl⟩
    rw[<-x,<-r]at M;have F:a.v.natAbs*b.v.natAbs=H*18446744073709551616+L:=by omega
    clear x r
    by_cases c1:H=0/\L<=9223372036854775807
    ·obtain⟨rfl,r⟩:=c1;have y:(L:Int)<=9223372036854775807:=by omega
     have w:cb.wrap (L:Int)=L:=aN _ (by omega) (by omega);have D:cb.wrap (-(L:Int))= -L:=aN _ (by omega) (by omega);rw[F]at e;simp only[g7,g8]at e;rw[nF (by rw[<-e];split<;>omega) (by rw[<-e];split<;>omega),eJ]
     by_cases c2:a.v<0↔b.v<0
     ·rw[if_neg (by simp[c2])]at e;rw[<-e];simp[ad,i,k,f,g,di,cM];refine e1 t ?_;simp[f,g];refine e1 u ?_;simp;refine e2 M ?_;simp[y,c2,ad,i,k,f,g,w]
     ·rw[if_pos (by simp[c2])]at e;rw[<-e];simp[ad,i,k,f,g,di,cM];refine e1 t ?_;simp[f,g];refine e1 u ?_;simp;refine e2 M ?_;simp[y,c2,ad,i,k,f,g,w,D]
    ·simp[ad,i,k,f,g,di,cM];refine e1 t ?_;simp[f,g];refine e1 u ?_;simp;refine e2 M ?_
     by_cases c2:H=0
     ·have c3:¬(L:Int)<=9223372036854775807:=fun h=>c1 ⟨c2,by omega⟩;simp[c2,c3]
     ·have c3:¬(H:Int)=0:=by omega
      simp[c2,c3]
 ·rintro⟨J,O⟩ ⟨l,m,n,A⟩;dsimp only at l m n A;subst A;simp[l,m,n];refine c1 I ?_;simp[l,m,n];refine c1 hq ?_;simp[l,m,n];refine c2 G ?_;simp;refine c2 z ?_;simp[l,m,n,ad]
  done
end Go.au
