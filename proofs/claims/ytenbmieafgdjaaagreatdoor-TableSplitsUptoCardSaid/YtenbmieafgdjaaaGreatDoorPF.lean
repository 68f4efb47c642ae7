import Derived.Test.YtenbmieafgdjaaaGreatDoorPE
/- Parts of a proof. -/
set_option linter.unusedSimpArgs false
set_option linter.unusedVariables false
set_option linter.unusedSectionVars false
open Go.Proofs.Tryz
open Bool renaming and_eq_true->b0, or_eq_true->b1
open Classical renaming choose_spec->b2, choose->b3, em->b4
open Go.IntKind renaming u64->b5, i64->cb, wrap_i64->cc
open Go.Lib renaming bitLen->ce
open Int renaming natAbs_mul->ck, natAbs_natCast->cv, lt_trichotomy->cx, natCast_mul->cy, lt_of_le_of_lt->cA, le_of_lt->cB, ediv_le_self->cC, ediv_nonneg->cN, natAbs_sign_of_ne_zero->c6, lt_or_le->c9
open List renaming getElem?_eq_getElem->da, range->db, exists_cons_of_ne_nil->dg, take_of_length_le->dk, length_nil->dl, map_congr_left->dp, range_one->dq, mem_range->dz, map_take->ea, map_cons->eb, map_nil->ec
open List.cons renaming injEq->ed
open Nat renaming mul_comm->ee, mod_eq_of_lt->ei, lt_of_lt_of_le->ej, div_lt_iff_lt_mul->en, pow_le_pow_right->eo, lt_of_le_of_lt->eq, mod_lt->ew, pow_succ->e6, pow_pos->e7, mul_le_mul_right->e8, mul_le_mul_left->e9, pow_zero->fb, mul_lt_mul_of_pos_right->fd, add_mul->fl, div_add_mod->fm, lt_or_ge->fv, pow_add->fN, add_mul_mod_self_right->gb, mul_lt_mul''->gc, div_le_self->ge, add_sub_cancel->gg, one_mul->gi, le_refl->gj, mul_assoc->gl, add_comm->gm, mul_right_comm->gt, div_eq_of_lt->gx, lt_trans->gy, div_div_eq_div_mul->gA, div_one->g0, div_mul_le_self->g2, zero_mul->g3, zero_add->g4, add_zero->g5, zero_le->g6, pow_one->g7, min_eq_left->g8, add_sub_cancel_left->g9, mul_mod_mul_right->ha, mul_div_mul_right->hb, add_mul_div_right->hd, mul_one->hg, mul_mod_mul_left->hj, eq_zero_or_pos->hl, lt_of_succ_lt->ho, mul_ne_zero->hp, mod_add_div->hr, lt_succ_iff->ht, mul_le_mul->hu, add_assoc->hv, zero_mod->hw, sub_zero->hy, gcd->hz, beq->hA, or_comm->hB, mul_add->hC, not_lt->hD
open Rat renaming divInt->hE, normalize_eq_mkRat->hF, sub_eq_add_neg->hG, num_eq_zero->hH
namespace Go.au
open Go.Proofs
set_option maxHeartbeats 4000000
set_option maxRecDepth 100000
theorem zp(n:Nat):b5.wrap (n:Int)=(n% wB:Nat):=by
 rw[show b5.wrap (n:Int)=(n:Int)% 18446744073709551616 from rfl];rfl
theorem xL(x s:Nat)(hs:s<64):b5.wrap ((x:Int)*2^(min s b5.bits))=(x*2^s% wB:Nat):=by
 rw[show b5.bits=64 from rfl,g8 (by omega),<-zp];congr 1
theorem uV(x s:Nat)(hs:s<=64):(x:Int).fdiv (2^(min s b5.bits))=(x/2^s:Nat):=by
 rw[show b5.bits=64 from rfl,g8 hs,show(2:Int)^s=((2^s:Nat):Int)by push_cast;rfl,Int.fdiv_eq_ediv_of_nonneg _ (Int.natCast_nonneg _)];rfl
theorem Fw(a b:Nat)(c:a<wB)(d:b<wB):b5.wrap ((a% 2^b5.bits|||b% 2^b5.bits:Nat):Int)=(a|||b:Nat):=by
 rw[show(2^b5.bits:Nat)=wB from rfl,ei c,ei d,zp,ei];exact Nat.or_lt_two_pow (n:=64) c d
def cu(a s i:Nat):Nat:=if i=0 then 0 else ae wB a (i-1)/2^(64-s)
def gB(a s i k:Nat):Nat:=if k<i then ae wB (a*2^s) k else if k=i then cu a s i else 0
theorem zR{s:Nat}(hs:s<64):2^s*2^(64-s)=wB:=by rw[<-fN,show s+(64-s)=64 by omega];rfl
theorem MS(a s i:Nat)(hs:s<64):cu a s i|||(ae wB a i*2^s% wB)=ae wB (a*2^s) i:=by
 have c:0<2^s:=e7 (by decide);have d:0<2^(64-s):=e7 (by decide);have b:=zR hs;have hc:cu a s i<2^s:=by
  rw[cu];split
  ·exact c
  ·rw[en d,b];exact ct bp _ _
 have e:ae wB a i*2^s% wB=ae wB a i% 2^(64-s)*2^s:=by
  rw[<-b,ee,hj,ee]
 rw[hB,e,DY hc,<-e];cases i with
 |zero=>rw[cu,if_pos rfl,g5,<-b];exact(Xr a).symm
 |succ i=>rw[cu,if_neg (by omega),gg,<-b];exact(Xs c d a i).symm
theorem Cf{n:Nat}{f g:Nat->Nat}(h:∀k,k<n->f k=g k):ch n f=ch n g:=by
 rw[ch,ch];exact dp fun k hk=>by rw[h k (dz.1 hk)]
theorem Z0(a s n:Nat)(hs:s<64)(h:ae wB a n=0):cu a s n=ae wB (a*2^s) n:=by
 rw[<-MS a s n hs,h,g3,hw,Nat.or_zero]
theorem Lc(a s:Nat)(hs:s<64)(A:(az wB a).length<=1000000):cw prog 332 [] [.p (eN a),.p (.int .i64 s)] [.arr .exact 0 1 (ch ((az wB a).length+1) (ae wB (a*2^s)))] (.sl 0 0 1 0 ((az wB a).length+1)):=by
 refine fV nf O3 mix (by simp[f332]) ?_;have C:∀i(h:i<(az wB a).length),(az wB a)[i]=ae wB a i:=fun i h=>eH bp h;have F:=@Dv a;simp only[eN];generalize az wB a=x at*;obtain⟨n,c⟩:∃n,x.length=n:=⟨_,rfl⟩
 rw[c]at A;have J:cb.wrap ((n:Int)+1)=(n:Int)+1:=cr (by omega);simp[f332,c,J];refine⟨⟨by omega,by simp only[cZ];omega⟩,?_⟩;rw[C5 (f:=gB a s 0) (by intro j;simp[gB,cu])];refine lp (α:=Nat) (fun i=>⟨[(14,.p (.int .i64 i)),(13,.p (.int .i64 n)),(12,.p (.seq (x.map fun x:Nat=>.int .u64 x))),(5,.sl 0 0 1 0 (n+1)),(1,.p (.int .i64 s))],[.arr .exact 0 1 (ch (n+1) (gB a s i))]⟩)
  (fun i=>i<=n) (fun i=>n-i) 0 (by simp) ?_ (he:=by simp)
 intro i k1;have w:=cr (i:=i) (by omega)
 by_cases hi:i<n
 ·have l:i<x.length:=by rw[c];exact hi
  have hx:=C i l;have e:i<n+1:=by omega
  have o:=mK (gB a s i) e;have E:ae wB a i*2^s% wB<wB:=ew _ (by decide);have B:gB a s i i<wB:=by
   rw[gB,if_neg (by omega),if_pos rfl,cu];split
   ·decide
   ·exact eq (ge _ _) (ct bp _ _)
  have e1:=xL (ae wB a i) s hs;have e2:=Fw (gB a s i i) (ae wB a i*2^s% wB) B E;have e3:gB a s i i|||(ae wB a i*2^s% wB)=ae wB (a*2^s) i:=by rw[<-MS a s i hs,gB,if_neg (by omega),if_pos rfl]
  rw[e3]at e2;have y:cb.wrap (64-(s:Int))=((64-s:Nat):Int):=by rw[aO _ (by omega) (by omega)];omega
  have e4:=uV (ae wB a i) (64-s) (by omega);have r:i+1<n+1:=by omega
  have u:=pK (n:=n+1) (i:=i) (f:=gB a s i) (g:=fun k=>if k=i then ae wB (a*2^s) i else gB a s i k) (if_pos rfl) (fun k hk=>if_neg hk);have G:=pK (n:=n+1) (i:=i+1) (v:=ae wB a i/2^(64-s)) (f:=fun k=>if k=i then ae wB (a*2^s) i else gB a s i k) (g:=gB a s (i+1)) (by
   simp[gB,cu]) (fun k hk=>by
   by_cases d:k=i
   ·subst d;simp[gB]
   ·simp only[gB,d,if_false]
    by_cases b:k<i
    ·rw[if_pos (by omega),if_pos b]
    ·rw[if_neg (by omega),if_neg hk,if_neg b])
  have D:=mK (n:=n+1) (fun k=>if k=i then ae wB (a*2^s) i else gB a s i k) r;have H:s=0->ch (n+1) (fun k=>if k=i then ae wB (a*2^s) i else gB a s i k)=ch (n+1) (gB a s (i+1)):=fun h=>by
   have K:ae wB a i/2^(64-s)=0:=by rw[h];exact gx (ct bp _ _)
   refine Cq fun k=>?_
   by_cases d:k=i
   ·subst d;simp[gB]
   ·simp only[gB,d,if_false]
    by_cases b:k<i
    ·rw[if_pos b,if_pos (by omega)]
    ·by_cases q:k=i+1
     ·rw[q,if_neg (by omega),if_neg (by omega),if_pos rfl,cu,if_neg (by omega),gg,K]
     ·rw[if_neg b,if_neg (by omega),if_neg q]
  generalize ae wB a i*2^s% wB=L at*;generalize ae wB a i/2^(64-s)=M at*;generalize (fun k=>if k=i then ae wB (a*2^s) i else gB a s i k)=g1 at*;obtain⟨t,I⟩:∃t,t=64-s:=⟨_,rfl⟩
  rw[<-I]at y e4
  by_cases m:0<s
  ·simp[c,hi,e,l,hx,o,e1,e2,m,y,e4,w,u,r,D,G,ad,aL,bI];refine⟨⟨by rfl,by rfl,by rfl⟩,?_⟩;refine⟨by omega,?_⟩;exact rd (i+1) (show i+1<=n by omega)
  ·have z:s=0:=by omega
   simp[c,hi,e,l,hx,o,e1,e2,m,w,u,H z,ad,aL,bI];refine⟨⟨by rfl,by rfl,by rfl⟩,?_⟩;exact rd (i+1) (show i+1<=n by omega)
 have:i=n:=by omega
 subst this;simp[c];refine .inl (Cf fun k hk=>?_);rw[gB]
 by_cases b:k<i
 ·rw[if_pos b]
 ·obtain rfl:k=i:=by omega
  rw[if_neg b,if_pos rfl,Z0 a s k hs (F (by omega))]
theorem yN:∀(n x:Nat),x<=n->0<x->x<2^64->1<=ce x/\2^(ce x-1)<=x/\x<2^ce x
 |0,x,h,a,_=>by omega
 |n+1,x,h,a,c=>by
  have d:=Lib.bitLen_half x (by omega) c
  by_cases b:x=1
  ·subst b;decide
  ·obtain⟨i1,i2,i3⟩:=yN n (x/2) (by omega) (by omega) (by omega);rw[d];generalize ce (x/2)=L at*;obtain⟨k,rfl⟩:∃k,L=k+1:=⟨L-1,by omega⟩
   rw[show 1+(k+1)=k+2 by omega,show k+2-1=k+1 by omega,e6,e6];rw[e6]at i3;simp only[gg]at i2;omega
theorem PM{x:Nat}(a:0<x)(h:x<2^64):ce x<=64:=by
 obtain⟨_,b,_⟩:=yN x x (gj _) a h;have:=(Nat.pow_lt_pow_iff_right (show 1<2 by decide)).1 (eq b h);omega
def wH:Nat:=4294967296
theorem wHH:wH*wH=wB:=rfl
theorem Mk{y:Nat}(a:0<y)(h:y<2^64):∃s,s<64/\ce y+s=64/\wB<=2*(y*2^s)/\y*2^s<wB:=by
 obtain⟨d,b,c⟩:=yN y y (gj _) a h;have e:=PM a h;refine⟨64-ce y,by omega,by omega,?_,?_⟩
 ·have:=e8 (2^(64-ce y)) b;rw[<-fN,show ce y-1+(64-ce y)=63 by omega]at this;simp only[wB];omega
 ·have:=fd c (e7 (show 0<2 by decide) (n:=64-ce y));rw[<-fN,show ce y+(64-ce y)=64 by omega]at this;simp only[wB];omega
structure Sc(hi lo y s:Nat) where
 Y:Nat
 v1:Nat
 v0:Nat
 T:Nat
 u:Nat
 u1:Nat
 u0:Nat
 q1:Nat
 R:Nat
 q0:Nat
 hY:Y=y*2^s
 eY:Y=v1*wH+v0
 Be:v1<wH
 lL:v0<wH
 uY:wH<=2*v1
 xP:T<Y
 AZ:hi*2^s<wB
 Fx:hi*2^s|||lo/2^(64-s)=T
 eu:u=lo*2^s% wB
 ED:u1=u/wH
 EC:u0=u% wH
 Bc:u1<wH
 Bb:u0<wH
 oI:q1=hq wH v1 v0 T u1
 A6:q1<wH
 eR:R=T*wH+u1-q1*Y
 xO:R<Y
 RH:q1*Y<=T*wH+u1
 xy:q0=hq wH v1 v0 R u0
 A5:q0<wH
 RG:q0*Y<=R*wH+u0
 Dz:q1*wH+q0=(hi*wB+lo)/y
 rem:(R*wH+u0-q0*Y)/2^s=(hi*wB+lo)% y
theorem ajY{hi lo y:Nat}(o:hi<y)(H:y<wB)(B:lo<wB):∃s,s<64/\ce y+s=64/\Nonempty (Sc hi lo y s):=by
 obtain⟨s,hs,w,J,m⟩:=Mk (y:=y) (by omega) H;have g:=zR hs;have a:0<2^s:=e7 (by decide);have x:0<2^(64-s):=e7 (by decide);refine⟨s,hs,w,⟨?_⟩⟩;have e0:y*2^s=y*2^s/wH*wH+y*2^s% wH:=by rw[ee _ wH,fm]
 have E:y*2^s% wH<wH:=ew _ (by decide);have F:y*2^s/wH<wH:=by rw[en (by decide)];exact m
 have G:wH<=2*(y*2^s/wH):=by simp only[wH,wB]at*;omega
 have A:lo/2^(64-s)<2^s:=by rw[en x,g];exact B
 have v:hi*2^s<wB:=gy (fd o a) m;have h:hi*2^s+lo/2^(64-s)<y*2^s:=by
  have:=e8 (2^s) (show hi+1<=y from o);rw[fl,gi]at this;omega
 have C:hi*2^s|||lo/2^(64-s)=hi*2^s+lo/2^(64-s):=DY A
 have n:lo*2^s% wB/wH<wH:=by rw[en (by decide)];exact ew _ (by decide)
 have b:lo*2^s% wB% wH<wH:=ew _ (by decide);have i:(hi*wB+lo)*2^s=((hi*2^s+lo/2^(64-s))*wH+lo*2^s% wB/wH)*wH+lo*2^s% wB% wH:=by
  have e1:lo*2^s=lo/2^(64-s)*wB+lo*2^s% wB:=by
   have e2:lo*2^s/wB=lo/2^(64-s):=by
    rw[<-g,ee lo,Nat.mul_div_mul_left _ _ a]
   rw[<-e2,ee _ wB,fm]
  have e3:lo*2^s% wB=lo*2^s% wB/wH*wH+lo*2^s% wB% wH:=by rw[ee _ wH,fm]
  rw[fl,gt,e1,fl (_*wH),gl (_+_) wH wH,wHH,fl];generalize hi*2^s*wB=I;rw[<-e1];generalize lo*2^s% wB=a2 at*;generalize lo/2^(64-s)*wB=a3 at*;omega
 have l:0<y*2^s:=by omega
 obtain⟨e,d⟩:=awu (Y:=y*2^s) (U:=(hi*wB+lo)*2^s) (c:=wH) l;have j:(hi*wB+lo)*2^s/wH=(hi*2^s+lo/2^(64-s))*wH+lo*2^s% wB/wH:=by
  rw[i,gm,hd _ _ (by decide),gx b,g4]
 have k:(hi*wB+lo)*2^s% wH=lo*2^s% wB% wH:=by
  rw[i,gm,gb,ei b]
 rw[j,k,hb _ _ a]at e;rw[j,k,ee _ (2^s),ee y,hj]at d;rw[ee (2^s) y]at d;generalize z:y*2^s=Y at*;generalize hi*2^s+lo/2^(64-s)=T at*;generalize D:lo*2^s% wB=u at*;have t:=NW (T:=T) (c:=wH) (u1:=u/wH) (v1:=Y/wH) (v0:=Y% wH);rw[<-e0]at t;have r:=NW (T:=(T*wH+u/wH)% Y) (c:=wH) (u1:=u% wH) (v1:=Y/wH) (v0:=Y% wH);rw[<-e0]at r;have q:hq wH (Y/wH) (Y% wH) T (u/wH)=(T*wH+u/wH)/Y:=by rw[hq,<-e0]
 have p:hq wH (Y/wH) (Y% wH) ((T*wH+u/wH)% Y) (u% wH)=((T*wH+u/wH)% Y*wH+u% wH)/Y:=by rw[hq,<-e0]
 have f:(T*wH+u/wH)% Y<Y:=ew _ l;exact{
  Y:=Y,v1:=Y/wH,v0:=Y% wH,T:=T,u:=u,u1:=u/wH,u0:=u% wH
  q1:=hq wH (Y/wH) (Y% wH) T (u/wH),R:=(T*wH+u/wH)% Y,q0:=hq wH (Y/wH) (Y% wH) ((T*wH+u/wH)% Y) (u% wH)
  hY:=z.symm,eY:=e0,Be:=F,lL:=E,uY:=G,xP:=h,AZ:=v,Fx:=C,eu:=D.symm,ED:=rfl,EC:=rfl,Bc:=n,Bb:=b
  oI:=rfl,A6:=Qm (by rw[<-e0];exact h) n,eR:=t.symm,xO:=f
  RH:=by rw[q];exact g2 _ _
  xy:=rfl,A5:=Qm (by rw[<-e0];exact f) b
  RG:=by rw[p];exact g2 _ _
  Dz:=by rw[q,p,<-e]
  rem:=by rw[r,<-d,Nat.mul_div_cancel_left _ a]}
section
variable[Gl]{P:Program}{ag:FuncId->Bool}{q:Nat×Nat}
theorem sq{b:Code}{Q:bC->St->Prop}{s:St}{id:Nat}(R:St->Prop)(f:ff P ag q (.loop b) (rC id (rO R (fun _ _=>False))) s)(c:∀s',R s'->Q .normal s'):ff P ag q (.loop b) (rC id Q) s:=by
 refine nJ _ (fun e s a=>?_) f;cases e with
 |normal=>exact c s a
 |exit i=>
  simp only[rC,n9]at a⊢
  by_cases d:i=id
  ·simp[d,rO]at a⊢;exact c s a
  ·simp[d,rO]at a
 |ret=>exact a.elim
end
theorem Ll(a:Nat)(b:a<wB):b5.wrap ((a% 2^b5.bits&&&4294967295% 2^b5.bits:Nat):Int)=(a% wH:Nat):=by
 rw[show(2^b5.bits:Nat)=wB from rfl,ei b,show 4294967295% wB=2^32-1 from rfl,Nat.and_two_pow_sub_one_eq_mod,zp];rw[show(2:Nat)^32=wH from rfl,ei (ej (ew _ (by decide)) (show wH<=wB by decide))]
theorem Sa{a b c:Int}{R:Nat}(h:a+b-c=R)(hR:R<wB):b5.wrap (b5.wrap (b5.wrap a+b)-b5.wrap c)=R:=by
 show(((a% 18446744073709551616+b)% 18446744073709551616)-c% 18446744073709551616)% 18446744073709551616=R;have:R<18446744073709551616:=hR;omega
theorem Od(hi lo y:Nat)(aE:hi<y)(aj:y<wB)(ah:lo<wB):aC prog 330 [.int .u64 hi,.int .u64 lo,.int .u64 y] (.aG [.int .u64 ((hi*wB+lo)/y:Nat),.int .u64 ((hi*wB+lo)% y:Nat)]):=by
 refine aM nf O4 mix (by simp[f330]) ?_;have H:¬(y:Int)=0:=by omega
 have N:¬(y:Int)<=hi:=by omega
 have af:¬y<=hi:=by omega
 have ae:¬y=0:=by omega
 by_cases ad:hi=0
 ·subst ad;have ag:b5.wrap ((lo:Int)/y)=(lo:Int)/y:=fC _ (cN (by omega) (by omega)) (cA (cC _ (by omega)) (by omega));have ay:(lo:Int).tmod y=(lo:Int)% y:=Int.tmod_eq_emod_of_nonneg (by omega);simp[f330,H,N,ae,af,ag,ay]
 obtain⟨s,hs,aT,⟨Y,b,v0,T,u,u1,u0,q1,R,q0,ac,eY,Be,lL,uY,xP,AZ,Fx,eu,ED,EC,Bc,Bb,oI,A6,eR,xO,RH,xy,A5,RG,Dz,rem⟩⟩:=ajY aE aj ah;have aB:=Pc y aj;obtain⟨t,ai⟩:∃t,t=64-s:=⟨_,rfl⟩
 have O:wH=4294967296:=rfl;have az:wB=18446744073709551616:=rfl;have X:Y<wB:=by
  rw[O]at Be lL eY;rw[az];omega
 have av:b5.wrap (64-((ce y:Nat):Int))=s:=by rw[fC _ (by omega) (by omega)];omega
 have f2:b5.wrap (64-(s:Int))=t:=by rw[fC _ (by omega) (by omega)];omega
 have f3:b5.wrap ((y:Int)*2^(min s b5.bits))=Y:=by rw[xL y s hs,<-ac,ei X]
 have f4:(Y:Int).fdiv (2^(min 32 b5.bits))=b:=by
  rw[uV Y 32 (by omega)];rw[O]at lL eY;congr 1;omega
 have f5:b5.wrap ((hi:Int)*2^(min s b5.bits))=(hi*2^s:Nat):=by rw[xL hi s hs,ei AZ]
 have f6:(lo:Int).fdiv (2^(min t b5.bits))=(lo/2^t:Nat):=uV lo t (by omega);have f7:=Fw (hi*2^s) (lo/2^t) AZ (eq (ge _ _) ah);rw[ai,Fx,<-ai]at f7;have f8:b5.wrap ((lo:Int)*2^(min s b5.bits))=u:=by rw[xL lo s hs,<-eu]
 have aQ:u<wB:=by rw[eu];exact ew _ (by decide)
 have f9:(u:Int).fdiv (2^(min 32 b5.bits))=u1:=by
  rw[uV u 32 (by omega)];congr 1;rw[ED];rfl
 have d:0<b:=by rw[O]at uY;omega
 have am:¬b=0:=by omega
 have an:¬(b:Int)=0:=by omega
 have aR:T<wB:=by omega
 generalize hi*2^s=aS at*;generalize lo/2^t=aU at*;have aI:T/b<=wH+1:=Ql d (by rw[<-eY];exact xP) uY lL;have aO:T/b*b+T% b=T:=by rw[ee,fm]
 have aV:T% b<b:=ew _ d;have aK:=NX (T:=T) (u1:=u1) d lL Bc;have aw:b5.wrap ((T:Int)/b)=(T/b:Nat):=by rw[fC _ (cN (by omega) (by omega)) (cA (cC _ (by omega)) (by omega))];rfl
 generalize T/b=K at*;generalize T% b=ak at*;have ax:b5.wrap ((T:Int)-b5.wrap ((K:Int)*b))=ak:=by
  have e:((K*b:Nat):Int)=(K:Int)*b:=by push_cast;rfl
  rw[fC ((K:Int)*b) (by omega) (by omega),fC _ (by omega) (by omega)];omega
 have aa:=Ll Y X;have ab:=Ll u aQ;rw[show Y% wH=v0 by rw[eY,gm,gb,ei lL]]at aa;rw[<-EC]at ab;have a1:b<4294967296:=Be;have aZ:v0<4294967296:=lL;have aY:u1<4294967296:=Bc;have aX:u0<4294967296:=Bb;have a0:4294967296<=2*b:=uY;have aJ:R/b<=wH+1:=Ql d (by rw[<-eY];exact xO) uY lL;have aP:R/b*b+R% b=R:=by rw[ee,fm]
 have aW:R% b<b:=ew _ d;have aq:R<wB:=by omega
 have aL:=NX (T:=R) (u1:=u0) d lL Bb;have aF:b5.wrap ((R:Int)/b)=(R/b:Nat):=by rw[fC _ (cN (by omega) (by omega)) (cA (cC _ (by omega)) (by omega))];rfl
 generalize R/b=L at*;generalize R% b=al at*;have aG:b5.wrap ((R:Int)-b5.wrap ((L:Int)*b))=al:=by
  have e:((L*b:Nat):Int)=(L:Int)*b:=by push_cast;rfl
  rw[fC ((L:Int)*b) (by omega) (by omega),fC _ (by omega) (by omega)];omega
 have ao:b5.wrap (b5.wrap (b5.wrap ((T:Int)*4294967296)+u1)-b5.wrap ((q1:Int)*Y))=R:=by
  refine Sa (h:=?_) (hR:=aq);have e1:((T*wH:Nat):Int)=(T:Int)*4294967296:=by push_cast;rfl
  have e2:((q1*Y:Nat):Int)=(q1:Int)*Y:=by push_cast;rfl
  omega
 have M2:b5.wrap (b5.wrap ((q1:Int)*4294967296)+q0)=((q1*wH+q0:Nat):Int):=by
  have H:q1*4294967296+q0<18446744073709551616:=by
   have N:q1<4294967296:=A6;have ag:q0<4294967296:=A5;omega
  rw[fC ((q1:Int)*4294967296) (by omega) (by omega),fC _ (by omega) (by omega)];push_cast;rfl
 obtain⟨Z,P⟩:∃Z,Z=R*wH+u0-q0*Y:=⟨_,rfl⟩
 have ar:Z<wB:=by
  have H:Z/2^s<y:=by rw[P,rem];exact ew _ (by omega)
  rw[en (e7 (by decide)),<-ac]at H;omega
 have ap:b5.wrap (b5.wrap (b5.wrap ((R:Int)*4294967296)+u0)-b5.wrap ((q0:Int)*Y))=Z:=by
  refine Sa (h:=?_) (hR:=ar);have e1:((R*wH:Nat):Int)=(R:Int)*4294967296:=by push_cast;rfl
  have e2:((q0*Y:Nat):Int)=(q0:Int)*Y:=by push_cast;rfl
  omega
 have M:=uV Z s (by omega);rw[P,rem]at M;rw[<-P]at M;rw[Dz]at M2;simp[f330,H,N,ae,af,ad];refine c1 aB ?_;simp[av,f2,f3,f4,f5,f6,f7,f8,f9,am,an,aw,ax,aa,ab];refine sq (fun s'=>aN s'.env 15=.p (.int .u64 q1)/\aN s'.env 14=.p (.int .u64 u0)/\aN s'.env 13=.p (.int .u64 u1)/\aN s'.env 11=.p (.int .u64 T)/\aN s'.env 10=.p (.int .u64 v0)/\aN s'.env 9=.p (.int .u64 b)/\aN s'.env 8=.p (.int .u64 s)/\aN s'.env 2=.p (.int .u64 Y)/\s'.heap=[]) ?_ ?_
 ·refine lp (α:=Nat×Nat) (fun a=>⟨[(16,.p (.int .u64 a.2)),(15,.p (.int .u64 a.1)),(14,.p (.int .u64 u0)),(13,.p (.int .u64 u1)),(11,.p (.int .u64 T)),(10,.p (.int .u64 v0)),(9,.p (.int .u64 b)),(8,.p (.int .u64 s)),(2,.p (.int .u64 Y))],[]⟩) (fun a=>a.1*b+a.2=T/\hq wH b v0 T u1<=a.1/\a.2<wH/\a.1<=wH+1) (fun a=>a.1) (K,ak) ⟨aO,aK,by omega,aI⟩ ?_;rintro⟨x,r⟩ ⟨k1,k2,k3,k4⟩;dsimp only at k1 k2 k3 k4;have aH:r<4294967296:=k3;have W:x<=4294967297:=k4;have g:b5.wrap ((x:Int)*v0)=(x*v0:Nat):=by
   have:=hu W (show v0<=4294967295 by omega);rw[fC _ (by rw[<-cy];omega) (by rw[<-cy];omega)];push_cast;rfl
  have v:b5.wrap (4294967296*(r:Int))=4294967296*r:=fC _ (by omega) (by omega);have w:b5.wrap (4294967296*(r:Int)+u1)=4294967296*r+u1:=fC _ (by omega) (by omega);have m:b5.wrap ((r:Int)+b)=r+b:=fC _ (by omega) (by omega)
  by_cases i:4294967296<=x\/4294967296*r+u1<x*v0
  ·have j:=Pj d (show 0<wH by decide) k1 k2 (i.imp (fun h=>⟨h,by rw[<-oI];exact A6⟩) id);obtain⟨k,rfl⟩:∃k,x=k+1:=⟨x-1,by
    rcases i with h|h
    ·omega
    ·rcases hl x with e|e
     ·rw[e]at h;omega
     ·omega⟩
   have l:b5.wrap (k:Int)=k:=fC _ (by omega) (by omega);have k5:k*b+(r+b)=T:=by rw[<-k1,fl];omega
   rw[gg]at j;have kB:k<=wH+1:=by omega
   by_cases Q:4294967296<=r+b
   ·have hq:=MC d (by rw[<-eY];exact xP) lL k5 Q j;have f:(4294967296:Int)<=(r:Int)+b:=by omega
    rw[<-oI]at hq;subst hq;rcases fv (k+1) 4294967296 with hc|hc
    ·have n:((k:Int)+1<4294967296):=by omega
     have c:¬((4294967296:Int)<=(k:Int)+1):=by omega
     have o:(4294967296*(r:Int)+u1<((k+1)*v0:Nat)):=by omega
     have q:4294967296*r+u1<(k+1)*v0:=by omega
     generalize (k+1)*v0=J at*;push_cast at g;simp[g,v,w,l,m,n,c,o,q,f]
    ·have c:((4294967296:Int)<=(k:Int)+1):=by omega
     simp[l,m,c,f]
   ·have f:¬(4294967296:Int)<=(r:Int)+b:=by omega
    rcases fv (k+1) 4294967296 with hc|hc
    ·have n:((k:Int)+1<4294967296):=by omega
     have c:¬((4294967296:Int)<=(k:Int)+1):=by omega
     have o:(4294967296*(r:Int)+u1<((k+1)*v0:Nat)):=by omega
     have q:4294967296*r+u1<(k+1)*v0:=by omega
     generalize (k+1)*v0=J at*;push_cast at g;simp[g,v,w,l,m,n,c,o,q,f];exact rd (k,r+b) ⟨k5,j,show r+b<4294967296 by omega,kB⟩
    ·have c:((4294967296:Int)<=(k:Int)+1):=by omega
     simp[l,m,c,f];exact rd (k,r+b) ⟨k5,j,show r+b<4294967296 by omega,kB⟩
  ·have aD:¬4294967296<=x:=fun h=>i (.inl h);have U:¬4294967296*r+u1<x*v0:=fun h=>i (.inr h);have hq:=Dq d (show 0<wH by decide) k1 k2 (hD.1 U);rw[<-oI]at hq;subst hq;have S:¬(4294967296:Int)<=x:=by omega
   have V:¬(4294967296*(r:Int)+u1<(x*v0:Nat)):=by omega
   generalize x*v0=J at*;simp[g,v,w,S,V]
 rintro⟨au,aA⟩ ⟨z,A,B,C,D,E,F,G,I⟩;dsimp only at z A B C D E F G I;subst I;simp[z,A,B,C,D,E,F,G,ao,am,an,aF,aG];refine sq (fun s'=>aN s'.env 18=.p (.int .u64 q0)/\aN s'.env 15=.p (.int .u64 q1)/\aN s'.env 17=.p (.int .u64 R)/\aN s'.env 14=.p (.int .u64 u0)/\aN s'.env 10=.p (.int .u64 v0)/\aN s'.env 9=.p (.int .u64 b)/\aN s'.env 8=.p (.int .u64 s)/\aN s'.env 2=.p (.int .u64 Y)/\s'.heap=[]) ?_ ?_
 ·refine lp (α:=Nat×Nat) (fun a=>⟨[(16,.p (.int .u64 a.2)),(18,.p (.int .u64 a.1)),(15,.p (.int .u64 q1)),(17,.p (.int .u64 R)),(14,.p (.int .u64 u0)),(10,.p (.int .u64 v0)),(9,.p (.int .u64 b)),(8,.p (.int .u64 s)),(2,.p (.int .u64 Y))],[]⟩) (fun a=>a.1*b+a.2=R/\hq wH b v0 R u0<=a.1/\a.2<wH/\a.1<=wH+1) (fun a=>a.1) (L,al) ⟨aP,aL,by omega,aJ⟩ ?_ (he:=by simp[z,A,B,C,D,E,F,G]);rintro⟨x,r⟩ ⟨k1,k2,k3,k4⟩;dsimp only at k1 k2 k3 k4;have aH:r<4294967296:=k3;have W:x<=4294967297:=k4;have g:b5.wrap ((x:Int)*v0)=(x*v0:Nat):=by
   have:=hu W (show v0<=4294967295 by omega);rw[fC _ (by rw[<-cy];omega) (by rw[<-cy];omega)];push_cast;rfl
  have v:b5.wrap (4294967296*(r:Int))=4294967296*r:=fC _ (by omega) (by omega);have w:b5.wrap (4294967296*(r:Int)+u0)=4294967296*r+u0:=fC _ (by omega) (by omega);have m:b5.wrap ((r:Int)+b)=r+b:=fC _ (by omega) (by omega)
  by_cases i:4294967296<=x\/4294967296*r+u0<x*v0
  ·have j:=Pj d (show 0<wH by decide) k1 k2 (i.imp (fun h=>⟨h,by rw[<-xy];exact A5⟩) id);obtain⟨k,rfl⟩:∃k,x=k+1:=⟨x-1,by
    rcases i with h|h
    ·omega
    ·rcases hl x with e|e
     ·rw[e]at h;omega
     ·omega⟩
   have l:b5.wrap (k:Int)=k:=fC _ (by omega) (by omega);have k5:k*b+(r+b)=R:=by rw[<-k1,fl];omega
   rw[gg]at j;have kB:k<=wH+1:=by omega
   by_cases Q:4294967296<=r+b
   ·have hq:=MC d (by rw[<-eY];exact xO) lL k5 Q j;have f:(4294967296:Int)<=(r:Int)+b:=by omega
    rw[<-xy]at hq;subst hq;rcases fv (k+1) 4294967296 with hc|hc
    ·have n:((k:Int)+1<4294967296):=by omega
     have c:¬((4294967296:Int)<=(k:Int)+1):=by omega
     have o:(4294967296*(r:Int)+u0<((k+1)*v0:Nat)):=by omega
     have q:4294967296*r+u0<(k+1)*v0:=by omega
     generalize (k+1)*v0=J at*;push_cast at g;simp[g,v,w,l,m,n,c,o,q,f]
    ·have c:((4294967296:Int)<=(k:Int)+1):=by omega
     simp[l,m,c,f]
   ·have f:¬(4294967296:Int)<=(r:Int)+b:=by omega
    rcases fv (k+1) 4294967296 with hc|hc
    ·have n:((k:Int)+1<4294967296):=by omega
     have c:¬((4294967296:Int)<=(k:Int)+1):=by omega
     have o:(4294967296*(r:Int)+u0<((k+1)*v0:Nat)):=by omega
     have q:4294967296*r+u0<(k+1)*v0:=by omega
     generalize (k+1)*v0=J at*;push_cast at g;simp[g,v,w,l,m,n,c,o,q,f];exact rd (k,r+b) ⟨k5,j,show r+b<4294967296 by omega,kB⟩
    ·have c:((4294967296:Int)<=(k:Int)+1):=by omega
     simp[l,m,c,f];exact rd (k,r+b) ⟨k5,j,show r+b<4294967296 by omega,kB⟩
  ·have aD:¬4294967296<=x:=fun h=>i (.inl h);have U:¬4294967296*r+u0<x*v0:=fun h=>i (.inr h);have hq:=Dq d (show 0<wH by decide) k1 k2 (hD.1 U);rw[<-xy]at hq;subst hq;have S:¬(4294967296:Int)<=x:=by omega
   have V:¬(4294967296*(r:Int)+u0<(x*v0:Nat)):=by omega
   generalize x*v0=J at*;simp[g,v,w,S,V]
 rintro⟨au,aA⟩ ⟨z,A,B,C,D,E,F,G,I⟩;dsimp only at z A B C D E F G I;subst I;simp[z,A,B,C,D,E,F,G,M2,ap,M]
def dK(j n:Nat)(g f:Nat->Nat)(k:Nat):Nat:=if j<=k/\k<j+n then f (k-j)else g k
theorem tG{j:Nat}{g f:Nat->Nat}:dK j 0 g f=g:=by
 funext k;rw[dK,if_neg (by omega)]
theorem yZ{m j i:Nat}{g f:Nat->Nat}{v:Nat}(a:f i=v):(ch m (dK j i g f)).set (j+i) (.p (.int .u64 v))=ch m (dK j (i+1) g f):=by
 refine pK ?_ fun k hk=>?_
 ·rw[dK,if_pos (by omega),g9,a]
 ·rw[dK,dK]
  by_cases h:j<=k/\k<j+i
  ·rw[if_pos h,if_pos (by omega)]
  ·rw[if_neg h,if_neg (by omega)]
theorem y0{m j i:Nat}{g f:Nat->Nat}(h:j+i<m):(ch m (dK j i g f))[j+i]?=some (.p (.int .u64 (g (j+i)))):=by
 rw[mK _ h,dK,if_neg (by omega)]
theorem X6{j n:Nat}{g f a:Nat->Nat}:dK j n (dK j n g f) a=dK j n g a:=by
 funext k;rw[dK,dK,dK];split<;>rfl
theorem ati(X V m j n:Nat)(t:(az wB V).length=n)(G:2<=n)(bv:j+n+1<=m)(bz:m<=1000002)(a2:X<V*wB^(j+1)):
 cw prog 333 [.arr .exact 0 1 (ch m (ae wB X))] [.sl 0 0 1 j (n+1),.p (eN V)] [.arr .exact 0 1 (ch m (ae wB (X% (V*wB^j))))] (.p (.int .u64 (X/(V*wB^j):Nat))):=by
 refine fV nf HM mix (by simp[f333]) ?_;have l:=cm bp V;have I:wB^(n-1)<=V:=by
  rcases fv V (wB^(n-1))with h|h
  ·have:=dT bp (n-1) V h;omega
  ·exact h
 rw[t]at l;have U:∀i(h:i<(az wB V).length),(az wB V)[i]=ae wB V i:=fun i h=>eH bp h;have aM:0<V:=CR bp G I;obtain⟨W,w⟩:∃W,X/wB^j=W:=⟨_,rfl⟩
 have ag:W<V*wB:=by
  rw[<-w,en (e7 (by decide)),gl,ee wB,<-e6];exact a2
 have T:W<wB^(n+1):=gy ag (by rw[e6];exact fd l (by decide));have al:∀i,i<n+1->(ch m (ae wB X))[j+i]?=some (.p (.int .u64 (ae wB W i))):=fun i hi=>by rw[mK _ (by omega),<-w,q9]
 have a4:X/(V*wB^j)=W/V:=by rw[yK.2,w]
 have aR:∀f:Nat->Nat,(∀i,i<n+1->f i=ae wB (W% V) i)->ch m (dK j (n+1) (ae wB X) f)=ch m (ae wB (X% (V*wB^j))):=fun f hf=>Cf fun k hk=>by
  rw[yK.1,w,KF bp,dK]
  by_cases u:k<j
  ·rw[if_neg (by omega),if_pos u]
  ·rw[if_neg u]
   by_cases H:k<j+(n+1)
   ·rw[if_pos (by omega),hf _ (by omega)]
   ·have e1:ae wB X k=0:=by
     obtain⟨e,rfl⟩:∃e,k=j+e:=⟨k-j,by omega⟩
     rw[<-q9,w];exact jw (ej T (eo (by decide) (by omega)))
    have e2:ae wB (W% V) (k-j)=0:=jw (ej (eq (Nat.mod_le _ _) T) (eo (by decide) (by omega)));rw[if_neg (by omega),e1,e2]
 rw[a4];simp only[eN];generalize az wB V=x at*;have aJ:∀i,i<n->i<x.length:=fun i h=>by omega
 have e1:cb.wrap ((n:Int)-1)=((n-1:Nat):Int):=by rw[aO _ (by omega) (by omega)];omega
 have e2:cb.wrap ((n:Int)-2)=((n-2:Nat):Int):=by rw[aO _ (by omega) (by omega)];omega
 obtain⟨b,E⟩:∃b,b=n-1:=⟨_,rfl⟩
 obtain⟨d,an⟩:∃d,d=n-2:=⟨_,rfl⟩
 rw[<-E]at e1;rw[<-an]at e2;have F:=U b (by omega);have aT:=U d (by omega);have bl:b<x.length:=by omega
 have bm:d<x.length:=by omega
 have L:x[b]?=some (ae wB V b):=by rw[da bl,F]
 have bk:x[d]?=some (ae wB V d):=by rw[da bm,aT]
 have O:b<n:=by omega
 have Y:d<n:=by omega
 have R:b<n+1:=by omega
 have Z:d<n+1:=by omega
 have aE:=al n (by omega);have aF:=al b (by omega);have ac:=al d (by omega);have a9:n=b+1:=by omega
 have aI:W/wB^n=ae wB W n:=by
  rw[ae,ei];rw[en (e7 (by decide)),ee,<-e6];exact T
 have ah:W/wB^b=ae wB W n*wB+ae wB W b:=by rw[tt,<-a9,aI]
 simp[f333,-bA,t];rw[bA];simp[-bA,t];rw[bA];simp[-bA,t];rw[bA];simp[-bA,t];rw[bA];simp[-bA,t];refine join (fun s=>∃q r o:Nat,q*ae wB V b+(r+o*wB)=W/wB^b/\W/V<=q/\q<wB/\r<wB/\o<=1/\aN s.env 0=.sl 0 0 1 j (n+1)/\aN s.env 1=.p (.seq (x.map fun x:Nat=>.int .u64 x))/\aN s.env 5=.p (.int .i64 n)/\aN s.env 6=.p (.int .u64 q)/\aN s.env 7=.p (.int .u64 r)/\aN s.env 8=.p (.int .u64 o)/\s.heap=[.arr .exact 0 1 (ch m (ae wB X))]) ?_ ?_
 ·by_cases hc:ae wB V b<=ae wB W n
  ·have ai:(ae wB V b:Int)<=ae wB W n:=by omega
   simp[e1,e2,F,L,O,R,aE,aF,ai,t,ad,aL,bI];refine e3 (rr (ae wB W b) (ae wB V b) 0 (by omega)) ?_;simp;have aX:=ct bp W b;have aD:=ct bp V b;have aY:ae wB W n=ae wB V b:=by
    have:=(Dr bp (by omega) l ag).1;rw[aI,<-E]at this;omega
   refine⟨18446744073709551615,(ae wB W b+ae wB V b)% wB,(ae wB W b+ae wB V b)/wB,?_,?_,by decide,ew _ (by decide),?_,rfl,rfl,rfl⟩
   ·rw[ah,aY];simp only[wB];omega
   ·have:=(Dr bp (by omega) l ag).2;simp only[wB]at this;omega
   ·simp only[wB]at*;omega
  ·have ai:¬(ae wB V b:Int)<=ae wB W n:=by omega
   simp[e1,e2,F,L,O,R,aE,aF,ai,t,ad,aL,bI];refine e3 (Od (ae wB W n) (ae wB W b) (ae wB V b) (by omega) (ct bp _ _) (ct bp _ _)) ?_;simp;have aX:=ct bp W b;have aD:=ct bp V b;refine⟨(ae wB W n*wB+ae wB W b)/ae wB V b,(ae wB W n*wB+ae wB W b)% ae wB V b,0,?_,?_,?_,?_,by omega,rfl,rfl,rfl⟩
   ·rw[ah,g3,g5,ee,fm]
   ·rw[<-ah,E];exact N1 bp G I l
   ·rw[en (by omega)];have:=e8 wB (show ae wB W n+1<=ae wB V b by omega);rw[fl,gi]at this;rw[ee wB];omega
   ·exact gy (ew _ (by omega)) aD
 rintro⟨aZ,a6⟩ ⟨q,r,o,k1,k2,k3,k4,k5,y,z,A,B,aq,ar,K⟩;dsimp only at y z A B aq ar K;subst K;simp[y,z,A,B,aq,ar];refine sq (fun s=>∃q:Nat,W/V<=q/\q<=W/V+1/\q<wB/\aN s.env 0=.sl 0 0 1 j (n+1)/\aN s.env 1=.p (.seq (x.map fun x:Nat=>.int .u64 x))/\aN s.env 5=.p (.int .i64 n)/\aN s.env 6=.p (.int .u64 q)/\s.heap=[.arr .exact 0 1 (ch m (ae wB X))]) ?_ ?_
 ·have bc:q*ae wB V b+(r+o*wB)=W/wB^b/\W/V<=q/\q<wB/\r<wB/\o<=1:=⟨k1,k2,k3,k4,k5⟩
  clear k1 k2 k3 k4 k5;refine lp (α:=Nat×Nat×Nat) (fun a=>⟨[(8,.p (.int .u64 a.2.2)),(7,.p (.int .u64 a.2.1)),(6,.p (.int .u64 a.1)),(5,.p (.int .i64 n)),(1,.p (.seq (x.map fun x:Nat=>.int .u64 x))),(0,.sl 0 0 1 j (n+1))],[.arr .exact 0 1 (ch m (ae wB X))]⟩)
   (fun a=>a.1*ae wB V b+(a.2.1+a.2.2*wB)=W/wB^b/\W/V<=a.1/\a.1<wB/\a.2.1<wB/\a.2.2<=1) (fun a=>a.1) (q,r,o) bc ?_ (he:=by simp[y,z,A,B,aq,ar])
  rintro⟨q,r,o⟩ ⟨k1,k2,k3,k4,k5⟩;dsimp only at k1 k2 k3 k4 k5
  by_cases ba:o=0
  ·subst ba;rw[g3,g5]at k1;have S:=zy q (ae wB V d) k3 (ct bp _ _);rw[show(18446744073709551616:Nat)=wB from rfl]at S;have br:=fm (q*ae wB V d) wB;have bs:q*ae wB V d% wB<wB:=ew _ (by decide);have aH:=fun h=>EI bp G I l (by rw[<-E];exact k1) k3 (by rw[<-an];exact h);have aG:=fun h=>Pm (q:=q) (r:=r) bp G I l (by rw[<-E];exact k1) (by rw[<-an];exact h);have bt:=ct bp W d;generalize q*ae wB V d% wB=lo at*;generalize q*ae wB V d/wB=hi at*;generalize q*ae wB V d=P at*;have v:=rr r (ae wB V b) 0 (by omega);simp[e1,e2,F,L,aT,bk,O,R,Y,Z,t];refine c2 S ?_;rcases Nat.lt_trichotomy hi r with h|h|h
   ·have hI:(hi:Int)<r:=by omega
    simp[hI];refine⟨q,k2,aH (by
     have:=e9 wB (show hi+1<=r by omega);rw[hC,hg,ee wB r]at this;omega),k3,rfl⟩
   ·subst h
    by_cases bw:lo<=ae wB W d
    ·have hI:(lo:Int)<=ae wB W d:=by omega
     simp[hI,e2,ac,Y,Z];exact⟨q,k2,aH (by rw[ee hi];omega),k3,rfl⟩
    ·have hI:¬(lo:Int)<=ae wB W d:=by omega
     have J:=aG (by rw[ee hi];omega);have bd:0<q:=eq (g6 _) J;obtain⟨k,rfl⟩:∃k,q=k+1:=⟨q-1,by omega⟩
     have ap:b5.wrap (k:Int)=k:=fC _ (by omega) (by omega);simp[hI,e1,e2,ac,O,R,Y,Z,F,L,ap,ad,aL,bI];refine c3 v ?_;simp;have aw:=hr (hi+ae wB V b) wB;have ax:k*ae wB V b+((hi+ae wB V b)% wB+(hi+ae wB V b)/wB*wB)=W/wB^b:=by
      rw[ee _ wB,aw,<-k1,fl,gi,hv,gm hi]
     have ay:=ct bp V b;have aA:(hi+ae wB V b)/wB<=1:=by
      have aB:=k4;simp only[wB]at ay aB⊢;omega
     exact rd (k,(hi+ae wB V b)% wB,(hi+ae wB V b)/wB) ⟨ax,ht.1 J,ho k3,ew _ (by decide),aA⟩
   ·have hI:¬(hi:Int)<r:=by omega
    have a1:¬(hi:Int)=r:=by omega
    have a3:=e9 wB (show r+1<=hi by omega);rw[hC,hg,ee wB r]at a3;have J:=aG (by omega);have bd:0<q:=eq (g6 _) J;obtain⟨k,rfl⟩:∃k,q=k+1:=⟨q-1,by omega⟩
    have ap:b5.wrap (k:Int)=k:=fC _ (by omega) (by omega);simp[hI,a1,e1,e2,ac,O,R,Y,Z,F,L,ap,ad,aL,bI];refine c3 v ?_;simp;have aw:=hr (r+ae wB V b) wB;have ax:k*ae wB V b+((r+ae wB V b)% wB+(r+ae wB V b)/wB*wB)=W/wB^b:=by
     rw[ee _ wB,aw,<-k1,fl,gi,hv,gm r]
    have ay:=ct bp V b;have aA:(r+ae wB V b)/wB<=1:=by
     have aB:=k4;simp only[wB]at ay aB⊢;omega
    exact rd (k,(r+ae wB V b)% wB,(r+ae wB V b)/wB) ⟨ax,ht.1 J,ho k3,ew _ (by decide),aA⟩
  ·have bb:o=1:=by omega
   subst bb;simp;exact⟨q,k2,EI bp G I l (by rw[<-E];exact k1) k3 (NZ bp (by omega) k3),k3,rfl⟩
 rintro⟨aZ,a6⟩ ⟨q,k2,k3,k4,y,z,A,B,K⟩;dsimp only at y z A B K;subst K;have be:q*V<wB^(n+1):=VF k4 l;have aP:q*V<=W+wB^(n+1):=by omega
 obtain⟨D,af⟩:∃D,D=W+wB^(n+1)-q*V:=⟨_,rfl⟩
 have aS:∀i,i<n+1->aC prog 292 [.int .u64 (ae wB W i),.int .u64 (ae wB (q*V) i),.int .u64 (fu wB (W+wB^(n+1)) (q*V) i)] (.aG [.int .u64 (ae wB D i),.int .u64 (fu wB (W+wB^(n+1)) (q*V) (i+1))]):=fun i hi=>by
  have h:=Pa aP i;rw[<-af,wo hi]at h;exact h
 have bg:∀i,(q*ae wB V i% wB+iJ wB V q i+0)% wB=ae wB (q*V) i/\b5.wrap (((q*ae wB V i/wB:Nat):Int)+((q*ae wB V i% wB+iJ wB V q i+0)/wB:Nat))=(iJ wB V q (i+1):Nat):=fun i=>by
  obtain⟨u,H⟩:=Yj (q:=q) (V:=V) bp i;have a0:=aJC (V:=V) bp k4 (i+1);rw[<-u,<-H];rw[<-H]at a0;generalize q*ae wB V i=P at*;generalize iJ wB V q i=c at*;have e:P/wB+(P% wB+c+0)/wB=(P+c)/wB:=by simp only[wB];omega
  refine⟨by simp only[wB];omega,?_⟩;rw[fC _ (by omega) (by omega)];omega
 have a5:=Vk (V:=V) (q:=q) T be;have bf:=Yl bp k4 l;have bx:(ch m (ae wB X)).length=m:=Na _ _;simp[y,z,A,B];refine lp (α:=Nat) (fun i=>⟨[(105,.p (.int .i64 i)),(104,.p (.int .i64 n)),(12,.p (.int .u64 (iJ wB V q i:Nat))),(11,.p (.int .u64 (fu wB (W+wB^(n+1)) (q*V) i:Nat))),(6,.p (.int .u64 q)),(5,.p (.int .i64 n)),(1,.p (.seq (x.map fun x:Nat=>.int .u64 x))),(0,.sl 0 0 1 j (n+1))],[.arr .exact 0 1 (ch m (dK j i (ae wB X) (ae wB D)))]⟩)
  (fun i=>i<=n) (fun i=>n-i) 0 (by simp) ?_ (hn:=by simp[tG]) (he:=by simp[y,z,A,B,WV,B7]) (hh:=by simp[tG])
 intro i k5;have bi:=cr (i:=i) (by omega)
 by_cases hi:i<n
 ·have N:i<x.length:=aJ i hi;have M:=U i N;have ao:x[i]?=some (ae wB V i):=by rw[da N,M]
  have S:=zy q (ae wB V i) k4 (ct bp _ _);rw[show(18446744073709551616:Nat)=wB from rfl]at S;have v:=rr (q*ae wB V i% wB) (iJ wB V q i) 0 (by omega);obtain⟨bn,bo⟩:=bg i;have aa:=aS i (by omega);rw[bn]at v;generalize q*ae wB V i% wB=lo at*;generalize q*ae wB V i/wB=bu at*;generalize (lo+iJ wB V q i+0)/wB=c' at*;have ak:i<n+1:=by omega
  have C:(ch m (dK j i (ae wB X) (ae wB D)))[j+i]?=some (.p (.int .u64 (ae wB W i))):=by rw[y0 (by omega),<-w,q9]
  have ab:=yZ (m:=m) (j:=j) (i:=i) (g:=ae wB X) (f:=ae wB D) rfl;simp[t,hi,M,ao];refine c2 S ?_;simp;refine c3 v ?_;simp[bo,ak,C];refine c3 aa ?_;simp[ak,C,ab,bi,ad,aL,bI];exact rd (i+1) (show i+1<=n by omega)
 have a7:i=n:=by omega
 subst a7;have C:(ch m (dK j i (ae wB X) (ae wB D)))[j+i]?=some (.p (.int .u64 (ae wB W i))):=by rw[y0 (by omega),<-w,q9]
 have ab:=yZ (m:=m) (j:=j) (i:=i) (g:=ae wB X) (f:=ae wB D) rfl;have aa:=aS i (by omega);rw[<-bf]at aa;simp[C];refine c3 aa ?_;rw[a5]
 by_cases aQ:q*V<=W
 ·obtain⟨aV,au⟩:=aJv aQ k3 aM k2;have aj:=aR (ae wB D) fun k hk=>by rw[af,<-au];exact aJu aQ hk
  have av:(q:Int)=(W:Int)/V:=by rw[aV];rfl
  have am:(if W<q*V then 1 else 0:Nat)=0:=if_neg (by omega);rw[am];simp[C,ab,aj,<-av,ad,aL,bI]
 ·obtain⟨aV,au⟩:=Yp (by omega) k3 aM k2;have aW:=au (wB^(i+1)) aP;rw[<-af]at aW;have aj:=aR (ae wB (D+V)) fun k hk=>by rw[aW,wo hk]
  have am:(if W<q*V then 1 else 0:Nat)=1:=if_pos (by omega);have av:b5.wrap ((q:Int)-1)=(W:Int)/V:=by
   have e:((W/V:Nat):Int)=(W:Int)/V:=rfl;rw[<-e];generalize W/V=Q at*;rw[fC _ (by omega) (by omega)];omega
  rw[am];simp[C,ab,ad,aL,bI];refine lp (α:=Nat) (fun k=>⟨[(157,.p (.int .i64 k)),(156,.p (.int .i64 i)),(17,.p (.int .u64 (di wB D V k:Nat))),(6,.p (.int .u64 q)),(5,.p (.int .i64 i)),(1,.p (.seq (x.map fun x:Nat=>.int .u64 x))),(0,.sl 0 0 1 j (i+1))],[.arr .exact 0 1 (ch m (dK j k (dK j (i+1) (ae wB X) (ae wB D)) (ae wB (D+V))))]⟩)
   (fun k=>k<=i) (fun k=>i-k) 0 (by simp) ?_ (hn:=by simp[tG]) (he:=by simp[yE]) (hh:=by simp[tG])
  intro k k6;have bj:=cr (i:=k) (by omega);have gk:(ch m (dK j k (dK j (i+1) (ae wB X) (ae wB D)) (ae wB (D+V))))[j+k]?=some (.p (.int .u64 (ae wB D k))):=by rw[y0 (by omega),dK,if_pos (by omega),g9]
  have aU:=yZ (m:=m) (j:=j) (i:=k) (g:=dK j (i+1) (ae wB X) (ae wB D)) (f:=ae wB (D+V)) rfl;obtain⟨u,H⟩:=qO bp D V k
  by_cases hk:k<i
  ·have N:k<x.length:=aJ k hk;have M:=U k N;have ao:x[k]?=some (ae wB V k):=by rw[da N,M]
   have v:=rr (ae wB D k) (ae wB V k) (di wB D V k) (lZ bp _ _ _);rw[u,H]at v;have aK:k<i+1:=by omega
   simp[t,hk,aK,M,ao,gk,ad,aL,bI];refine e3 v ?_;simp[aK,gk,aU,bj,ad,aL,bI];refine⟨⟨by rfl,by rfl,by rfl⟩,?_⟩;exact rd (k+1) (show k+1<=i by omega)
  have a8:k=i:=by omega
  subst a8;have bh:ae wB V k=0:=jw l;rw[bh,g5]at u;have bq:b5.wrap ((ae wB D k:Int)+(di wB D V k:Nat))=(ae wB (D+V) k:Nat):=by rw[<-Int.natCast_add,zp,u]
  simp[gk,aU,bq,av,aj,X6,ad,aL,bI]
theorem X4{a b i:Nat}(c:0<b):(a/wB^(i+1)% b*wB+ae wB a i)/b=ae wB (a/b) i/\(a/wB^(i+1)% b*wB+ae wB a i)% b=a/wB^i% b:=by
 have e:=tt (B:=wB) a i;have g:=fm (a/wB^(i+1)) b;have f:a/wB^i=(a/wB^(i+1)% b*wB+ae wB a i)+a/wB^(i+1)/b*wB*b:=by
  rw[e];generalize ae wB a i=d;generalize a/wB^(i+1)/b=Q at*;generalize a/wB^(i+1)% b=R at*;rw[<-g,fl,ee b,gt Q b wB];omega
 have j:(a/wB^(i+1)% b*wB+ae wB a i)/b<wB:=by
  rw[en c];have k:=ct bp a i;have h:=e8 wB (show a/wB^(i+1)% b+1<=b from ew _ c);rw[fl,gi]at h;rw[ee wB];omega
 constructor
 ·conv=>rhs;rw[ae,gA,ee b,<-gA,f,hd _ _ c,gb,ei j]
 ·rw[f,gb]
def qF(Q i k:Nat):Nat:=if i<=k then ae wB Q k else 0
theorem On{m Q i:Nat}:(ch m (qF Q (i+1))).set i (.p (.int .u64 (ae wB Q i)))=ch m (qF Q i):=by
 refine pK ?_ fun k hk=>?_
 ·rw[qF,if_pos (gj _)]
 ·rw[qF,qF]
  by_cases h:i<=k
  ·rw[if_pos h,if_pos (by omega)]
  ·rw[if_neg h,if_neg (by omega)]
theorem Nt{m Q:Nat}:ch m (qF Q 0)=ch m (ae wB Q):=Cq fun k=>by rw[qF,if_pos (g6 _)]
theorem Nu{m Q:Nat}:List.replicate m (AV.p (.int .u64 0))=ch m (qF Q m):=by
 rw[C5 (f:=fun _=>0) (fun _=>rfl)];exact Cf fun k hk=>by rw[qF,if_neg (by omega)]
theorem DF{m N:Nat}(h:N<wB^m)(b:m<=1048576):∃l:List Nat,l.length=m/\ch m (ae wB N)=l.map (AV.p∘fun x:Nat=>PV.int .u64 x)/\aC prog 291 [.seq (eW l)] (eN N):=by
 refine⟨(db m).map (ae wB N),by simp,C6 m _,?_⟩;have a:=ue ((db m).map (ae wB N)) (by simp;omega);rw[show eC ((db m).map (ae wB N))=az wB N from jy bp h]at a;exact a
theorem pO{a b:Nat}:fP a b<0↔a<b:=by
 rw[fP];split
 ·simp[*]
 ·split<;>simp[*]
theorem V1(r:Nat):((r:Int)% 2^b5.bits).toNat=r% 2^b5.bits:=by
 rw[show b5.bits=64 from rfl];omega
theorem anS{b d n a s V:Nat}(g:b/wB^a=d)(h:n=a+1)(hs:s<64)(o:wB<=2*(d*2^s))(i:d*2^s<wB)(f:V=b*2^s):V<wB^n/\wB^n<=2*V:=by
 have m:0<wB^a:=e7 (by decide);have j:0<2^s:=e7 (by decide);have k:b<(d+1)*wB^a:=by
  rw[<-g,fl,gi];exact Nat.lt_div_mul_add m
 have l:(d+1)*2^s<=wB:=by
  have c:=zR hs;have e:d<2^(64-s):=by
   rw[<-c,ee d]at i;exact Nat.lt_of_mul_lt_mul_left i
  rw[<-c,ee];exact e9 _ e
 constructor
 ·rw[f,h,e6,ee _ wB];refine ej (fd k j) ?_;rw[gt];exact e8 _ l
 ·rw[f,h,e6,ee _ wB];refine Nat.le_trans (e8 _ o) ?_;have c:d*wB^a<=b:=by rw[<-g];exact g2 _ _
  have e:=e8 (2^s) c;rw[gl 2,gt d];exact e9 _ e
theorem XW{a n b s V:Nat}(f:a<wB^b)(hs:s<64)(e:wB^n<=2*V)(i:n<=b):a*2^s<V*wB^(b-n+1):=by
 have d:2*2^s<=wB:=by
  have c:2^(s+1)<=2^64:=eo (by decide) hs;rw[e6,ee]at c;exact c
 have g:=e8 (wB^(b-n+1)) e;rw[<-fN,show n+(b-n+1)=b+1 by omega,e6,gl]at g;have c:=e9 a d;have h:=fd f (show 0<wB by decide);rw[Nat.mul_left_comm]at c;generalize wB^b*wB=j at*;generalize V*wB^(b-n+1)=z2 at*;generalize a*2^s=z3 at*;generalize a*wB=z4 at*;clear d e f;omega
theorem anY{a b n d c:Nat}(h:a<wB^c)(f:0<b)(i:n=d+1)(g:wB^d<=b)(j:n<=c):a/b<wB^(c-n+1):=by
 rw[en f];refine ej h ?_;have e:=e9 (wB^(c-n+1)) g;rw[<-fN,show c-n+1+d=c by omega]at e;exact e
theorem XX{a b s k:Nat}(c:0<2^s):a*2^s% (b*2^s*wB^(k+1))/(b*2^s*wB^k)=ae wB (a/b) k:=by
 rw[e6,<-gl,Nat.mod_mul_right_div_self,<-gA,hb _ _ c,ae]
theorem Nb{n N:Nat}{f g:Nat->Nat}(a:n<=N)(h:∀k,k<n->f k=g k):((db N).map f).take n=(db n).map g:=by
 rw[<-ea,List.take_range,g8 a];exact dp fun k hk=>h k (dz.1 hk)
theorem CY(a b:Nat)(A:0<b)(bf:(az wB a).length<=1000000)(bN:(az wB b).length<=1000000):aC prog 287 [eN a,eN b] (.aG [eN (a/b),eN (a% b)]):=by
 refine aM nf HP mix (by simp[f287]) ?_;have bi:=IU a b (by omega) (by omega);simp[f287];refine c2 bi ?_
 by_cases I:a<b
 ·have G:=pO.2 I;simp[G,gx I,ei I,eN,az,nu]
 have G:¬fP a b<0:=fun h=>I (pO.1 h);have bl:∀i(h:i<(az wB a).length),(az wB a)[i]=ae wB a i:=fun i h=>eH bp h;have W:∀i(h:i<(az wB b).length),(az wB b)[i]=ae wB b i:=fun i h=>eH bp h;have B:=cm bp a;have q:=cm bp b
 by_cases K:(az wB b).length=1
 ·rw[K,g7]at q;have Y:((az wB b).length:Int)=1:=by omega
  obtain⟨l,C,L,z⟩:=DF (m:=(az wB a).length) (N:=a/b) (eq (ge _ _) B) (by omega);have aw:=ue [a% b] (by simp);have bk:eC [a% b]=az wB (a% b):=by
   have M:a% b<wB:=gy (ew _ A) q;have:=jy bp (m:=1) (n:=a% b) (by rw[g7];exact M);rw[<-this,row,dq,eb,ec,ae,fb,g0,ei M]
  rw[bk]at aw;have bg:(az wB b)[0]?=some b:=by
   rw[da (by omega),W 0 (by omega),ae,fb,g0,ei q]
  have bh:∀h:0<(az wB b).length,(az wB b)[0]'h=b:=fun h=>by rw[W 0 h,ae,fb,g0,ei q]
  have aG:a/wB^(az wB a).length% b=0:=by rw[gx B,hw]
  simp only[eN]at z⊢;generalize az wB (a/b)=bF at*;generalize az wB (a% b)=aY at*;generalize az wB a=x at*;generalize az wB b=y at*;obtain⟨n,w⟩:∃n,x.length=n:=⟨_,rfl⟩
  rw[w]at C L aG bf;have e1:cb.wrap ((n:Int)-1)=n-1:=aO _ (by omega) (by omega);simp[G,K,Y,w,e1];refine⟨by simp only[cZ];omega,?_⟩;rw[Nu (Q:=a/b)];refine lp (α:=Nat) (fun i=>⟨[(8,.p (.int .i64 ((i:Int)-1))),(7,.p (.int .u64 (a/wB^i% b:Nat))),(6,.sl 0 0 1 0 n),(1,.p (.seq (y.map fun x:Nat=>.int .u64 x))),(0,.p (.seq (x.map fun x:Nat=>.int .u64 x)))],[.arr .exact 0 1 (ch n (qF (a/b) i))]⟩)
   (fun i=>i<=n) (fun i=>i) n (gj _) ?_ (he:=by simp[aG])
  intro i k1
  by_cases hi:0<i
  ·obtain⟨k,rfl⟩:∃k,i=k+1:=⟨i-1,by omega⟩
   have e2:cb.wrap ((k:Int)-1)=k-1:=aO _ (by omega) (by omega);have aV:k<x.length:=by omega
   have hx:=bl k aV;have af:x[k]?=some (ae wB a k):=by rw[da aV,hx]
   have av:=Od (a/wB^(k+1)% b) (ae wB a k) b (ew _ A) q (ct bp _ _);obtain⟨r,ah⟩:=X4 (a:=a) (i:=k) A;rw[r,ah]at av;have aH:=On (m:=n) (Q:=a/b) (i:=k);have gk:=mK (n:=n) (qF (a/b) (k+1)) (show k<n by omega);have aJ:k<n:=by omega
   generalize a/wB^(k+1)% b=bH at*;simp[w,e2,hx,af,bg,bh,K,aJ,ad,aL,bI];refine e3 av ?_;simp[aH,gk,e2,aJ,ad,aL,bI];refine⟨by rfl,?_⟩;exact rd k (show k<=n by omega)
  ·obtain rfl:i=0:=by omega
   simp[Nt,L];refine cp z (by simp[C];exact⟨rfl,rfl⟩) ?_ (h1:=by simp[eW,dk,C]);simp;refine cp aw (by simp;exact⟨rfl,rfl⟩) ?_ (h1:=by simp[eW]);simp;exact bG.refl _
 have bQ:2<=(az wB b).length:=by
  rcases fv (az wB b).length 1 with h|h
  ·have e:(az wB b).length=0:=by omega
   rw[e,fb]at q;omega
  ·omega
 have Y:¬((az wB b).length:Int)=1:=by omega
 obtain⟨n,w⟩:∃n,(az wB b).length=n:=⟨_,rfl⟩
 obtain⟨c,Z⟩:∃c,(az wB a).length=c:=⟨_,rfl⟩
 obtain⟨o,aa⟩:∃o,n=o+1:=⟨n-1,by omega⟩
 have aE:wB^o<=b:=by
  rcases fv b (wB^o)with h|h
  ·have:=dT bp o b h;omega
  ·exact h
 obtain⟨d,J⟩:∃d,d=ae wB b o:=⟨_,rfl⟩
 have aF:d<wB:=by rw[J];exact ct bp _ _
 have aD:b/wB^o=d:=by
  rw[J,ae,ei];rw[en (e7 (by decide)),ee,<-e6,show o.succ=n from aa.symm,<-w];exact q
 have bj:0<d:=by rw[<-aD];exact Nat.div_pos aE (e7 (by decide))
 obtain⟨s,hs,bM,bw,bx⟩:=Mk bj aF;have aQ:=Pc d aF;obtain⟨V,E⟩:∃V,V=b*2^s:=⟨_,rfl⟩
 have D:0<2^s:=e7 (by decide);have bd:b<=V:=by rw[E];exact Nat.le_mul_of_pos_right _ D
 have bc:0<V:=ej A bd;obtain⟨aA,be⟩:=anS aD aa hs bw bx E;have ay:(az wB V).length=n:=by
  have u:=dT bp n V aA;rcases fv (az wB V).length n with h|h
  ·have ar:=ej (cm bp V) (eo (show 0<wB by decide) (show(az wB V).length<=o by omega));omega
  ·omega
 have z:=DF (m:=n+1) (N:=V) (ej aA (eo (by decide) (by omega))) (by omega);obtain⟨l,C,L,z⟩:=z;have ac:=Lc b s hs (by omega);have ab:=Lc a s hs (by omega);have ag:o<(az wB b).length:=by omega
 have hx:=W o ag;have af:(az wB b)[o]?=some d:=by rw[da ag,hx,J]
 rw[w,<-E]at ac;rw[Z]at ab;have aS:n<=c:=by
  rcases fv c n with h|h
  ·have:=ej B (eo (show 0<wB by decide) (show(az wB a).length<=o by omega));omega
  ·exact h
 rw[Z]at B;have a5:=XW (n:=n) B hs be aS;have a7:=anY (n:=n) B A aa aE aS;have a8:a% b<wB^n:=gy (ew _ A) (by rw[w]at q;exact q);have bA:eC ((db n).map (ae wB (a% b)))=az wB (a% b):=jy bp a8;have gX:∀X j,j+n+1<=c+1->X<V*wB^(j+1)->_:=fun X j u ar=>ati X V (c+1) j n ay (by omega) u (by omega) ar;simp only[eN]at z⊢ab ac gX;generalize az wB V=bE at*;generalize bB:az wB (a/b)=bF at*;generalize bR:az wB (a% b)=aY at*;generalize az wB a=x at*;generalize az wB b=y at*;have e1:cb.wrap ((n:Int)-1)=o:=by rw[aO _ (by omega) (by omega)];omega
 have bv:(64:Int)-(ce d:Nat)=s:=by omega
 rw[bv]at aQ;rw[<-J]at hx;have bo:¬(n:Int)=1:=by omega
 have bq:¬n=1:=by omega
 simp[G,K,Y,bo,bq,w,e1,hx,af,ag,ad,aL,bI];refine c1 aQ ?_;simp;refine PY ac ?_;simp[L];refine cp z (by simp[C];exact⟨rfl,rfl⟩) ?_ (h1:=by simp[eW,dk,C]);simp;refine PY ab ?_;obtain⟨m,aR⟩:∃m,m=c-n:=⟨_,rfl⟩
 have e2:cb.wrap ((c:Int)-n)=m:=by rw[aO _ (by omega) (by omega)];omega
 have e3:cb.wrap ((m:Int)+1)=m+1:=cr (by omega);simp[ay,Z,e2,e3];refine⟨⟨by omega,by simp only[cZ];omega⟩,?_⟩;have au:a*2^s% (V*wB^(m+1))=a*2^s:=ei (by rw[aR];exact a5);rw[Nu (Q:=a/b)];refine sq (fun s'=>aN s'.env 9=.p (.int .i64 s)/\aN s'.env 11=.sl 1 0 1 0 (c+1)/\aN s'.env 12=.p (.int .i64 n)/\aN s'.env 13=.sl 2 0 1 0 (m+1)/\s'.heap=[.arr .frozen 0 1 (l.map (AV.p∘fun x:Nat=>PV.int .u64 x)),.arr .exact 0 1 (ch (c+1) (ae wB (a% b*2^s))),.arr .exact 0 1 (ch (m+1) (ae wB (a/b)))]) ?_ ?_
 ·refine lp (α:=Nat) (fun j=>⟨[(14,.p (.int .i64 ((j:Int)-1))),(13,.sl 2 0 1 0 (m+1)),(12,.p (.int .i64 n)),(11,.sl 1 0 1 0 (c+1)),(10,.p (.seq (bE.map fun x:Nat=>.int .u64 x))),(9,.p (.int .i64 s))],[.arr .frozen 0 1 (l.map (AV.p∘fun x:Nat=>PV.int .u64 x)),.arr .exact 0 1 (ch (c+1) (ae wB (a*2^s% (V*wB^j)))),.arr .exact 0 1 (ch (m+1) (qF (a/b) j))]⟩)
   (fun j=>j<=m+1) (fun j=>j) (m+1) (gj _) ?_ (hn:=by simp[au]) (hh:=by simp[au])
  intro j k1
  by_cases bP:0<j
  ·obtain⟨k,rfl⟩:∃k,j=k+1:=⟨j-1,by omega⟩
   have e4:cb.wrap ((k:Int)-1)=k-1:=aO _ (by omega) (by omega);have e5:cb.wrap ((k:Int)+n)=k+n:=aO _ (by omega) (by omega);have a0:cb.wrap ((k:Int)+n+1)=k+n+1:=aO _ (by omega) (by omega);have aH:=gX (a*2^s% (V*wB^(k+1))) k (by omega) (ew _ (Nat.mul_pos bc (e7 (by decide))));have hq:a*2^s% (V*wB^(k+1))/(V*wB^k)=ae wB (a/b) k:=by
    rw[E];exact XX D
   have M:a*2^s% (V*wB^(k+1))% (V*wB^k)=a*2^s% (V*wB^k):=by
    rw[e6,<-gl,Nat.mod_mul_right_mod]
   rw[hq,M]at aH;generalize a*2^s% (V*wB^(k+1))=X at*;generalize aB:a*2^s% (V*wB^k)=bJ at*;have a4:((k:Int)+n+1).toNat=k+n+1:=by omega
   have f2:(0:Int)<=(k:Int)+n+1:=by omega
   have f3:(k:Int)+n+1<=(c:Int)+1:=by omega
   have f4:k<=k+n+1:=by omega
   have f5:¬k=k+n+1:=by omega
   have f6:k+n+1-k=n+1:=by omega
   have f7:k<m+1:=by omega
   have gk:=mK (n:=m+1) (qF (a/b) (k+1)) f7;have bD:=On (m:=m+1) (Q:=a/b) (i:=k);simp[e4,e5,a0,Na,a4,f2,f3,f4,f5,f6];rw[show(if k=0 then({v:=.sl 1 0 1 0 (k+n+1),ak:=[(1,.arr .exact 0 1 (ch (c+1) (ae wB X)))]}:aW)else{v:=.sl 1 0 1 k (n+1),ak:=[(1,.arr .exact 0 1 (ch (c+1) (ae wB X)))]})={v:=.sl 1 0 1 k (n+1),ak:=[(1,.arr .exact 0 1 (ch (c+1) (ae wB X)))]}by split<;>simp[*]];simp;refine⟨by omega,?_⟩;refine cf aH [1] ?_;simp[gk,bD,e4,f7,ad,aL,bI];exact rd k (show k<=m+1 by omega) (hn:=by simp[aB]) (hh:=by simp[aB])
  ·obtain rfl:j=0:=by omega
   have a6:a*2^s% V=a% b*2^s:=by rw[E,ha]
   simp[Nt,a6]
 rintro⟨bK,bO⟩ ⟨ai,aj,al,am,aT⟩;dsimp only at ai aj al am aT;subst aT;obtain⟨R,H⟩:∃R,R=a% b*2^s:=⟨_,rfl⟩
 rw[<-H];simp[ai,aj,al,am];refine lp (α:=Nat) (fun i=>⟨[(97,.p (.int .i64 i)),(96,.p (.int .i64 n)),(13,.sl 2 0 1 0 (m+1)),(12,.p (.int .i64 n)),(11,.sl 1 0 1 0 (c+1)),(9,.p (.int .i64 s))],[.arr .frozen 0 1 (l.map (AV.p∘fun x:Nat=>PV.int .u64 x)),.arr .exact 0 1 (ch (c+1) (dK 0 i (ae wB R) (ae wB (a% b)))),.arr .exact 0 1 (ch (m+1) (ae wB (a/b)))]⟩)
  (fun i=>i<=n) (fun i=>n-i) 0 (g6 _) ?_ (hn:=by simp[tG]) (he:=by simp[ai,aj,al,am]) (hh:=by simp[tG])
 intro i k1;have O:=cr (i:=i) (by omega)
 by_cases hi:i<n
 ·have F:i<c+1:=by omega
  have aI:i+1<c+1:=by omega
  have ap:(ch (c+1) (dK 0 i (ae wB R) (ae wB (a% b))))[i]?=some (.p (.int .u64 (ae wB R i))):=by
   have:=y0 (m:=c+1) (j:=0) (i:=i) (g:=ae wB R) (f:=ae wB (a% b)) (by omega)
   rwa [g4]at this
  have an:=uV (ae wB R i) s (by omega);have bn:i<c:=by omega
  by_cases aq:0<s
  ·obtain⟨t,bz⟩:∃t,t=64-s:=⟨_,rfl⟩
   have a2:cb.wrap (64-(s:Int))=(t:Int):=by rw[aO _ (by omega) (by omega)];omega
   have a3:=xL (ae wB R (i+1)) t (by omega);have aH:=zR hs;rw[<-bz]at aH;have ba:0<2^t:=e7 (by decide);have bu:ae wB R i/2^s<2^t:=by rw[en D,ee,aH];exact ct bp _ _
   have aU:ae wB R (i+1)*2^t% wB=ae wB R (i+1)% 2^s*2^t:=by rw[<-aH,ha]
   have bt:ae wB R i/2^s|||(ae wB R (i+1)*2^t% wB)=ae wB (a% b) i:=by
    have u:=aJK D ba R i;rw[aH,H,Nat.mul_div_cancel _ D,<-H]at u;rw[hB,aU,DY bu,<-aU,u,gm]
   have T:=Fw (ae wB R i/2^s) (ae wB R (i+1)*2^t% wB) (eq (ge _ _) (ct bp _ _)) (ew _ (by decide));rw[bt]at T;generalize ae wB R i/2^s=r at*;generalize ae wB R (i+1)*2^t% wB=ah at*;have aZ:b5.wrap ((r% 2^b5.bits|||((ah:Int)% 2^b5.bits).toNat:Nat):Int)=(ae wB (a% b) i:Nat):=by
    rw[V1];exact T
   have S:=pK (n:=c+1) (i:=i) (v:=r) (f:=dK 0 i (ae wB R) (ae wB (a% b))) (g:=fun k=>if k=i then r else dK 0 i (ae wB R) (ae wB (a% b)) k) (if_pos rfl) (fun k hk=>if_neg hk);have U:=mK (n:=c+1) (fun k=>if k=i then r else dK 0 i (ae wB R) (ae wB (a% b)) k) F;have ao:=mK (n:=c+1) (fun k=>if k=i then r else dK 0 i (ae wB R) (ae wB (a% b)) k) aI;rw[if_pos rfl]at U;rw[if_neg (by omega),dK,if_neg (by omega)]at ao;have bC:=pK (n:=c+1) (i:=i) (v:=ae wB (a% b) i) (f:=fun k=>if k=i then r else dK 0 i (ae wB R) (ae wB (a% b)) k) (g:=dK 0 (i+1) (ae wB R) (ae wB (a% b))) (by rw[dK,if_pos (by omega),hy]) (fun k hk=>by
    rw[if_neg hk,dK,dK]
    by_cases h:k<i
    ·rw[if_pos (by omega),if_pos (by omega)]
    ·rw[if_neg (by omega),if_neg (by omega)])
   generalize (fun k=>if k=i then r else dK 0 i (ae wB R) (ae wB (a% b)) k)=bL at*;simp[hi,F,ap,an,aq,O,S,ad,aL,bI];simp[F,aI,bn,a2,O,U,ao,ad,aL,bI];simp[a3,T,aZ,F,O,bC,U,ad,aL,bI];refine⟨by omega,⟨by rfl,by rfl,by rfl,by rfl,by rfl⟩,?_⟩;exact rd (i+1) (show i+1<=n by omega)
  ·have aX:s=0:=by omega
   have a9:ae wB R i=ae wB (a% b) i:=by rw[H,aX,fb,hg]
   have S:=yZ (m:=c+1) (j:=0) (i:=i) (g:=ae wB R) (f:=ae wB (a% b)) (v:=ae wB R i) a9.symm;rw[g4]at S;have a1:(ae wB R i:Int).fdiv (2^(min s b5.bits))=(ae wB R i:Nat):=by rw[an,aX,fb,g0]
   simp[hi,F,ap,aq,O,S,a1,ad,aL,bI];exact rd (i+1) (show i+1<=n by omega)
 obtain rfl:i=n:=by omega
 obtain⟨bS,aK,br,ax⟩:=DF (m:=m+1) (N:=a/b) (by rw[aR];exact a7) (by omega);obtain⟨P,aP,bs,bb⟩:∃P:List Nat,P.length=c+1/\ch (c+1) (dK 0 i (ae wB R) (ae wB (a% b)))=P.map (AV.p∘fun x:Nat=>PV.int .u64 x)/\aC prog 291 [.seq (eW (P.take i))] (.seq (aY.map fun x:Nat=>.int .u64 x)):=by
  refine⟨(db (c+1)).map (dK 0 i (ae wB R) (ae wB (a% b))),by simp,C6 _ _,?_⟩;have e:((db (c+1)).map (dK 0 i (ae wB R) (ae wB (a% b)))).take i=(db i).map (ae wB (a% b)):=by
   exact Nb (by omega) fun k hk=>by rw[dK,if_pos (by omega),hy]
  rw[e];have u:=ue ((db i).map (ae wB (a% b))) (by simp;omega);rw[bA]at u;exact u
 simp only[eN,bB]at ax;simp[br,bs];refine ep ax (by simp[aK];exact⟨rfl,rfl⟩) (by simp;exact⟨rfl,rfl⟩) ?_ (h1:=by simp[eW,dk,aK]);simp[aP];refine⟨by omega,?_⟩;have bm:i<=c+1:=by omega
 refine ep bb (by simp[aP,bm];exact⟨rfl,rfl⟩) (by simp;exact⟨rfl,rfl⟩) ?_ (h1:=by simp[eW,ea]);simp;rfl
def bK(k:Nat)(q:Rat):Prop:=q.num.natAbs<2^k/\q.den<2^k
theorem bK.mono{k l:Nat}{q:Rat}(h:bK k q)(a:k<=l):bK l q:=
 ⟨ej h.1 (eo (by omega) a),ej h.2 (eo (by omega) a)⟩
theorem lX{n:Int}{d:Nat}(h:d≠0):(hE n d).num=n/(hz n.natAbs d:Nat)/\(hE n d).den=d/hz n.natAbs d:=by
 have:hE n d=Rat.normalize n d h:=by
  rw[hF];rfl
 rw[this,Rat.normalize_eq h];exact⟨rfl,rfl⟩
theorem C2{n:Int}{d k:Nat}(h:d≠0)(a:n.natAbs<2^k)(b:d<2^k):bK k (hE n d):=by
 obtain⟨e1,e2⟩:=lX (n:=n) h;refine⟨?_,?_⟩
 ·rw[e1];refine eq ?_ a;rw[Int.natAbs_ediv_of_dvd (Int.ofNat_dvd_left.2 (Nat.gcd_dvd_left _ _))];exact ge _ _
 ·rw[e2];exact eq (ge _ _) b
theorem Af{a b:Nat}{x y:Rat}(h:bK a x)(c:bK b y):bK (a+b+1) (x+y):=by
 have e:x+y=hE (x.num*y.den+y.num*x.den) ((x.den*y.den:Nat):Int):=by rw[Rat.add_def'];rfl
 rw[e];have e1:2^(a+b+1)=2^a*2^b+2^a*2^b:=by rw[e6,fN];omega
 refine C2 (hp x.den_nz y.den_nz) ?_ ?_
 ·rw[e1];refine eq (Int.natAbs_add_le _ _) ?_;rw[ck,ck,cv,cv];have f:=gc h.1 c.2;have d:=gc c.1 h.2;rw[ee (2^b)]at d;omega
 ·have:=gc h.2 c.2;rw[e1];omega
theorem Cv{a:Nat}{x:Rat}(h:bK a x):bK a (-x):=by
 refine⟨by rw[Rat.neg_num,Int.natAbs_neg];exact h.1,by rw[Rat.neg_den];exact h.2⟩
theorem yA{a b:Nat}{x y:Rat}(h:bK a x)(c:bK b y):bK (a+b+1) (x-y):=by
 rw[hG];exact Af h (Cv c)
theorem jx{a b:Nat}{x y:Rat}(h:bK a x)(c:bK b y):bK (a+b) (x*y):=by
 have e:x*y=hE (x.num*y.num) ((x.den*y.den:Nat):Int):=by
  rw[Rat.mul_def,hF];rfl
 rw[e];refine C2 (hp x.den_nz y.den_nz) ?_ ?_
 ·rw[ck,fN];exact gc h.1 c.1
 ·rw[fN];exact gc h.2 c.2
theorem Xi{x:Rat}(h:x≠0):(x⁻¹).num=x.num.sign*x.den/\(x⁻¹).den=x.num.natAbs:=by
 have a:x.num≠0:=fun e=>h (hH.1 e);have e:x⁻¹=hE (x.num.sign*x.den) (x.num.natAbs:Nat):=by
  rw[Rat.inv_def];rcases cx x.num 0 with h|h|h
  ·have e1:x.num.sign= -1:=Int.sign_eq_neg_one_of_neg h;have e2:((x.num.natAbs:Nat):Int)= -x.num:=by omega
   rw[e1,e2,show(-1*(x.den:Int))= -(x.den:Int)by omega,Rat.divInt_neg',Int.neg_neg]
  ·exact(a h).elim
  ·have e1:x.num.sign=1:=Int.sign_eq_one_of_pos h;have e2:((x.num.natAbs:Nat):Int)=x.num:=by omega
   rw[e1,e2,Int.one_mul]
 have b:hz (x.num.sign*x.den).natAbs x.num.natAbs=1:=by
  rw[ck,c6 a,gi,cv,Nat.gcd_comm];exact x.reduced
 obtain⟨e1,e2⟩:=lX (n:=x.num.sign*x.den) (d:=x.num.natAbs) (by omega);rw[e,e1,e2,b];simp
theorem IP{a:Nat}{x:Rat}(h:bK a x):bK a x⁻¹:=by
 by_cases b:x=0
 ·subst b;have:(0:Rat)⁻¹=0:=Rat.inv_zero;rw[this];exact h
 ·obtain⟨e1,e2⟩:=Xi b;have c:x.num≠0:=fun e=>b (hH.1 e);refine⟨?_,by rw[e2];exact h.1⟩;rw[e1,ck,c6 c,gi,cv];exact h.2
theorem Of{a b:Nat}{x y:Rat}(h:bK a x)(c:bK b y):bK (a+b) (x/y):=by
 rw[Rat.div_def];exact jx h (IP c)
theorem rH{k:Nat}{n:Int}(h:n.natAbs<2^k)(hk:0<k):bK k (n:Rat):=by
 refine⟨h,?_⟩;show(1:Nat)<2^k;exact Nat.one_lt_two_pow (by omega)
structure NI where
 v:Int
 m:Bool
def NI.sm(a:NI):Bool:=decide (-9223372036854775808<a.v/\a.v<9223372036854775808)||(decide (a.v= -9223372036854775808)&&a.m)
def NI.of(n:Int):NI:=⟨n,true⟩
def NI.mk'(n:Int):NI:=⟨n,false⟩
def NI.neg(a:NI):NI:=.mk' (-a.v)
def NI.abs(a:NI):NI:=if a.v<0 then .mk' (-a.v)else a
def NI.add(a b:NI):NI:=⟨a.v+b.v,a.sm&&b.sm⟩
def NI.sub(a b:NI):NI:=a.add b.neg
def NI.mul(a b:NI):NI:=.mk' (a.v*b.v)
def NI.div(a b:NI):NI:=⟨a.v/b.v,decide (a.v% b.v≠0)⟩
def NI.mod(a b:NI):NI:=.mk' (a.v% b.v)
structure NF where
 q:Rat
 m:Bool
def NF.num(a:NF):NI:=⟨a.q.num,a.m⟩
def NF.den(a:NF):NI:=.mk' a.q.den
def NF.whole(a:NI):NF:=⟨a.v,a.m⟩
def NF.int(n:Int):NF:=⟨n,true⟩
def NF.fE(a:NF):Bool:=decide (a.q.den=1)
def NF.add(a b:NF):NF:=⟨a.q+b.q,a.fE&&b.fE&&(a.num.sm&&b.num.sm)⟩
def NF.neg(a:NF):NF:=⟨-a.q,false⟩
def NF.sub(a b:NF):NF:=a.add b.neg
def NF.mul(a b:NF):NF:=⟨a.q*b.q,false⟩
def NF.inv(a:NF):NF:=⟨a.q⁻¹,false⟩
def NF.div(a b:NF):NF:=⟨a.q/b.q,false⟩
@[simp] theorem NI.rW(a b:NI):(a.add b).v=a.v+b.v:=rfl
@[simp] theorem NI.mh(a b:NI):(a.mul b).v=a.v*b.v:=rfl
@[simp] theorem NI.Fl(a:NI):a.neg.v= -a.v:=rfl
@[simp] theorem NI.RV(a b:NI):(a.sub b).v=a.v-b.v:=by show a.v+-b.v=_;omega
@[simp] theorem NF.IM(a b:NF):(a.add b).q=a.q+b.q:=rfl
@[simp] theorem NF.aMy(a:NF):a.neg.q= -a.q:=rfl
@[simp] theorem NF.om(a b:NF):(a.sub b).q=a.q-b.q:=by show a.q+-b.q=_;rw[hG]
@[simp] theorem NF.aMx(a b:NF):(a.mul b).q=a.q*b.q:=rfl
@[simp] theorem NF.aLW(a:NF):a.inv.q=a.q⁻¹:=rfl
@[simp] theorem NF.aLb(a b:NF):(a.div b).q=a.q/b.q:=rfl
@[simp] theorem NF.aLV(n:Int):(NF.int n).q=n:=rfl
def fq(z:Int):PV:=.st 129 [.int .i64 z,.aP]
def ky(z:Int):PV:=.st 129 [.int .i64 (if z<0 then -1 else 1),eN z.natAbs]
def EO(p:PV)(z:Int):Prop:=(p=fq z/\-9223372036854775808<=z/\z<=9223372036854775807)\/(p=ky z/\9223372036854775808<=z.natAbs)
theorem Qd(a:NI):∃p,p=if a.sm=true then fq a.v else ky a.v:=⟨_,rfl⟩
noncomputable def eI(a:NI):PV:=b3 (Qd a)
theorem jk(a:NI):eI a=if a.sm=true then fq a.v else ky a.v:=b2 (Qd a)
theorem NI.Ah{a:NI}(h:-9223372036854775808<a.v)(b:a.v<9223372036854775808):a.sm=true:=by
 simp[NI.sm,h,b]
theorem NI.pR{a:NI}(h:a.sm=true):-9223372036854775808<=a.v/\a.v<=9223372036854775807:=by
 simp only[NI.sm,b1,decide_eq_true_eq,b0]at h;omega
theorem NI.zV{a:NI}(h:¬a.sm=true):9223372036854775808<=a.v.natAbs:=by
 simp only[NI.sm,b1,decide_eq_true_eq,b0,not_or,not_and]at h;omega
theorem NI.Rk(z:Int):(NI.mk' z).sm=decide (-9223372036854775808<z/\z<9223372036854775808):=by
 rw[NI.sm,NI.mk',Bool.and_false,Bool.or_false]
theorem NI.iH(z:Int):(NI.mk' z).v=z:=rfl
theorem mq(a:NI):EO (eI a) a.v:=by
 rw[jk]
 by_cases h:a.sm=true
 ·rw[if_pos h];have:=NI.pR h;exact .inl ⟨rfl,this⟩
 ·rw[if_neg h];exact .inr ⟨rfl,NI.zV h⟩
theorem ot{z:Int}(h:-9223372036854775808<z)(a:z<9223372036854775808):eI (.mk' z)=fq z:=by
 rw[jk,NI.Rk,if_pos (by simp[h,a]),NI.iH]
theorem Qc{z:Int}(h:9223372036854775808<=z.natAbs):eI (.mk' z)=ky z:=by
 rw[jk,NI.Rk,if_neg (by simp;omega),NI.iH]
theorem uC{z:Int}(h:-9223372036854775808<=z)(c:z<=9223372036854775807):eI (.of z)=fq z:=by
 rw[jk,if_pos]
 ·rfl
 ·by_cases b:z= -9223372036854775808
  ·subst b;rfl
  ·exact NI.Ah (a:=.of z) (by show _<z;omega) (by show z<_;omega)
@[simp] theorem bxN(u:TypeId)(h:¬u=226):(Gl.bx u:Option TypeId)=none:=by
 have a:hA u 226=false:=by
  cases a:hA u 226
  ·rfl
  ·exact(h (Nat.eq_of_beq_eq_true a)).elim
 show(bif hA u 226 then some 227 else none)=none;rw[a];rfl
@[simp] theorem aK2:(Gl.bx 226:Option TypeId)=some 227:=(rfl)
theorem lG:az wB 0=[]:=by simp[az,nu]
theorem ud{n:Nat}(a:0<n)(h:n<wB):az wB n=[n]:=by
 have h1:=jy bp (m:=1) (n:=n) (by rw[g7];exact h);rw[<-h1,row,dq,eb,ec,ae,fb,g0,ei h];have:=vK [] n (by omega)
 rwa [List.nil_append]at this
theorem sj(n:Int):aC prog 171 [.int .i64 n] (fq n):=by
 refine aM nf PC mix (by simp[f171]) ?_;simp[f171,fq]
theorem Eh(n:Int)(h:-9223372036854775808<=n)(b:n<=9223372036854775807):aC prog 256 [.int .i64 n] (.int .u64 (n.natAbs:Nat)):=by
 refine aM nf ON mix (by simp[f256]) ?_
 by_cases a:n<0
 ·have e:b5.wrap (cb.wrap (-n))=(n.natAbs:Nat):=by
   by_cases hm:n= -9223372036854775808
   ·subst hm;rfl
   ·rw[aO _ (by omega) (by omega),fC _ (by omega) (by simp only[wB];omega)];omega
  simp[f256,a,e]
 ·have e:b5.wrap n=(n.natAbs:Nat):=by rw[fC _ (by omega) (by simp only[wB];omega)];omega
  simp[f256,a,e]
theorem nV(p:PV)(z:Int)(h:EO p z):aC prog 248 [p] (.aG [.bool (decide (z<0)),eN z.natAbs]):=by
 refine aM nf NU mix (by simp[f248]) ?_;rcases h with⟨rfl,b,d⟩|⟨rfl,b⟩
 ·have hs:=Eh z b d
  by_cases a:z=0
  ·subst a;simp[f248,fq,eN,lG,dD,cX]
  ·simp[f248,fq,a,dD,cX];refine e1 hs ?_;simp[eN,ud (n:=z.natAbs) (by omega) (by simp only[wB];omega)]
   done
 ·have e:az wB z.natAbs≠[]:=fun h=>by
   have:=cm bp z.natAbs;rw[h,dl,fb]at this;omega
  simp only[ky,eN];obtain⟨c,cs,hc⟩:=dg e;rw[hc];have f:decide ((if z<0 then(-1:Int)else 1)<0)=decide (z<0):=by split<;>simp[*]
  generalize (if z<0 then(-1:Int)else 1)=g at*;simp[f248,dD,cX,f]
theorem wY(neg:Bool)(n:Nat)(k:(az wB n).length<=1048576):aC prog 249 [.bool neg,eN n] (eI (.mk' (if neg then -(n:Int)else n))):=by
 by_cases i:n=0
 ·subst i;rw[show(if neg=true then -((0:Nat):Int)else((0:Nat):Int))=0 by simp,ot (by decide) (by decide)];refine aM nf xo mix (by simp[f249]) ?_;simp[f249,fq,eN,lG,dD,cX]
 by_cases q:n<=9223372036854775807
 ·have d:=ud (n:=n) (by omega) (by simp only[wB];omega);have hI:(n:Int)<=9223372036854775807:=by omega
  have f:cb.wrap (n:Int)=n:=aO _ (by omega) (by omega);have g:cb.wrap (-(n:Int))= -n:=aO _ (by omega) (by omega);cases neg
  ·rw[if_neg (by decide),ot (by omega) (by omega)];refine aM nf xo mix (by simp[f249]) ?_;simp[f249,fq,eN,d,hI,f,g,dD,cX]
  ·rw[if_pos rfl,ot (by omega) (by omega)];refine aM nf xo mix (by simp[f249]) ?_;simp[f249,fq,eN,d,hI,f,g,dD,cX]
 ·have l:az wB n≠[]:=fun h=>by
   have:=cm bp n;rw[h,dl,fb]at this;omega
  have e:(az wB n).length=1->(az wB n)[0]?=some n:=fun h=>by
   have a:=cm bp n;rw[h,g7]at a;rw[ud (by omega) a];rfl
  have hI:¬(n:Int)<=9223372036854775807:=by omega
  have b:(if neg then -(n:Int)else n).natAbs=n:=by cases neg<;>simp
  have m:(if(if neg then -(n:Int)else n)<0 then(-1:Int)else 1)=if neg then -1 else 1:=by
   cases neg
   ·simp only[Bool.false_eq_true,if_false];rw[if_neg (by omega)]
   ·simp only[if_true];rw[if_pos (by omega)]
  rw[Qc (by rw[b];omega)];refine aM nf xo mix (by simp[f249]) ?_;rw[ky,b,m];simp only[eN];obtain⟨c,cs,hc⟩:=dg l;rw[hc]at e⊢;rw[hc]at k;cases cs with
  |nil=>
   have j:c=n:=by simpa using e rfl
   subst j;cases neg<;>simp[f249,hI,dD,cX]
  |cons c2 cs=>
   have o:¬((cs.length:Int)+1+1=1):=by omega
   have p:¬((cs.length:Int)+1+1=0):=by omega
   cases neg<;>simp[f249,o,p,dD,cX]
def okW(z:Int):Prop:=(az wB z.natAbs).length<=900000
theorem aD3{p:PV}{z:Int}(h:EO p z):∃a b,p=.st 129 [a,b]:=by
 rcases h with⟨rfl,_⟩|⟨rfl,_⟩
 ·exact⟨_,_,rfl⟩
 ·exact⟨_,_,rfl⟩
theorem wP(a:NI):∃x y,eI a=.st 129 [x,y]:=aD3 (mq a)
theorem ux(a:NI)(l:okW a.v):aC prog 245 [eI a] (eI a.neg):=by
 have h:=mq a;have d:=nV (eI a) a.v h;have b:=wY (!decide (a.v<0)) a.v.natAbs (by rw[okW]at l;omega);have k:(if(!decide (a.v<0))=true then -((a.v.natAbs:Nat):Int)else a.v.natAbs)= -a.v:=by
  by_cases e:a.v<0
  ·simp[e];omega
  ·simp[e];omega
 rw[k]at b;rw[show a.neg=.mk' (-a.v)from rfl];generalize a.v=z at*;generalize n:eI a=p at*;obtain⟨o,q,g⟩:=wP (.mk' (-z));rcases h with⟨rfl,i,m⟩|⟨rfl,i⟩
 ·by_cases f:z= -9223372036854775808
  ·rw[g]at b⊢;refine aM nf AD mix (by simp[f245]) ?_;subst f;simp only[fq]at d⊢;simp[f245,dD,cX];refine c1 d ?_;simp[eN]at b⊢;refine c2 b ?_;simp[ad,aL,bI]
  ·rw[ot (by omega) (by omega)];have w:cb.wrap (-z)= -z:=aO _ (by omega) (by omega);refine aM nf AD mix (by simp[f245]) ?_;simp[f245,fq,f,w,dD,cX]
 ·rw[g]at b⊢;refine aM nf AD mix (by simp[f245]) ?_;have j:az wB z.natAbs≠[]:=fun h=>by
   have:=cm bp z.natAbs;rw[h,dl,fb]at this;omega
  simp only[ky,eN]at d b⊢;obtain⟨c,cs,hc⟩:=dg j;rw[hc]at d b⊢;generalize (if z<0 then(-1:Int)else 1)=r at*;simp[f245,dD,cX];refine c1 d ?_;simp at b⊢;refine c2 b ?_;simp[ad,aL,bI]
theorem uj(a:NI):aC prog 225 [eI a] (.int .i64 (if a.v<0 then -1 else if a.v=0 then 0 else 1)):=by
 have h:=mq a;generalize a.v=z at*;generalize eI a=p at*;refine aM nf Ip mix (by simp[f225]) ?_;rcases h with⟨rfl,b,c⟩|⟨rfl,b⟩
 ·simp[f225,fq];rcases cx z 0 with h|h|h
  ·have e:z<1:=by omega
   simp[h,e];omega
  ·subst h;simp
  ·have e1:¬z<0:=by omega
   have e2:¬z=0:=by omega
   have e3:¬z<1:=by omega
   simp[e1,e2,e3]
 ·simp[f225,ky,eN]
  by_cases h:z<0
  ·simp[h]
  ·have e2:¬z=0:=by omega
   simp[h,e2]
theorem WA{z:Int}(h:-18446744073709551616<=z)(a:z<=18446744073709551614):cb.wrap z=if z< -9223372036854775808 then z+18446744073709551616 else if 9223372036854775807<z then z-18446744073709551616 else z:=by
 rw[cc]
 split
 ·omega
 ·split<;>omega
theorem nT{z:Int}(h:okW z):(az wB z.natAbs).length<=900000:=h
theorem U6{a b L:Nat}(c:(az wB a).length<=L)(d:(az wB b).length<=L):(az wB (a+b)).length<=L+1:=by
 refine dT bp _ _ ?_;have e:=ej (cm bp a) (eo (show 0<wB by decide) c);have f:=ej (cm bp b) (eo (show 0<wB by decide) d);have g:2*wB^L<=wB^(L+1):=by rw[e6,ee];exact e9 _ bp
 omega
theorem TR{a b:Int}(i:okW a)(j:okW b):
 ((decide (a<0)=decide (b<0)/\aC prog 249 [.bool (decide (a<0)),eN (a.natAbs+b.natAbs)] (eI (.mk' (a+b))))\/
  (decide (a<0)≠decide (b<0)/\b.natAbs<=a.natAbs/\aC prog 249 [.bool (decide (a<0)),eN (a.natAbs-b.natAbs)] (eI (.mk' (a+b))))\/
  (decide (a<0)≠decide (b<0)/\a.natAbs<b.natAbs/\aC prog 249 [.bool (decide (b<0)),eN (b.natAbs-a.natAbs)] (eI (.mk' (a+b))))):=by
 have m:=U6 (a:=a.natAbs) (b:=b.natAbs) i j;have l:∀n,n<=a.natAbs+b.natAbs->(az wB n).length<=1048576:=fun n h=>by
  have:=dT bp _ _ (eq h (cm bp (a.natAbs+b.natAbs)));omega
 have f:∀(neg:Bool)(n:Nat),n<=a.natAbs+b.natAbs->(if neg then -(n:Int)else n)=a+b->aC prog 249 [.bool neg,eN n] (eI (.mk' (a+b))):=fun neg n h e=>by
  have g:=wY neg n (l n h);rw[e]at g;exact g
 by_cases d:decide (a<0)=decide (b<0)
 ·have c:=f (decide (a<0)) (a.natAbs+b.natAbs) (gj _) (by
   by_cases h:a<0
   ·have:b<0:=by simpa[h]using d
    simp[h];omega
   ·have:¬b<0:=by simpa[h]using d
    simp[h];omega)
  exact .inl ⟨d,c⟩
 ·by_cases k:b.natAbs<=a.natAbs
  ·have c:=f (decide (a<0)) (a.natAbs-b.natAbs) (by omega) (by
    by_cases h:a<0
    ·have:¬b<0:=by simpa[h]using d
     simp[h];omega
    ·have:b<0:=by simpa[h]using d
     simp[h];omega)
   exact .inr (.inl ⟨d,k,c⟩)
  ·have c:=f (decide (b<0)) (b.natAbs-a.natAbs) (by omega) (by
    by_cases h:b<0
    ·have:¬a<0:=fun c=>d (by simp[h,c]);simp[h];omega
    ·have:a<0:=by
      by_cases c:a<0
      ·exact c
      ·exact(d (by simp[h,c])).elim
     simp[h];omega)
   exact .inr (.inr ⟨d,by omega,c⟩)
theorem D8(a:NI):(eI a=fq a.v/\a.sm=true/\-9223372036854775808<=a.v/\a.v<=9223372036854775807)\/(a.sm=false/\∃d c cs,eI a=.st 129 [.int .i64 d,.seq (c::cs)]):=by
 by_cases h:a.sm=true
 ·left;exact⟨by rw[jk,if_pos h],h,NI.pR h⟩
 ·right;refine⟨by simpa using h,?_⟩;have e:=NI.zV h;have b:az wB a.v.natAbs≠[]:=fun h=>by
   have:=cm bp a.v.natAbs;rw[h,dl,fb]at this;omega
  obtain⟨c,cs,hc⟩:=dg b;rw[jk,if_neg h,ky,eN,hc];exact⟨_,_,_,rfl⟩
theorem xn(a b:NI)(B:okW a.v)(D:okW b.v):aC prog 188 [eI a,eI b] (eI (a.add b)):=by
 have o:=nV (eI a) a.v (mq a);have q:=nV (eI b) b.v (mq b);have U:=nT B;have V:=nT D;have t:=IU a.v.natAbs b.v.natAbs (by omega) (by omega);have C:=VE a.v.natAbs b.v.natAbs (by omega) (by omega);have y:=TR B D;have uW:=D8 a;have G:=D8 b
 by_cases u:(a.sm=true/\b.sm=true)/\-9223372036854775808<=a.v+b.v/\a.v+b.v<=9223372036854775807
 ·obtain⟨⟨g,n⟩,d,l⟩:=u;rw[show eI a=fq a.v by rw[jk,if_pos g],show eI b=fq b.v by rw[jk,if_pos n],show a.add b=.of (a.v+b.v)by rw[NI.add,g,n];rfl,uC d l];generalize a.v=a at*;generalize b.v=b at*;refine aM nf Bx mix (by simp[f188]) ?_;have w:=aO (a+b) d l;have e:(decide (a<a+b)==decide (0<b))=true:=by
   have:a<a+b↔0<b:=by omega
   simp[this]
  simp[f188,fq,w,dD,cX,e]
 have F:eI (a.add b)=eI (.mk' (a.v+b.v)):=by
  by_cases h:-9223372036854775808<a.v+b.v/\a.v+b.v<9223372036854775808
  ·rw[ot h.1 h.2,jk,if_pos (NI.Ah h.1 h.2)];rfl
  ·by_cases l:(a.sm&&b.sm)=true
   ·have H:a.sm=true/\b.sm=true:=by simpa using l
    have I:¬(-9223372036854775808<=a.v+b.v/\a.v+b.v<=9223372036854775807):=fun h=>u ⟨H,h⟩;rw[Qc (by omega),jk,if_neg,NI.rW];intro g;have:=NI.pR g;rw[NI.rW]at this;omega
   ·rw[NI.add,NI.mk'];rw[show(a.sm&&b.sm)=false by simpa using l]
 rw[F];clear F;obtain⟨M,N,J⟩:=wP a;obtain⟨O,P,K⟩:=wP b;obtain⟨Y,Z,L⟩:=wP (.mk' (a.v+b.v));rw[L]at y⊢;rw[J]at o uW⊢;rw[K]at q G⊢;generalize a.v=f at*;generalize b.v=bv at*;refine aM nf Bx mix (by simp[f188]) ?_;simp[f188,-bA];rw[bA];simp[-bA];refine join (fun s=>aN s.env 2=.ptr 0 []/\aN s.env 3=.ptr 1 []/\aN s.env 4=.ptr 2 []/\s.heap=[.box false (.p (.st 129 [M,N])),.box false (.p (.st 129 [O,P])),.box false (.p (.st 129 [.int .i64 0,.aP]))]) ?_ ?_
 ·clear y t C o q;rcases uW with⟨d,m,l,g⟩|⟨m,Q,c,cs,d⟩
  ·simp only[fq,PV.st.injEq,ed,and_true,true_and]at d;obtain⟨rfl,rfl⟩:=d;rcases G with⟨n,A,S,T⟩|⟨A,Q,c,cs,n⟩
   ·simp only[fq,PV.st.injEq,ed,and_true,true_and]at n;obtain⟨rfl,rfl⟩:=n;have I:¬(-9223372036854775808<=f+bv/\f+bv<=9223372036854775807):=fun h=>u ⟨⟨m,A⟩,h⟩;have w:=WA (z:=f+bv) (by omega) (by omega);have e:¬(f<cb.wrap (f+bv)↔0<bv):=by
     rw[w]
     by_cases W:0<bv
     ·rw[if_neg (by omega),if_pos (by omega)];omega
     ·rw[if_pos (by omega)];omega
    simp[dD,cX,e]
   ·simp only[PV.st.injEq,ed,and_true,true_and]at n;obtain⟨rfl,rfl⟩:=n;simp[dD,cX]
  ·simp only[PV.st.injEq,ed,and_true,true_and]at d;obtain⟨rfl,rfl⟩:=d;simp[dD,cX]
 rintro⟨R,X⟩ ⟨i,j,k,E⟩;dsimp only at i j k E;subst E;simp[i,j,k];refine c1 o ?_;simp[i,j,k,ad,aL,bI];refine c1 q ?_;rcases y with⟨d,g⟩|⟨d,l,g⟩|⟨d,l,g⟩
 ·have m:(f<0↔bv<0):=by simpa using d
  rw[d]at g;simp[i,j,k,m,ad,aL,bI];refine c2 C ?_;simp;refine c2 g ?_;simp[i,j,k,ad,aL,bI]
 ·have m:¬(f<0↔bv<0):=by simpa using d
  have r:0<=fP f.natAbs bv.natAbs:=by
   have h:=mt pO.1 (show¬f.natAbs<bv.natAbs by omega);omega
  have x:=JW f.natAbs bv.natAbs l (by omega);simp[i,j,k,m,ad,aL,bI];refine c2 t ?_;simp[r];refine c2 x ?_;simp[i,j,k,ad,aL,bI];refine c2 g ?_;simp[i,j,k,ad,aL,bI]
 ·have m:¬(f<0↔bv<0):=by simpa using d
  have r:¬0<=fP f.natAbs bv.natAbs:=by have:=pO.2 l;omega
  have x:=JW bv.natAbs f.natAbs (by omega) (by omega);simp[i,j,k,m,ad,aL,bI];refine c2 t ?_;simp[r];refine c2 x ?_;simp[i,j,k,ad,aL,bI];refine c2 g ?_;simp[i,j,k,ad,aL,bI]
@[simp] theorem aMP(a:NI):aL (eI a)=.agg 129:=by
 obtain⟨x,y,h⟩:=wP a;rw[h];rfl
theorem RQ(a:NI):∃z:Int,z=if a.sm=true then a.v else if a.v<0 then -1 else 1:=⟨_,rfl⟩
noncomputable def sI(a:NI):Int:=b3 (RQ a)
theorem zW(a:NI):sI a=if a.sm=true then a.v else if a.v<0 then -1 else 1:=b2 (RQ a)
theorem R7(a:NI):∃p:PV,p=if a.sm=true then .aP else eN a.v.natAbs:=⟨_,rfl⟩
noncomputable def wI(a:NI):PV:=b3 (R7 a)
theorem DX(a:NI):wI a=if a.sm=true then .aP else eN a.v.natAbs:=b2 (R7 a)
@[simp] theorem ara(a:NI):cM (eI a)=[.int .i64 (sI a),wI a]:=by
 by_cases h:a.sm=true
 ·rw[jk,zW,DX,if_pos h,if_pos h,if_pos h];rfl
 ·rw[jk,zW,DX,if_neg h,if_neg h,if_neg h];rfl
theorem RR(a:NI):sI a<0↔a.v<0:=by
 rw[zW];split
 ·exact Iff.rfl
 ·split<;>omega
theorem mi{a:NI}(h:a.sm=true):wI a=.aP:=by rw[DX,if_pos h]
theorem oc{a:NI}(h:a.sm=false):∃c cs,wI a=.seq (c::cs):=by
 rcases D8 a with⟨_,b,_⟩|⟨_,e,c,cs,d⟩
 ·rw[h]at b;exact absurd b (by decide)
 ·refine⟨c,cs,?_⟩;have:=ara a;rw[d]at this;simp[cM]at this;exact this.2.symm
theorem mZ{a:NI}(h:a.sm=true):sI a=a.v:=by rw[zW,if_pos h]
theorem Et(a b:NI)(d:okW a.v)(c:okW b.v):aC prog 269 [eI a,eI b] (eI (a.sub b)):=by
 refine aM nf Gx mix (by simp[f269]) ?_;have e:okW b.neg.v:=by simpa[okW]using c
 simp[f269];refine e1 (ux b c) ?_;simp;refine e2 (xn a b.neg d e) ?_;simp[ad];exact Wk.refl _
theorem PN(a:NI)(c:okW a.v):aC prog 293 [eI a] (eI a.abs):=by
 refine aM nf OI mix (by simp[f293]) ?_
 by_cases h:a.v<0
 ·have b:=(RR a).2 h;have e:a.abs=a.neg:=by rw[NI.abs,if_pos h];rfl
  simp[f293,ad,b];refine c1 (ux a c) ?_;simp[ad,e]
 ·have b:=mt (RR a).1 h;have e:a.abs=a:=by rw[NI.abs,if_neg h]
  simp[f293,ad,b,e]
def jV(x y:Int):Int:=if x<y then -1 else if x=y then 0 else 1
theorem PO(a b:NI)(m:okW a.v)(n:okW b.v):aC prog 220 [eI a,eI b] (.int .i64 (jV a.v b.v)):=by
 refine aM nf Iu mix (by simp[f220]) ?_;have p:(a.sm=true/\b.sm=true)\/¬(a.sm=true/\b.sm=true):=b4 _;rcases p with⟨d,l⟩|d
 ·have f:=mi d;have g:=mi l;have j:=mZ d;have k:=mZ l;rcases cx a.v b.v with h|h|h
  ·have e:jV a.v b.v= -1:=by rw[jV,if_pos h]
   simp[f220,ad,f,g,j,k,h,e,dD,cX]
  ·have e:jV b.v b.v=0:=by rw[jV,if_neg (by omega),if_pos rfl]
   have d:¬a.v<b.v:=by omega
   simp[f220,ad,f,g,j,k,h,e,dD,cX]
  ·have e:jV a.v b.v=1:=by rw[jV,if_neg (by omega),if_neg (by omega)]
   have d:¬a.v<b.v:=by omega
   simp[f220,ad,f,g,j,k,h,d,e,dD,cX]
 ·have e:(if(a.sub b).v<0 then(-1:Int)else if(a.sub b).v=0 then 0 else 1)=jV a.v b.v:=by
   rw[NI.RV,jV];rcases cx a.v b.v with h|h|h
   ·rw[if_pos (by omega),if_pos h]
   ·rw[if_neg (by omega),if_pos (by omega),if_neg (by omega),if_pos h]
   ·rw[if_neg (by omega),if_neg (by omega),if_neg (by omega),if_neg (by omega)]
  have i:=uj (a.sub b);rw[e]at i;rcases hs:a.sm with _|_
  ·obtain⟨c,cs,f⟩:=oc hs;simp[f220,ad,f,dD,cX];refine c2 (Et a b m n) ?_;simp;refine c1 i ?_;simp
  ·have f:=mi hs;obtain⟨c,cs,g⟩:=oc (a:=b) (by cases o:b.sm with|false=>rfl|true=>exact(d ⟨hs,o⟩).elim);simp[f220,ad,f,g,dD,cX];refine c2 (Et a b m n) ?_;simp;refine c1 i ?_;simp
theorem U5{a b L M:Nat}(e:(az wB a).length<=L)(f:(az wB b).length<=M):(az wB (a*b)).length<=L+M:=by
 refine dT bp _ _ ?_;have c:=ej (cm bp a) (eo (show 0<wB by decide) e);have d:=ej (cm bp b) (eo (show 0<wB by decide) f);rw[fN];exact gc c d
theorem Aq(a b:NI)(K:(az wB a.v.natAbs).length+(az wB b.v.natAbs).length<=900000):aC prog 190 [eI a,eI b] (eI (a.mul b)):=by
 have I:=nV (eI a) a.v (mq a);have hq:=nV (eI b) b.v (mq b);have G:=VC a.v.natAbs b.v.natAbs (by omega);have N:=U5 (gj (az wB a.v.natAbs).length) (gj (az wB b.v.natAbs).length);have z:=wY (decide (a.v<0)!=decide (b.v<0)) (a.v.natAbs*b.v.natAbs) (by omega);have e:(if(decide (a.v<0)!=decide (b.v<0))=true then -((a.v.natAbs*b.v.natAbs:Nat):Int)else(a.v.natAbs*b.v.natAbs:Nat))=a.v*b.v:=by
  rw[<-ck];rcases c9 a.v 0 with j|j
  ·rcases c9 b.v 0 with d|d
   ·have:=Int.mul_nonneg_of_nonpos_of_nonpos (cB j) (cB d);simp[j,d];omega
   ·have:=Int.mul_nonpos_of_nonpos_of_nonneg (cB j) d;have o:¬b.v<0:=by omega
    simp[j,o];omega
  ·have o:¬a.v<0:=by omega
   rcases c9 b.v 0 with d|d
   ·have:=Int.mul_nonpos_of_nonneg_of_nonpos j (cB d);simp[o,d];omega
   ·have:=Int.mul_nonneg j d;have E:¬b.v<0:=by omega
    simp[o,E];omega
 rw[e]at z;rw[show a.mul b=.mk' (a.v*b.v)from rfl];refine aM nf Py mix (by simp[f190]) ?_;simp[f190,-bA];rw[bA];simp[-bA];refine join (fun s=>aN s.env 2=.ptr 0 []/\aN s.env 3=.ptr 1 []/\aN s.env 4=.ptr 2 []/\s.heap=[.box false (.p (eI a)),.box false (.p (eI b)),.box false (.p (.st 129 [.int .i64 0,.aP]))]) ?_ ?_
 ·rcases hs:a.sm with _|_
  ·obtain⟨c,cs,i⟩:=oc hs;simp[ad,i,dD,cX]
  ·have i:=mi hs;rcases q:b.sm with _|_
   ·obtain⟨c,cs,k⟩:=oc q;simp[ad,i,k,dD,cX]
   ·have k:=mi q;have f:=mZ hs;have g:=mZ q;have B:=NI.pR hs;have C:=NI.pR q;have t:=Eh a.v B.1 B.2;have u:=Eh b.v C.1 C.2;have M:=zy a.v.natAbs b.v.natAbs (by omega) (by omega);obtain⟨H,x⟩:∃H,H=a.v.natAbs*b.v.natAbs/18446744073709551616:=⟨_,rfl⟩
    obtain⟨L,r⟩:∃L,L=a.v.natAbs*b.v.natAbs% 18446744073709551616:=⟨_,rfl⟩
    rw[<-x,<-r]at M;have F:a.v.natAbs*b.v.natAbs=H*18446744073709551616+L:=by omega
    clear x r
    by_cases c1:H=0/\L<=9223372036854775807
    ·obtain⟨rfl,r⟩:=c1;have y:(L:Int)<=9223372036854775807:=by omega
     have w:cb.wrap (L:Int)=L:=aO _ (by omega) (by omega);have D:cb.wrap (-(L:Int))= -L:=aO _ (by omega) (by omega);rw[F]at e;simp only[g3,g4]at e;rw[ot (by rw[<-e];split<;>omega) (by rw[<-e];split<;>omega),fq]
     by_cases c2:a.v<0↔b.v<0
     ·rw[if_neg (by simp[c2])]at e;rw[<-e];simp[ad,i,k,f,g,dD,cX];refine e1 t ?_;simp[f,g];refine e1 u ?_;simp;refine e2 M ?_;simp[y,c2,ad,i,k,f,g,w]
     ·rw[if_pos (by simp[c2])]at e;rw[<-e];simp[ad,i,k,f,g,dD,cX];refine e1 t ?_;simp[f,g];refine e1 u ?_;simp;refine e2 M ?_;simp[y,c2,ad,i,k,f,g,w,D]
    ·simp[ad,i,k,f,g,dD,cX];refine e1 t ?_;simp[f,g];refine e1 u ?_;simp;refine e2 M ?_
     by_cases c2:H=0
     ·have c3:¬(L:Int)<=9223372036854775807:=fun h=>c1 ⟨c2,by omega⟩;simp[c2,c3]
     ·have c3:¬(H:Int)=0:=by omega
      simp[c2,c3]
 ·rintro⟨J,O⟩ ⟨l,m,n,A⟩;dsimp only at l m n A;subst A;simp[l,m,n];refine c1 I ?_;simp[l,m,n];refine c1 hq ?_;simp[l,m,n];refine c2 G ?_;simp;refine c2 z ?_;simp[l,m,n,ad]
  done
end Go.au
