import Derived.Test.YthmfmhbicipdmaaGreatDoorPE
/- Parts of a proof. -/
set_option linter.unusedSimpArgs false
set_option linter.unusedVariables false
set_option linter.unusedSectionVars false
open Go.Proofs.Tryz
open Bool renaming and_eq_true->b0, or_eq_true->b1
open Classical renaming choose_spec->b2, choose->b3, em->b4
open Go.IntKind renaming u64->b5, i64->cb, wrap_i64->cc
open Go.Lib renaming bitLen->cd
open Int renaming natAbs_mul->ce, natAbs_natCast->ck, lt_trichotomy->cv, natCast_mul->cx, lt_of_le_of_lt->cy, le_of_lt->c6, ediv_le_self->c9, ediv_nonneg->da, natAbs_sign_of_ne_zero->db, lt_or_le->dg
open List renaming getElem?_eq_getElem->dl, range->dp, exists_cons_of_ne_nil->dq, take_of_length_le->dx, length_nil->dy, map_congr_left->dz, range_one->ea, mem_range->eb, map_take->ec, map_cons->ed, map_nil->ee
open List.cons renaming injEq->ei
open Nat renaming mul_comm->ej, mod_eq_of_lt->en, lt_of_lt_of_le->eo, div_lt_iff_lt_mul->eq, pow_le_pow_right->er, lt_of_le_of_lt->ew, mod_lt->eP, pow_succ->e6, pow_pos->e7, mul_le_mul_right->e8, mul_le_mul_left->e9, pow_zero->fa, mul_lt_mul_of_pos_right->fb, add_mul->fd, div_add_mod->fl, lt_or_ge->fm, pow_add->fv, add_mul_mod_self_right->fw, mul_lt_mul''->gb, div_le_self->gc, add_sub_cancel->ge, one_mul->gg, le_refl->gi, mul_assoc->gj, add_comm->gm, mul_right_comm->gt, div_eq_of_lt->gx, lt_trans->gy, div_div_eq_div_mul->g0, div_one->g4, div_mul_le_self->g5, zero_mul->g6, zero_add->g7, add_zero->g8, zero_le->g9, pow_one->ha, min_eq_left->hb, add_sub_cancel_left->hd, mul_mod_mul_right->hg, mul_div_mul_right->hj, add_mul_div_right->hl, mul_one->ho, mul_mod_mul_left->hp, eq_zero_or_pos->hr, lt_of_succ_lt->ht, mul_ne_zero->hu, mod_add_div->hv, lt_succ_iff->hw, mul_le_mul->hy, add_assoc->hz, zero_mod->hA, sub_zero->hB, gcd->hC, beq->hD, or_comm->hE, mul_add->hF, not_lt->hG
open Rat renaming divInt->hH, normalize_eq_mkRat->hJ, sub_eq_add_neg->hK, num_eq_zero->hL
namespace Go.ak
open Go.Proofs
set_option maxHeartbeats 4000000
set_option maxRecDepth 100000
theorem zQ(n:Nat):b5.wrap (n:Int)=(n% wB:Nat):=by
 rw[show b5.wrap (n:Int)=(n:Int)% 18446744073709551616 from rfl];rfl
theorem ye(x s:Nat)(hs:s<64):b5.wrap ((x:Int)*2^(min s b5.bits))=(x*2^s% wB:Nat):=by
 rw[show b5.bits=64 from rfl,hb (by omega),<-zQ];congr 1
theorem vq(x s:Nat)(hs:s<=64):(x:Int).fdiv (2^(min s b5.bits))=(x/2^s:Nat):=by
 rw[show b5.bits=64 from rfl,hb hs,show(2:Int)^s=((2^s:Nat):Int)by push_cast;rfl,Int.fdiv_eq_ediv_of_nonneg _ (Int.natCast_nonneg _)];rfl
theorem Ft(a b:Nat)(c:a<wB)(d:b<wB):b5.wrap ((a% 2^b5.bits|||b% 2^b5.bits:Nat):Int)=(a|||b:Nat):=by
 rw[show(2^b5.bits:Nat)=wB from rfl,en c,en d,zQ,en];exact Nat.or_lt_two_pow (n:=64) c d
def cu(a s i:Nat):Nat:=if i=0 then 0 else ae wB a (i-1)/2^(64-s)
def gS(a s i k:Nat):Nat:=if k<i then ae wB (a*2^s) k else if k=i then cu a s i else 0
theorem Aj{s:Nat}(hs:s<64):2^s*2^(64-s)=wB:=by rw[<-fv,show s+(64-s)=64 by omega];rfl
theorem M0(a s i:Nat)(hs:s<64):cu a s i|||(ae wB a i*2^s% wB)=ae wB (a*2^s) i:=by
 have c:0<2^s:=e7 (by decide);have d:0<2^(64-s):=e7 (by decide);have b:=Aj hs;have hc:cu a s i<2^s:=by
  rw[cu];split
  ·exact c
  ·rw[eq d,b];exact cr bp _ _
 have e:ae wB a i*2^s% wB=ae wB a i% 2^(64-s)*2^s:=by
  rw[<-b,ej,hp,ej]
 rw[hE,e,Ei hc,<-e];cases i with
 |zero=>rw[cu,if_pos rfl,g8,<-b];exact(XX a).symm
 |succ i=>rw[cu,if_neg (by omega),ge,<-b];exact(XY c d a i).symm
theorem CA{n:Nat}{f g:Nat->Nat}(h:∀k,k<n->f k=g k):ch n f=ch n g:=by
 rw[ch,ch];exact dz fun k hk=>by rw[h k (eb.1 hk)]
theorem axE(a s n:Nat)(hs:s<64)(h:ae wB a n=0):cu a s n=ae wB (a*2^s) n:=by
 rw[<-M0 a s n hs,h,g6,hA,Nat.or_zero]
theorem Li(a s:Nat)(hs:s<64)(A:(az wB a).length<=1000000):cS prog 332 [] [.p (eN a),.p (.int .i64 s)] [.arr .exact 0 1 (ch ((az wB a).length+1) (ae wB (a*2^s)))] (.sl 0 0 1 0 ((az wB a).length+1)):=by
 refine gM nf Po mix (by simp[f332]) ?_;have C:∀i(h:i<(az wB a).length),(az wB a)[i]=ae wB a i:=fun i h=>eO bp h;have F:=@DV a;simp only[eN];generalize az wB a=x at*;obtain⟨n,c⟩:∃n,x.length=n:=⟨_,rfl⟩
 rw[c]at A;have J:cb.wrap ((n:Int)+1)=(n:Int)+1:=ct (by omega);simp[f332,c,J];refine⟨⟨by omega,by simp only[c8];omega⟩,?_⟩;rw[Dw (f:=gS a s 0) (by intro j;simp[gS,cu])];refine lp (α:=Nat) (fun i=>⟨[(14,.p (.int .i64 i)),(13,.p (.int .i64 n)),(12,.p (.seq (x.map fun x:Nat=>.int .u64 x))),(5,.sl 0 0 1 0 (n+1)),(1,.p (.int .i64 s))],[.arr .exact 0 1 (ch (n+1) (gS a s i))]⟩)
  (fun i=>i<=n) (fun i=>n-i) 0 (by simp) ?_ (he:=by simp)
 intro i k1;have w:=ct (i:=i) (by omega)
 by_cases hi:i<n
 ·have l:i<x.length:=by rw[c];exact hi
  have hx:=C i l;have e:i<n+1:=by omega
  have o:=nv (gS a s i) e;have E:ae wB a i*2^s% wB<wB:=eP _ (by decide);have B:gS a s i i<wB:=by
   rw[gS,if_neg (by omega),if_pos rfl,cu];split
   ·decide
   ·exact ew (gc _ _) (cr bp _ _)
  have e1:=ye (ae wB a i) s hs;have e2:=Ft (gS a s i i) (ae wB a i*2^s% wB) B E;have e3:gS a s i i|||(ae wB a i*2^s% wB)=ae wB (a*2^s) i:=by rw[<-M0 a s i hs,gS,if_neg (by omega),if_pos rfl]
  rw[e3]at e2;have y:cb.wrap (64-(s:Int))=((64-s:Nat):Int):=by rw[aO _ (by omega) (by omega)];omega
  have e4:=vq (ae wB a i) (64-s) (by omega);have r:i+1<n+1:=by omega
  have u:=p0 (n:=n+1) (i:=i) (f:=gS a s i) (g:=fun k=>if k=i then ae wB (a*2^s) i else gS a s i k) (if_pos rfl) (fun k hk=>if_neg hk);have G:=p0 (n:=n+1) (i:=i+1) (v:=ae wB a i/2^(64-s)) (f:=fun k=>if k=i then ae wB (a*2^s) i else gS a s i k) (g:=gS a s (i+1)) (by
   simp[gS,cu]) (fun k hk=>by
   by_cases d:k=i
   ·subst d;simp[gS]
   ·simp only[gS,d,if_false]
    by_cases b:k<i
    ·rw[if_pos (by omega),if_pos b]
    ·rw[if_neg (by omega),if_neg hk,if_neg b])
  have D:=nv (n:=n+1) (fun k=>if k=i then ae wB (a*2^s) i else gS a s i k) r;have H:s=0->ch (n+1) (fun k=>if k=i then ae wB (a*2^s) i else gS a s i k)=ch (n+1) (gS a s (i+1)):=fun h=>by
   have K:ae wB a i/2^(64-s)=0:=by rw[h];exact gx (cr bp _ _)
   refine CM fun k=>?_
   by_cases d:k=i
   ·subst d;simp[gS]
   ·simp only[gS,d,if_false]
    by_cases b:k<i
    ·rw[if_pos b,if_pos (by omega)]
    ·by_cases q:k=i+1
     ·rw[q,if_neg (by omega),if_neg (by omega),if_pos rfl,cu,if_neg (by omega),ge,K]
     ·rw[if_neg b,if_neg (by omega),if_neg q]
  generalize ae wB a i*2^s% wB=L at*;generalize ae wB a i/2^(64-s)=M at*;generalize (fun k=>if k=i then ae wB (a*2^s) i else gS a s i k)=g1 at*;obtain⟨t,I⟩:∃t,t=64-s:=⟨_,rfl⟩
  rw[<-I]at y e4
  by_cases m:0<s
  ·simp[c,hi,e,l,hx,o,e1,e2,m,y,e4,w,u,r,D,G,aa,aI,bG];refine⟨⟨by rfl,by rfl,by rfl⟩,?_⟩;refine⟨by omega,?_⟩;exact rd (i+1) (show i+1<=n by omega)
  ·have z:s=0:=by omega
   simp[c,hi,e,l,hx,o,e1,e2,m,w,u,H z,aa,aI,bG];refine⟨⟨by rfl,by rfl,by rfl⟩,?_⟩;exact rd (i+1) (show i+1<=n by omega)
 have:i=n:=by omega
 subst this;simp[c];refine .inl (CA fun k hk=>?_);rw[gS]
 by_cases b:k<i
 ·rw[if_pos b]
 ·obtain rfl:k=i:=by omega
  rw[if_neg b,if_pos rfl,axE a s k hs (F (by omega))]
theorem zh:∀(n x:Nat),x<=n->0<x->x<2^64->1<=cd x/\2^(cd x-1)<=x/\x<2^cd x
 |0,x,h,a,_=>by omega
 |n+1,x,h,a,c=>by
  have d:=Lib.bitLen_half x (by omega) c
  by_cases b:x=1
  ·subst b;decide
  ·obtain⟨i1,i2,i3⟩:=zh n (x/2) (by omega) (by omega) (by omega);rw[d];generalize cd (x/2)=L at*;obtain⟨k,rfl⟩:∃k,L=k+1:=⟨L-1,by omega⟩
   rw[show 1+(k+1)=k+2 by omega,show k+2-1=k+1 by omega,e6,e6];rw[e6]at i3;simp only[ge]at i2;omega
theorem Qo{x:Nat}(a:0<x)(h:x<2^64):cd x<=64:=by
 obtain⟨_,b,_⟩:=zh x x (gi _) a h;have:=(Nat.pow_lt_pow_iff_right (show 1<2 by decide)).1 (ew b h);omega
def wH:Nat:=4294967296
theorem wHH:wH*wH=wB:=rfl
theorem Mt{y:Nat}(a:0<y)(h:y<2^64):∃s,s<64/\cd y+s=64/\wB<=2*(y*2^s)/\y*2^s<wB:=by
 obtain⟨d,b,c⟩:=zh y y (gi _) a h;have e:=Qo a h;refine⟨64-cd y,by omega,by omega,?_,?_⟩
 ·have:=e8 (2^(64-cd y)) b;rw[<-fv,show cd y-1+(64-cd y)=63 by omega]at this;simp only[wB];omega
 ·have:=fb c (e7 (show 0<2 by decide) (n:=64-cd y));rw[<-fv,show cd y+(64-cd y)=64 by omega]at this;simp only[wB];omega
structure SD(hi lo y s:Nat) where
 Y:Nat
 v1:Nat
 v0:Nat
 T:Nat
 u:Nat
 u1:Nat
 u0:Nat
 q1:Nat
 R:Nat
 q0:Nat
 hY:Y=y*2^s
 eY:Y=v1*wH+v0
 BF:v1<wH
 mj:v0<wH
 vu:wH<=2*v1
 yl:T<Y
 Bo:hi*2^s<wB
 Fu:hi*2^s|||lo/2^(64-s)=T
 eu:u=lo*2^s% wB
 E4:u1=u/wH
 E3:u0=u% wH
 BE:u1<wH
 BD:u0<wH
 pg:q1=hq wH v1 v0 T u1
 Bx:q1<wH
 eR:R=T*wH+u1-q1*Y
 yi:R<Y
 Sc:q1*Y<=T*wH+u1
 xV:q0=hq wH v1 v0 R u0
 Bw:q0<wH
 Sb:q0*Y<=R*wH+u0
 DZ:q1*wH+q0=(hi*wB+lo)/y
 rem:(R*wH+u0-q0*Y)/2^s=(hi*wB+lo)% y
theorem azV{hi lo y:Nat}(o:hi<y)(H:y<wB)(B:lo<wB):∃s,s<64/\cd y+s=64/\Nonempty (SD hi lo y s):=by
 obtain⟨s,hs,w,J,m⟩:=Mt (y:=y) (by omega) H;have g:=Aj hs;have a:0<2^s:=e7 (by decide);have x:0<2^(64-s):=e7 (by decide);refine⟨s,hs,w,⟨?_⟩⟩;have e0:y*2^s=y*2^s/wH*wH+y*2^s% wH:=by rw[ej _ wH,fl]
 have E:y*2^s% wH<wH:=eP _ (by decide);have F:y*2^s/wH<wH:=by rw[eq (by decide)];exact m
 have G:wH<=2*(y*2^s/wH):=by simp only[wH,wB]at*;omega
 have A:lo/2^(64-s)<2^s:=by rw[eq x,g];exact B
 have v:hi*2^s<wB:=gy (fb o a) m;have h:hi*2^s+lo/2^(64-s)<y*2^s:=by
  have:=e8 (2^s) (show hi+1<=y from o);rw[fd,gg]at this;omega
 have C:hi*2^s|||lo/2^(64-s)=hi*2^s+lo/2^(64-s):=Ei A
 have n:lo*2^s% wB/wH<wH:=by rw[eq (by decide)];exact eP _ (by decide)
 have b:lo*2^s% wB% wH<wH:=eP _ (by decide);have i:(hi*wB+lo)*2^s=((hi*2^s+lo/2^(64-s))*wH+lo*2^s% wB/wH)*wH+lo*2^s% wB% wH:=by
  have e1:lo*2^s=lo/2^(64-s)*wB+lo*2^s% wB:=by
   have e2:lo*2^s/wB=lo/2^(64-s):=by
    rw[<-g,ej lo,Nat.mul_div_mul_left _ _ a]
   rw[<-e2,ej _ wB,fl]
  have e3:lo*2^s% wB=lo*2^s% wB/wH*wH+lo*2^s% wB% wH:=by rw[ej _ wH,fl]
  rw[fd,gt,e1,fd (_*wH),gj (_+_) wH wH,wHH,fd];generalize hi*2^s*wB=I;rw[<-e1];generalize lo*2^s% wB=a2 at*;generalize lo/2^(64-s)*wB=a3 at*;omega
 have l:0<y*2^s:=by omega
 obtain⟨e,d⟩:=aAz (Y:=y*2^s) (U:=(hi*wB+lo)*2^s) (c:=wH) l;have j:(hi*wB+lo)*2^s/wH=(hi*2^s+lo/2^(64-s))*wH+lo*2^s% wB/wH:=by
  rw[i,gm,hl _ _ (by decide),gx b,g7]
 have k:(hi*wB+lo)*2^s% wH=lo*2^s% wB% wH:=by
  rw[i,gm,fw,en b]
 rw[j,k,hj _ _ a]at e;rw[j,k,ej _ (2^s),ej y,hp]at d;rw[ej (2^s) y]at d;generalize z:y*2^s=Y at*;generalize hi*2^s+lo/2^(64-s)=T at*;generalize D:lo*2^s% wB=u at*;have t:=N6 (T:=T) (c:=wH) (u1:=u/wH) (v1:=Y/wH) (v0:=Y% wH);rw[<-e0]at t;have r:=N6 (T:=(T*wH+u/wH)% Y) (c:=wH) (u1:=u% wH) (v1:=Y/wH) (v0:=Y% wH);rw[<-e0]at r;have q:hq wH (Y/wH) (Y% wH) T (u/wH)=(T*wH+u/wH)/Y:=by rw[hq,<-e0]
 have p:hq wH (Y/wH) (Y% wH) ((T*wH+u/wH)% Y) (u% wH)=((T*wH+u/wH)% Y*wH+u% wH)/Y:=by rw[hq,<-e0]
 have f:(T*wH+u/wH)% Y<Y:=eP _ l;exact{
  Y:=Y,v1:=Y/wH,v0:=Y% wH,T:=T,u:=u,u1:=u/wH,u0:=u% wH
  q1:=hq wH (Y/wH) (Y% wH) T (u/wH),R:=(T*wH+u/wH)% Y,q0:=hq wH (Y/wH) (Y% wH) ((T*wH+u/wH)% Y) (u% wH)
  hY:=z.symm,eY:=e0,BF:=F,mj:=E,vu:=G,yl:=h,Bo:=v,Fu:=C,eu:=D.symm,E4:=rfl,E3:=rfl,BE:=n,BD:=b
  pg:=rfl,Bx:=QY (by rw[<-e0];exact h) n,eR:=t.symm,yi:=f
  Sc:=by rw[q];exact g5 _ _
  xV:=rfl,Bw:=QY (by rw[<-e0];exact f) b
  Sb:=by rw[p];exact g5 _ _
  DZ:=by rw[q,p,<-e]
  rem:=by rw[r,<-d,Nat.mul_div_cancel_left _ a]}
section
variable[Gl]{P:Program}{ag:FuncId->Bool}{q:Nat×Nat}
theorem tg{b:Code}{Q:bA->St->Prop}{s:St}{id:Nat}(R:St->Prop)(f:ff P ag q (.loop b) (sq id (sL R (fun _ _=>False))) s)(c:∀s',R s'->Q .normal s'):ff P ag q (.loop b) (sq id Q) s:=by
 refine n9 _ (fun e s a=>?_) f;cases e with
 |normal=>exact c s a
 |exit i=>
  simp only[sq,oM]at a⊢
  by_cases d:i=id
  ·simp[d,sL]at a⊢;exact c s a
  ·simp[d,sL]at a
 |ret=>exact a.elim
end
theorem Lr(a:Nat)(b:a<wB):b5.wrap ((a% 2^b5.bits&&&4294967295% 2^b5.bits:Nat):Int)=(a% wH:Nat):=by
 rw[show(2^b5.bits:Nat)=wB from rfl,en b,show 4294967295% wB=2^32-1 from rfl,Nat.and_two_pow_sub_one_eq_mod,zQ];rw[show(2:Nat)^32=wH from rfl,en (eo (eP _ (by decide)) (show wH<=wB by decide))]
theorem SB{a b c:Int}{R:Nat}(h:a+b-c=R)(hR:R<wB):b5.wrap (b5.wrap (b5.wrap a+b)-b5.wrap c)=R:=by
 show(((a% 18446744073709551616+b)% 18446744073709551616)-c% 18446744073709551616)% 18446744073709551616=R;have:R<18446744073709551616:=hR;omega
theorem Om(hi lo y:Nat)(aC:hi<y)(aj:y<wB)(ah:lo<wB):au prog 330 [.int .u64 hi,.int .u64 lo,.int .u64 y] (.aC [.int .u64 ((hi*wB+lo)/y:Nat),.int .u64 ((hi*wB+lo)% y:Nat)]):=by
 refine aG nf Pp mix (by simp[f330]) ?_;have H:¬(y:Int)=0:=by omega
 have N:¬(y:Int)<=hi:=by omega
 have af:¬y<=hi:=by omega
 have ae:¬y=0:=by omega
 by_cases ad:hi=0
 ·subst ad;have ag:b5.wrap ((lo:Int)/y)=(lo:Int)/y:=fP _ (da (by omega) (by omega)) (cy (c9 _ (by omega)) (by omega));have ax:(lo:Int).tmod y=(lo:Int)% y:=Int.tmod_eq_emod_of_nonneg (by omega);simp[f330,H,N,ae,af,ag,ax]
 obtain⟨s,hs,aR,⟨Y,b,v0,T,u,u1,u0,q1,R,q0,ac,eY,BF,mj,vu,yl,Bo,Fu,eu,E4,E3,BE,BD,pg,Bx,eR,yi,Sc,xV,Bw,Sb,DZ,rem⟩⟩:=azV aC aj ah;have aA:=Px y aj;obtain⟨t,ai⟩:∃t,t=64-s:=⟨_,rfl⟩
 have O:wH=4294967296:=rfl;have ay:wB=18446744073709551616:=rfl;have X:Y<wB:=by
  rw[O]at BF mj eY;rw[ay];omega
 have aw:b5.wrap (64-((cd y:Nat):Int))=s:=by rw[fP _ (by omega) (by omega)];omega
 have f2:b5.wrap (64-(s:Int))=t:=by rw[fP _ (by omega) (by omega)];omega
 have f3:b5.wrap ((y:Int)*2^(min s b5.bits))=Y:=by rw[ye y s hs,<-ac,en X]
 have f4:(Y:Int).fdiv (2^(min 32 b5.bits))=b:=by
  rw[vq Y 32 (by omega)];rw[O]at mj eY;congr 1;omega
 have f5:b5.wrap ((hi:Int)*2^(min s b5.bits))=(hi*2^s:Nat):=by rw[ye hi s hs,en Bo]
 have f6:(lo:Int).fdiv (2^(min t b5.bits))=(lo/2^t:Nat):=vq lo t (by omega);have f7:=Ft (hi*2^s) (lo/2^t) Bo (ew (gc _ _) ah);rw[ai,Fu,<-ai]at f7;have f8:b5.wrap ((lo:Int)*2^(min s b5.bits))=u:=by rw[ye lo s hs,<-eu]
 have aO:u<wB:=by rw[eu];exact eP _ (by decide)
 have f9:(u:Int).fdiv (2^(min 32 b5.bits))=u1:=by
  rw[vq u 32 (by omega)];congr 1;rw[E4];rfl
 have d:0<b:=by rw[O]at vu;omega
 have am:¬b=0:=by omega
 have an:¬(b:Int)=0:=by omega
 have aP:T<wB:=by omega
 generalize hi*2^s=aQ at*;generalize lo/2^t=aS at*;have aH:T/b<=wH+1:=QX d (by rw[<-eY];exact yl) vu mj;have aL:T/b*b+T% b=T:=by rw[ej,fl]
 have aT:T% b<b:=eP _ d;have aJ:=N7 (T:=T) (u1:=u1) d mj BE;have g1:b5.wrap ((T:Int)/b)=(T/b:Nat):=by rw[fP _ (da (by omega) (by omega)) (cy (c9 _ (by omega)) (by omega))];rfl
 generalize T/b=K at*;generalize T% b=ak at*;have g2:b5.wrap ((T:Int)-b5.wrap ((K:Int)*b))=ak:=by
  have e:((K*b:Nat):Int)=(K:Int)*b:=by push_cast;rfl
  rw[fP ((K:Int)*b) (by omega) (by omega),fP _ (by omega) (by omega)];omega
 have aa:=Lr Y X;have ab:=Lr u aO;rw[show Y% wH=v0 by rw[eY,gm,fw,en mj]]at aa;rw[<-E3]at ab;have aZ:b<4294967296:=BF;have aX:v0<4294967296:=mj;have aW:u1<4294967296:=BE;have aV:u0<4294967296:=BD;have aY:4294967296<=2*b:=vu;have aI:R/b<=wH+1:=QX d (by rw[<-eY];exact yi) vu mj;have aM:R/b*b+R% b=R:=by rw[ej,fl]
 have aU:R% b<b:=eP _ d;have aq:R<wB:=by omega
 have aK:=N7 (T:=R) (u1:=u0) d mj BD;have aD:b5.wrap ((R:Int)/b)=(R/b:Nat):=by rw[fP _ (da (by omega) (by omega)) (cy (c9 _ (by omega)) (by omega))];rfl
 generalize R/b=L at*;generalize R% b=al at*;have aE:b5.wrap ((R:Int)-b5.wrap ((L:Int)*b))=al:=by
  have e:((L*b:Nat):Int)=(L:Int)*b:=by push_cast;rfl
  rw[fP ((L:Int)*b) (by omega) (by omega),fP _ (by omega) (by omega)];omega
 have ao:b5.wrap (b5.wrap (b5.wrap ((T:Int)*4294967296)+u1)-b5.wrap ((q1:Int)*Y))=R:=by
  refine SB (h:=?_) (hR:=aq);have e1:((T*wH:Nat):Int)=(T:Int)*4294967296:=by push_cast;rfl
  have e2:((q1*Y:Nat):Int)=(q1:Int)*Y:=by push_cast;rfl
  omega
 have M2:b5.wrap (b5.wrap ((q1:Int)*4294967296)+q0)=((q1*wH+q0:Nat):Int):=by
  have H:q1*4294967296+q0<18446744073709551616:=by
   have N:q1<4294967296:=Bx;have ag:q0<4294967296:=Bw;omega
  rw[fP ((q1:Int)*4294967296) (by omega) (by omega),fP _ (by omega) (by omega)];push_cast;rfl
 obtain⟨Z,P⟩:∃Z,Z=R*wH+u0-q0*Y:=⟨_,rfl⟩
 have ar:Z<wB:=by
  have H:Z/2^s<y:=by rw[P,rem];exact eP _ (by omega)
  rw[eq (e7 (by decide)),<-ac]at H;omega
 have ap:b5.wrap (b5.wrap (b5.wrap ((R:Int)*4294967296)+u0)-b5.wrap ((q0:Int)*Y))=Z:=by
  refine SB (h:=?_) (hR:=ar);have e1:((R*wH:Nat):Int)=(R:Int)*4294967296:=by push_cast;rfl
  have e2:((q0*Y:Nat):Int)=(q0:Int)*Y:=by push_cast;rfl
  omega
 have M:=vq Z s (by omega);rw[P,rem]at M;rw[<-P]at M;rw[DZ]at M2;simp[f330,H,N,ae,af,ad];refine c1 aA ?_;simp[aw,f2,f3,f4,f5,f6,f7,f8,f9,am,an,g1,g2,aa,ab];refine tg (fun s'=>aN s'.env 15=.p (.int .u64 q1)/\aN s'.env 14=.p (.int .u64 u0)/\aN s'.env 13=.p (.int .u64 u1)/\aN s'.env 11=.p (.int .u64 T)/\aN s'.env 10=.p (.int .u64 v0)/\aN s'.env 9=.p (.int .u64 b)/\aN s'.env 8=.p (.int .u64 s)/\aN s'.env 2=.p (.int .u64 Y)/\s'.heap=[]) ?_ ?_
 ·refine lp (α:=Nat×Nat) (fun a=>⟨[(16,.p (.int .u64 a.2)),(15,.p (.int .u64 a.1)),(14,.p (.int .u64 u0)),(13,.p (.int .u64 u1)),(11,.p (.int .u64 T)),(10,.p (.int .u64 v0)),(9,.p (.int .u64 b)),(8,.p (.int .u64 s)),(2,.p (.int .u64 Y))],[]⟩) (fun a=>a.1*b+a.2=T/\hq wH b v0 T u1<=a.1/\a.2<wH/\a.1<=wH+1) (fun a=>a.1) (K,ak) ⟨aL,aJ,by omega,aH⟩ ?_;rintro⟨x,r⟩ ⟨k1,k2,k3,k4⟩;dsimp only at k1 k2 k3 k4;have aF:r<4294967296:=k3;have W:x<=4294967297:=k4;have g:b5.wrap ((x:Int)*v0)=(x*v0:Nat):=by
   have:=hy W (show v0<=4294967295 by omega);rw[fP _ (by rw[<-cx];omega) (by rw[<-cx];omega)];push_cast;rfl
  have v:b5.wrap (4294967296*(r:Int))=4294967296*r:=fP _ (by omega) (by omega);have w:b5.wrap (4294967296*(r:Int)+u1)=4294967296*r+u1:=fP _ (by omega) (by omega);have m:b5.wrap ((r:Int)+b)=r+b:=fP _ (by omega) (by omega)
  by_cases i:4294967296<=x\/4294967296*r+u1<x*v0
  ·have j:=PJ d (show 0<wH by decide) k1 k2 (i.imp (fun h=>⟨h,by rw[<-pg];exact Bx⟩) id);obtain⟨k,rfl⟩:∃k,x=k+1:=⟨x-1,by
    rcases i with h|h
    ·omega
    ·rcases hr x with e|e
     ·rw[e]at h;omega
     ·omega⟩
   have l:b5.wrap (k:Int)=k:=fP _ (by omega) (by omega);have k5:k*b+(r+b)=T:=by rw[<-k1,fd];omega
   rw[ge]at j;have kB:k<=wH+1:=by omega
   by_cases Q:4294967296<=r+b
   ·have hq:=MM d (by rw[<-eY];exact yl) mj k5 Q j;have f:(4294967296:Int)<=(r:Int)+b:=by omega
    rw[<-pg]at hq;subst hq;rcases fm (k+1) 4294967296 with hc|hc
    ·have n:((k:Int)+1<4294967296):=by omega
     have c:¬((4294967296:Int)<=(k:Int)+1):=by omega
     have o:(4294967296*(r:Int)+u1<((k+1)*v0:Nat)):=by omega
     have q:4294967296*r+u1<(k+1)*v0:=by omega
     generalize (k+1)*v0=J at*;push_cast at g;simp[g,v,w,l,m,n,c,o,q,f]
    ·have c:((4294967296:Int)<=(k:Int)+1):=by omega
     simp[l,m,c,f]
   ·have f:¬(4294967296:Int)<=(r:Int)+b:=by omega
    rcases fm (k+1) 4294967296 with hc|hc
    ·have n:((k:Int)+1<4294967296):=by omega
     have c:¬((4294967296:Int)<=(k:Int)+1):=by omega
     have o:(4294967296*(r:Int)+u1<((k+1)*v0:Nat)):=by omega
     have q:4294967296*r+u1<(k+1)*v0:=by omega
     generalize (k+1)*v0=J at*;push_cast at g;simp[g,v,w,l,m,n,c,o,q,f];exact rd (k,r+b) ⟨k5,j,show r+b<4294967296 by omega,kB⟩
    ·have c:((4294967296:Int)<=(k:Int)+1):=by omega
     simp[l,m,c,f];exact rd (k,r+b) ⟨k5,j,show r+b<4294967296 by omega,kB⟩
  ·have aB:¬4294967296<=x:=fun h=>i (.inl h);have U:¬4294967296*r+u1<x*v0:=fun h=>i (.inr h);have hq:=DQ d (show 0<wH by decide) k1 k2 (hG.1 U);rw[<-pg]at hq;subst hq;have S:¬(4294967296:Int)<=x:=by omega
   have V:¬(4294967296*(r:Int)+u1<(x*v0:Nat)):=by omega
   generalize x*v0=J at*;simp[g,v,w,S,V]
 rintro⟨av,az⟩ ⟨z,A,B,C,D,E,F,G,I⟩;dsimp only at z A B C D E F G I;subst I;simp[z,A,B,C,D,E,F,G,ao,am,an,aD,aE];refine tg (fun s'=>aN s'.env 18=.p (.int .u64 q0)/\aN s'.env 15=.p (.int .u64 q1)/\aN s'.env 17=.p (.int .u64 R)/\aN s'.env 14=.p (.int .u64 u0)/\aN s'.env 10=.p (.int .u64 v0)/\aN s'.env 9=.p (.int .u64 b)/\aN s'.env 8=.p (.int .u64 s)/\aN s'.env 2=.p (.int .u64 Y)/\s'.heap=[]) ?_ ?_
 ·refine lp (α:=Nat×Nat) (fun a=>⟨[(16,.p (.int .u64 a.2)),(18,.p (.int .u64 a.1)),(15,.p (.int .u64 q1)),(17,.p (.int .u64 R)),(14,.p (.int .u64 u0)),(10,.p (.int .u64 v0)),(9,.p (.int .u64 b)),(8,.p (.int .u64 s)),(2,.p (.int .u64 Y))],[]⟩) (fun a=>a.1*b+a.2=R/\hq wH b v0 R u0<=a.1/\a.2<wH/\a.1<=wH+1) (fun a=>a.1) (L,al) ⟨aM,aK,by omega,aI⟩ ?_ (he:=by simp[z,A,B,C,D,E,F,G]);rintro⟨x,r⟩ ⟨k1,k2,k3,k4⟩;dsimp only at k1 k2 k3 k4;have aF:r<4294967296:=k3;have W:x<=4294967297:=k4;have g:b5.wrap ((x:Int)*v0)=(x*v0:Nat):=by
   have:=hy W (show v0<=4294967295 by omega);rw[fP _ (by rw[<-cx];omega) (by rw[<-cx];omega)];push_cast;rfl
  have v:b5.wrap (4294967296*(r:Int))=4294967296*r:=fP _ (by omega) (by omega);have w:b5.wrap (4294967296*(r:Int)+u0)=4294967296*r+u0:=fP _ (by omega) (by omega);have m:b5.wrap ((r:Int)+b)=r+b:=fP _ (by omega) (by omega)
  by_cases i:4294967296<=x\/4294967296*r+u0<x*v0
  ·have j:=PJ d (show 0<wH by decide) k1 k2 (i.imp (fun h=>⟨h,by rw[<-xV];exact Bw⟩) id);obtain⟨k,rfl⟩:∃k,x=k+1:=⟨x-1,by
    rcases i with h|h
    ·omega
    ·rcases hr x with e|e
     ·rw[e]at h;omega
     ·omega⟩
   have l:b5.wrap (k:Int)=k:=fP _ (by omega) (by omega);have k5:k*b+(r+b)=R:=by rw[<-k1,fd];omega
   rw[ge]at j;have kB:k<=wH+1:=by omega
   by_cases Q:4294967296<=r+b
   ·have hq:=MM d (by rw[<-eY];exact yi) mj k5 Q j;have f:(4294967296:Int)<=(r:Int)+b:=by omega
    rw[<-xV]at hq;subst hq;rcases fm (k+1) 4294967296 with hc|hc
    ·have n:((k:Int)+1<4294967296):=by omega
     have c:¬((4294967296:Int)<=(k:Int)+1):=by omega
     have o:(4294967296*(r:Int)+u0<((k+1)*v0:Nat)):=by omega
     have q:4294967296*r+u0<(k+1)*v0:=by omega
     generalize (k+1)*v0=J at*;push_cast at g;simp[g,v,w,l,m,n,c,o,q,f]
    ·have c:((4294967296:Int)<=(k:Int)+1):=by omega
     simp[l,m,c,f]
   ·have f:¬(4294967296:Int)<=(r:Int)+b:=by omega
    rcases fm (k+1) 4294967296 with hc|hc
    ·have n:((k:Int)+1<4294967296):=by omega
     have c:¬((4294967296:Int)<=(k:Int)+1):=by omega
     have o:(4294967296*(r:Int)+u0<((k+1)*v0:Nat)):=by omega
     have q:4294967296*r+u0<(k+1)*v0:=by omega
     generalize (k+1)*v0=J at*;push_cast at g;simp[g,v,w,l,m,n,c,o,q,f];exact rd (k,r+b) ⟨k5,j,show r+b<4294967296 by omega,kB⟩
    ·have c:((4294967296:Int)<=(k:Int)+1):=by omega
     simp[l,m,c,f];exact rd (k,r+b) ⟨k5,j,show r+b<4294967296 by omega,kB⟩
  ·have aB:¬4294967296<=x:=fun h=>i (.inl h);have U:¬4294967296*r+u0<x*v0:=fun h=>i (.inr h);have hq:=DQ d (show 0<wH by decide) k1 k2 (hG.1 U);rw[<-xV]at hq;subst hq;have S:¬(4294967296:Int)<=x:=by omega
   have V:¬(4294967296*(r:Int)+u0<(x*v0:Nat)):=by omega
   generalize x*v0=J at*;simp[g,v,w,S,V]
 rintro⟨av,az⟩ ⟨z,A,B,C,D,E,F,G,I⟩;dsimp only at z A B C D E F G I;subst I;simp[z,A,B,C,D,E,F,G,M2,ap,M]
def dN(j n:Nat)(g f:Nat->Nat)(k:Nat):Nat:=if j<=k/\k<j+n then f (k-j)else g k
theorem tX{j:Nat}{g f:Nat->Nat}:dN j 0 g f=g:=by
 funext k;rw[dN,if_neg (by omega)]
theorem zy{m j i:Nat}{g f:Nat->Nat}{v:Nat}(a:f i=v):(ch m (dN j i g f)).set (j+i) (.p (.int .u64 v))=ch m (dN j (i+1) g f):=by
 refine p0 ?_ fun k hk=>?_
 ·rw[dN,if_pos (by omega),hd,a]
 ·rw[dN,dN]
  by_cases h:j<=k/\k<j+i
  ·rw[if_pos h,if_pos (by omega)]
  ·rw[if_neg h,if_neg (by omega)]
theorem zz{m j i:Nat}{g f:Nat->Nat}(h:j+i<m):(ch m (dN j i g f))[j+i]?=some (.p (.int .u64 (g (j+i)))):=by
 rw[nv _ h,dN,if_neg (by omega)]
theorem YF{j n:Nat}{g f a:Nat->Nat}:dN j n (dN j n g f) a=dN j n g a:=by
 funext k;rw[dN,dN,dN];split<;>rfl
theorem aAr(X V m j n:Nat)(t:(az wB V).length=n)(G:2<=n)(bk:j+n+1<=m)(bn:m<=1000002)(aR:X<V*wB^(j+1)):
 cS prog 333 [.arr .exact 0 1 (ch m (ae wB X))] [.sl 0 0 1 j (n+1),.p (eN V)] [.arr .exact 0 1 (ch m (ae wB (X% (V*wB^j))))] (.p (.int .u64 (X/(V*wB^j):Nat))):=by
 refine gM nf Ik mix (by simp[f333]) ?_;have l:=cj bp V;have I:wB^(n-1)<=V:=by
  rcases fm V (wB^(n-1))with h|h
  ·have:=dT bp (n-1) V h;omega
  ·exact h
 rw[t]at l;have U:∀i(h:i<(az wB V).length),(az wB V)[i]=ae wB V i:=fun i h=>eO bp h;have aC:0<V:=Df bp G I;obtain⟨W,w⟩:∃W,X/wB^j=W:=⟨_,rfl⟩
 have af:W<V*wB:=by
  rw[<-w,eq (e7 (by decide)),gj,ej wB,<-e6];exact aR
 have T:W<wB^(n+1):=gy af (by rw[e6];exact fb l (by decide));have aj:∀i,i<n+1->(ch m (ae wB X))[j+i]?=some (.p (.int .u64 (ae wB W i))):=fun i hi=>by rw[nv _ (by omega),<-w,rN]
 have aT:X/(V*wB^j)=W/V:=by rw[ze.2,w]
 have aF:∀f:Nat->Nat,(∀i,i<n+1->f i=ae wB (W% V) i)->ch m (dN j (n+1) (ae wB X) f)=ch m (ae wB (X% (V*wB^j))):=fun f hf=>CA fun k hk=>by
  rw[ze.1,w,KM bp,dN]
  by_cases u:k<j
  ·rw[if_neg (by omega),if_pos u]
  ·rw[if_neg u]
   by_cases H:k<j+(n+1)
   ·rw[if_pos (by omega),hf _ (by omega)]
   ·have e1:ae wB X k=0:=by
     obtain⟨e,rfl⟩:∃e,k=j+e:=⟨k-j,by omega⟩
     rw[<-rN,w];exact jT (eo T (er (by decide) (by omega)))
    have e2:ae wB (W% V) (k-j)=0:=jT (eo (ew (Nat.mod_le _ _) T) (er (by decide) (by omega)));rw[if_neg (by omega),e1,e2]
 rw[aT];simp only[eN];generalize az wB V=x at*;have aA:∀i,i<n->i<x.length:=fun i h=>by omega
 have e1:cb.wrap ((n:Int)-1)=((n-1:Nat):Int):=by rw[aO _ (by omega) (by omega)];omega
 have e2:cb.wrap ((n:Int)-2)=((n-2:Nat):Int):=by rw[aO _ (by omega) (by omega)];omega
 obtain⟨b,E⟩:∃b,b=n-1:=⟨_,rfl⟩
 obtain⟨d,am⟩:∃d,d=n-2:=⟨_,rfl⟩
 rw[<-E]at e1;rw[<-am]at e2;have F:=U b (by omega);have aH:=U d (by omega);have bb:b<x.length:=by omega
 have bc:d<x.length:=by omega
 have L:x[b]?=some (ae wB V b):=by rw[dl bb,F]
 have ba:x[d]?=some (ae wB V d):=by rw[dl bc,aH]
 have O:b<n:=by omega
 have Y:d<n:=by omega
 have R:b<n+1:=by omega
 have Z:d<n+1:=by omega
 have av:=aj n (by omega);have g1:=aj b (by omega);have g2:=aj d (by omega);have aZ:n=b+1:=by omega
 have ay:W/wB^n=ae wB W n:=by
  rw[ae,en];rw[eq (e7 (by decide)),ej,<-e6];exact T
 have ag:W/wB^b=ae wB W n*wB+ae wB W b:=by rw[tN,<-aZ,ay]
 simp[f333,-aW,t];rw[aW];simp[-aW,t];rw[aW];simp[-aW,t];rw[aW];simp[-aW,t];rw[aW];simp[-aW,t];refine join (fun s=>∃q r o:Nat,q*ae wB V b+(r+o*wB)=W/wB^b/\W/V<=q/\q<wB/\r<wB/\o<=1/\aN s.env 0=.sl 0 0 1 j (n+1)/\aN s.env 1=.p (.seq (x.map fun x:Nat=>.int .u64 x))/\aN s.env 5=.p (.int .i64 n)/\aN s.env 6=.p (.int .u64 q)/\aN s.env 7=.p (.int .u64 r)/\aN s.env 8=.p (.int .u64 o)/\s.heap=[.arr .exact 0 1 (ch m (ae wB X))]) ?_ ?_
 ·by_cases hc:ae wB V b<=ae wB W n
  ·have ah:(ae wB V b:Int)<=ae wB W n:=by omega
   simp[e1,e2,F,L,O,R,av,g1,ah,t,aa,aI,bG];refine e3 (rX (ae wB W b) (ae wB V b) 0 (by omega)) ?_;simp;have aK:=cr bp W b;have ar:=cr bp V b;have aL:ae wB W n=ae wB V b:=by
    have:=(DR bp (by omega) l af).1;rw[ay,<-E]at this;omega
   refine⟨18446744073709551615,(ae wB W b+ae wB V b)% wB,(ae wB W b+ae wB V b)/wB,?_,?_,by decide,eP _ (by decide),?_,rfl,rfl,rfl⟩
   ·rw[ag,aL];simp only[wB];omega
   ·have:=(DR bp (by omega) l af).2;simp only[wB]at this;omega
   ·simp only[wB]at*;omega
  ·have ah:¬(ae wB V b:Int)<=ae wB W n:=by omega
   simp[e1,e2,F,L,O,R,av,g1,ah,t,aa,aI,bG];refine e3 (Om (ae wB W n) (ae wB W b) (ae wB V b) (by omega) (cr bp _ _) (cr bp _ _)) ?_;simp;have aK:=cr bp W b;have ar:=cr bp V b;refine⟨(ae wB W n*wB+ae wB W b)/ae wB V b,(ae wB W n*wB+ae wB W b)% ae wB V b,0,?_,?_,?_,?_,by omega,rfl,rfl,rfl⟩
   ·rw[ag,g6,g8,ej,fl]
   ·rw[<-ag,E];exact Oa bp G I l
   ·rw[eq (by omega)];have:=e8 wB (show ae wB W n+1<=ae wB V b by omega);rw[fd,gg]at this;rw[ej wB];omega
   ·exact gy (eP _ (by omega)) ar
 rintro⟨aM,aV⟩ ⟨q,r,o,k1,k2,k3,k4,k5,y,z,A,B,ao,ap,K⟩;dsimp only at y z A B ao ap K;subst K;simp[y,z,A,B,ao,ap];refine tg (fun s=>∃q:Nat,W/V<=q/\q<=W/V+1/\q<wB/\aN s.env 0=.sl 0 0 1 j (n+1)/\aN s.env 1=.p (.seq (x.map fun x:Nat=>.int .u64 x))/\aN s.env 5=.p (.int .i64 n)/\aN s.env 6=.p (.int .u64 q)/\s.heap=[.arr .exact 0 1 (ch m (ae wB X))]) ?_ ?_
 ·have a2:q*ae wB V b+(r+o*wB)=W/wB^b/\W/V<=q/\q<wB/\r<wB/\o<=1:=⟨k1,k2,k3,k4,k5⟩
  clear k1 k2 k3 k4 k5;refine lp (α:=Nat×Nat×Nat) (fun a=>⟨[(8,.p (.int .u64 a.2.2)),(7,.p (.int .u64 a.2.1)),(6,.p (.int .u64 a.1)),(5,.p (.int .i64 n)),(1,.p (.seq (x.map fun x:Nat=>.int .u64 x))),(0,.sl 0 0 1 j (n+1))],[.arr .exact 0 1 (ch m (ae wB X))]⟩)
   (fun a=>a.1*ae wB V b+(a.2.1+a.2.2*wB)=W/wB^b/\W/V<=a.1/\a.1<wB/\a.2.1<wB/\a.2.2<=1) (fun a=>a.1) (q,r,o) a2 ?_ (he:=by simp[y,z,A,B,ao,ap])
  rintro⟨q,r,o⟩ ⟨k1,k2,k3,k4,k5⟩;dsimp only at k1 k2 k3 k4 k5
  by_cases a0:o=0
  ·subst a0;rw[g6,g8]at k1;have S:=zW q (ae wB V d) k3 (cr bp _ _);rw[show(18446744073709551616:Nat)=wB from rfl]at S;have bg:=fl (q*ae wB V d) wB;have bh:q*ae wB V d% wB<wB:=eP _ (by decide);have ax:=fun h=>E6 bp G I l (by rw[<-E];exact k1) k3 (by rw[<-am];exact h);have aw:=fun h=>PL (q:=q) (r:=r) bp G I l (by rw[<-E];exact k1) (by rw[<-am];exact h);have bi:=cr bp W d;generalize q*ae wB V d% wB=lo at*;generalize q*ae wB V d/wB=hi at*;generalize q*ae wB V d=P at*;have v:=rX r (ae wB V b) 0 (by omega);simp[e1,e2,F,L,aH,ba,O,R,Y,Z,t];refine c2 S ?_;rcases Nat.lt_trichotomy hi r with h|h|h
   ·have hI:(hi:Int)<r:=by omega
    simp[hI];refine⟨q,k2,ax (by
     have:=e9 wB (show hi+1<=r by omega);rw[hF,ho,ej wB r]at this;omega),k3,rfl⟩
   ·subst h
    by_cases bl:lo<=ae wB W d
    ·have hI:(lo:Int)<=ae wB W d:=by omega
     simp[hI,e2,g2,Y,Z];exact⟨q,k2,ax (by rw[ej hi];omega),k3,rfl⟩
    ·have hI:¬(lo:Int)<=ae wB W d:=by omega
     have J:=aw (by rw[ej hi];omega);have a3:0<q:=ew (g9 _) J;obtain⟨k,rfl⟩:∃k,q=k+1:=⟨q-1,by omega⟩
     have w1:b5.wrap (k:Int)=k:=fP _ (by omega) (by omega);simp[hI,e1,e2,g2,O,R,Y,Z,F,L,w1,aa,aI,bG];refine c3 v ?_;simp;have z1:=hv (hi+ae wB V b) wB;have z2:k*ae wB V b+((hi+ae wB V b)% wB+(hi+ae wB V b)/wB*wB)=W/wB^b:=by
      rw[ej _ wB,z1,<-k1,fd,gg,hz,gm hi]
     have z3:=cr bp V b;have z4:(hi+ae wB V b)/wB<=1:=by
      have z5:=k4;simp only[wB]at z3 z5⊢;omega
     exact rd (k,(hi+ae wB V b)% wB,(hi+ae wB V b)/wB) ⟨z2,hw.1 J,ht k3,eP _ (by decide),z4⟩
   ·have hI:¬(hi:Int)<r:=by omega
    have aQ:¬(hi:Int)=r:=by omega
    have aS:=e9 wB (show r+1<=hi by omega);rw[hF,ho,ej wB r]at aS;have J:=aw (by omega);have a3:0<q:=ew (g9 _) J;obtain⟨k,rfl⟩:∃k,q=k+1:=⟨q-1,by omega⟩
    have w1:b5.wrap (k:Int)=k:=fP _ (by omega) (by omega);simp[hI,aQ,e1,e2,g2,O,R,Y,Z,F,L,w1,aa,aI,bG];refine c3 v ?_;simp;have z1:=hv (r+ae wB V b) wB;have z2:k*ae wB V b+((r+ae wB V b)% wB+(r+ae wB V b)/wB*wB)=W/wB^b:=by
     rw[ej _ wB,z1,<-k1,fd,gg,hz,gm r]
    have z3:=cr bp V b;have z4:(r+ae wB V b)/wB<=1:=by
     have z5:=k4;simp only[wB]at z3 z5⊢;omega
    exact rd (k,(r+ae wB V b)% wB,(r+ae wB V b)/wB) ⟨z2,hw.1 J,ht k3,eP _ (by decide),z4⟩
  ·have a1:o=1:=by omega
   subst a1;simp;exact⟨q,k2,E6 bp G I l (by rw[<-E];exact k1) k3 (N9 bp (by omega) k3),k3,rfl⟩
 rintro⟨aM,aV⟩ ⟨q,k2,k3,k4,y,z,A,B,K⟩;dsimp only at y z A B K;subst K;have a4:q*V<wB^(n+1):=V1 k4 l;have aD:q*V<=W+wB^(n+1):=by omega
 obtain⟨D,ad⟩:∃D,D=W+wB^(n+1)-q*V:=⟨_,rfl⟩
 have aG:∀i,i<n+1->au prog 343 [.int .u64 (ae wB W i),.int .u64 (ae wB (q*V) i),.int .u64 (fB wB (W+wB^(n+1)) (q*V) i)] (.aC [.int .u64 (ae wB D i),.int .u64 (fB wB (W+wB^(n+1)) (q*V) (i+1))]):=fun i hi=>by
  have h:=Pv aD i;rw[<-ad,wL hi]at h;exact h
 have a6:∀i,(q*ae wB V i% wB+jh wB V q i+0)% wB=ae wB (q*V) i/\b5.wrap (((q*ae wB V i/wB:Nat):Int)+((q*ae wB V i% wB+jh wB V q i+0)/wB:Nat))=(jh wB V q (i+1):Nat):=fun i=>by
  obtain⟨u,H⟩:=YT (q:=q) (V:=V) bp i;have aP:=aK0 (V:=V) bp k4 (i+1);rw[<-u,<-H];rw[<-H]at aP;generalize q*ae wB V i=P at*;generalize jh wB V q i=c at*;have e:P/wB+(P% wB+c+0)/wB=(P+c)/wB:=by simp only[wB];omega
  refine⟨by simp only[wB];omega,?_⟩;rw[fP _ (by omega) (by omega)];omega
 have aU:=VE (V:=V) (q:=q) T a4;have a5:=YV bp k4 l;have bm:(ch m (ae wB X)).length=m:=Ni _ _;simp[y,z,A,B];refine lp (α:=Nat) (fun i=>⟨[(105,.p (.int .i64 i)),(104,.p (.int .i64 n)),(12,.p (.int .u64 (jh wB V q i:Nat))),(11,.p (.int .u64 (fB wB (W+wB^(n+1)) (q*V) i:Nat))),(6,.p (.int .u64 q)),(5,.p (.int .i64 n)),(1,.p (.seq (x.map fun x:Nat=>.int .u64 x))),(0,.sl 0 0 1 j (n+1))],[.arr .exact 0 1 (ch m (dN j i (ae wB X) (ae wB D)))]⟩)
  (fun i=>i<=n) (fun i=>n-i) 0 (by simp) ?_ (hn:=by simp[tX]) (he:=by simp[y,z,A,B,Xp,Cq]) (hh:=by simp[tX])
 intro i k5;have a8:=ct (i:=i) (by omega)
 by_cases hi:i<n
 ·have N:i<x.length:=aA i hi;have M:=U i N;have an:x[i]?=some (ae wB V i):=by rw[dl N,M]
  have S:=zW q (ae wB V i) k4 (cr bp _ _);rw[show(18446744073709551616:Nat)=wB from rfl]at S;have v:=rX (q*ae wB V i% wB) (jh wB V q i) 0 (by omega);obtain⟨bd,be⟩:=a6 i;have ab:=aG i (by omega);rw[bd]at v;generalize q*ae wB V i% wB=lo at*;generalize q*ae wB V i/wB=bj at*;generalize (lo+jh wB V q i+0)/wB=c' at*;have al:i<n+1:=by omega
  have C:(ch m (dN j i (ae wB X) (ae wB D)))[j+i]?=some (.p (.int .u64 (ae wB W i))):=by rw[zz (by omega),<-w,rN]
  have ac:=zy (m:=m) (j:=j) (i:=i) (g:=ae wB X) (f:=ae wB D) rfl;simp[t,hi,M,an];refine c2 S ?_;simp;refine c3 v ?_;simp[be,al,C];refine c3 ab ?_;simp[al,C,ac,a8,aa,aI,bG];exact rd (i+1) (show i+1<=n by omega)
 have aX:i=n:=by omega
 subst aX;have C:(ch m (dN j i (ae wB X) (ae wB D)))[j+i]?=some (.p (.int .u64 (ae wB W i))):=by rw[zz (by omega),<-w,rN]
 have ac:=zy (m:=m) (j:=j) (i:=i) (g:=ae wB X) (f:=ae wB D) rfl;have ab:=aG i (by omega);rw[<-a5]at ab;simp[C];refine c3 ab ?_;rw[aU]
 by_cases aE:q*V<=W
 ·obtain⟨y1,y2⟩:=aKT aE k3 aC k2;have ai:=aF (ae wB D) fun k hk=>by rw[ad,<-y2];exact aKS aE hk
  have aq:(q:Int)=(W:Int)/V:=by rw[y1];rfl
  have ak:(if W<q*V then 1 else 0:Nat)=0:=if_neg (by omega);rw[ak];simp[C,ac,ai,<-aq,aa,aI,bG]
 ·obtain⟨y1,y2⟩:=YZ (by omega) k3 aC k2;have y3:=y2 (wB^(i+1)) aD;rw[<-ad]at y3;have ai:=aF (ae wB (D+V)) fun k hk=>by rw[y3,wL hk]
  have ak:(if W<q*V then 1 else 0:Nat)=1:=if_pos (by omega);have aq:b5.wrap ((q:Int)-1)=(W:Int)/V:=by
   have e:((W/V:Nat):Int)=(W:Int)/V:=rfl;rw[<-e];generalize W/V=Q at*;rw[fP _ (by omega) (by omega)];omega
  rw[ak];simp[C,ac,aa,aI,bG];refine lp (α:=Nat) (fun k=>⟨[(157,.p (.int .i64 k)),(156,.p (.int .i64 i)),(17,.p (.int .u64 (dj wB D V k:Nat))),(6,.p (.int .u64 q)),(5,.p (.int .i64 i)),(1,.p (.seq (x.map fun x:Nat=>.int .u64 x))),(0,.sl 0 0 1 j (i+1))],[.arr .exact 0 1 (ch m (dN j k (dN j (i+1) (ae wB X) (ae wB D)) (ae wB (D+V))))]⟩)
   (fun k=>k<=i) (fun k=>i-k) 0 (by simp) ?_ (hn:=by simp[tX]) (he:=by simp[yW]) (hh:=by simp[tX])
  intro k k6;have a9:=ct (i:=k) (by omega);have gk:(ch m (dN j k (dN j (i+1) (ae wB X) (ae wB D)) (ae wB (D+V))))[j+k]?=some (.p (.int .u64 (ae wB D k))):=by rw[zz (by omega),dN,if_pos (by omega),hd]
  have aJ:=zy (m:=m) (j:=j) (i:=k) (g:=dN j (i+1) (ae wB X) (ae wB D)) (f:=ae wB (D+V)) rfl;obtain⟨u,H⟩:=rz bp D V k
  by_cases hk:k<i
  ·have N:k<x.length:=aA k hk;have M:=U k N;have an:x[k]?=some (ae wB V k):=by rw[dl N,M]
   have v:=rX (ae wB D k) (ae wB V k) (dj wB D V k) (my bp _ _ _);rw[u,H]at v;have aB:k<i+1:=by omega
   simp[t,hk,aB,M,an,gk,aa,aI,bG];refine e3 v ?_;simp[aB,gk,aJ,a9,aa,aI,bG];refine⟨⟨by rfl,by rfl,by rfl⟩,?_⟩;exact rd (k+1) (show k+1<=i by omega)
  have aY:k=i:=by omega
  subst aY;have a7:ae wB V k=0:=jT l;rw[a7,g8]at u;have bf:b5.wrap ((ae wB D k:Int)+(dj wB D V k:Nat))=(ae wB (D+V) k:Nat):=by rw[<-Int.natCast_add,zQ,u]
  simp[gk,aJ,bf,aq,ai,YF,aa,aI,bG]
theorem YD{a b i:Nat}(c:0<b):(a/wB^(i+1)% b*wB+ae wB a i)/b=ae wB (a/b) i/\(a/wB^(i+1)% b*wB+ae wB a i)% b=a/wB^i% b:=by
 have e:=tN (B:=wB) a i;have g:=fl (a/wB^(i+1)) b;have f:a/wB^i=(a/wB^(i+1)% b*wB+ae wB a i)+a/wB^(i+1)/b*wB*b:=by
  rw[e];generalize ae wB a i=d;generalize a/wB^(i+1)/b=Q at*;generalize a/wB^(i+1)% b=R at*;rw[<-g,fd,ej b,gt Q b wB];omega
 have j:(a/wB^(i+1)% b*wB+ae wB a i)/b<wB:=by
  rw[eq c];have k:=cr bp a i;have h:=e8 wB (show a/wB^(i+1)% b+1<=b from eP _ c);rw[fd,gg]at h;rw[ej wB];omega
 constructor
 ·conv=>rhs;rw[ae,g0,ej b,<-g0,f,hl _ _ c,fw,en j]
 ·rw[f,fw]
def qF(Q i k:Nat):Nat:=if i<=k then ae wB Q k else 0
theorem Oy{m Q i:Nat}:(ch m (qF Q (i+1))).set i (.p (.int .u64 (ae wB Q i)))=ch m (qF Q i):=by
 refine p0 ?_ fun k hk=>?_
 ·rw[qF,if_pos (gi _)]
 ·rw[qF,qF]
  by_cases h:i<=k
  ·rw[if_pos h,if_pos (by omega)]
  ·rw[if_neg h,if_neg (by omega)]
theorem NA{m Q:Nat}:ch m (qF Q 0)=ch m (ae wB Q):=CM fun k=>by rw[qF,if_pos (g9 _)]
theorem NC{m Q:Nat}:List.replicate m (AV.p (.int .u64 0))=ch m (qF Q m):=by
 rw[Dw (f:=fun _=>0) (fun _=>rfl)];exact CA fun k hk=>by rw[qF,if_neg (by omega)]
theorem D2{m N:Nat}(h:N<wB^m)(b:m<=1048576):∃l:List Nat,l.length=m/\ch m (ae wB N)=l.map (AV.p∘fun x:Nat=>PV.int .u64 x)/\au prog 315 [.seq (eW l)] (eN N):=by
 refine⟨(dp m).map (ae wB N),by simp,Dx m _,?_⟩;have a:=uC ((dp m).map (ae wB N)) (by simp;omega);rw[show eJ ((dp m).map (ae wB N))=az wB N from jU bp h]at a;exact a
theorem qe{a b:Nat}:gf a b<0↔a<b:=by
 rw[gf];split
 ·simp[*]
 ·split<;>simp[*]
theorem Ws(r:Nat):((r:Int)% 2^b5.bits).toNat=r% 2^b5.bits:=by
 rw[show b5.bits=64 from rfl];omega
theorem azZ{b d n a s V:Nat}(g:b/wB^a=d)(h:n=a+1)(hs:s<64)(o:wB<=2*(d*2^s))(i:d*2^s<wB)(f:V=b*2^s):V<wB^n/\wB^n<=2*V:=by
 have m:0<wB^a:=e7 (by decide);have j:0<2^s:=e7 (by decide);have k:b<(d+1)*wB^a:=by
  rw[<-g,fd,gg];exact Nat.lt_div_mul_add m
 have l:(d+1)*2^s<=wB:=by
  have c:=Aj hs;have e:d<2^(64-s):=by
   rw[<-c,ej d]at i;exact Nat.lt_of_mul_lt_mul_left i
  rw[<-c,ej];exact e9 _ e
 constructor
 ·rw[f,h,e6,ej _ wB];refine eo (fb k j) ?_;rw[gt];exact e8 _ l
 ·rw[f,h,e6,ej _ wB];refine Nat.le_trans (e8 _ o) ?_;have c:d*wB^a<=b:=by rw[<-g];exact g5 _ _
  have e:=e8 (2^s) c;rw[gj 2,gt d];exact e9 _ e
theorem Yu{a n b s V:Nat}(f:a<wB^b)(hs:s<64)(e:wB^n<=2*V)(i:n<=b):a*2^s<V*wB^(b-n+1):=by
 have d:2*2^s<=wB:=by
  have c:2^(s+1)<=2^64:=er (by decide) hs;rw[e6,ej]at c;exact c
 have g:=e8 (wB^(b-n+1)) e;rw[<-fv,show n+(b-n+1)=b+1 by omega,e6,gj]at g;have c:=e9 a d;have h:=fb f (show 0<wB by decide);rw[Nat.mul_left_comm]at c;generalize wB^b*wB=z1 at*;generalize V*wB^(b-n+1)=z2 at*;generalize a*2^s=z3 at*;generalize a*wB=z4 at*;clear d e f;omega
theorem az0{a b n d c:Nat}(h:a<wB^c)(f:0<b)(i:n=d+1)(g:wB^d<=b)(j:n<=c):a/b<wB^(c-n+1):=by
 rw[eq f];refine eo h ?_;have e:=e9 (wB^(c-n+1)) g;rw[<-fv,show c-n+1+d=c by omega]at e;exact e
theorem Yv{a b s k:Nat}(c:0<2^s):a*2^s% (b*2^s*wB^(k+1))/(b*2^s*wB^k)=ae wB (a/b) k:=by
 rw[e6,<-gj,Nat.mod_mul_right_div_self,<-g0,hj _ _ c,ae]
theorem Nj{n N:Nat}{f g:Nat->Nat}(a:n<=N)(h:∀k,k<n->f k=g k):((dp N).map f).take n=(dp n).map g:=by
 rw[<-ec,List.take_range,hb a];exact dz fun k hk=>h k (eb.1 hk)
theorem Dn(a b:Nat)(A:0<b)(bd:(az wB a).length<=1000000)(bL:(az wB b).length<=1000000):au prog 296 [eN a,eN b] (.aC [eN (a/b),eN (a% b)]):=by
 refine aG nf O1 mix (by simp[f296]) ?_;have bg:=I2 a b (by omega) (by omega);simp[f296];refine c2 bg ?_
 by_cases I:a<b
 ·have G:=qe.2 I;simp[G,gx I,en I,eN,az,nO]
 have G:¬gf a b<0:=fun h=>I (qe.1 h);have bj:∀i(h:i<(az wB a).length),(az wB a)[i]=ae wB a i:=fun i h=>eO bp h;have U:∀i(h:i<(az wB b).length),(az wB b)[i]=ae wB b i:=fun i h=>eO bp h;have B:=cj bp a;have q:=cj bp b
 by_cases K:(az wB b).length=1
 ·rw[K,ha]at q;have W:((az wB b).length:Int)=1:=by omega
  obtain⟨l,C,L,z⟩:=D2 (m:=(az wB a).length) (N:=a/b) (ew (gc _ _) B) (by omega);have av:=uC [a% b] (by simp);have bi:eJ [a% b]=az wB (a% b):=by
   have M:a% b<wB:=gy (eP _ A) q;have:=jU bp (m:=1) (n:=a% b) (by rw[ha];exact M);rw[<-this,row,ea,ed,ee,ae,fa,g4,en M]
  rw[bi]at av;have be:(az wB b)[0]?=some b:=by
   rw[dl (by omega),U 0 (by omega),ae,fa,g4,en q]
  have bf:∀h:0<(az wB b).length,(az wB b)[0]'h=b:=fun h=>by rw[U 0 h,ae,fa,g4,en q]
  have aE:a/wB^(az wB a).length% b=0:=by rw[gx B,hA]
  simp only[eN]at z⊢;generalize az wB (a/b)=bD at*;generalize az wB (a% b)=aW at*;generalize az wB a=x at*;generalize az wB b=y at*;obtain⟨n,w⟩:∃n,x.length=n:=⟨_,rfl⟩
  rw[w]at C L aE bd;have e1:cb.wrap ((n:Int)-1)=n-1:=aO _ (by omega) (by omega);simp[G,K,W,w,e1];refine⟨by simp only[c8];omega,?_⟩;rw[NC (Q:=a/b)];refine lp (α:=Nat) (fun i=>⟨[(8,.p (.int .i64 ((i:Int)-1))),(7,.p (.int .u64 (a/wB^i% b:Nat))),(6,.sl 0 0 1 0 n),(1,.p (.seq (y.map fun x:Nat=>.int .u64 x))),(0,.p (.seq (x.map fun x:Nat=>.int .u64 x)))],[.arr .exact 0 1 (ch n (qF (a/b) i))]⟩)
   (fun i=>i<=n) (fun i=>i) n (gi _) ?_ (he:=by simp[aE])
  intro i k1
  by_cases hi:0<i
  ·obtain⟨k,rfl⟩:∃k,i=k+1:=⟨i-1,by omega⟩
   have e2:cb.wrap ((k:Int)-1)=k-1:=aO _ (by omega) (by omega);have aU:k<x.length:=by omega
   have hx:=bj k aU;have ad:x[k]?=some (ae wB a k):=by rw[dl aU,hx]
   have ar:=Om (a/wB^(k+1)% b) (ae wB a k) b (eP _ A) q (cr bp _ _);obtain⟨r,ag⟩:=YD (a:=a) (i:=k) A;rw[r,ag]at ar;have aM:=Oy (m:=n) (Q:=a/b) (i:=k);have gk:=nv (n:=n) (qF (a/b) (k+1)) (show k<n by omega);have aH:k<n:=by omega
   generalize a/wB^(k+1)% b=bF at*;simp[w,e2,hx,ad,be,bf,K,aH,aa,aI,bG];refine e3 ar ?_;simp[aM,gk,e2,aH,aa,aI,bG];refine⟨by rfl,?_⟩;exact rd k (show k<=n by omega)
  ·obtain rfl:i=0:=by omega
   simp[NA,L];refine cp z (by simp[C];exact⟨rfl,rfl⟩) ?_ (h1:=by simp[eW,dx,C]);simp;refine cp av (by simp;exact⟨rfl,rfl⟩) ?_ (h1:=by simp[eW]);simp;exact bE.refl _
 have bO:2<=(az wB b).length:=by
  rcases fm (az wB b).length 1 with h|h
  ·have e:(az wB b).length=0:=by omega
   rw[e,fa]at q;omega
  ·omega
 have W:¬((az wB b).length:Int)=1:=by omega
 obtain⟨n,w⟩:∃n,(az wB b).length=n:=⟨_,rfl⟩
 obtain⟨c,Y⟩:∃c,(az wB a).length=c:=⟨_,rfl⟩
 obtain⟨o,Z⟩:∃o,n=o+1:=⟨n-1,by omega⟩
 have aC:wB^o<=b:=by
  rcases fm b (wB^o)with h|h
  ·have:=dT bp o b h;omega
  ·exact h
 obtain⟨d,J⟩:∃d,d=ae wB b o:=⟨_,rfl⟩
 have aD:d<wB:=by rw[J];exact cr bp _ _
 have aB:b/wB^o=d:=by
  rw[J,ae,en];rw[eq (e7 (by decide)),ej,<-e6,show o.succ=n from Z.symm,<-w];exact q
 have bh:0<d:=by rw[<-aB];exact Nat.div_pos aC (e7 (by decide))
 obtain⟨s,hs,bK,bu,bv⟩:=Mt bh aD;have aL:=Px d aD;obtain⟨V,E⟩:∃V,V=b*2^s:=⟨_,rfl⟩
 have D:0<2^s:=e7 (by decide);have bb:b<=V:=by rw[E];exact Nat.le_mul_of_pos_right _ D
 have ba:0<V:=eo A bb;obtain⟨ay,bc⟩:=azZ aB Z hs bu bv E;have ax:(az wB V).length=n:=by
  have u:=dT bp n V ay;rcases fm (az wB V).length n with h|h
  ·have ap:=eo (cj bp V) (er (show 0<wB by decide) (show(az wB V).length<=o by omega));omega
  ·omega
 have z:=D2 (m:=n+1) (N:=V) (eo ay (er (by decide) (by omega))) (by omega);obtain⟨l,C,L,z⟩:=z;have ac:=Li b s hs (by omega);have ab:=Li a s hs (by omega);have af:o<(az wB b).length:=by omega
 have hx:=U o af;have ad:(az wB b)[o]?=some d:=by rw[dl af,hx,J]
 rw[w,<-E]at ac;rw[Y]at ab;have aQ:n<=c:=by
  rcases fm c n with h|h
  ·have:=eo B (er (show 0<wB by decide) (show(az wB a).length<=o by omega));omega
  ·exact h
 rw[Y]at B;have a3:=Yu (n:=n) B hs bc aQ;have a5:=az0 (n:=n) B A Z aC aQ;have a6:a% b<wB^n:=gy (eP _ A) (by rw[w]at q;exact q);have bx:eJ ((dp n).map (ae wB (a% b)))=az wB (a% b):=jU bp a6;have iD:∀X j,j+n+1<=c+1->X<V*wB^(j+1)->_:=fun X j u ap=>aAr X V (c+1) j n ax (by omega) u (by omega) ap;simp only[eN]at z⊢ab ac iD;generalize az wB V=bC at*;generalize bz:az wB (a/b)=bD at*;generalize bP:az wB (a% b)=aW at*;generalize az wB a=x at*;generalize az wB b=y at*;have e1:cb.wrap ((n:Int)-1)=o:=by rw[aO _ (by omega) (by omega)];omega
 have bt:(64:Int)-(cd d:Nat)=s:=by omega
 rw[bt]at aL;rw[<-J]at hx;have bm:¬(n:Int)=1:=by omega
 have bn:¬n=1:=by omega
 simp[G,K,W,bm,bn,w,e1,hx,ad,af,aa,aI,bG];refine c1 aL ?_;simp;refine Qz ac ?_;simp[L];refine cp z (by simp[C];exact⟨rfl,rfl⟩) ?_ (h1:=by simp[eW,dx,C]);simp;refine Qz ab ?_;obtain⟨m,aP⟩:∃m,m=c-n:=⟨_,rfl⟩
 have e2:cb.wrap ((c:Int)-n)=m:=by rw[aO _ (by omega) (by omega)];omega
 have e3:cb.wrap ((m:Int)+1)=m+1:=ct (by omega);simp[ax,Y,e2,e3];refine⟨⟨by omega,by simp only[c8];omega⟩,?_⟩;have aq:a*2^s% (V*wB^(m+1))=a*2^s:=en (by rw[aP];exact a3);rw[NC (Q:=a/b)];refine tg (fun s'=>aN s'.env 9=.p (.int .i64 s)/\aN s'.env 11=.sl 1 0 1 0 (c+1)/\aN s'.env 12=.p (.int .i64 n)/\aN s'.env 13=.sl 2 0 1 0 (m+1)/\s'.heap=[.arr .frozen 0 1 (l.map (AV.p∘fun x:Nat=>PV.int .u64 x)),.arr .exact 0 1 (ch (c+1) (ae wB (a% b*2^s))),.arr .exact 0 1 (ch (m+1) (ae wB (a/b)))]) ?_ ?_
 ·refine lp (α:=Nat) (fun j=>⟨[(14,.p (.int .i64 ((j:Int)-1))),(13,.sl 2 0 1 0 (m+1)),(12,.p (.int .i64 n)),(11,.sl 1 0 1 0 (c+1)),(10,.p (.seq (bC.map fun x:Nat=>.int .u64 x))),(9,.p (.int .i64 s))],[.arr .frozen 0 1 (l.map (AV.p∘fun x:Nat=>PV.int .u64 x)),.arr .exact 0 1 (ch (c+1) (ae wB (a*2^s% (V*wB^j)))),.arr .exact 0 1 (ch (m+1) (qF (a/b) j))]⟩)
   (fun j=>j<=m+1) (fun j=>j) (m+1) (gi _) ?_ (hn:=by simp[aq]) (hh:=by simp[aq])
  intro j k1
  by_cases bN:0<j
  ·obtain⟨k,rfl⟩:∃k,j=k+1:=⟨j-1,by omega⟩
   have e4:cb.wrap ((k:Int)-1)=k-1:=aO _ (by omega) (by omega);have e5:cb.wrap ((k:Int)+n)=k+n:=aO _ (by omega) (by omega);have aY:cb.wrap ((k:Int)+n+1)=k+n+1:=aO _ (by omega) (by omega);have aM:=iD (a*2^s% (V*wB^(k+1))) k (by omega) (eP _ (Nat.mul_pos ba (e7 (by decide))));have hq:a*2^s% (V*wB^(k+1))/(V*wB^k)=ae wB (a/b) k:=by
    rw[E];exact Yv D
   have M:a*2^s% (V*wB^(k+1))% (V*wB^k)=a*2^s% (V*wB^k):=by
    rw[e6,<-gj,Nat.mod_mul_right_mod]
   rw[hq,M]at aM;generalize a*2^s% (V*wB^(k+1))=X at*;generalize aA:a*2^s% (V*wB^k)=bH at*;have a2:((k:Int)+n+1).toNat=k+n+1:=by omega
   have f2:(0:Int)<=(k:Int)+n+1:=by omega
   have f3:(k:Int)+n+1<=(c:Int)+1:=by omega
   have f4:k<=k+n+1:=by omega
   have f5:¬k=k+n+1:=by omega
   have f6:k+n+1-k=n+1:=by omega
   have f7:k<m+1:=by omega
   have gk:=nv (n:=m+1) (qF (a/b) (k+1)) f7;have bB:=Oy (m:=m+1) (Q:=a/b) (i:=k);simp[e4,e5,aY,Ni,a2,f2,f3,f4,f5,f6];rw[show(if k=0 then({v:=.sl 1 0 1 0 (k+n+1),al:=[(1,.arr .exact 0 1 (ch (c+1) (ae wB X)))]}:aR)else{v:=.sl 1 0 1 k (n+1),al:=[(1,.arr .exact 0 1 (ch (c+1) (ae wB X)))]})={v:=.sl 1 0 1 k (n+1),al:=[(1,.arr .exact 0 1 (ch (c+1) (ae wB X)))]}by split<;>simp[*]];simp;refine⟨by omega,?_⟩;refine cf aM [1] ?_;simp[gk,bB,e4,f7,aa,aI,bG];exact rd k (show k<=m+1 by omega) (hn:=by simp[aA]) (hh:=by simp[aA])
  ·obtain rfl:j=0:=by omega
   have a4:a*2^s% V=a% b*2^s:=by rw[E,hg]
   simp[NA,a4]
 rintro⟨bI,bM⟩ ⟨ah,ai,aj,ak,aS⟩;dsimp only at ah ai aj ak aS;subst aS;obtain⟨R,H⟩:∃R,R=a% b*2^s:=⟨_,rfl⟩
 rw[<-H];simp[ah,ai,aj,ak];refine lp (α:=Nat) (fun i=>⟨[(97,.p (.int .i64 i)),(96,.p (.int .i64 n)),(13,.sl 2 0 1 0 (m+1)),(12,.p (.int .i64 n)),(11,.sl 1 0 1 0 (c+1)),(9,.p (.int .i64 s))],[.arr .frozen 0 1 (l.map (AV.p∘fun x:Nat=>PV.int .u64 x)),.arr .exact 0 1 (ch (c+1) (dN 0 i (ae wB R) (ae wB (a% b)))),.arr .exact 0 1 (ch (m+1) (ae wB (a/b)))]⟩)
  (fun i=>i<=n) (fun i=>n-i) 0 (g9 _) ?_ (hn:=by simp[tX]) (he:=by simp[ah,ai,aj,ak]) (hh:=by simp[tX])
 intro i k1;have O:=ct (i:=i) (by omega)
 by_cases hi:i<n
 ·have F:i<c+1:=by omega
  have aF:i+1<c+1:=by omega
  have an:(ch (c+1) (dN 0 i (ae wB R) (ae wB (a% b))))[i]?=some (.p (.int .u64 (ae wB R i))):=by
   have:=zz (m:=c+1) (j:=0) (i:=i) (g:=ae wB R) (f:=ae wB (a% b)) (by omega)
   rwa [g7]at this
  have am:=vq (ae wB R i) s (by omega);have bl:i<c:=by omega
  by_cases ao:0<s
  ·obtain⟨t,bw⟩:∃t,t=64-s:=⟨_,rfl⟩
   have a0:cb.wrap (64-(s:Int))=(t:Int):=by rw[aO _ (by omega) (by omega)];omega
   have a1:=ye (ae wB R (i+1)) t (by omega);have aM:=Aj hs;rw[<-bw]at aM;have a8:0<2^t:=e7 (by decide);have bs:ae wB R i/2^s<2^t:=by rw[eq D,ej,aM];exact cr bp _ _
   have aT:ae wB R (i+1)*2^t% wB=ae wB R (i+1)% 2^s*2^t:=by rw[<-aM,hg]
   have br:ae wB R i/2^s|||(ae wB R (i+1)*2^t% wB)=ae wB (a% b) i:=by
    have u:=aLc D a8 R i;rw[aM,H,Nat.mul_div_cancel _ D,<-H]at u;rw[hE,aT,Ei bs,<-aT,u,gm]
   have T:=Ft (ae wB R i/2^s) (ae wB R (i+1)*2^t% wB) (ew (gc _ _) (cr bp _ _)) (eP _ (by decide));rw[br]at T;generalize ae wB R i/2^s=r at*;generalize ae wB R (i+1)*2^t% wB=ag at*;have aX:b5.wrap ((r% 2^b5.bits|||((ag:Int)% 2^b5.bits).toNat:Nat):Int)=(ae wB (a% b) i:Nat):=by
    rw[Ws];exact T
   have S:=p0 (n:=c+1) (i:=i) (v:=r) (f:=dN 0 i (ae wB R) (ae wB (a% b))) (g:=fun k=>if k=i then r else dN 0 i (ae wB R) (ae wB (a% b)) k) (if_pos rfl) (fun k hk=>if_neg hk);have g2:=nv (n:=c+1) (fun k=>if k=i then r else dN 0 i (ae wB R) (ae wB (a% b)) k) F;have g3:=nv (n:=c+1) (fun k=>if k=i then r else dN 0 i (ae wB R) (ae wB (a% b)) k) aF;rw[if_pos rfl]at g2;rw[if_neg (by omega),dN,if_neg (by omega)]at g3;have bA:=p0 (n:=c+1) (i:=i) (v:=ae wB (a% b) i) (f:=fun k=>if k=i then r else dN 0 i (ae wB R) (ae wB (a% b)) k) (g:=dN 0 (i+1) (ae wB R) (ae wB (a% b))) (by rw[dN,if_pos (by omega),hB]) (fun k hk=>by
    rw[if_neg hk,dN,dN]
    by_cases h:k<i
    ·rw[if_pos (by omega),if_pos (by omega)]
    ·rw[if_neg (by omega),if_neg (by omega)])
   generalize (fun k=>if k=i then r else dN 0 i (ae wB R) (ae wB (a% b)) k)=bJ at*;simp[hi,F,an,am,ao,O,S,aa,aI,bG];simp[F,aF,bl,a0,O,g2,g3,aa,aI,bG];simp[a1,T,aX,F,O,bA,g2,aa,aI,bG];refine⟨by omega,⟨by rfl,by rfl,by rfl,by rfl,by rfl⟩,?_⟩;exact rd (i+1) (show i+1<=n by omega)
  ·have aV:s=0:=by omega
   have a7:ae wB R i=ae wB (a% b) i:=by rw[H,aV,fa,ho]
   have S:=zy (m:=c+1) (j:=0) (i:=i) (g:=ae wB R) (f:=ae wB (a% b)) (v:=ae wB R i) a7.symm;rw[g7]at S;have aZ:(ae wB R i:Int).fdiv (2^(min s b5.bits))=(ae wB R i:Nat):=by rw[am,aV,fa,g4]
   simp[hi,F,an,ao,O,S,aZ,aa,aI,bG];exact rd (i+1) (show i+1<=n by omega)
 obtain rfl:i=n:=by omega
 obtain⟨bQ,aJ,bo,aw⟩:=D2 (m:=m+1) (N:=a/b) (by rw[aP];exact a5) (by omega);obtain⟨P,aK,bq,a9⟩:∃P:List Nat,P.length=c+1/\ch (c+1) (dN 0 i (ae wB R) (ae wB (a% b)))=P.map (AV.p∘fun x:Nat=>PV.int .u64 x)/\au prog 315 [.seq (eW (P.take i))] (.seq (aW.map fun x:Nat=>.int .u64 x)):=by
  refine⟨(dp (c+1)).map (dN 0 i (ae wB R) (ae wB (a% b))),by simp,Dx _ _,?_⟩;have e:((dp (c+1)).map (dN 0 i (ae wB R) (ae wB (a% b)))).take i=(dp i).map (ae wB (a% b)):=by
   exact Nj (by omega) fun k hk=>by rw[dN,if_pos (by omega),hB]
  rw[e];have u:=uC ((dp i).map (ae wB (a% b))) (by simp;omega);rw[bx]at u;exact u
 simp only[eN,bz]at aw;simp[bo,bq];refine ep aw (by simp[aJ];exact⟨rfl,rfl⟩) (by simp;exact⟨rfl,rfl⟩) ?_ (h1:=by simp[eW,dx,aJ]);simp[aK];refine⟨by omega,?_⟩;have bk:i<=c+1:=by omega
 refine ep a9 (by simp[aK,bk];exact⟨rfl,rfl⟩) (by simp;exact⟨rfl,rfl⟩) ?_ (h1:=by simp[eW,ec]);simp;rfl
def br(k:Nat)(q:Rat):Prop:=q.num.natAbs<2^k/\q.den<2^k
theorem br.mono{k l:Nat}{q:Rat}(h:br k q)(a:k<=l):br l q:=
 ⟨eo h.1 (er (by omega) a),eo h.2 (er (by omega) a)⟩
theorem mv{n:Int}{d:Nat}(h:d≠0):(hH n d).num=n/(hC n.natAbs d:Nat)/\(hH n d).den=d/hC n.natAbs d:=by
 have:hH n d=Rat.normalize n d h:=by
  rw[hJ];rfl
 rw[this,Rat.normalize_eq h];exact⟨rfl,rfl⟩
theorem Dt{n:Int}{d k:Nat}(h:d≠0)(a:n.natAbs<2^k)(b:d<2^k):br k (hH n d):=by
 obtain⟨e1,e2⟩:=mv (n:=n) h;refine⟨?_,?_⟩
 ·rw[e1];refine ew ?_ a;rw[Int.natAbs_ediv_of_dvd (Int.ofNat_dvd_left.2 (Nat.gcd_dvd_left _ _))];exact gc _ _
 ·rw[e2];exact ew (gc _ _) b
theorem qA{a b:Nat}{x y:Rat}(h:br a x)(c:br b y):br (a+b+1) (x+y):=by
 have e:x+y=hH (x.num*y.den+y.num*x.den) ((x.den*y.den:Nat):Int):=by rw[Rat.add_def'];rfl
 rw[e];have e1:2^(a+b+1)=2^a*2^b+2^a*2^b:=by rw[e6,fv];omega
 refine Dt (hu x.den_nz y.den_nz) ?_ ?_
 ·rw[e1];refine ew (Int.natAbs_add_le _ _) ?_;rw[ce,ce,ck,ck];have g1:=gb h.1 c.2;have g2:=gb c.1 h.2;rw[ej (2^b)]at g2;omega
 ·have:=gb h.2 c.2;rw[e1];omega
theorem qp{a:Nat}{x:Rat}(h:br a x):br a (-x):=by
 refine⟨by rw[Rat.neg_num,Int.natAbs_neg];exact h.1,by rw[Rat.neg_den];exact h.2⟩
theorem jW{a b:Nat}{x y:Rat}(h:br a x)(c:br b y):br (a+b+1) (x-y):=by
 rw[hK];exact qA h (qp c)
theorem cW{a b:Nat}{x y:Rat}(h:br a x)(c:br b y):br (a+b) (x*y):=by
 have e:x*y=hH (x.num*y.num) ((x.den*y.den:Nat):Int):=by
  rw[Rat.mul_def,hJ];rfl
 rw[e];refine Dt (hu x.den_nz y.den_nz) ?_ ?_
 ·rw[ce,fv];exact gb h.1 c.1
 ·rw[fv];exact gb h.2 c.2
theorem XO{x:Rat}(h:x≠0):(x⁻¹).num=x.num.sign*x.den/\(x⁻¹).den=x.num.natAbs:=by
 have a:x.num≠0:=fun e=>h (hL.1 e);have e:x⁻¹=hH (x.num.sign*x.den) (x.num.natAbs:Nat):=by
  rw[Rat.inv_def];rcases cv x.num 0 with h|h|h
  ·have e1:x.num.sign= -1:=Int.sign_eq_neg_one_of_neg h;have e2:((x.num.natAbs:Nat):Int)= -x.num:=by omega
   rw[e1,e2,show(-1*(x.den:Int))= -(x.den:Int)by omega,Rat.divInt_neg',Int.neg_neg]
  ·exact(a h).elim
  ·have e1:x.num.sign=1:=Int.sign_eq_one_of_pos h;have e2:((x.num.natAbs:Nat):Int)=x.num:=by omega
   rw[e1,e2,Int.one_mul]
 have b:hC (x.num.sign*x.den).natAbs x.num.natAbs=1:=by
  rw[ce,db a,gg,ck,Nat.gcd_comm];exact x.reduced
 obtain⟨e1,e2⟩:=mv (n:=x.num.sign*x.den) (d:=x.num.natAbs) (by omega);rw[e,e1,e2,b];simp
theorem rP{a:Nat}{x:Rat}(h:br a x):br a x⁻¹:=by
 by_cases b:x=0
 ·subst b;have:(0:Rat)⁻¹=0:=Rat.inv_zero;rw[this];exact h
 ·obtain⟨e1,e2⟩:=XO b;have c:x.num≠0:=fun e=>b (hL.1 e);refine⟨?_,by rw[e2];exact h.1⟩;rw[e1,ce,db c,gg,ck];exact h.2
theorem EG{a b:Nat}{x y:Rat}(h:br a x)(c:br b y):br (a+b) (x/y):=by
 rw[Rat.div_def];exact cW h (rP c)
theorem Ac{k:Nat}{n:Int}(h:n.natAbs<2^k)(hk:0<k):br k (n:Rat):=by
 refine⟨h,?_⟩;show(1:Nat)<2^k;exact Nat.one_lt_two_pow (by omega)
structure NI where
 v:Int
 m:Bool
def NI.sm(a:NI):Bool:=decide (-9223372036854775808<a.v/\a.v<9223372036854775808)||(decide (a.v= -9223372036854775808)&&a.m)
def NI.of(n:Int):NI:=⟨n,true⟩
def NI.mk'(n:Int):NI:=⟨n,false⟩
def NI.neg(a:NI):NI:=.mk' (-a.v)
def NI.abs(a:NI):NI:=if a.v<0 then .mk' (-a.v)else a
def NI.add(a b:NI):NI:=⟨a.v+b.v,a.sm&&b.sm⟩
def NI.sub(a b:NI):NI:=a.add b.neg
def NI.mul(a b:NI):NI:=.mk' (a.v*b.v)
def NI.div(a b:NI):NI:=⟨a.v/b.v,decide (a.v% b.v≠0)⟩
def NI.mod(a b:NI):NI:=.mk' (a.v% b.v)
structure NF where
 q:Rat
 m:Bool
def NF.num(a:NF):NI:=⟨a.q.num,a.m⟩
def NF.den(a:NF):NI:=.mk' a.q.den
def NF.whole(a:NI):NF:=⟨a.v,a.m⟩
def NF.int(n:Int):NF:=⟨n,true⟩
def NF.fR(a:NF):Bool:=decide (a.q.den=1)
def NF.add(a b:NF):NF:=⟨a.q+b.q,a.fR&&b.fR&&(a.num.sm&&b.num.sm)⟩
def NF.neg(a:NF):NF:=⟨-a.q,false⟩
def NF.sub(a b:NF):NF:=a.add b.neg
def NF.mul(a b:NF):NF:=⟨a.q*b.q,false⟩
def NF.inv(a:NF):NF:=⟨a.q⁻¹,false⟩
def NF.div(a b:NF):NF:=⟨a.q/b.q,false⟩
@[simp] theorem NI.sT(a b:NI):(a.add b).v=a.v+b.v:=rfl
@[simp] theorem NI.mJ(a b:NI):(a.mul b).v=a.v*b.v:=rfl
@[simp] theorem NI.Fk(a:NI):a.neg.v= -a.v:=rfl
@[simp] theorem NI.Sm(a b:NI):(a.sub b).v=a.v-b.v:=by show a.v+-b.v=_;omega
@[simp] theorem NF.I1(a b:NF):(a.add b).q=a.q+b.q:=rfl
@[simp] theorem NF.aO4(a:NF):a.neg.q= -a.q:=rfl
@[simp] theorem NF.fu(a b:NF):(a.sub b).q=a.q-b.q:=by show a.q+-b.q=_;rw[hK]
@[simp] theorem NF.Fj(a b:NF):(a.mul b).q=a.q*b.q:=rfl
@[simp] theorem NF.aOf(a:NF):a.inv.q=a.q⁻¹:=rfl
@[simp] theorem NF.aM8(a b:NF):(a.div b).q=a.q/b.q:=rfl
@[simp] theorem NF.aOe(n:Int):(NF.int n).q=n:=rfl
def fA(z:Int):PV:=.st 124 [.int .i64 z,.aH]
def lr(z:Int):PV:=.st 124 [.int .i64 (if z<0 then -1 else 1),eN z.natAbs]
def Fe(p:PV)(z:Int):Prop:=(p=fA z/\-9223372036854775808<=z/\z<=9223372036854775807)\/(p=lr z/\9223372036854775808<=z.natAbs)
theorem QM(a:NI):∃p,p=if a.sm=true then fA a.v else lr a.v:=⟨_,rfl⟩
noncomputable def eI(a:NI):PV:=b3 (QM a)
theorem jI(a:NI):eI a=if a.sm=true then fA a.v else lr a.v:=b2 (QM a)
theorem NI.AG{a:NI}(h:-9223372036854775808<a.v)(b:a.v<9223372036854775808):a.sm=true:=by
 simp[NI.sm,h,b]
theorem NI.qh{a:NI}(h:a.sm=true):-9223372036854775808<=a.v/\a.v<=9223372036854775807:=by
 simp only[NI.sm,b1,decide_eq_true_eq,b0]at h;omega
theorem NI.Am{a:NI}(h:¬a.sm=true):9223372036854775808<=a.v.natAbs:=by
 simp only[NI.sm,b1,decide_eq_true_eq,b0,not_or,not_and]at h;omega
theorem NI.RN(z:Int):(NI.mk' z).sm=decide (-9223372036854775808<z/\z<9223372036854775808):=by
 rw[NI.sm,NI.mk',Bool.and_false,Bool.or_false]
theorem NI.jg(z:Int):(NI.mk' z).v=z:=rfl
theorem mN(a:NI):Fe (eI a) a.v:=by
 rw[jI]
 by_cases h:a.sm=true
 ·rw[if_pos h];have:=NI.qh h;exact .inl ⟨rfl,this⟩
 ·rw[if_neg h];exact .inr ⟨rfl,NI.Am h⟩
theorem oV{z:Int}(h:-9223372036854775808<z)(a:z<9223372036854775808):eI (.mk' z)=fA z:=by
 rw[jI,NI.RN,if_pos (by simp[h,a]),NI.jg]
theorem QL{z:Int}(h:9223372036854775808<=z.natAbs):eI (.mk' z)=lr z:=by
 rw[jI,NI.RN,if_neg (by simp;omega),NI.jg]
theorem uQ{z:Int}(h:-9223372036854775808<=z)(c:z<=9223372036854775807):eI (.of z)=fA z:=by
 rw[jI,if_pos]
 ·rfl
 ·by_cases b:z= -9223372036854775808
  ·subst b;rfl
  ·exact NI.AG (a:=.of z) (by show _<z;omega) (by show z<_;omega)
@[simp] theorem bxN(u:TypeId)(h:¬u=353):(Gl.bx u:Option TypeId)=none:=by
 have a:hD u 353=false:=by
  cases a:hD u 353
  ·rfl
  ·exact(h (Nat.eq_of_beq_eq_true a)).elim
 show(bif hD u 353 then some 354 else none)=none;rw[a];rfl
@[simp] theorem aMT:(Gl.bx 353:Option TypeId)=some 354:=(rfl)
theorem l6:az wB 0=[]:=by simp[az,nO]
theorem uz{n:Nat}(a:0<n)(h:n<wB):az wB n=[n]:=by
 have h1:=jU bp (m:=1) (n:=n) (by rw[ha];exact h);rw[<-h1,row,ea,ed,ee,ae,fa,g4,en h];have:=vX [] n (by omega)
 rwa [List.nil_append]at this
theorem s9(n:Int):au prog 226 [.int .i64 n] (fA n):=by
 refine aG nf HP mix (by simp[f226]) ?_;simp[f226,fA]
theorem EA(n:Int)(h:-9223372036854775808<=n)(b:n<=9223372036854775807):au prog 270 [.int .i64 n] (.int .u64 (n.natAbs:Nat)):=by
 refine aG nf GJ mix (by simp[f270]) ?_
 by_cases a:n<0
 ·have e:b5.wrap (cb.wrap (-n))=(n.natAbs:Nat):=by
   by_cases hm:n= -9223372036854775808
   ·subst hm;rfl
   ·rw[aO _ (by omega) (by omega),fP _ (by omega) (by simp only[wB];omega)];omega
  simp[f270,a,e]
 ·have e:b5.wrap n=(n.natAbs:Nat):=by rw[fP _ (by omega) (by simp only[wB];omega)];omega
  simp[f270,a,e]
theorem oF(p:PV)(z:Int)(h:Fe p z):au prog 271 [p] (.aC [.bool (decide (z<0)),eN z.natAbs]):=by
 refine aG nf N3 mix (by simp[f271]) ?_;rcases h with⟨rfl,b,d⟩|⟨rfl,b⟩
 ·have hs:=EA z b d
  by_cases a:z=0
  ·subst a;simp[f271,fA,eN,l6,dI,cV]
  ·simp[f271,fA,a,dI,cV];refine e1 hs ?_;simp[eN,uz (n:=z.natAbs) (by omega) (by simp only[wB];omega)]
   done
 ·have e:az wB z.natAbs≠[]:=fun h=>by
   have:=cj bp z.natAbs;rw[h,dy,fa]at this;omega
  simp only[lr,eN];obtain⟨c,cs,hc⟩:=dq e;rw[hc];have f:decide ((if z<0 then(-1:Int)else 1)<0)=decide (z<0):=by split<;>simp[*]
  generalize (if z<0 then(-1:Int)else 1)=g at*;simp[f271,dI,cV,f]
theorem xo(neg:Bool)(n:Nat)(j:(az wB n).length<=1048576):au prog 272 [.bool neg,eN n] (eI (.mk' (if neg then -(n:Int)else n))):=by
 by_cases g:n=0
 ·subst g;rw[show(if neg=true then -((0:Nat):Int)else((0:Nat):Int))=0 by simp,oV (by decide) (by decide)];refine aG nf vG mix (by simp[f272]) ?_;simp[f272,fA,eN,l6,dI,cV]
 by_cases p:n<=9223372036854775807
 ·have d:=uz (n:=n) (by omega) (by simp only[wB];omega);have hI:(n:Int)<=9223372036854775807:=by omega
  have w1:cb.wrap (n:Int)=n:=aO _ (by omega) (by omega);have f:cb.wrap (-(n:Int))= -n:=aO _ (by omega) (by omega);cases neg
  ·rw[if_neg (by decide),oV (by omega) (by omega)];refine aG nf vG mix (by simp[f272]) ?_;simp[f272,fA,eN,d,hI,w1,f,dI,cV]
  ·rw[if_pos rfl,oV (by omega) (by omega)];refine aG nf vG mix (by simp[f272]) ?_;simp[f272,fA,eN,d,hI,w1,f,dI,cV]
 ·have k:az wB n≠[]:=fun h=>by
   have:=cj bp n;rw[h,dy,fa]at this;omega
  have e:(az wB n).length=1->(az wB n)[0]?=some n:=fun h=>by
   have a:=cj bp n;rw[h,ha]at a;rw[uz (by omega) a];rfl
  have hI:¬(n:Int)<=9223372036854775807:=by omega
  have b:(if neg then -(n:Int)else n).natAbs=n:=by cases neg<;>simp
  have l:(if(if neg then -(n:Int)else n)<0 then(-1:Int)else 1)=if neg then -1 else 1:=by
   cases neg
   ·simp only[Bool.false_eq_true,if_false];rw[if_neg (by omega)]
   ·simp only[if_true];rw[if_pos (by omega)]
  rw[QL (by rw[b];omega)];refine aG nf vG mix (by simp[f272]) ?_;rw[lr,b,l];simp only[eN];obtain⟨c,cs,hc⟩:=dq k;rw[hc]at e⊢;rw[hc]at j;cases cs with
  |nil=>
   have i:c=n:=by simpa using e rfl
   subst i;cases neg<;>simp[f272,hI,dI,cV]
  |cons c2 cs=>
   have m:¬((cs.length:Int)+1+1=1):=by omega
   have o:¬((cs.length:Int)+1+1=0):=by omega
   cases neg<;>simp[f272,m,o,dI,cV]
def okW(z:Int):Prop:=(az wB z.natAbs).length<=900000
theorem aJg{p:PV}{z:Int}(h:Fe p z):∃a b,p=.st 124 [a,b]:=by
 rcases h with⟨rfl,_⟩|⟨rfl,_⟩
 ·exact⟨_,_,rfl⟩
 ·exact⟨_,_,rfl⟩
theorem xd(a:NI):∃x y,eI a=.st 124 [x,y]:=aJg (mN a)
theorem uN(a:NI)(l:okW a.v):au prog 238 [eI a] (eI a.neg):=by
 have h:=mN a;have d:=oF (eI a) a.v h;have b:=xo (!decide (a.v<0)) a.v.natAbs (by rw[okW]at l;omega);have k:(if(!decide (a.v<0))=true then -((a.v.natAbs:Nat):Int)else a.v.natAbs)= -a.v:=by
  by_cases e:a.v<0
  ·simp[e];omega
  ·simp[e];omega
 rw[k]at b;rw[show a.neg=.mk' (-a.v)from rfl];generalize a.v=z at*;generalize n:eI a=p at*;obtain⟨o,q,g⟩:=xd (.mk' (-z));rcases h with⟨rfl,i,m⟩|⟨rfl,i⟩
 ·by_cases f:z= -9223372036854775808
  ·rw[g]at b⊢;refine aG nf A5 mix (by simp[f238]) ?_;subst f;simp only[fA]at d⊢;simp[f238,dI,cV];refine c1 d ?_;simp[eN]at b⊢;refine c2 b ?_;simp[aa,aI,bG]
  ·rw[oV (by omega) (by omega)];have w:cb.wrap (-z)= -z:=aO _ (by omega) (by omega);refine aG nf A5 mix (by simp[f238]) ?_;simp[f238,fA,f,w,dI,cV]
 ·rw[g]at b⊢;refine aG nf A5 mix (by simp[f238]) ?_;have j:az wB z.natAbs≠[]:=fun h=>by
   have:=cj bp z.natAbs;rw[h,dy,fa]at this;omega
  simp only[lr,eN]at d b⊢;obtain⟨c,cs,hc⟩:=dq j;rw[hc]at d b⊢;generalize (if z<0 then(-1:Int)else 1)=r at*;simp[f238,dI,cV];refine c1 d ?_;simp at b⊢;refine c2 b ?_;simp[aa,aI,bG]
theorem uG(a:NI):au prog 262 [eI a] (.int .i64 (if a.v<0 then -1 else if a.v=0 then 0 else 1)):=by
 have h:=mN a;generalize a.v=z at*;generalize eI a=p at*;refine aG nf Gu mix (by simp[f262]) ?_;rcases h with⟨rfl,b,c⟩|⟨rfl,b⟩
 ·simp[f262,fA];rcases cv z 0 with h|h|h
  ·have e:z<1:=by omega
   simp[h,e];omega
  ·subst h;simp
  ·have e1:¬z<0:=by omega
   have e2:¬z=0:=by omega
   have e3:¬z<1:=by omega
   simp[e1,e2,e3]
 ·simp[f262,lr,eN]
  by_cases h:z<0
  ·simp[h]
  ·have e2:¬z=0:=by omega
   simp[h,e2]
theorem W5{z:Int}(h:-18446744073709551616<=z)(a:z<=18446744073709551614):cb.wrap z=if z< -9223372036854775808 then z+18446744073709551616 else if 9223372036854775807<z then z-18446744073709551616 else z:=by
 rw[cc]
 split
 ·omega
 ·split<;>omega
theorem oB{z:Int}(h:okW z):(az wB z.natAbs).length<=900000:=h
theorem Vq{a b L:Nat}(c:(az wB a).length<=L)(d:(az wB b).length<=L):(az wB (a+b)).length<=L+1:=by
 refine dT bp _ _ ?_;have e:=eo (cj bp a) (er (show 0<wB by decide) c);have f:=eo (cj bp b) (er (show 0<wB by decide) d);have g:2*wB^L<=wB^(L+1):=by rw[e6,ej];exact e9 _ bp
 omega
theorem Ua{a b:Int}(i:okW a)(j:okW b):
 ((decide (a<0)=decide (b<0)/\au prog 272 [.bool (decide (a<0)),eN (a.natAbs+b.natAbs)] (eI (.mk' (a+b))))\/
  (decide (a<0)≠decide (b<0)/\b.natAbs<=a.natAbs/\au prog 272 [.bool (decide (a<0)),eN (a.natAbs-b.natAbs)] (eI (.mk' (a+b))))\/
  (decide (a<0)≠decide (b<0)/\a.natAbs<b.natAbs/\au prog 272 [.bool (decide (b<0)),eN (b.natAbs-a.natAbs)] (eI (.mk' (a+b))))):=by
 have m:=Vq (a:=a.natAbs) (b:=b.natAbs) i j;have l:∀n,n<=a.natAbs+b.natAbs->(az wB n).length<=1048576:=fun n h=>by
  have:=dT bp _ _ (ew h (cj bp (a.natAbs+b.natAbs)));omega
 have f:∀(neg:Bool)(n:Nat),n<=a.natAbs+b.natAbs->(if neg then -(n:Int)else n)=a+b->au prog 272 [.bool neg,eN n] (eI (.mk' (a+b))):=fun neg n h e=>by
  have g:=xo neg n (l n h);rw[e]at g;exact g
 by_cases d:decide (a<0)=decide (b<0)
 ·have c:=f (decide (a<0)) (a.natAbs+b.natAbs) (gi _) (by
   by_cases h:a<0
   ·have:b<0:=by simpa[h]using d
    simp[h];omega
   ·have:¬b<0:=by simpa[h]using d
    simp[h];omega)
  exact .inl ⟨d,c⟩
 ·by_cases k:b.natAbs<=a.natAbs
  ·have c:=f (decide (a<0)) (a.natAbs-b.natAbs) (by omega) (by
    by_cases h:a<0
    ·have:¬b<0:=by simpa[h]using d
     simp[h];omega
    ·have:b<0:=by simpa[h]using d
     simp[h];omega)
   exact .inr (.inl ⟨d,k,c⟩)
  ·have c:=f (decide (b<0)) (b.natAbs-a.natAbs) (by omega) (by
    by_cases h:b<0
    ·have:¬a<0:=fun c=>d (by simp[h,c]);simp[h];omega
    ·have:a<0:=by
      by_cases c:a<0
      ·exact c
      ·exact(d (by simp[h,c])).elim
     simp[h];omega)
   exact .inr (.inr ⟨d,by omega,c⟩)
theorem Es(a:NI):(eI a=fA a.v/\a.sm=true/\-9223372036854775808<=a.v/\a.v<=9223372036854775807)\/(a.sm=false/\∃d c cs,eI a=.st 124 [.int .i64 d,.seq (c::cs)]):=by
 by_cases h:a.sm=true
 ·left;exact⟨by rw[jI,if_pos h],h,NI.qh h⟩
 ·right;refine⟨by simpa using h,?_⟩;have e:=NI.Am h;have b:az wB a.v.natAbs≠[]:=fun h=>by
   have:=cj bp a.v.natAbs;rw[h,dy,fa]at this;omega
  obtain⟨c,cs,hc⟩:=dq b;rw[jI,if_neg h,lr,eN,hc];exact⟨_,_,_,rfl⟩
theorem xJ(a b:NI)(B:okW a.v)(D:okW b.v):au prog 243 [eI a,eI b] (eI (a.add b)):=by
 have o:=oF (eI a) a.v (mN a);have q:=oF (eI b) b.v (mN b);have U:=oB B;have V:=oB D;have t:=I2 a.v.natAbs b.v.natAbs (by omega) (by omega);have C:=V0 a.v.natAbs b.v.natAbs (by omega) (by omega);have y:=Ua B D;have vr:=Es a;have G:=Es b
 by_cases u:(a.sm=true/\b.sm=true)/\-9223372036854775808<=a.v+b.v/\a.v+b.v<=9223372036854775807
 ·obtain⟨⟨g,n⟩,d,l⟩:=u;rw[show eI a=fA a.v by rw[jI,if_pos g],show eI b=fA b.v by rw[jI,if_pos n],show a.add b=.of (a.v+b.v)by rw[NI.add,g,n];rfl,uQ d l];generalize a.v=a at*;generalize b.v=b at*;refine aG nf B8 mix (by simp[f243]) ?_;have w:=aO (a+b) d l;have e:(decide (a<a+b)==decide (0<b))=true:=by
   have:a<a+b↔0<b:=by omega
   simp[this]
  simp[f243,fA,w,dI,cV,e]
 have F:eI (a.add b)=eI (.mk' (a.v+b.v)):=by
  by_cases h:-9223372036854775808<a.v+b.v/\a.v+b.v<9223372036854775808
  ·rw[oV h.1 h.2,jI,if_pos (NI.AG h.1 h.2)];rfl
  ·by_cases l:(a.sm&&b.sm)=true
   ·have H:a.sm=true/\b.sm=true:=by simpa using l
    have I:¬(-9223372036854775808<=a.v+b.v/\a.v+b.v<=9223372036854775807):=fun h=>u ⟨H,h⟩;rw[QL (by omega),jI,if_neg,NI.sT];intro g;have:=NI.qh g;rw[NI.sT]at this;omega
   ·rw[NI.add,NI.mk'];rw[show(a.sm&&b.sm)=false by simpa using l]
 rw[F];clear F;obtain⟨M,N,J⟩:=xd a;obtain⟨O,P,K⟩:=xd b;obtain⟨Y,Z,L⟩:=xd (.mk' (a.v+b.v));rw[L]at y⊢;rw[J]at o vr⊢;rw[K]at q G⊢;generalize a.v=f at*;generalize b.v=bv at*;refine aG nf B8 mix (by simp[f243]) ?_;simp[f243,-aW];rw[aW];simp[-aW];refine join (fun s=>aN s.env 2=.ptr 0 []/\aN s.env 3=.ptr 1 []/\aN s.env 4=.ptr 2 []/\s.heap=[.box false (.p (.st 124 [M,N])),.box false (.p (.st 124 [O,P])),.box false (.p (.st 124 [.int .i64 0,.aH]))]) ?_ ?_
 ·clear y t C o q;rcases vr with⟨d,m,l,g⟩|⟨m,Q,c,cs,d⟩
  ·simp only[fA,PV.st.injEq,ei,and_true,true_and]at d;obtain⟨rfl,rfl⟩:=d;rcases G with⟨n,A,S,T⟩|⟨A,Q,c,cs,n⟩
   ·simp only[fA,PV.st.injEq,ei,and_true,true_and]at n;obtain⟨rfl,rfl⟩:=n;have I:¬(-9223372036854775808<=f+bv/\f+bv<=9223372036854775807):=fun h=>u ⟨⟨m,A⟩,h⟩;have w:=W5 (z:=f+bv) (by omega) (by omega);have e:¬(f<cb.wrap (f+bv)↔0<bv):=by
     rw[w]
     by_cases W:0<bv
     ·rw[if_neg (by omega),if_pos (by omega)];omega
     ·rw[if_pos (by omega)];omega
    simp[dI,cV,e]
   ·simp only[PV.st.injEq,ei,and_true,true_and]at n;obtain⟨rfl,rfl⟩:=n;simp[dI,cV]
  ·simp only[PV.st.injEq,ei,and_true,true_and]at d;obtain⟨rfl,rfl⟩:=d;simp[dI,cV]
 rintro⟨R,X⟩ ⟨i,j,k,E⟩;dsimp only at i j k E;subst E;simp[i,j,k];refine c1 o ?_;simp[i,j,k,aa,aI,bG];refine c1 q ?_;rcases y with⟨d,g⟩|⟨d,l,g⟩|⟨d,l,g⟩
 ·have m:(f<0↔bv<0):=by simpa using d
  rw[d]at g;simp[i,j,k,m,aa,aI,bG];refine c2 C ?_;simp;refine c2 g ?_;simp[i,j,k,aa,aI,bG]
 ·have m:¬(f<0↔bv<0):=by simpa using d
  have r:0<=gf f.natAbs bv.natAbs:=by
   have h:=mt qe.1 (show¬f.natAbs<bv.natAbs by omega);omega
  have x:=J3 f.natAbs bv.natAbs l (by omega);simp[i,j,k,m,aa,aI,bG];refine c2 t ?_;simp[r];refine c2 x ?_;simp[i,j,k,aa,aI,bG];refine c2 g ?_;simp[i,j,k,aa,aI,bG]
 ·have m:¬(f<0↔bv<0):=by simpa using d
  have r:¬0<=gf f.natAbs bv.natAbs:=by have:=qe.2 l;omega
  have x:=J3 bv.natAbs f.natAbs (by omega) (by omega);simp[i,j,k,m,aa,aI,bG];refine c2 t ?_;simp[r];refine c2 x ?_;simp[i,j,k,aa,aI,bG];refine c2 g ?_;simp[i,j,k,aa,aI,bG]
@[simp] theorem aPo(a:NI):aI (eI a)=.agg 124:=by
 obtain⟨x,y,h⟩:=xd a;rw[h];rfl
theorem Si(a:NI):∃z:Int,z=if a.sm=true then a.v else if a.v<0 then -1 else 1:=⟨_,rfl⟩
noncomputable def sI(a:NI):Int:=b3 (Si a)
theorem An(a:NI):sI a=if a.sm=true then a.v else if a.v<0 then -1 else 1:=b2 (Si a)
theorem Sy(a:NI):∃p:PV,p=if a.sm=true then .aH else eN a.v.natAbs:=⟨_,rfl⟩
noncomputable def wI(a:NI):PV:=b3 (Sy a)
theorem Eh(a:NI):wI a=if a.sm=true then .aH else eN a.v.natAbs:=b2 (Sy a)
@[simp] theorem aAe(a:NI):bW (eI a)=[.int .i64 (sI a),wI a]:=by
 by_cases h:a.sm=true
 ·rw[jI,An,Eh,if_pos h,if_pos h,if_pos h];rfl
 ·rw[jI,An,Eh,if_neg h,if_neg h,if_neg h];rfl
theorem Sj(a:NI):sI a<0↔a.v<0:=by
 rw[An];split
 ·exact Iff.rfl
 ·split<;>omega
theorem mK{a:NI}(h:a.sm=true):wI a=.aH:=by rw[Eh,if_pos h]
theorem oO{a:NI}(h:a.sm=false):∃c cs,wI a=.seq (c::cs):=by
 rcases Es a with⟨_,b,_⟩|⟨_,e,c,cs,d⟩
 ·rw[h]at b;exact absurd b (by decide)
 ·refine⟨c,cs,?_⟩;have:=aAe a;rw[d]at this;simp[bW]at this;exact this.2.symm
theorem nI{a:NI}(h:a.sm=true):sI a=a.v:=by rw[An,if_pos h]
theorem ET(a b:NI)(d:okW a.v)(c:okW b.v):au prog 274 [eI a,eI b] (eI (a.sub b)):=by
 refine aG nf IG mix (by simp[f274]) ?_;have e:okW b.neg.v:=by simpa[okW]using c
 simp[f274];refine e1 (uN b c) ?_;simp;refine e2 (xJ a b.neg d e) ?_;simp[aa];exact Wk.refl _
theorem Qp(a:NI)(c:okW a.v):au prog 327 [eI a] (eI a.abs):=by
 refine aG nf GB mix (by simp[f327]) ?_
 by_cases h:a.v<0
 ·have b:=(Sj a).2 h;have e:a.abs=a.neg:=by rw[NI.abs,if_pos h];rfl
  simp[f327,aa,b];refine c1 (uN a c) ?_;simp[aa,e]
 ·have b:=mt (Sj a).1 h;have e:a.abs=a:=by rw[NI.abs,if_neg h]
  simp[f327,aa,b,e]
def kG(x y:Int):Int:=if x<y then -1 else if x=y then 0 else 1
theorem Qq(a b:NI)(l:okW a.v)(m:okW b.v):au prog 213 [eI a,eI b] (.int .i64 (kG a.v b.v)):=by
 refine aG nf H5 mix (by simp[f213]) ?_;have o:(a.sm=true/\b.sm=true)\/¬(a.sm=true/\b.sm=true):=b4 _;rcases o with⟨d,k⟩|d
 ·have w1:=mK d;have f:=mK k;have i:=nI d;have j:=nI k;rcases cv a.v b.v with h|h|h
  ·have e:kG a.v b.v= -1:=by rw[kG,if_pos h]
   simp[f213,aa,w1,f,i,j,h,e,dI,cV]
  ·have e:kG b.v b.v=0:=by rw[kG,if_neg (by omega),if_pos rfl]
   have d:¬a.v<b.v:=by omega
   simp[f213,aa,w1,f,i,j,h,e,dI,cV]
  ·have e:kG a.v b.v=1:=by rw[kG,if_neg (by omega),if_neg (by omega)]
   have d:¬a.v<b.v:=by omega
   simp[f213,aa,w1,f,i,j,h,d,e,dI,cV]
 ·have e:(if(a.sub b).v<0 then(-1:Int)else if(a.sub b).v=0 then 0 else 1)=kG a.v b.v:=by
   rw[NI.Sm,kG];rcases cv a.v b.v with h|h|h
   ·rw[if_pos (by omega),if_pos h]
   ·rw[if_neg (by omega),if_pos (by omega),if_neg (by omega),if_pos h]
   ·rw[if_neg (by omega),if_neg (by omega),if_neg (by omega),if_neg (by omega)]
  have g:=uG (a.sub b);rw[e]at g;rcases hs:a.sm with _|_
  ·obtain⟨c,cs,w1⟩:=oO hs;simp[f213,aa,w1,dI,cV];refine c2 (ET a b l m) ?_;simp;refine c1 g ?_;simp
  ·have w1:=mK hs;obtain⟨c,cs,f⟩:=oO (a:=b) (by cases n:b.sm with|false=>rfl|true=>exact(d ⟨hs,n⟩).elim);simp[f213,aa,w1,f,dI,cV];refine c2 (ET a b l m) ?_;simp;refine c1 g ?_;simp
theorem Vp{a b L M:Nat}(e:(az wB a).length<=L)(f:(az wB b).length<=M):(az wB (a*b)).length<=L+M:=by
 refine dT bp _ _ ?_;have c:=eo (cj bp a) (er (show 0<wB by decide) e);have d:=eo (cj bp b) (er (show 0<wB by decide) f);rw[fv];exact gb c d
theorem AR(a b:NI)(G:(az wB a.v.natAbs).length+(az wB b.v.natAbs).length<=900000):au prog 212 [eI a,eI b] (eI (a.mul b)):=by
 have E:=oF (eI a) a.v (mN a);have hq:=oF (eI b) b.v (mN b);have D:=VY a.v.natAbs b.v.natAbs (by omega);have I:=Vp (gi (az wB a.v.natAbs).length) (gi (az wB b.v.natAbs).length);have w:=xo (decide (a.v<0)!=decide (b.v<0)) (a.v.natAbs*b.v.natAbs) (by omega);have e:(if(decide (a.v<0)!=decide (b.v<0))=true then -((a.v.natAbs*b.v.natAbs:Nat):Int)else(a.v.natAbs*b.v.natAbs:Nat))=a.v*b.v:=by
  rw[<-ce];rcases dg a.v 0 with i|i
  ·rcases dg b.v 0 with d|d
   ·have:=Int.mul_nonneg_of_nonpos_of_nonpos (c6 i) (c6 d);simp[i,d];omega
   ·have:=Int.mul_nonpos_of_nonpos_of_nonneg (c6 i) d;have n:¬b.v<0:=by omega
    simp[i,n];omega
  ·have n:¬a.v<0:=by omega
   rcases dg b.v 0 with d|d
   ·have:=Int.mul_nonpos_of_nonneg_of_nonpos i (c6 d);simp[n,d];omega
   ·have:=Int.mul_nonneg i d;have B:¬b.v<0:=by omega
    simp[n,B];omega
 rw[e]at w;rw[show a.mul b=.mk' (a.v*b.v)from rfl];refine aG nf H6 mix (by simp[f212]) ?_;simp[f212,-aW];rw[aW];simp[-aW];refine join (fun s=>aN s.env 2=.ptr 0 []/\aN s.env 3=.ptr 1 []/\aN s.env 4=.ptr 2 []/\s.heap=[.box false (.p (eI a)),.box false (.p (eI b)),.box false (.p (.st 124 [.int .i64 0,.aH]))]) ?_ ?_
 ·rcases hs:a.sm with _|_
  ·obtain⟨c,cs,w1⟩:=oO hs;simp[aa,w1,dI,cV]
  ·have w1:=mK hs;rcases o:b.sm with _|_
   ·obtain⟨c,cs,j⟩:=oO o;simp[aa,w1,j,dI,cV]
   ·have j:=mK o;have f:=nI hs;have g:=nI o;have y:=NI.qh hs;have z:=NI.qh o;have z1:=EA a.v y.1 y.2;have z2:=EA b.v z.1 z.2;have M:=zW a.v.natAbs b.v.natAbs (by omega) (by omega);obtain⟨H,t⟩:∃H,H=a.v.natAbs*b.v.natAbs/18446744073709551616:=⟨_,rfl⟩
    obtain⟨L,q⟩:∃L,L=a.v.natAbs*b.v.natAbs% 18446744073709551616:=⟨_,rfl⟩
    rw[<-t,<-q]at M;have C:a.v.natAbs*b.v.natAbs=H*18446744073709551616+L:=by omega
    clear t q
    by_cases c1:H=0/\L<=9223372036854775807
    ·obtain⟨rfl,q⟩:=c1;have u:(L:Int)<=9223372036854775807:=by omega
     have r:cb.wrap (L:Int)=L:=aO _ (by omega) (by omega);have A:cb.wrap (-(L:Int))= -L:=aO _ (by omega) (by omega);rw[C]at e;simp only[g6,g7]at e;rw[oV (by rw[<-e];split<;>omega) (by rw[<-e];split<;>omega),fA]
     by_cases c2:a.v<0↔b.v<0
     ·rw[if_neg (by simp[c2])]at e;rw[<-e];simp[aa,w1,j,f,g,dI,cV];refine e1 z1 ?_;simp[f,g];refine e1 z2 ?_;simp;refine e2 M ?_;simp[u,c2,aa,w1,j,f,g,r]
     ·rw[if_pos (by simp[c2])]at e;rw[<-e];simp[aa,w1,j,f,g,dI,cV];refine e1 z1 ?_;simp[f,g];refine e1 z2 ?_;simp;refine e2 M ?_;simp[u,c2,aa,w1,j,f,g,r,A]
    ·simp[aa,w1,j,f,g,dI,cV];refine e1 z1 ?_;simp[f,g];refine e1 z2 ?_;simp;refine e2 M ?_
     by_cases c2:H=0
     ·have c3:¬(L:Int)<=9223372036854775807:=fun h=>c1 ⟨c2,by omega⟩;simp[c2,c3]
     ·have c3:¬(H:Int)=0:=by omega
      simp[c2,c3]
 ·rintro⟨F,J⟩ ⟨k,l,m,x⟩;dsimp only at k l m x;subst x;simp[k,l,m];refine c1 E ?_;simp[k,l,m];refine c1 hq ?_;simp[k,l,m];refine c2 D ?_;simp;refine c2 w ?_;simp[k,l,m,aa]
  done
end Go.ak
