import Derived.Test.YtanjnahmbanmaaaGreatDoorPE
/- Parts of a proof. -/
set_option linter.unusedSimpArgs false
set_option linter.unusedVariables false
set_option linter.unusedSectionVars false
open Go.Proofs.Tryz
open Bool renaming and_eq_true->bV, or_eq_true->b0
open Classical renaming choose_spec->b1, choose->b2, em->b3
open Go.IntKind renaming u64->b4, i64->b5, wrap_i64->cb
open Go.Lib renaming bitLen->cc
open Int renaming natAbs_mul->ce, natAbs_natCast->ck, lt_trichotomy->cv, natCast_mul->cx, lt_of_le_of_lt->cy, le_of_lt->c6, ediv_le_self->c9, ediv_nonneg->da, natAbs_sign_of_ne_zero->db, lt_or_le->dg
open List renaming getElem?_eq_getElem->dk, range->dl, exists_cons_of_ne_nil->dp, take_of_length_le->dq, length_nil->dz, map_congr_left->ea, range_one->eb, mem_range->ec, map_take->ed, map_cons->ee, map_nil->ei
open List.cons renaming injEq->ej
open Nat renaming mul_comm->en, mod_eq_of_lt->eo, lt_of_lt_of_le->eq, div_lt_iff_lt_mul->ew, pow_le_pow_right->e6, lt_of_le_of_lt->e7, mod_lt->e8, pow_succ->e9, pow_pos->fb, mul_le_mul_right->fd, mul_le_mul_left->fl, pow_zero->fm, mul_lt_mul_of_pos_right->fv, add_mul->fw, div_add_mod->gb, lt_or_ge->gc, pow_add->ge, add_mul_mod_self_right->gg, mul_lt_mul''->gi, div_le_self->gj, add_sub_cancel->gm, one_mul->gt, le_refl->gx, mul_assoc->gy, add_comm->g0, mul_right_comm->g4, div_eq_of_lt->g5, lt_trans->g6, div_div_eq_div_mul->g7, div_one->g8, div_mul_le_self->g9, zero_mul->ha, zero_add->hb, add_zero->hd, zero_le->hg, pow_one->hj, min_eq_left->hl, add_sub_cancel_left->ho, mul_mod_mul_right->hp, mul_div_mul_right->hr, add_mul_div_right->ht, mul_one->hu, mul_mod_mul_left->hv, eq_zero_or_pos->hw, lt_of_succ_lt->hy, mul_ne_zero->hz, mod_add_div->hA, lt_succ_iff->hB, mul_le_mul->hC, add_assoc->hD, zero_mod->hE, sub_zero->hF, gcd->hG, beq->hH, or_comm->hJ, mul_add->hK, not_lt->hL
open Rat renaming divInt->hM, normalize_eq_mkRat->hN, sub_eq_add_neg->hO, num_eq_zero->hP
namespace Go.ak
open Go.Proofs
set_option maxHeartbeats 4000000
set_option maxRecDepth 100000
theorem yh(n:Nat):b4.wrap (n:Int)=(n% wB:Nat):=by
 rw[show b4.wrap (n:Int)=(n:Int)% 18446744073709551616 from rfl];rfl
theorem wx(x s:Nat)(hs:s<64):b4.wrap ((x:Int)*2^(min s b4.bits))=(x*2^s% wB:Nat):=by
 rw[show b4.bits=64 from rfl,hl (by omega),<-yh];congr 1
theorem tR(x s:Nat)(hs:s<=64):(x:Int).fdiv (2^(min s b4.bits))=(x/2^s:Nat):=by
 rw[show b4.bits=64 from rfl,hl hs,show(2:Int)^s=((2^s:Nat):Int)by push_cast;rfl,Int.fdiv_eq_ediv_of_nonneg _ (Int.natCast_nonneg _)];rfl
theorem DX(a b:Nat)(c:a<wB)(d:b<wB):b4.wrap ((a% 2^b4.bits|||b% 2^b4.bits:Nat):Int)=(a|||b:Nat):=by
 rw[show(2^b4.bits:Nat)=wB from rfl,eo c,eo d,yh,eo];exact Nat.or_lt_two_pow (n:=64) c d
def cu(a s i:Nat):Nat:=if i=0 then 0 else ae wB a (i-1)/2^(64-s)
def gn(a s i k:Nat):Nat:=if k<i then ae wB (a*2^s) k else if k=i then cu a s i else 0
theorem yC{s:Nat}(hs:s<64):2^s*2^(64-s)=wB:=by rw[<-ge,show s+(64-s)=64 by omega];rfl
theorem KD(a s i:Nat)(hs:s<64):cu a s i|||(ae wB a i*2^s% wB)=ae wB (a*2^s) i:=by
 have c:0<2^s:=fb (by decide);have d:0<2^(64-s):=fb (by decide);have b:=yC hs;have hc:cu a s i<2^s:=by
  rw[cu];split
  ·exact c
  ·rw[ew d,b];exact cr bn _ _
 have e:ae wB a i*2^s% wB=ae wB a i% 2^(64-s)*2^s:=by
  rw[<-b,en,hv,en]
 rw[hJ,e,CZ hc,<-e];cases i with
 |zero=>rw[cu,if_pos rfl,hd,<-b];exact(V0 a).symm
 |succ i=>rw[cu,if_neg (by omega),gm,<-b];exact(V1 c d a i).symm
theorem Bb{n:Nat}{f g:Nat->Nat}(h:∀k,k<n->f k=g k):cg n f=cg n g:=by
 rw[cg,cg];exact ea fun k hk=>by rw[h k (ec.1 hk)]
theorem Y1(a s n:Nat)(hs:s<64)(h:ae wB a n=0):cu a s n=ae wB (a*2^s) n:=by
 rw[<-KD a s n hs,h,ha,hE,Nat.or_zero]
theorem I2(a s:Nat)(hs:s<64)(A:(aw wB a).length<=1000000):cE prog 336 [] [.p (eN a),.p (.int .i64 s)] [.arr .exact 0 1 (cg ((aw wB a).length+1) (ae wB (a*2^s)))] (.sl 0 0 1 0 ((aw wB a).length+1)):=by
 refine fF nf M8 mix (by simp[f336]) ?_;have C:∀i(h:i<(aw wB a).length),(aw wB a)[i]=ae wB a i:=fun i h=>ey bn h;have F:=@Cy a;simp only[eN];generalize aw wB a=x at*;obtain⟨n,c⟩:∃n,x.length=n:=⟨_,rfl⟩
 rw[c]at A;have J:b5.wrap ((n:Int)+1)=(n:Int)+1:=b9 (by omega);simp[f336,c,J];refine⟨⟨by omega,by simp only[cW];omega⟩,?_⟩;rw[B8 (f:=gn a s 0) (by intro j;simp[gn,cu])];refine lp (α:=Nat) (fun i=>⟨[(14,.p (.int .i64 i)),(13,.p (.int .i64 n)),(12,.p (.seq (x.map fun x:Nat=>.int .u64 x))),(5,.sl 0 0 1 0 (n+1)),(1,.p (.int .i64 s))],[.arr .exact 0 1 (cg (n+1) (gn a s i))]⟩)
  (fun i=>i<=n) (fun i=>n-i) 0 (by simp) ?_ (he:=by simp)
 intro i k1;have w:=b9 (i:=i) (by omega)
 by_cases hi:i<n
 ·have l:i<x.length:=by rw[c];exact hi
  have hx:=C i l;have e:i<n+1:=by omega
  have o:=mn (gn a s i) e;have E:ae wB a i*2^s% wB<wB:=e8 _ (by decide);have B:gn a s i i<wB:=by
   rw[gn,if_neg (by omega),if_pos rfl,cu];split
   ·decide
   ·exact e7 (gj _ _) (cr bn _ _)
  have e1:=wx (ae wB a i) s hs;have e2:=DX (gn a s i i) (ae wB a i*2^s% wB) B E;have e3:gn a s i i|||(ae wB a i*2^s% wB)=ae wB (a*2^s) i:=by rw[<-KD a s i hs,gn,if_neg (by omega),if_pos rfl]
  rw[e3]at e2;have y:b5.wrap (64-(s:Int))=((64-s:Nat):Int):=by rw[aP _ (by omega) (by omega)];omega
  have e4:=tR (ae wB a i) (64-s) (by omega);have r:i+1<n+1:=by omega
  have u:=oS (n:=n+1) (i:=i) (f:=gn a s i) (g:=fun k=>if k=i then ae wB (a*2^s) i else gn a s i k) (if_pos rfl) (fun k hk=>if_neg hk);have G:=oS (n:=n+1) (i:=i+1) (v:=ae wB a i/2^(64-s)) (f:=fun k=>if k=i then ae wB (a*2^s) i else gn a s i k) (g:=gn a s (i+1)) (by
   simp[gn,cu]) (fun k hk=>by
   by_cases d:k=i
   ·subst d;simp[gn]
   ·simp only[gn,d,if_false]
    by_cases b:k<i
    ·rw[if_pos (by omega),if_pos b]
    ·rw[if_neg (by omega),if_neg hk,if_neg b])
  have D:=mn (n:=n+1) (fun k=>if k=i then ae wB (a*2^s) i else gn a s i k) r;have H:s=0->cg (n+1) (fun k=>if k=i then ae wB (a*2^s) i else gn a s i k)=cg (n+1) (gn a s (i+1)):=fun h=>by
   have K:ae wB a i/2^(64-s)=0:=by rw[h];exact g5 (cr bn _ _)
   refine Bo fun k=>?_
   by_cases d:k=i
   ·subst d;simp[gn]
   ·simp only[gn,d,if_false]
    by_cases b:k<i
    ·rw[if_pos b,if_pos (by omega)]
    ·by_cases q:k=i+1
     ·rw[q,if_neg (by omega),if_neg (by omega),if_pos rfl,cu,if_neg (by omega),gm,K]
     ·rw[if_neg b,if_neg (by omega),if_neg q]
  generalize ae wB a i*2^s% wB=L at*;generalize ae wB a i/2^(64-s)=M at*;generalize (fun k=>if k=i then ae wB (a*2^s) i else gn a s i k)=g1 at*;obtain⟨t,I⟩:∃t,t=64-s:=⟨_,rfl⟩
  rw[<-I]at y e4
  by_cases m:0<s
  ·simp[c,hi,e,l,hx,o,e1,e2,m,y,e4,w,u,r,D,G,aa,aL,bD];refine⟨⟨by rfl,by rfl,by rfl⟩,?_⟩;refine⟨by omega,?_⟩;exact rd (i+1) (show i+1<=n by omega)
  ·have z:s=0:=by omega
   simp[c,hi,e,l,hx,o,e1,e2,m,w,u,H z,aa,aL,bD];refine⟨⟨by rfl,by rfl,by rfl⟩,?_⟩;exact rd (i+1) (show i+1<=n by omega)
 have:i=n:=by omega
 subst this;simp[c];refine .inl (Bb fun k hk=>?_);rw[gn]
 by_cases b:k<i
 ·rw[if_pos b]
 ·obtain rfl:k=i:=by omega
  rw[if_neg b,if_pos rfl,Y1 a s k hs (F (by omega))]
theorem xC:∀(n x:Nat),x<=n->0<x->x<2^64->1<=cc x/\2^(cc x-1)<=x/\x<2^cc x
 |0,x,h,a,_=>by omega
 |n+1,x,h,a,c=>by
  have d:=Lib.bitLen_half x (by omega) c
  by_cases b:x=1
  ·subst b;decide
  ·obtain⟨i1,i2,i3⟩:=xC n (x/2) (by omega) (by omega) (by omega);rw[d];generalize cc (x/2)=L at*;obtain⟨k,rfl⟩:∃k,L=k+1:=⟨L-1,by omega⟩
   rw[show 1+(k+1)=k+2 by omega,show k+2-1=k+1 by omega,e9,e9];rw[e9]at i3;simp only[gm]at i2;omega
theorem Ow{x:Nat}(a:0<x)(h:x<2^64):cc x<=64:=by
 obtain⟨_,b,_⟩:=xC x x (gx _) a h;have:=(Nat.pow_lt_pow_iff_right (show 1<2 by decide)).1 (e7 b h);omega
def wH:Nat:=4294967296
theorem wHH:wH*wH=wB:=rfl
theorem J7{y:Nat}(a:0<y)(h:y<2^64):∃s,s<64/\cc y+s=64/\wB<=2*(y*2^s)/\y*2^s<wB:=by
 obtain⟨d,b,c⟩:=xC y y (gx _) a h;have e:=Ow a h;refine⟨64-cc y,by omega,by omega,?_,?_⟩
 ·have:=fd (2^(64-cc y)) b;rw[<-ge,show cc y-1+(64-cc y)=63 by omega]at this;simp only[wB];omega
 ·have:=fv c (fb (show 0<2 by decide) (n:=64-cc y));rw[<-ge,show cc y+(64-cc y)=64 by omega]at this;simp only[wB];omega
structure QH(hi lo y s:Nat) where
 Y:Nat
 v1:Nat
 v0:Nat
 T:Nat
 u:Nat
 u1:Nat
 u0:Nat
 q1:Nat
 R:Nat
 q0:Nat
 hY:Y=y*2^s
 eY:Y=v1*wH+v0
 Ae:v1<wH
 ln:v0<wH
 tU:wH<=2*v1
 wE:T<Y
 zO:hi*2^s<wB
 DY:hi*2^s|||lo/2^(64-s)=T
 eu:u=lo*2^s% wB
 DC:u1=u/wH
 DB:u0=u% wH
 Ad:u1<wH
 Ac:u0<wH
 nV:q1=hq wH v1 v0 T u1
 zW:q1<wH
 eR:R=T*wH+u1-q1*Y
 wC:R<Y
 Qh:q1*Y<=T*wH+u1
 vS:q0=hq wH v1 v0 R u0
 zU:q0<wH
 Qg:q0*Y<=R*wH+u0
 CC:q1*wH+q0=(hi*wB+lo)/y
 rem:(R*wH+u0-q0*Y)/2^s=(hi*wB+lo)% y
theorem Zy{hi lo y:Nat}(o:hi<y)(H:y<wB)(B:lo<wB):∃s,s<64/\cc y+s=64/\Nonempty (QH hi lo y s):=by
 obtain⟨s,hs,w,J,m⟩:=J7 (y:=y) (by omega) H;have g:=yC hs;have a:0<2^s:=fb (by decide);have x:0<2^(64-s):=fb (by decide);refine⟨s,hs,w,⟨?_⟩⟩;have e0:y*2^s=y*2^s/wH*wH+y*2^s% wH:=by rw[en _ wH,gb]
 have E:y*2^s% wH<wH:=e8 _ (by decide);have F:y*2^s/wH<wH:=by rw[ew (by decide)];exact m
 have G:wH<=2*(y*2^s/wH):=by simp only[wH,wB]at*;omega
 have A:lo/2^(64-s)<2^s:=by rw[ew x,g];exact B
 have v:hi*2^s<wB:=g6 (fv o a) m;have h:hi*2^s+lo/2^(64-s)<y*2^s:=by
  have:=fd (2^s) (show hi+1<=y from o);rw[fw,gt]at this;omega
 have C:hi*2^s|||lo/2^(64-s)=hi*2^s+lo/2^(64-s):=CZ A
 have n:lo*2^s% wB/wH<wH:=by rw[ew (by decide)];exact e8 _ (by decide)
 have b:lo*2^s% wB% wH<wH:=e8 _ (by decide);have i:(hi*wB+lo)*2^s=((hi*2^s+lo/2^(64-s))*wH+lo*2^s% wB/wH)*wH+lo*2^s% wB% wH:=by
  have e1:lo*2^s=lo/2^(64-s)*wB+lo*2^s% wB:=by
   have e2:lo*2^s/wB=lo/2^(64-s):=by
    rw[<-g,en lo,Nat.mul_div_mul_left _ _ a]
   rw[<-e2,en _ wB,gb]
  have e3:lo*2^s% wB=lo*2^s% wB/wH*wH+lo*2^s% wB% wH:=by rw[en _ wH,gb]
  rw[fw,g4,e1,fw (_*wH),gy (_+_) wH wH,wHH,fw];generalize hi*2^s*wB=I;rw[<-e1];generalize lo*2^s% wB=a2 at*;generalize lo/2^(64-s)*wB=a3 at*;omega
 have l:0<y*2^s:=by omega
 obtain⟨e,d⟩:=Z8 (Y:=y*2^s) (U:=(hi*wB+lo)*2^s) (c:=wH) l;have j:(hi*wB+lo)*2^s/wH=(hi*2^s+lo/2^(64-s))*wH+lo*2^s% wB/wH:=by
  rw[i,g0,ht _ _ (by decide),g5 b,hb]
 have k:(hi*wB+lo)*2^s% wH=lo*2^s% wB% wH:=by
  rw[i,g0,gg,eo b]
 rw[j,k,hr _ _ a]at e;rw[j,k,en _ (2^s),en y,hv]at d;rw[en (2^s) y]at d;generalize z:y*2^s=Y at*;generalize hi*2^s+lo/2^(64-s)=T at*;generalize D:lo*2^s% wB=u at*;have t:=Lw (T:=T) (c:=wH) (u1:=u/wH) (v1:=Y/wH) (v0:=Y% wH);rw[<-e0]at t;have r:=Lw (T:=(T*wH+u/wH)% Y) (c:=wH) (u1:=u% wH) (v1:=Y/wH) (v0:=Y% wH);rw[<-e0]at r;have q:hq wH (Y/wH) (Y% wH) T (u/wH)=(T*wH+u/wH)/Y:=by rw[hq,<-e0]
 have p:hq wH (Y/wH) (Y% wH) ((T*wH+u/wH)% Y) (u% wH)=((T*wH+u/wH)% Y*wH+u% wH)/Y:=by rw[hq,<-e0]
 have f:(T*wH+u/wH)% Y<Y:=e8 _ l;exact{
  Y:=Y,v1:=Y/wH,v0:=Y% wH,T:=T,u:=u,u1:=u/wH,u0:=u% wH
  q1:=hq wH (Y/wH) (Y% wH) T (u/wH),R:=(T*wH+u/wH)% Y,q0:=hq wH (Y/wH) (Y% wH) ((T*wH+u/wH)% Y) (u% wH)
  hY:=z.symm,eY:=e0,Ae:=F,ln:=E,tU:=G,wE:=h,zO:=v,DY:=C,eu:=D.symm,DC:=rfl,DB:=rfl,Ad:=n,Ac:=b
  nV:=rfl,zW:=O6 (by rw[<-e0];exact h) n,eR:=t.symm,wC:=f
  Qh:=by rw[q];exact g9 _ _
  vS:=rfl,zU:=O6 (by rw[<-e0];exact f) b
  Qg:=by rw[p];exact g9 _ _
  CC:=by rw[q,p,<-e]
  rem:=by rw[r,<-d,Nat.mul_div_cancel_left _ a]}
section
variable[Gl]{P:Program}{ag:FuncId->Bool}{q:Nat×Nat}
theorem rC{b:Code}{Q:bu->St->Prop}{s:St}{id:Nat}(R:St->Prop)(f:eD P ag q (.loop b) (qL id (qZ R (fun _ _=>False))) s)(c:∀s',R s'->Q .normal s'):eD P ag q (.loop b) (qL id Q) s:=by
 refine mY _ (fun e s a=>?_) f;cases e with
 |normal=>exact c s a
 |exit i=>
  simp only[qL,nH]at a⊢
  by_cases d:i=id
  ·simp[d,qZ]at a⊢;exact c s a
  ·simp[d,qZ]at a
 |ret=>exact a.elim
end
theorem Ja(a:Nat)(b:a<wB):b4.wrap ((a% 2^b4.bits&&&4294967295% 2^b4.bits:Nat):Int)=(a% wH:Nat):=by
 rw[show(2^b4.bits:Nat)=wB from rfl,eo b,show 4294967295% wB=2^32-1 from rfl,Nat.and_two_pow_sub_one_eq_mod,yh];rw[show(2:Nat)^32=wH from rfl,eo (eq (e8 _ (by decide)) (show wH<=wB by decide))]
theorem QF{a b c:Int}{R:Nat}(h:a+b-c=R)(hR:R<wB):b4.wrap (b4.wrap (b4.wrap a+b)-b4.wrap c)=R:=by
 show(((a% 18446744073709551616+b)% 18446744073709551616)-c% 18446744073709551616)% 18446744073709551616=R;have:R<18446744073709551616:=hR;omega
theorem LN(hi lo y:Nat)(aC:hi<y)(aj:y<wB)(ah:lo<wB):au prog 334 [.int .u64 hi,.int .u64 lo,.int .u64 y] (.aC [.int .u64 ((hi*wB+lo)/y:Nat),.int .u64 ((hi*wB+lo)% y:Nat)]):=by
 refine aI nf M9 mix (by simp[f334]) ?_;have H:¬(y:Int)=0:=by omega
 have N:¬(y:Int)<=hi:=by omega
 have af:¬y<=hi:=by omega
 have ae:¬y=0:=by omega
 by_cases ad:hi=0
 ·subst ad;have ag:b4.wrap ((lo:Int)/y)=(lo:Int)/y:=fp _ (da (by omega) (by omega)) (cy (c9 _ (by omega)) (by omega));have ax:(lo:Int).tmod y=(lo:Int)% y:=Int.tmod_eq_emod_of_nonneg (by omega);simp[f334,H,N,ae,af,ag,ax]
 obtain⟨s,hs,aR,⟨Y,b,v0,T,u,u1,u0,q1,R,q0,ac,eY,Ae,ln,tU,wE,zO,DY,eu,DC,DB,Ad,Ac,nV,zW,eR,wC,Qh,vS,zU,Qg,CC,rem⟩⟩:=Zy aC aj ah;have aA:=Np y aj;obtain⟨t,ai⟩:∃t,t=64-s:=⟨_,rfl⟩
 have O:wH=4294967296:=rfl;have ay:wB=18446744073709551616:=rfl;have X:Y<wB:=by
  rw[O]at Ae ln eY;rw[ay];omega
 have aw:b4.wrap (64-((cc y:Nat):Int))=s:=by rw[fp _ (by omega) (by omega)];omega
 have f2:b4.wrap (64-(s:Int))=t:=by rw[fp _ (by omega) (by omega)];omega
 have f3:b4.wrap ((y:Int)*2^(min s b4.bits))=Y:=by rw[wx y s hs,<-ac,eo X]
 have f4:(Y:Int).fdiv (2^(min 32 b4.bits))=b:=by
  rw[tR Y 32 (by omega)];rw[O]at ln eY;congr 1;omega
 have f5:b4.wrap ((hi:Int)*2^(min s b4.bits))=(hi*2^s:Nat):=by rw[wx hi s hs,eo zO]
 have f6:(lo:Int).fdiv (2^(min t b4.bits))=(lo/2^t:Nat):=tR lo t (by omega);have f7:=DX (hi*2^s) (lo/2^t) zO (e7 (gj _ _) ah);rw[ai,DY,<-ai]at f7;have f8:b4.wrap ((lo:Int)*2^(min s b4.bits))=u:=by rw[wx lo s hs,<-eu]
 have aN:u<wB:=by rw[eu];exact e8 _ (by decide)
 have f9:(u:Int).fdiv (2^(min 32 b4.bits))=u1:=by
  rw[tR u 32 (by omega)];congr 1;rw[DC];rfl
 have d:0<b:=by rw[O]at tU;omega
 have am:¬b=0:=by omega
 have an:¬(b:Int)=0:=by omega
 have aO:T<wB:=by omega
 generalize hi*2^s=aP at*;generalize lo/2^t=aS at*;have aG:T/b<=wH+1:=O5 d (by rw[<-eY];exact wE) tU ln;have aL:T/b*b+T% b=T:=by rw[en,gb]
 have aT:T% b<b:=e8 _ d;have aJ:=Lx (T:=T) (u1:=u1) d ln Ad;have g1:b4.wrap ((T:Int)/b)=(T/b:Nat):=by rw[fp _ (da (by omega) (by omega)) (cy (c9 _ (by omega)) (by omega))];rfl
 generalize T/b=K at*;generalize T% b=ak at*;have g2:b4.wrap ((T:Int)-b4.wrap ((K:Int)*b))=ak:=by
  have e:((K*b:Nat):Int)=(K:Int)*b:=by push_cast;rfl
  rw[fp ((K:Int)*b) (by omega) (by omega),fp _ (by omega) (by omega)];omega
 have aa:=Ja Y X;have ab:=Ja u aN;rw[show Y% wH=v0 by rw[eY,g0,gg,eo ln]]at aa;rw[<-DB]at ab;have aZ:b<4294967296:=Ae;have aX:v0<4294967296:=ln;have aW:u1<4294967296:=Ad;have aV:u0<4294967296:=Ac;have aY:4294967296<=2*b:=tU;have aH:R/b<=wH+1:=O5 d (by rw[<-eY];exact wC) tU ln;have aM:R/b*b+R% b=R:=by rw[en,gb]
 have aU:R% b<b:=e8 _ d;have aq:R<wB:=by omega
 have aK:=Lx (T:=R) (u1:=u0) d ln Ac;have aD:b4.wrap ((R:Int)/b)=(R/b:Nat):=by rw[fp _ (da (by omega) (by omega)) (cy (c9 _ (by omega)) (by omega))];rfl
 generalize R/b=L at*;generalize R% b=al at*;have aE:b4.wrap ((R:Int)-b4.wrap ((L:Int)*b))=al:=by
  have e:((L*b:Nat):Int)=(L:Int)*b:=by push_cast;rfl
  rw[fp ((L:Int)*b) (by omega) (by omega),fp _ (by omega) (by omega)];omega
 have ao:b4.wrap (b4.wrap (b4.wrap ((T:Int)*4294967296)+u1)-b4.wrap ((q1:Int)*Y))=R:=by
  refine QF (h:=?_) (hR:=aq);have e1:((T*wH:Nat):Int)=(T:Int)*4294967296:=by push_cast;rfl
  have e2:((q1*Y:Nat):Int)=(q1:Int)*Y:=by push_cast;rfl
  omega
 have M2:b4.wrap (b4.wrap ((q1:Int)*4294967296)+q0)=((q1*wH+q0:Nat):Int):=by
  have H:q1*4294967296+q0<18446744073709551616:=by
   have N:q1<4294967296:=zW;have ag:q0<4294967296:=zU;omega
  rw[fp ((q1:Int)*4294967296) (by omega) (by omega),fp _ (by omega) (by omega)];push_cast;rfl
 obtain⟨Z,P⟩:∃Z,Z=R*wH+u0-q0*Y:=⟨_,rfl⟩
 have ar:Z<wB:=by
  have H:Z/2^s<y:=by rw[P,rem];exact e8 _ (by omega)
  rw[ew (fb (by decide)),<-ac]at H;omega
 have ap:b4.wrap (b4.wrap (b4.wrap ((R:Int)*4294967296)+u0)-b4.wrap ((q0:Int)*Y))=Z:=by
  refine QF (h:=?_) (hR:=ar);have e1:((R*wH:Nat):Int)=(R:Int)*4294967296:=by push_cast;rfl
  have e2:((q0*Y:Nat):Int)=(q0:Int)*Y:=by push_cast;rfl
  omega
 have M:=tR Z s (by omega);rw[P,rem]at M;rw[<-P]at M;rw[CC]at M2;simp[f334,H,N,ae,af,ad];refine c1 aA ?_;simp[aw,f2,f3,f4,f5,f6,f7,f8,f9,am,an,g1,g2,aa,ab];refine rC (fun s'=>aQ s'.env 15=.p (.int .u64 q1)/\aQ s'.env 14=.p (.int .u64 u0)/\aQ s'.env 13=.p (.int .u64 u1)/\aQ s'.env 11=.p (.int .u64 T)/\aQ s'.env 10=.p (.int .u64 v0)/\aQ s'.env 9=.p (.int .u64 b)/\aQ s'.env 8=.p (.int .u64 s)/\aQ s'.env 2=.p (.int .u64 Y)/\s'.heap=[]) ?_ ?_
 ·refine lp (α:=Nat×Nat) (fun a=>⟨[(16,.p (.int .u64 a.2)),(15,.p (.int .u64 a.1)),(14,.p (.int .u64 u0)),(13,.p (.int .u64 u1)),(11,.p (.int .u64 T)),(10,.p (.int .u64 v0)),(9,.p (.int .u64 b)),(8,.p (.int .u64 s)),(2,.p (.int .u64 Y))],[]⟩) (fun a=>a.1*b+a.2=T/\hq wH b v0 T u1<=a.1/\a.2<wH/\a.1<=wH+1) (fun a=>a.1) (K,ak) ⟨aL,aJ,by omega,aG⟩ ?_;rintro⟨x,r⟩ ⟨k1,k2,k3,k4⟩;dsimp only at k1 k2 k3 k4;have aF:r<4294967296:=k3;have W:x<=4294967297:=k4;have g:b4.wrap ((x:Int)*v0)=(x*v0:Nat):=by
   have:=hC W (show v0<=4294967295 by omega);rw[fp _ (by rw[<-cx];omega) (by rw[<-cx];omega)];push_cast;rfl
  have v:b4.wrap (4294967296*(r:Int))=4294967296*r:=fp _ (by omega) (by omega);have w:b4.wrap (4294967296*(r:Int)+u1)=4294967296*r+u1:=fp _ (by omega) (by omega);have m:b4.wrap ((r:Int)+b)=r+b:=fp _ (by omega) (by omega)
  by_cases i:4294967296<=x\/4294967296*r+u1<x*v0
  ·have j:=NH d (show 0<wH by decide) k1 k2 (i.imp (fun h=>⟨h,by rw[<-nV];exact zW⟩) id);obtain⟨k,rfl⟩:∃k,x=k+1:=⟨x-1,by
    rcases i with h|h
    ·omega
    ·rcases hw x with e|e
     ·rw[e]at h;omega
     ·omega⟩
   have l:b4.wrap (k:Int)=k:=fp _ (by omega) (by omega);have k5:k*b+(r+b)=T:=by rw[<-k1,fw];omega
   rw[gm]at j;have kB:k<=wH+1:=by omega
   by_cases Q:4294967296<=r+b
   ·have hq:=Kp d (by rw[<-eY];exact wE) ln k5 Q j;have f:(4294967296:Int)<=(r:Int)+b:=by omega
    rw[<-nV]at hq;subst hq;rcases gc (k+1) 4294967296 with hc|hc
    ·have n:((k:Int)+1<4294967296):=by omega
     have c:¬((4294967296:Int)<=(k:Int)+1):=by omega
     have o:(4294967296*(r:Int)+u1<((k+1)*v0:Nat)):=by omega
     have q:4294967296*r+u1<(k+1)*v0:=by omega
     generalize (k+1)*v0=J at*;push_cast at g;simp[g,v,w,l,m,n,c,o,q,f]
    ·have c:((4294967296:Int)<=(k:Int)+1):=by omega
     simp[l,m,c,f]
   ·have f:¬(4294967296:Int)<=(r:Int)+b:=by omega
    rcases gc (k+1) 4294967296 with hc|hc
    ·have n:((k:Int)+1<4294967296):=by omega
     have c:¬((4294967296:Int)<=(k:Int)+1):=by omega
     have o:(4294967296*(r:Int)+u1<((k+1)*v0:Nat)):=by omega
     have q:4294967296*r+u1<(k+1)*v0:=by omega
     generalize (k+1)*v0=J at*;push_cast at g;simp[g,v,w,l,m,n,c,o,q,f];exact rd (k,r+b) ⟨k5,j,show r+b<4294967296 by omega,kB⟩
    ·have c:((4294967296:Int)<=(k:Int)+1):=by omega
     simp[l,m,c,f];exact rd (k,r+b) ⟨k5,j,show r+b<4294967296 by omega,kB⟩
  ·have aB:¬4294967296<=x:=fun h=>i (.inl h);have U:¬4294967296*r+u1<x*v0:=fun h=>i (.inr h);have hq:=Cs d (show 0<wH by decide) k1 k2 (hL.1 U);rw[<-nV]at hq;subst hq;have S:¬(4294967296:Int)<=x:=by omega
   have V:¬(4294967296*(r:Int)+u1<(x*v0:Nat)):=by omega
   generalize x*v0=J at*;simp[g,v,w,S,V]
 rintro⟨av,az⟩ ⟨z,A,B,C,D,E,F,G,I⟩;dsimp only at z A B C D E F G I;subst I;simp[z,A,B,C,D,E,F,G,ao,am,an,aD,aE];refine rC (fun s'=>aQ s'.env 18=.p (.int .u64 q0)/\aQ s'.env 15=.p (.int .u64 q1)/\aQ s'.env 17=.p (.int .u64 R)/\aQ s'.env 14=.p (.int .u64 u0)/\aQ s'.env 10=.p (.int .u64 v0)/\aQ s'.env 9=.p (.int .u64 b)/\aQ s'.env 8=.p (.int .u64 s)/\aQ s'.env 2=.p (.int .u64 Y)/\s'.heap=[]) ?_ ?_
 ·refine lp (α:=Nat×Nat) (fun a=>⟨[(16,.p (.int .u64 a.2)),(18,.p (.int .u64 a.1)),(15,.p (.int .u64 q1)),(17,.p (.int .u64 R)),(14,.p (.int .u64 u0)),(10,.p (.int .u64 v0)),(9,.p (.int .u64 b)),(8,.p (.int .u64 s)),(2,.p (.int .u64 Y))],[]⟩) (fun a=>a.1*b+a.2=R/\hq wH b v0 R u0<=a.1/\a.2<wH/\a.1<=wH+1) (fun a=>a.1) (L,al) ⟨aM,aK,by omega,aH⟩ ?_ (he:=by simp[z,A,B,C,D,E,F,G]);rintro⟨x,r⟩ ⟨k1,k2,k3,k4⟩;dsimp only at k1 k2 k3 k4;have aF:r<4294967296:=k3;have W:x<=4294967297:=k4;have g:b4.wrap ((x:Int)*v0)=(x*v0:Nat):=by
   have:=hC W (show v0<=4294967295 by omega);rw[fp _ (by rw[<-cx];omega) (by rw[<-cx];omega)];push_cast;rfl
  have v:b4.wrap (4294967296*(r:Int))=4294967296*r:=fp _ (by omega) (by omega);have w:b4.wrap (4294967296*(r:Int)+u0)=4294967296*r+u0:=fp _ (by omega) (by omega);have m:b4.wrap ((r:Int)+b)=r+b:=fp _ (by omega) (by omega)
  by_cases i:4294967296<=x\/4294967296*r+u0<x*v0
  ·have j:=NH d (show 0<wH by decide) k1 k2 (i.imp (fun h=>⟨h,by rw[<-vS];exact zU⟩) id);obtain⟨k,rfl⟩:∃k,x=k+1:=⟨x-1,by
    rcases i with h|h
    ·omega
    ·rcases hw x with e|e
     ·rw[e]at h;omega
     ·omega⟩
   have l:b4.wrap (k:Int)=k:=fp _ (by omega) (by omega);have k5:k*b+(r+b)=R:=by rw[<-k1,fw];omega
   rw[gm]at j;have kB:k<=wH+1:=by omega
   by_cases Q:4294967296<=r+b
   ·have hq:=Kp d (by rw[<-eY];exact wC) ln k5 Q j;have f:(4294967296:Int)<=(r:Int)+b:=by omega
    rw[<-vS]at hq;subst hq;rcases gc (k+1) 4294967296 with hc|hc
    ·have n:((k:Int)+1<4294967296):=by omega
     have c:¬((4294967296:Int)<=(k:Int)+1):=by omega
     have o:(4294967296*(r:Int)+u0<((k+1)*v0:Nat)):=by omega
     have q:4294967296*r+u0<(k+1)*v0:=by omega
     generalize (k+1)*v0=J at*;push_cast at g;simp[g,v,w,l,m,n,c,o,q,f]
    ·have c:((4294967296:Int)<=(k:Int)+1):=by omega
     simp[l,m,c,f]
   ·have f:¬(4294967296:Int)<=(r:Int)+b:=by omega
    rcases gc (k+1) 4294967296 with hc|hc
    ·have n:((k:Int)+1<4294967296):=by omega
     have c:¬((4294967296:Int)<=(k:Int)+1):=by omega
     have o:(4294967296*(r:Int)+u0<((k+1)*v0:Nat)):=by omega
     have q:4294967296*r+u0<(k+1)*v0:=by omega
     generalize (k+1)*v0=J at*;push_cast at g;simp[g,v,w,l,m,n,c,o,q,f];exact rd (k,r+b) ⟨k5,j,show r+b<4294967296 by omega,kB⟩
    ·have c:((4294967296:Int)<=(k:Int)+1):=by omega
     simp[l,m,c,f];exact rd (k,r+b) ⟨k5,j,show r+b<4294967296 by omega,kB⟩
  ·have aB:¬4294967296<=x:=fun h=>i (.inl h);have U:¬4294967296*r+u0<x*v0:=fun h=>i (.inr h);have hq:=Cs d (show 0<wH by decide) k1 k2 (hL.1 U);rw[<-vS]at hq;subst hq;have S:¬(4294967296:Int)<=x:=by omega
   have V:¬(4294967296*(r:Int)+u0<(x*v0:Nat)):=by omega
   generalize x*v0=J at*;simp[g,v,w,S,V]
 rintro⟨av,az⟩ ⟨z,A,B,C,D,E,F,G,I⟩;dsimp only at z A B C D E F G I;subst I;simp[z,A,B,C,D,E,F,G,M2,ap,M]
def dD(j n:Nat)(g f:Nat->Nat)(k:Nat):Nat:=if j<=k/\k<j+n then f (k-j)else g k
theorem sr{j:Nat}{g f:Nat->Nat}:dD j 0 g f=g:=by
 funext k;rw[dD,if_neg (by omega)]
theorem xQ{m j i:Nat}{g f:Nat->Nat}{v:Nat}(a:f i=v):(cg m (dD j i g f)).set (j+i) (.p (.int .u64 v))=cg m (dD j (i+1) g f):=by
 refine oS ?_ fun k hk=>?_
 ·rw[dD,if_pos (by omega),ho,a]
 ·rw[dD,dD]
  by_cases h:j<=k/\k<j+i
  ·rw[if_pos h,if_pos (by omega)]
  ·rw[if_neg h,if_neg (by omega)]
theorem xR{m j i:Nat}{g f:Nat->Nat}(h:j+i<m):(cg m (dD j i g f))[j+i]?=some (.p (.int .u64 (g (j+i)))):=by
 rw[mn _ h,dD,if_neg (by omega)]
theorem WK{j n:Nat}{g f a:Nat->Nat}:dD j n (dD j n g f) a=dD j n g a:=by
 funext k;rw[dD,dD,dD];split<;>rfl
theorem ZX(X V m j n:Nat)(t:(aw wB V).length=n)(G:2<=n)(bj:j+n+1<=m)(bm:m<=1000002)(aR:X<V*wB^(j+1)):
 cE prog 337 [.arr .exact 0 1 (cg m (ae wB X))] [.sl 0 0 1 j (n+1),.p (eN V)] [.arr .exact 0 1 (cg m (ae wB (X% (V*wB^j))))] (.p (.int .u64 (X/(V*wB^j):Nat))):=by
 refine fF nf M7 mix (by simp[f337]) ?_;have l:=ch bn V;have I:wB^(n-1)<=V:=by
  rcases gc V (wB^(n-1))with h|h
  ·have:=dJ bn (n-1) V h;omega
  ·exact h
 rw[t]at l;have U:∀i(h:i<(aw wB V).length),(aw wB V)[i]=ae wB V i:=fun i h=>ey bn h;have aC:0<V:=BS bn G I;obtain⟨W,w⟩:∃W,X/wB^j=W:=⟨_,rfl⟩
 have af:W<V*wB:=by
  rw[<-w,ew (fb (by decide)),gy,en wB,<-e9];exact aR
 have T:W<wB^(n+1):=g6 af (by rw[e9];exact fv l (by decide));have aj:∀i,i<n+1->(cg m (ae wB X))[j+i]?=some (.p (.int .u64 (ae wB W i))):=fun i hi=>by rw[mn _ (by omega),<-w,qu]
 have aT:X/(V*wB^j)=W/V:=by rw[xy.2,w]
 have aF:∀f:Nat->Nat,(∀i,i<n+1->f i=ae wB (W% V) i)->cg m (dD j (n+1) (ae wB X) f)=cg m (ae wB (X% (V*wB^j))):=fun f hf=>Bb fun k hk=>by
  rw[xy.1,w,Iv bn,dD]
  by_cases u:k<j
  ·rw[if_neg (by omega),if_pos u]
  ·rw[if_neg u]
   by_cases H:k<j+(n+1)
   ·rw[if_pos (by omega),hf _ (by omega)]
   ·have e1:ae wB X k=0:=by
     obtain⟨e,rfl⟩:∃e,k=j+e:=⟨k-j,by omega⟩
     rw[<-qu,w];exact jn (eq T (e6 (by decide) (by omega)))
    have e2:ae wB (W% V) (k-j)=0:=jn (eq (e7 (Nat.mod_le _ _) T) (e6 (by decide) (by omega)));rw[if_neg (by omega),e1,e2]
 rw[aT];simp only[eN];generalize aw wB V=x at*;have aA:∀i,i<n->i<x.length:=fun i h=>by omega
 have e1:b5.wrap ((n:Int)-1)=((n-1:Nat):Int):=by rw[aP _ (by omega) (by omega)];omega
 have e2:b5.wrap ((n:Int)-2)=((n-2:Nat):Int):=by rw[aP _ (by omega) (by omega)];omega
 obtain⟨b,E⟩:∃b,b=n-1:=⟨_,rfl⟩
 obtain⟨d,am⟩:∃d,d=n-2:=⟨_,rfl⟩
 rw[<-E]at e1;rw[<-am]at e2;have F:=U b (by omega);have aH:=U d (by omega);have ba:b<x.length:=by omega
 have bb:d<x.length:=by omega
 have L:x[b]?=some (ae wB V b):=by rw[dk ba,F]
 have a9:x[d]?=some (ae wB V d):=by rw[dk bb,aH]
 have O:b<n:=by omega
 have Y:d<n:=by omega
 have R:b<n+1:=by omega
 have Z:d<n+1:=by omega
 have av:=aj n (by omega);have g1:=aj b (by omega);have g2:=aj d (by omega);have aY:n=b+1:=by omega
 have az:W/wB^n=ae wB W n:=by
  rw[ae,eo];rw[ew (fb (by decide)),en,<-e9];exact T
 have ag:W/wB^b=ae wB W n*wB+ae wB W b:=by rw[rY,<-aY,az]
 simp[f337,-bt,t];rw[bt];simp[-bt,t];rw[bt];simp[-bt,t];rw[bt];simp[-bt,t];rw[bt];simp[-bt,t];refine join (fun s=>∃q r o:Nat,q*ae wB V b+(r+o*wB)=W/wB^b/\W/V<=q/\q<wB/\r<wB/\o<=1/\aQ s.env 0=.sl 0 0 1 j (n+1)/\aQ s.env 1=.p (.seq (x.map fun x:Nat=>.int .u64 x))/\aQ s.env 5=.p (.int .i64 n)/\aQ s.env 6=.p (.int .u64 q)/\aQ s.env 7=.p (.int .u64 r)/\aQ s.env 8=.p (.int .u64 o)/\s.heap=[.arr .exact 0 1 (cg m (ae wB X))]) ?_ ?_
 ·by_cases hc:ae wB V b<=ae wB W n
  ·have ah:(ae wB V b:Int)<=ae wB W n:=by omega
   simp[e1,e2,F,L,O,R,av,g1,ah,t,aa,aL,bD];refine e3 (qD (ae wB W b) (ae wB V b) 0 (by omega)) ?_;simp;have aJ:=cr bn W b;have ar:=cr bn V b;have aK:ae wB W n=ae wB V b:=by
    have:=(Ct bn (by omega) l af).1;rw[az,<-E]at this;omega
   refine⟨18446744073709551615,(ae wB W b+ae wB V b)% wB,(ae wB W b+ae wB V b)/wB,?_,?_,by decide,e8 _ (by decide),?_,rfl,rfl,rfl⟩
   ·rw[ag,aK];simp only[wB];omega
   ·have:=(Ct bn (by omega) l af).2;simp only[wB]at this;omega
   ·simp only[wB]at*;omega
  ·have ah:¬(ae wB V b:Int)<=ae wB W n:=by omega
   simp[e1,e2,F,L,O,R,av,g1,ah,t,aa,aL,bD];refine e3 (LN (ae wB W n) (ae wB W b) (ae wB V b) (by omega) (cr bn _ _) (cr bn _ _)) ?_;simp;have aJ:=cr bn W b;have ar:=cr bn V b;refine⟨(ae wB W n*wB+ae wB W b)/ae wB V b,(ae wB W n*wB+ae wB W b)% ae wB V b,0,?_,?_,?_,?_,by omega,rfl,rfl,rfl⟩
   ·rw[ag,ha,hd,en,gb]
   ·rw[<-ag,E];exact LA bn G I l
   ·rw[ew (by omega)];have:=fd wB (show ae wB W n+1<=ae wB V b by omega);rw[fw,gt]at this;rw[en wB];omega
   ·exact g6 (e8 _ (by omega)) ar
 rintro⟨aM,aV⟩ ⟨q,r,o,k1,k2,k3,k4,k5,y,z,A,B,ao,ap,K⟩;dsimp only at y z A B ao ap K;subst K;simp[y,z,A,B,ao,ap];refine rC (fun s=>∃q:Nat,W/V<=q/\q<=W/V+1/\q<wB/\aQ s.env 0=.sl 0 0 1 j (n+1)/\aQ s.env 1=.p (.seq (x.map fun x:Nat=>.int .u64 x))/\aQ s.env 5=.p (.int .i64 n)/\aQ s.env 6=.p (.int .u64 q)/\s.heap=[.arr .exact 0 1 (cg m (ae wB X))]) ?_ ?_
 ·have a1:q*ae wB V b+(r+o*wB)=W/wB^b/\W/V<=q/\q<wB/\r<wB/\o<=1:=⟨k1,k2,k3,k4,k5⟩
  clear k1 k2 k3 k4 k5;refine lp (α:=Nat×Nat×Nat) (fun a=>⟨[(8,.p (.int .u64 a.2.2)),(7,.p (.int .u64 a.2.1)),(6,.p (.int .u64 a.1)),(5,.p (.int .i64 n)),(1,.p (.seq (x.map fun x:Nat=>.int .u64 x))),(0,.sl 0 0 1 j (n+1))],[.arr .exact 0 1 (cg m (ae wB X))]⟩)
   (fun a=>a.1*ae wB V b+(a.2.1+a.2.2*wB)=W/wB^b/\W/V<=a.1/\a.1<wB/\a.2.1<wB/\a.2.2<=1) (fun a=>a.1) (q,r,o) a1 ?_ (he:=by simp[y,z,A,B,ao,ap])
  rintro⟨q,r,o⟩ ⟨k1,k2,k3,k4,k5⟩;dsimp only at k1 k2 k3 k4 k5
  by_cases aZ:o=0
  ·subst aZ;rw[ha,hd]at k1;have S:=yn q (ae wB V d) k3 (cr bn _ _);rw[show(18446744073709551616:Nat)=wB from rfl]at S;have bf:=gb (q*ae wB V d) wB;have bg:q*ae wB V d% wB<wB:=e8 _ (by decide);have ay:=fun h=>DE bn G I l (by rw[<-E];exact k1) k3 (by rw[<-am];exact h);have ax:=fun h=>NK (q:=q) (r:=r) bn G I l (by rw[<-E];exact k1) (by rw[<-am];exact h);have bh:=cr bn W d;generalize q*ae wB V d% wB=lo at*;generalize q*ae wB V d/wB=hi at*;generalize q*ae wB V d=P at*;have v:=qD r (ae wB V b) 0 (by omega);simp[e1,e2,F,L,aH,a9,O,R,Y,Z,t];refine c2 S ?_;rcases Nat.lt_trichotomy hi r with h|h|h
   ·have hI:(hi:Int)<r:=by omega
    simp[hI];refine⟨q,k2,ay (by
     have:=fl wB (show hi+1<=r by omega);rw[hK,hu,en wB r]at this;omega),k3,rfl⟩
   ·subst h
    by_cases bk:lo<=ae wB W d
    ·have hI:(lo:Int)<=ae wB W d:=by omega
     simp[hI,e2,g2,Y,Z];exact⟨q,k2,ay (by rw[en hi];omega),k3,rfl⟩
    ·have hI:¬(lo:Int)<=ae wB W d:=by omega
     have J:=ax (by rw[en hi];omega);have a2:0<q:=e7 (hg _) J;obtain⟨k,rfl⟩:∃k,q=k+1:=⟨q-1,by omega⟩
     have w1:b4.wrap (k:Int)=k:=fp _ (by omega) (by omega);simp[hI,e1,e2,g2,O,R,Y,Z,F,L,w1,aa,aL,bD];refine c3 v ?_;simp;have z1:=hA (hi+ae wB V b) wB;have z2:k*ae wB V b+((hi+ae wB V b)% wB+(hi+ae wB V b)/wB*wB)=W/wB^b:=by
      rw[en _ wB,z1,<-k1,fw,gt,hD,g0 hi]
     have z3:=cr bn V b;have z4:(hi+ae wB V b)/wB<=1:=by
      have z5:=k4;simp only[wB]at z3 z5⊢;omega
     exact rd (k,(hi+ae wB V b)% wB,(hi+ae wB V b)/wB) ⟨z2,hB.1 J,hy k3,e8 _ (by decide),z4⟩
   ·have hI:¬(hi:Int)<r:=by omega
    have aO:¬(hi:Int)=r:=by omega
    have aS:=fl wB (show r+1<=hi by omega);rw[hK,hu,en wB r]at aS;have J:=ax (by omega);have a2:0<q:=e7 (hg _) J;obtain⟨k,rfl⟩:∃k,q=k+1:=⟨q-1,by omega⟩
    have w1:b4.wrap (k:Int)=k:=fp _ (by omega) (by omega);simp[hI,aO,e1,e2,g2,O,R,Y,Z,F,L,w1,aa,aL,bD];refine c3 v ?_;simp;have z1:=hA (r+ae wB V b) wB;have z2:k*ae wB V b+((r+ae wB V b)% wB+(r+ae wB V b)/wB*wB)=W/wB^b:=by
     rw[en _ wB,z1,<-k1,fw,gt,hD,g0 r]
    have z3:=cr bn V b;have z4:(r+ae wB V b)/wB<=1:=by
     have z5:=k4;simp only[wB]at z3 z5⊢;omega
    exact rd (k,(r+ae wB V b)% wB,(r+ae wB V b)/wB) ⟨z2,hB.1 J,hy k3,e8 _ (by decide),z4⟩
  ·have a0:o=1:=by omega
   subst a0;simp;exact⟨q,k2,DE bn G I l (by rw[<-E];exact k1) k3 (Lz bn (by omega) k3),k3,rfl⟩
 rintro⟨aM,aV⟩ ⟨q,k2,k3,k4,y,z,A,B,K⟩;dsimp only at y z A B K;subst K;have a3:q*V<wB^(n+1):=Ub k4 l;have aD:q*V<=W+wB^(n+1):=by omega
 obtain⟨D,ad⟩:∃D,D=W+wB^(n+1)-q*V:=⟨_,rfl⟩
 have aG:∀i,i<n+1->au prog 350 [.int .u64 (ae wB W i),.int .u64 (ae wB (q*V) i),.int .u64 (eU wB (W+wB^(n+1)) (q*V) i)] (.aC [.int .u64 (ae wB D i),.int .u64 (eU wB (W+wB^(n+1)) (q*V) (i+1))]):=fun i hi=>by
  have h:=Nl aD i;rw[<-ad,uN hi]at h;exact h
 have a5:∀i,(q*ae wB V i% wB+iE wB V q i+0)% wB=ae wB (q*V) i/\b4.wrap (((q*ae wB V i/wB:Nat):Int)+((q*ae wB V i% wB+iE wB V q i+0)/wB:Nat))=(iE wB V q (i+1):Nat):=fun i=>by
  obtain⟨u,H⟩:=W0 (q:=q) (V:=V) bn i;have aN:=aIf (V:=V) bn k4 (i+1);rw[<-u,<-H];rw[<-H]at aN;generalize q*ae wB V i=P at*;generalize iE wB V q i=c at*;have e:P/wB+(P% wB+c+0)/wB=(P+c)/wB:=by simp only[wB];omega
  refine⟨by simp only[wB];omega,?_⟩;rw[fp _ (by omega) (by omega)];omega
 have aU:=TM (V:=V) (q:=q) T a3;have a4:=W2 bn k4 l;have bl:(cg m (ae wB X)).length=m:=KU _ _;simp[y,z,A,B];refine lp (α:=Nat) (fun i=>⟨[(105,.p (.int .i64 i)),(104,.p (.int .i64 n)),(12,.p (.int .u64 (iE wB V q i:Nat))),(11,.p (.int .u64 (eU wB (W+wB^(n+1)) (q*V) i:Nat))),(6,.p (.int .u64 q)),(5,.p (.int .i64 n)),(1,.p (.seq (x.map fun x:Nat=>.int .u64 x))),(0,.sl 0 0 1 j (n+1))],[.arr .exact 0 1 (cg m (dD j i (ae wB X) (ae wB D)))]⟩)
  (fun i=>i<=n) (fun i=>n-i) 0 (by simp) ?_ (hn:=by simp[sr]) (he:=by simp[y,z,A,B,Vt,A2]) (hh:=by simp[sr])
 intro i k5;have a7:=b9 (i:=i) (by omega)
 by_cases hi:i<n
 ·have N:i<x.length:=aA i hi;have M:=U i N;have an:x[i]?=some (ae wB V i):=by rw[dk N,M]
  have S:=yn q (ae wB V i) k4 (cr bn _ _);rw[show(18446744073709551616:Nat)=wB from rfl]at S;have v:=qD (q*ae wB V i% wB) (iE wB V q i) 0 (by omega);obtain⟨bc,bd⟩:=a5 i;have ab:=aG i (by omega);rw[bc]at v;generalize q*ae wB V i% wB=lo at*;generalize q*ae wB V i/wB=bi at*;generalize (lo+iE wB V q i+0)/wB=c' at*;have al:i<n+1:=by omega
  have C:(cg m (dD j i (ae wB X) (ae wB D)))[j+i]?=some (.p (.int .u64 (ae wB W i))):=by rw[xR (by omega),<-w,qu]
  have ac:=xQ (m:=m) (j:=j) (i:=i) (g:=ae wB X) (f:=ae wB D) rfl;simp[t,hi,M,an];refine c2 S ?_;simp;refine c3 v ?_;simp[bd,al,C];refine c3 ab ?_;simp[al,C,ac,a7,aa,aL,bD];exact rd (i+1) (show i+1<=n by omega)
 have aW:i=n:=by omega
 subst aW;have C:(cg m (dD j i (ae wB X) (ae wB D)))[j+i]?=some (.p (.int .u64 (ae wB W i))):=by rw[xR (by omega),<-w,qu]
 have ac:=xQ (m:=m) (j:=j) (i:=i) (g:=ae wB X) (f:=ae wB D) rfl;have ab:=aG i (by omega);rw[<-a4]at ab;simp[C];refine c3 ab ?_;rw[aU]
 by_cases aE:q*V<=W
 ·obtain⟨y1,y2⟩:=aH8 aE k3 aC k2;have ai:=aF (ae wB D) fun k hk=>by rw[ad,<-y2];exact aH7 aE hk
  have aq:(q:Int)=(W:Int)/V:=by rw[y1];rfl
  have ak:(if W<q*V then 1 else 0:Nat)=0:=if_neg (by omega);rw[ak];simp[C,ac,ai,<-aq,aa,aL,bD]
 ·obtain⟨y1,y2⟩:=W6 (by omega) k3 aC k2;have y3:=y2 (wB^(i+1)) aD;rw[<-ad]at y3;have ai:=aF (ae wB (D+V)) fun k hk=>by rw[y3,uN hk]
  have ak:(if W<q*V then 1 else 0:Nat)=1:=if_pos (by omega);have aq:b4.wrap ((q:Int)-1)=(W:Int)/V:=by
   have e:((W/V:Nat):Int)=(W:Int)/V:=rfl;rw[<-e];generalize W/V=Q at*;rw[fp _ (by omega) (by omega)];omega
  rw[ak];simp[C,ac,aa,aL,bD];refine lp (α:=Nat) (fun k=>⟨[(157,.p (.int .i64 k)),(156,.p (.int .i64 i)),(17,.p (.int .u64 (de wB D V k:Nat))),(6,.p (.int .u64 q)),(5,.p (.int .i64 i)),(1,.p (.seq (x.map fun x:Nat=>.int .u64 x))),(0,.sl 0 0 1 j (i+1))],[.arr .exact 0 1 (cg m (dD j k (dD j (i+1) (ae wB X) (ae wB D)) (ae wB (D+V))))]⟩)
   (fun k=>k<=i) (fun k=>i-k) 0 (by simp) ?_ (hn:=by simp[sr]) (he:=by simp[xl]) (hh:=by simp[sr])
  intro k k6;have a8:=b9 (i:=k) (by omega);have gk:(cg m (dD j k (dD j (i+1) (ae wB X) (ae wB D)) (ae wB (D+V))))[j+k]?=some (.p (.int .u64 (ae wB D k))):=by rw[xR (by omega),dD,if_pos (by omega),ho]
  have aI:=xQ (m:=m) (j:=j) (i:=k) (g:=dD j (i+1) (ae wB X) (ae wB D)) (f:=ae wB (D+V)) rfl;obtain⟨u,H⟩:=p0 bn D V k
  by_cases hk:k<i
  ·have N:k<x.length:=aA k hk;have M:=U k N;have an:x[k]?=some (ae wB V k):=by rw[dk N,M]
   have v:=qD (ae wB D k) (ae wB V k) (de wB D V k) (lG bn _ _ _);rw[u,H]at v;have aB:k<i+1:=by omega
   simp[t,hk,aB,M,an,gk,aa,aL,bD];refine e3 v ?_;simp[aB,gk,aI,a8,aa,aL,bD];refine⟨⟨by rfl,by rfl,by rfl⟩,?_⟩;exact rd (k+1) (show k+1<=i by omega)
  have aX:k=i:=by omega
  subst aX;have a6:ae wB V k=0:=jn l;rw[a6,hd]at u;have be:b4.wrap ((ae wB D k:Int)+(de wB D V k:Nat))=(ae wB (D+V) k:Nat):=by rw[<-Int.natCast_add,yh,u]
  simp[gk,aI,be,aq,ai,WK,aa,aL,bD]
theorem WH{a b i:Nat}(c:0<b):(a/wB^(i+1)% b*wB+ae wB a i)/b=ae wB (a/b) i/\(a/wB^(i+1)% b*wB+ae wB a i)% b=a/wB^i% b:=by
 have e:=rY (B:=wB) a i;have g:=gb (a/wB^(i+1)) b;have f:a/wB^i=(a/wB^(i+1)% b*wB+ae wB a i)+a/wB^(i+1)/b*wB*b:=by
  rw[e];generalize ae wB a i=d;generalize a/wB^(i+1)/b=Q at*;generalize a/wB^(i+1)% b=R at*;rw[<-g,fw,en b,g4 Q b wB];omega
 have j:(a/wB^(i+1)% b*wB+ae wB a i)/b<wB:=by
  rw[ew c];have k:=cr bn a i;have h:=fd wB (show a/wB^(i+1)% b+1<=b from e8 _ c);rw[fw,gt]at h;rw[en wB];omega
 constructor
 ·conv=>rhs;rw[ae,g7,en b,<-g7,f,ht _ _ c,gg,eo j]
 ·rw[f,gg]
def qF(Q i k:Nat):Nat:=if i<=k then ae wB Q k else 0
theorem LY{m Q i:Nat}:(cg m (qF Q (i+1))).set i (.p (.int .u64 (ae wB Q i)))=cg m (qF Q i):=by
 refine oS ?_ fun k hk=>?_
 ·rw[qF,if_pos (gx _)]
 ·rw[qF,qF]
  by_cases h:i<=k
  ·rw[if_pos h,if_pos (by omega)]
  ·rw[if_neg h,if_neg (by omega)]
theorem Lc{m Q:Nat}:cg m (qF Q 0)=cg m (ae wB Q):=Bo fun k=>by rw[qF,if_pos (hg _)]
theorem Ld{m Q:Nat}:List.replicate m (AV.p (.int .u64 0))=cg m (qF Q m):=by
 rw[B8 (f:=fun _=>0) (fun _=>rfl)];exact Bb fun k hk=>by rw[qF,if_neg (by omega)]
theorem CF{m N:Nat}(h:N<wB^m)(b:m<=1048576):∃l:List Nat,l.length=m/\cg m (ae wB N)=l.map (AV.p∘fun x:Nat=>PV.int .u64 x)/\au prog 313 [.seq (eW l)] (eN N):=by
 refine⟨(dl m).map (ae wB N),by simp,B9 m _,?_⟩;have a:=sS ((dl m).map (ae wB N)) (by simp;omega);rw[show eg ((dl m).map (ae wB N))=aw wB N from jo bn h]at a;exact a
theorem oV{a b:Nat}:fH a b<0↔a<b:=by
 rw[fH];split
 ·simp[*]
 ·split<;>simp[*]
theorem UA(r:Nat):((r:Int)% 2^b4.bits).toNat=r% 2^b4.bits:=by
 rw[show b4.bits=64 from rfl];omega
theorem ZD{b d n a s V:Nat}(g:b/wB^a=d)(h:n=a+1)(hs:s<64)(o:wB<=2*(d*2^s))(i:d*2^s<wB)(f:V=b*2^s):V<wB^n/\wB^n<=2*V:=by
 have m:0<wB^a:=fb (by decide);have j:0<2^s:=fb (by decide);have k:b<(d+1)*wB^a:=by
  rw[<-g,fw,gt];exact Nat.lt_div_mul_add m
 have l:(d+1)*2^s<=wB:=by
  have c:=yC hs;have e:d<2^(64-s):=by
   rw[<-c,en d]at i;exact Nat.lt_of_mul_lt_mul_left i
  rw[<-c,en];exact fl _ e
 constructor
 ·rw[f,h,e9,en _ wB];refine eq (fv k j) ?_;rw[g4];exact fd _ l
 ·rw[f,h,e9,en _ wB];refine Nat.le_trans (fd _ o) ?_;have c:d*wB^a<=b:=by rw[<-g];exact g9 _ _
  have e:=fd (2^s) c;rw[gy 2,g4 d];exact fl _ e
theorem Wy{a n b s V:Nat}(f:a<wB^b)(hs:s<64)(e:wB^n<=2*V)(i:n<=b):a*2^s<V*wB^(b-n+1):=by
 have d:2*2^s<=wB:=by
  have c:2^(s+1)<=2^64:=e6 (by decide) hs;rw[e9,en]at c;exact c
 have g:=fd (wB^(b-n+1)) e;rw[<-ge,show n+(b-n+1)=b+1 by omega,e9,gy]at g;have c:=fl a d;have h:=fv f (show 0<wB by decide);rw[Nat.mul_left_comm]at c;generalize wB^b*wB=z1 at*;generalize V*wB^(b-n+1)=z2 at*;generalize a*2^s=z3 at*;generalize a*wB=z4 at*;clear d e f;omega
theorem ZE{a b n d c:Nat}(h:a<wB^c)(f:0<b)(i:n=d+1)(g:wB^d<=b)(j:n<=c):a/b<wB^(c-n+1):=by
 rw[ew f];refine eq h ?_;have e:=fl (wB^(c-n+1)) g;rw[<-ge,show c-n+1+d=c by omega]at e;exact e
theorem Wz{a b s k:Nat}(c:0<2^s):a*2^s% (b*2^s*wB^(k+1))/(b*2^s*wB^k)=ae wB (a/b) k:=by
 rw[e9,<-gy,Nat.mod_mul_right_div_self,<-g7,hr _ _ c,ae]
theorem KW{n N:Nat}{f g:Nat->Nat}(a:n<=N)(h:∀k,k<n->f k=g k):((dl N).map f).take n=(dl n).map g:=by
 rw[<-ed,List.take_range,hl a];exact ea fun k hk=>h k (ec.1 hk)
theorem B2(a b:Nat)(A:0<b)(bd:(aw wB a).length<=1000000)(bL:(aw wB b).length<=1000000):au prog 302 [eN a,eN b] (.aC [eN (a/b),eN (a% b)]):=by
 refine aI nf Mw mix (by simp[f302]) ?_;have bg:=Gx a b (by omega) (by omega);simp[f302];refine c2 bg ?_
 by_cases I:a<b
 ·have G:=oV.2 I;simp[G,g5 I,eo I,eN,aw,mL]
 have G:¬fH a b<0:=fun h=>I (oV.1 h);have bj:∀i(h:i<(aw wB a).length),(aw wB a)[i]=ae wB a i:=fun i h=>ey bn h;have U:∀i(h:i<(aw wB b).length),(aw wB b)[i]=ae wB b i:=fun i h=>ey bn h;have B:=ch bn a;have q:=ch bn b
 by_cases K:(aw wB b).length=1
 ·rw[K,hj]at q;have W:((aw wB b).length:Int)=1:=by omega
  obtain⟨l,C,L,z⟩:=CF (m:=(aw wB a).length) (N:=a/b) (e7 (gj _ _) B) (by omega);have av:=sS [a% b] (by simp);have bi:eg [a% b]=aw wB (a% b):=by
   have M:a% b<wB:=g6 (e8 _ A) q;have:=jo bn (m:=1) (n:=a% b) (by rw[hj];exact M);rw[<-this,row,eb,ee,ei,ae,fm,g8,eo M]
  rw[bi]at av;have be:(aw wB b)[0]?=some b:=by
   rw[dk (by omega),U 0 (by omega),ae,fm,g8,eo q]
  have bf:∀h:0<(aw wB b).length,(aw wB b)[0]'h=b:=fun h=>by rw[U 0 h,ae,fm,g8,eo q]
  have aE:a/wB^(aw wB a).length% b=0:=by rw[g5 B,hE]
  simp only[eN]at z⊢;generalize aw wB (a/b)=bF at*;generalize aw wB (a% b)=aV at*;generalize aw wB a=x at*;generalize aw wB b=y at*;obtain⟨n,w⟩:∃n,x.length=n:=⟨_,rfl⟩
  rw[w]at C L aE bd;have e1:b5.wrap ((n:Int)-1)=n-1:=aP _ (by omega) (by omega);simp[G,K,W,w,e1];refine⟨by simp only[cW];omega,?_⟩;rw[Ld (Q:=a/b)];refine lp (α:=Nat) (fun i=>⟨[(8,.p (.int .i64 ((i:Int)-1))),(7,.p (.int .u64 (a/wB^i% b:Nat))),(6,.sl 0 0 1 0 n),(1,.p (.seq (y.map fun x:Nat=>.int .u64 x))),(0,.p (.seq (x.map fun x:Nat=>.int .u64 x)))],[.arr .exact 0 1 (cg n (qF (a/b) i))]⟩)
   (fun i=>i<=n) (fun i=>i) n (gx _) ?_ (he:=by simp[aE])
  intro i k1
  by_cases hi:0<i
  ·obtain⟨k,rfl⟩:∃k,i=k+1:=⟨i-1,by omega⟩
   have e2:b5.wrap ((k:Int)-1)=k-1:=aP _ (by omega) (by omega);have aT:k<x.length:=by omega
   have hx:=bj k aT;have ad:x[k]?=some (ae wB a k):=by rw[dk aT,hx]
   have ar:=LN (a/wB^(k+1)% b) (ae wB a k) b (e8 _ A) q (cr bn _ _);obtain⟨r,ag⟩:=WH (a:=a) (i:=k) A;rw[r,ag]at ar;have aN:=LY (m:=n) (Q:=a/b) (i:=k);have gk:=mn (n:=n) (qF (a/b) (k+1)) (show k<n by omega);have aG:k<n:=by omega
   generalize a/wB^(k+1)% b=bG at*;simp[w,e2,hx,ad,be,bf,K,aG,aa,aL,bD];refine e3 ar ?_;simp[aN,gk,e2,aG,aa,aL,bD];refine⟨by rfl,?_⟩;exact rd k (show k<=n by omega)
  ·obtain rfl:i=0:=by omega
   simp[Lc,L];refine cp z (by simp[C];exact⟨rfl,rfl⟩) ?_ (h1:=by simp[eW,dq,C]);simp;refine cp av (by simp;exact⟨rfl,rfl⟩) ?_ (h1:=by simp[eW]);simp;exact bC.refl _
 have bO:2<=(aw wB b).length:=by
  rcases gc (aw wB b).length 1 with h|h
  ·have e:(aw wB b).length=0:=by omega
   rw[e,fm]at q;omega
  ·omega
 have W:¬((aw wB b).length:Int)=1:=by omega
 obtain⟨n,w⟩:∃n,(aw wB b).length=n:=⟨_,rfl⟩
 obtain⟨c,Y⟩:∃c,(aw wB a).length=c:=⟨_,rfl⟩
 obtain⟨o,Z⟩:∃o,n=o+1:=⟨n-1,by omega⟩
 have aC:wB^o<=b:=by
  rcases gc b (wB^o)with h|h
  ·have:=dJ bn o b h;omega
  ·exact h
 obtain⟨d,J⟩:∃d,d=ae wB b o:=⟨_,rfl⟩
 have aD:d<wB:=by rw[J];exact cr bn _ _
 have aB:b/wB^o=d:=by
  rw[J,ae,eo];rw[ew (fb (by decide)),en,<-e9,show o.succ=n from Z.symm,<-w];exact q
 have bh:0<d:=by rw[<-aB];exact Nat.div_pos aC (fb (by decide))
 obtain⟨s,hs,bK,bu,bv⟩:=J7 bh aD;have aK:=Np d aD;obtain⟨V,E⟩:∃V,V=b*2^s:=⟨_,rfl⟩
 have D:0<2^s:=fb (by decide);have bb:b<=V:=by rw[E];exact Nat.le_mul_of_pos_right _ D
 have ba:0<V:=eq A bb;obtain⟨az,bc⟩:=ZD aB Z hs bu bv E;have ay:(aw wB V).length=n:=by
  have u:=dJ bn n V az;rcases gc (aw wB V).length n with h|h
  ·have ap:=eq (ch bn V) (e6 (show 0<wB by decide) (show(aw wB V).length<=o by omega));omega
  ·omega
 have z:=CF (m:=n+1) (N:=V) (eq az (e6 (by decide) (by omega))) (by omega);obtain⟨l,C,L,z⟩:=z;have ac:=I2 b s hs (by omega);have ab:=I2 a s hs (by omega);have af:o<(aw wB b).length:=by omega
 have hx:=U o af;have ad:(aw wB b)[o]?=some d:=by rw[dk af,hx,J]
 rw[w,<-E]at ac;rw[Y]at ab;have aO:n<=c:=by
  rcases gc c n with h|h
  ·have:=eq B (e6 (show 0<wB by decide) (show(aw wB a).length<=o by omega));omega
  ·exact h
 rw[Y]at B;have a3:=Wy (n:=n) B hs bc aO;have a5:=ZE (n:=n) B A Z aC aO;have a6:a% b<wB^n:=g6 (e8 _ A) (by rw[w]at q;exact q);have bx:eg ((dl n).map (ae wB (a% b)))=aw wB (a% b):=jo bn a6;have gS:∀X j,j+n+1<=c+1->X<V*wB^(j+1)->_:=fun X j u ap=>ZX X V (c+1) j n ay (by omega) u (by omega) ap;simp only[eN]at z⊢ab ac gS;generalize aw wB V=bE at*;generalize bz:aw wB (a/b)=bF at*;generalize bP:aw wB (a% b)=aV at*;generalize aw wB a=x at*;generalize aw wB b=y at*;have e1:b5.wrap ((n:Int)-1)=o:=by rw[aP _ (by omega) (by omega)];omega
 have bt:(64:Int)-(cc d:Nat)=s:=by omega
 rw[bt]at aK;rw[<-J]at hx;have bm:¬(n:Int)=1:=by omega
 have bo:¬n=1:=by omega
 simp[G,K,W,bm,bo,w,e1,hx,ad,af,aa,aL,bD];refine c1 aK ?_;simp;refine OH ac ?_;simp[L];refine cp z (by simp[C];exact⟨rfl,rfl⟩) ?_ (h1:=by simp[eW,dq,C]);simp;refine OH ab ?_;obtain⟨m,aM⟩:∃m,m=c-n:=⟨_,rfl⟩
 have e2:b5.wrap ((c:Int)-n)=m:=by rw[aP _ (by omega) (by omega)];omega
 have e3:b5.wrap ((m:Int)+1)=m+1:=b9 (by omega);simp[ay,Y,e2,e3];refine⟨⟨by omega,by simp only[cW];omega⟩,?_⟩;have aq:a*2^s% (V*wB^(m+1))=a*2^s:=eo (by rw[aM];exact a3);rw[Ld (Q:=a/b)];refine rC (fun s'=>aQ s'.env 9=.p (.int .i64 s)/\aQ s'.env 11=.sl 1 0 1 0 (c+1)/\aQ s'.env 12=.p (.int .i64 n)/\aQ s'.env 13=.sl 2 0 1 0 (m+1)/\s'.heap=[.arr .frozen 0 1 (l.map (AV.p∘fun x:Nat=>PV.int .u64 x)),.arr .exact 0 1 (cg (c+1) (ae wB (a% b*2^s))),.arr .exact 0 1 (cg (m+1) (ae wB (a/b)))]) ?_ ?_
 ·refine lp (α:=Nat) (fun j=>⟨[(14,.p (.int .i64 ((j:Int)-1))),(13,.sl 2 0 1 0 (m+1)),(12,.p (.int .i64 n)),(11,.sl 1 0 1 0 (c+1)),(10,.p (.seq (bE.map fun x:Nat=>.int .u64 x))),(9,.p (.int .i64 s))],[.arr .frozen 0 1 (l.map (AV.p∘fun x:Nat=>PV.int .u64 x)),.arr .exact 0 1 (cg (c+1) (ae wB (a*2^s% (V*wB^j)))),.arr .exact 0 1 (cg (m+1) (qF (a/b) j))]⟩)
   (fun j=>j<=m+1) (fun j=>j) (m+1) (gx _) ?_ (hn:=by simp[aq]) (hh:=by simp[aq])
  intro j k1
  by_cases bN:0<j
  ·obtain⟨k,rfl⟩:∃k,j=k+1:=⟨j-1,by omega⟩
   have e4:b5.wrap ((k:Int)-1)=k-1:=aP _ (by omega) (by omega);have e5:b5.wrap ((k:Int)+n)=k+n:=aP _ (by omega) (by omega);have aY:b5.wrap ((k:Int)+n+1)=k+n+1:=aP _ (by omega) (by omega);have aN:=gS (a*2^s% (V*wB^(k+1))) k (by omega) (e8 _ (Nat.mul_pos ba (fb (by decide))));have hq:a*2^s% (V*wB^(k+1))/(V*wB^k)=ae wB (a/b) k:=by
    rw[E];exact Wz D
   have M:a*2^s% (V*wB^(k+1))% (V*wB^k)=a*2^s% (V*wB^k):=by
    rw[e9,<-gy,Nat.mod_mul_right_mod]
   rw[hq,M]at aN;generalize a*2^s% (V*wB^(k+1))=X at*;generalize aA:a*2^s% (V*wB^k)=bH at*;have a2:((k:Int)+n+1).toNat=k+n+1:=by omega
   have f2:(0:Int)<=(k:Int)+n+1:=by omega
   have f3:(k:Int)+n+1<=(c:Int)+1:=by omega
   have f4:k<=k+n+1:=by omega
   have f5:¬k=k+n+1:=by omega
   have f6:k+n+1-k=n+1:=by omega
   have f7:k<m+1:=by omega
   have gk:=mn (n:=m+1) (qF (a/b) (k+1)) f7;have bB:=LY (m:=m+1) (Q:=a/b) (i:=k);simp[e4,e5,aY,KU,a2,f2,f3,f4,f5,f6];rw[show(if k=0 then({v:=.sl 1 0 1 0 (k+n+1),al:=[(1,.arr .exact 0 1 (cg (c+1) (ae wB X)))]}:aW)else{v:=.sl 1 0 1 k (n+1),al:=[(1,.arr .exact 0 1 (cg (c+1) (ae wB X)))]})={v:=.sl 1 0 1 k (n+1),al:=[(1,.arr .exact 0 1 (cg (c+1) (ae wB X)))]}by split<;>simp[*]];simp;refine⟨by omega,?_⟩;refine cf aN [1] ?_;simp[gk,bB,e4,f7,aa,aL,bD];exact rd k (show k<=m+1 by omega) (hn:=by simp[aA]) (hh:=by simp[aA])
  ·obtain rfl:j=0:=by omega
   have a4:a*2^s% V=a% b*2^s:=by rw[E,hp]
   simp[Lc,a4]
 rintro⟨bI,bM⟩ ⟨ah,ai,aj,ak,aR⟩;dsimp only at ah ai aj ak aR;subst aR;obtain⟨R,H⟩:∃R,R=a% b*2^s:=⟨_,rfl⟩
 rw[<-H];simp[ah,ai,aj,ak];refine lp (α:=Nat) (fun i=>⟨[(97,.p (.int .i64 i)),(96,.p (.int .i64 n)),(13,.sl 2 0 1 0 (m+1)),(12,.p (.int .i64 n)),(11,.sl 1 0 1 0 (c+1)),(9,.p (.int .i64 s))],[.arr .frozen 0 1 (l.map (AV.p∘fun x:Nat=>PV.int .u64 x)),.arr .exact 0 1 (cg (c+1) (dD 0 i (ae wB R) (ae wB (a% b)))),.arr .exact 0 1 (cg (m+1) (ae wB (a/b)))]⟩)
  (fun i=>i<=n) (fun i=>n-i) 0 (hg _) ?_ (hn:=by simp[sr]) (he:=by simp[ah,ai,aj,ak]) (hh:=by simp[sr])
 intro i k1;have O:=b9 (i:=i) (by omega)
 by_cases hi:i<n
 ·have F:i<c+1:=by omega
  have aF:i+1<c+1:=by omega
  have an:(cg (c+1) (dD 0 i (ae wB R) (ae wB (a% b))))[i]?=some (.p (.int .u64 (ae wB R i))):=by
   have:=xR (m:=c+1) (j:=0) (i:=i) (g:=ae wB R) (f:=ae wB (a% b)) (by omega)
   rwa [hb]at this
  have am:=tR (ae wB R i) s (by omega);have bl:i<c:=by omega
  by_cases ao:0<s
  ·obtain⟨t,bw⟩:∃t,t=64-s:=⟨_,rfl⟩
   have a0:b5.wrap (64-(s:Int))=(t:Int):=by rw[aP _ (by omega) (by omega)];omega
   have a1:=wx (ae wB R (i+1)) t (by omega);have aN:=yC hs;rw[<-bw]at aN;have a8:0<2^t:=fb (by decide);have bs:ae wB R i/2^s<2^t:=by rw[ew D,en,aN];exact cr bn _ _
   have aS:ae wB R (i+1)*2^t% wB=ae wB R (i+1)% 2^s*2^t:=by rw[<-aN,hp]
   have br:ae wB R i/2^s|||(ae wB R (i+1)*2^t% wB)=ae wB (a% b) i:=by
    have u:=aIs D a8 R i;rw[aN,H,Nat.mul_div_cancel _ D,<-H]at u;rw[hJ,aS,CZ bs,<-aS,u,g0]
   have T:=DX (ae wB R i/2^s) (ae wB R (i+1)*2^t% wB) (e7 (gj _ _) (cr bn _ _)) (e8 _ (by decide));rw[br]at T;generalize ae wB R i/2^s=r at*;generalize ae wB R (i+1)*2^t% wB=ag at*;have aX:b4.wrap ((r% 2^b4.bits|||((ag:Int)% 2^b4.bits).toNat:Nat):Int)=(ae wB (a% b) i:Nat):=by
    rw[UA];exact T
   have S:=oS (n:=c+1) (i:=i) (v:=r) (f:=dD 0 i (ae wB R) (ae wB (a% b))) (g:=fun k=>if k=i then r else dD 0 i (ae wB R) (ae wB (a% b)) k) (if_pos rfl) (fun k hk=>if_neg hk);have g2:=mn (n:=c+1) (fun k=>if k=i then r else dD 0 i (ae wB R) (ae wB (a% b)) k) F;have g3:=mn (n:=c+1) (fun k=>if k=i then r else dD 0 i (ae wB R) (ae wB (a% b)) k) aF;rw[if_pos rfl]at g2;rw[if_neg (by omega),dD,if_neg (by omega)]at g3;have bA:=oS (n:=c+1) (i:=i) (v:=ae wB (a% b) i) (f:=fun k=>if k=i then r else dD 0 i (ae wB R) (ae wB (a% b)) k) (g:=dD 0 (i+1) (ae wB R) (ae wB (a% b))) (by rw[dD,if_pos (by omega),hF]) (fun k hk=>by
    rw[if_neg hk,dD,dD]
    by_cases h:k<i
    ·rw[if_pos (by omega),if_pos (by omega)]
    ·rw[if_neg (by omega),if_neg (by omega)])
   generalize (fun k=>if k=i then r else dD 0 i (ae wB R) (ae wB (a% b)) k)=bJ at*;simp[hi,F,an,am,ao,O,S,aa,aL,bD];simp[F,aF,bl,a0,O,g2,g3,aa,aL,bD];simp[a1,T,aX,F,O,bA,g2,aa,aL,bD];refine⟨by omega,⟨by rfl,by rfl,by rfl,by rfl,by rfl⟩,?_⟩;exact rd (i+1) (show i+1<=n by omega)
  ·have aU:s=0:=by omega
   have a7:ae wB R i=ae wB (a% b) i:=by rw[H,aU,fm,hu]
   have S:=xQ (m:=c+1) (j:=0) (i:=i) (g:=ae wB R) (f:=ae wB (a% b)) (v:=ae wB R i) a7.symm;rw[hb]at S;have aZ:(ae wB R i:Int).fdiv (2^(min s b4.bits))=(ae wB R i:Nat):=by rw[am,aU,fm,g8]
   simp[hi,F,an,ao,O,S,aZ,aa,aL,bD];exact rd (i+1) (show i+1<=n by omega)
 obtain rfl:i=n:=by omega
 obtain⟨bQ,aH,bp,ax⟩:=CF (m:=m+1) (N:=a/b) (by rw[aM];exact a5) (by omega);obtain⟨P,aJ,bq,a9⟩:∃P:List Nat,P.length=c+1/\cg (c+1) (dD 0 i (ae wB R) (ae wB (a% b)))=P.map (AV.p∘fun x:Nat=>PV.int .u64 x)/\au prog 313 [.seq (eW (P.take i))] (.seq (aV.map fun x:Nat=>.int .u64 x)):=by
  refine⟨(dl (c+1)).map (dD 0 i (ae wB R) (ae wB (a% b))),by simp,B9 _ _,?_⟩;have e:((dl (c+1)).map (dD 0 i (ae wB R) (ae wB (a% b)))).take i=(dl i).map (ae wB (a% b)):=by
   exact KW (by omega) fun k hk=>by rw[dD,if_pos (by omega),hF]
  rw[e];have u:=sS ((dl i).map (ae wB (a% b))) (by simp;omega);rw[bx]at u;exact u
 simp only[eN,bz]at ax;simp[bp,bq];refine ep ax (by simp[aH];exact⟨rfl,rfl⟩) (by simp;exact⟨rfl,rfl⟩) ?_ (h1:=by simp[eW,dq,aH]);simp[aJ];refine⟨by omega,?_⟩;have bk:i<=c+1:=by omega
 refine ep a9 (by simp[aJ,bk];exact⟨rfl,rfl⟩) (by simp;exact⟨rfl,rfl⟩) ?_ (h1:=by simp[eW,ed]);simp;rfl
def bL(k:Nat)(q:Rat):Prop:=q.num.natAbs<2^k/\q.den<2^k
theorem bL.mono{k l:Nat}{q:Rat}(h:bL k q)(a:k<=l):bL l q:=
 ⟨eq h.1 (e6 (by omega) a),eq h.2 (e6 (by omega) a)⟩
theorem lE{n:Int}{d:Nat}(h:d≠0):(hM n d).num=n/(hG n.natAbs d:Nat)/\(hM n d).den=d/hG n.natAbs d:=by
 have:hM n d=Rat.normalize n d h:=by
  rw[hN];rfl
 rw[this,Rat.normalize_eq h];exact⟨rfl,rfl⟩
theorem yu{n:Int}{d k:Nat}(h:d≠0)(a:n.natAbs<2^k)(b:d<2^k):bL k (hM n d):=by
 obtain⟨e1,e2⟩:=lE (n:=n) h;refine⟨?_,?_⟩
 ·rw[e1];refine e7 ?_ a;rw[Int.natAbs_ediv_of_dvd (Int.ofNat_dvd_left.2 (Nat.gcd_dvd_left _ _))];exact gj _ _
 ·rw[e2];exact e7 (gj _ _) b
theorem yU{a b:Nat}{x y:Rat}(h:bL a x)(c:bL b y):bL (a+b+1) (x+y):=by
 have e:x+y=hM (x.num*y.den+y.num*x.den) ((x.den*y.den:Nat):Int):=by rw[Rat.add_def'];rfl
 rw[e];have e1:2^(a+b+1)=2^a*2^b+2^a*2^b:=by rw[e9,ge];omega
 refine yu (hz x.den_nz y.den_nz) ?_ ?_
 ·rw[e1];refine e7 (Int.natAbs_add_le _ _) ?_;rw[ce,ce,ck,ck];have g1:=gi h.1 c.2;have g2:=gi c.1 h.2;rw[en (2^b)]at g2;omega
 ·have:=gi h.2 c.2;rw[e1];omega
theorem xY{a:Nat}{x:Rat}(h:bL a x):bL a (-x):=by
 refine⟨by rw[Rat.neg_num,Int.natAbs_neg];exact h.1,by rw[Rat.neg_den];exact h.2⟩
theorem xg{a b:Nat}{x y:Rat}(h:bL a x)(c:bL b y):bL (a+b+1) (x-y):=by
 rw[hO];exact yU h (xY c)
theorem fK{a b:Nat}{x y:Rat}(h:bL a x)(c:bL b y):bL (a+b) (x*y):=by
 have e:x*y=hM (x.num*y.num) ((x.den*y.den:Nat):Int):=by
  rw[Rat.mul_def,hN];rfl
 rw[e];refine yu (hz x.den_nz y.den_nz) ?_ ?_
 ·rw[ce,ge];exact gi h.1 c.1
 ·rw[ge];exact gi h.2 c.2
theorem VR{x:Rat}(h:x≠0):(x⁻¹).num=x.num.sign*x.den/\(x⁻¹).den=x.num.natAbs:=by
 have a:x.num≠0:=fun e=>h (hP.1 e);have e:x⁻¹=hM (x.num.sign*x.den) (x.num.natAbs:Nat):=by
  rw[Rat.inv_def];rcases cv x.num 0 with h|h|h
  ·have e1:x.num.sign= -1:=Int.sign_eq_neg_one_of_neg h;have e2:((x.num.natAbs:Nat):Int)= -x.num:=by omega
   rw[e1,e2,show(-1*(x.den:Int))= -(x.den:Int)by omega,Rat.divInt_neg',Int.neg_neg]
  ·exact(a h).elim
  ·have e1:x.num.sign=1:=Int.sign_eq_one_of_pos h;have e2:((x.num.natAbs:Nat):Int)=x.num:=by omega
   rw[e1,e2,Int.one_mul]
 have b:hG (x.num.sign*x.den).natAbs x.num.natAbs=1:=by
  rw[ce,db a,gt,ck,Nat.gcd_comm];exact x.reduced
 obtain⟨e1,e2⟩:=lE (n:=x.num.sign*x.den) (d:=x.num.natAbs) (by omega);rw[e,e1,e2,b];simp
theorem xm{a:Nat}{x:Rat}(h:bL a x):bL a x⁻¹:=by
 by_cases b:x=0
 ·subst b;have:(0:Rat)⁻¹=0:=Rat.inv_zero;rw[this];exact h
 ·obtain⟨e1,e2⟩:=VR b;have c:x.num≠0:=fun e=>b (hP.1 e);refine⟨?_,by rw[e2];exact h.1⟩;rw[e1,ce,db c,gt,ck];exact h.2
theorem WI{a b:Nat}{x y:Rat}(h:bL a x)(c:bL b y):bL (a+b) (x/y):=by
 rw[Rat.div_def];exact fK h (xm c)
theorem nR{k:Nat}{n:Int}(h:n.natAbs<2^k)(hk:0<k):bL k (n:Rat):=by
 refine⟨h,?_⟩;show(1:Nat)<2^k;exact Nat.one_lt_two_pow (by omega)
structure NI where
 v:Int
 m:Bool
def NI.sm(a:NI):Bool:=decide (-9223372036854775808<a.v/\a.v<9223372036854775808)||(decide (a.v= -9223372036854775808)&&a.m)
def NI.of(n:Int):NI:=⟨n,true⟩
def NI.mk'(n:Int):NI:=⟨n,false⟩
def NI.neg(a:NI):NI:=.mk' (-a.v)
def NI.abs(a:NI):NI:=if a.v<0 then .mk' (-a.v)else a
def NI.add(a b:NI):NI:=⟨a.v+b.v,a.sm&&b.sm⟩
def NI.sub(a b:NI):NI:=a.add b.neg
def NI.mul(a b:NI):NI:=.mk' (a.v*b.v)
def NI.div(a b:NI):NI:=⟨a.v/b.v,decide (a.v% b.v≠0)⟩
def NI.mod(a b:NI):NI:=.mk' (a.v% b.v)
structure NF where
 q:Rat
 m:Bool
def NF.num(a:NF):NI:=⟨a.q.num,a.m⟩
def NF.den(a:NF):NI:=.mk' a.q.den
def NF.whole(a:NI):NF:=⟨a.v,a.m⟩
def NF.int(n:Int):NF:=⟨n,true⟩
def NF.ft(a:NF):Bool:=decide (a.q.den=1)
def NF.add(a b:NF):NF:=⟨a.q+b.q,a.ft&&b.ft&&(a.num.sm&&b.num.sm)⟩
def NF.neg(a:NF):NF:=⟨-a.q,false⟩
def NF.sub(a b:NF):NF:=a.add b.neg
def NF.mul(a b:NF):NF:=⟨a.q*b.q,false⟩
def NF.inv(a:NF):NF:=⟨a.q⁻¹,false⟩
def NF.div(a b:NF):NF:=⟨a.q/b.q,false⟩
@[simp] theorem NI.rj(a b:NI):(a.add b).v=a.v+b.v:=rfl
@[simp] theorem NI.lQ(a b:NI):(a.mul b).v=a.v*b.v:=rfl
@[simp] theorem NI.DP(a:NI):a.neg.v= -a.v:=rfl
@[simp] theorem NI.Qr(a b:NI):(a.sub b).v=a.v-b.v:=by show a.v+-b.v=_;omega
@[simp] theorem NF.Gw(a b:NF):(a.add b).q=a.q+b.q:=rfl
@[simp] theorem NF.aL6(a:NF):a.neg.q= -a.q:=rfl
@[simp] theorem NF.fQ(a b:NF):(a.sub b).q=a.q-b.q:=by show a.q+-b.q=_;rw[hO]
@[simp] theorem NF.aL5(a b:NF):(a.mul b).q=a.q*b.q:=rfl
@[simp] theorem NF.aLk(a:NF):a.inv.q=a.q⁻¹:=rfl
@[simp] theorem NF.aKj(a b:NF):(a.div b).q=a.q/b.q:=rfl
@[simp] theorem NF.aLj(n:Int):(NF.int n).q=n:=rfl
def eQ(z:Int):PV:=.st 128 [.int .i64 z,.aO]
def kn(z:Int):PV:=.st 128 [.int .i64 (if z<0 then -1 else 1),eN z.natAbs]
def DJ(p:PV)(z:Int):Prop:=(p=eQ z/\-9223372036854775808<=z/\z<=9223372036854775807)\/(p=kn z/\9223372036854775808<=z.natAbs)
theorem OV(a:NI):∃p,p=if a.sm=true then eQ a.v else kn a.v:=⟨_,rfl⟩
noncomputable def eI(a:NI):PV:=b2 (OV a)
theorem jb(a:NI):eI a=if a.sm=true then eQ a.v else kn a.v:=b1 (OV a)
theorem NI.yX{a:NI}(h:-9223372036854775808<a.v)(b:a.v<9223372036854775808):a.sm=true:=by
 simp[NI.sm,h,b]
theorem NI.oY{a:NI}(h:a.sm=true):-9223372036854775808<=a.v/\a.v<=9223372036854775807:=by
 simp only[NI.sm,b0,decide_eq_true_eq,bV]at h;omega
theorem NI.yF{a:NI}(h:¬a.sm=true):9223372036854775808<=a.v.natAbs:=by
 simp only[NI.sm,b0,decide_eq_true_eq,bV,not_or,not_and]at h;omega
theorem NI.PY(z:Int):(NI.mk' z).sm=decide (-9223372036854775808<z/\z<9223372036854775808):=by
 rw[NI.sm,NI.mk',Bool.and_false,Bool.or_false]
theorem NI.iD(z:Int):(NI.mk' z).v=z:=rfl
theorem lU(a:NI):DJ (eI a) a.v:=by
 rw[jb]
 by_cases h:a.sm=true
 ·rw[if_pos h];have:=NI.oY h;exact .inl ⟨rfl,this⟩
 ·rw[if_neg h];exact .inr ⟨rfl,NI.yF h⟩
theorem nP{z:Int}(h:-9223372036854775808<z)(a:z<9223372036854775808):eI (.mk' z)=eQ z:=by
 rw[jb,NI.PY,if_pos (by simp[h,a]),NI.iD]
theorem OU{z:Int}(h:9223372036854775808<=z.natAbs):eI (.mk' z)=kn z:=by
 rw[jb,NI.PY,if_neg (by simp;omega),NI.iD]
theorem tt{z:Int}(h:-9223372036854775808<=z)(c:z<=9223372036854775807):eI (.of z)=eQ z:=by
 rw[jb,if_pos]
 ·rfl
 ·by_cases b:z= -9223372036854775808
  ·subst b;rfl
  ·exact NI.yX (a:=.of z) (by show _<z;omega) (by show z<_;omega)
@[simp] theorem bxN(u:TypeId)(h:¬u=359):(Gl.bx u:Option TypeId)=none:=by
 have a:hH u 359=false:=by
  cases a:hH u 359
  ·rfl
  ·exact(h (Nat.eq_of_beq_eq_true a)).elim
 show(bif hH u 359 then some 360 else none)=none;rw[a];rfl
@[simp] theorem aJ6:(Gl.bx 359:Option TypeId)=some 360:=(rfl)
theorem kV:aw wB 0=[]:=by simp[aw,mL]
theorem sR{n:Nat}(a:0<n)(h:n<wB):aw wB n=[n]:=by
 have h1:=jo bn (m:=1) (n:=n) (by rw[hj];exact h);rw[<-h1,row,eb,ee,ei,ae,fm,g8,eo h];have:=uo [] n (by omega)
 rwa [List.nil_append]at this
theorem rA(n:Int):au prog 198 [.int .i64 n] (eQ n):=by
 refine aI nf N7 mix (by simp[f198]) ?_;simp[f198,eQ]
theorem Dk(n:Int)(h:-9223372036854775808<=n)(b:n<=9223372036854775807):au prog 253 [.int .i64 n] (.int .u64 (n.natAbs:Nat)):=by
 refine aI nf Mc mix (by simp[f253]) ?_
 by_cases a:n<0
 ·have e:b4.wrap (b5.wrap (-n))=(n.natAbs:Nat):=by
   by_cases hm:n= -9223372036854775808
   ·subst hm;rfl
   ·rw[aP _ (by omega) (by omega),fp _ (by omega) (by simp only[wB];omega)];omega
  simp[f253,a,e]
 ·have e:b4.wrap n=(n.natAbs:Nat):=by rw[fp _ (by omega) (by simp only[wB];omega)];omega
  simp[f253,a,e]
theorem ny(p:PV)(z:Int)(h:DJ p z):au prog 254 [p] (.aC [.bool (decide (z<0)),eN z.natAbs]):=by
 refine aI nf Mb mix (by simp[f254]) ?_;rcases h with⟨rfl,b,d⟩|⟨rfl,b⟩
 ·have hs:=Dk z b d
  by_cases a:z=0
  ·subst a;simp[f254,eQ,eN,kV,dA,cQ]
  ·simp[f254,eQ,a,dA,cQ];refine e1 hs ?_;simp[eN,sR (n:=z.natAbs) (by omega) (by simp only[wB];omega)]
   done
 ·have e:aw wB z.natAbs≠[]:=fun h=>by
   have:=ch bn z.natAbs;rw[h,dz,fm]at this;omega
  simp only[kn,eN];obtain⟨c,cs,hc⟩:=dp e;rw[hc];have f:decide ((if z<0 then(-1:Int)else 1)<0)=decide (z<0):=by split<;>simp[*]
  generalize (if z<0 then(-1:Int)else 1)=g at*;simp[f254,dA,cQ,f]
theorem vq(neg:Bool)(n:Nat)(j:(aw wB n).length<=1048576):au prog 255 [.bool neg,eN n] (eI (.mk' (if neg then -(n:Int)else n))):=by
 by_cases g:n=0
 ·subst g;rw[show(if neg=true then -((0:Nat):Int)else((0:Nat):Int))=0 by simp,nP (by decide) (by decide)];refine aI nf vm mix (by simp[f255]) ?_;simp[f255,eQ,eN,kV,dA,cQ]
 by_cases p:n<=9223372036854775807
 ·have d:=sR (n:=n) (by omega) (by simp only[wB];omega);have hI:(n:Int)<=9223372036854775807:=by omega
  have w1:b5.wrap (n:Int)=n:=aP _ (by omega) (by omega);have f:b5.wrap (-(n:Int))= -n:=aP _ (by omega) (by omega);cases neg
  ·rw[if_neg (by decide),nP (by omega) (by omega)];refine aI nf vm mix (by simp[f255]) ?_;simp[f255,eQ,eN,d,hI,w1,f,dA,cQ]
  ·rw[if_pos rfl,nP (by omega) (by omega)];refine aI nf vm mix (by simp[f255]) ?_;simp[f255,eQ,eN,d,hI,w1,f,dA,cQ]
 ·have k:aw wB n≠[]:=fun h=>by
   have:=ch bn n;rw[h,dz,fm]at this;omega
  have e:(aw wB n).length=1->(aw wB n)[0]?=some n:=fun h=>by
   have a:=ch bn n;rw[h,hj]at a;rw[sR (by omega) a];rfl
  have hI:¬(n:Int)<=9223372036854775807:=by omega
  have b:(if neg then -(n:Int)else n).natAbs=n:=by cases neg<;>simp
  have l:(if(if neg then -(n:Int)else n)<0 then(-1:Int)else 1)=if neg then -1 else 1:=by
   cases neg
   ·simp only[Bool.false_eq_true,if_false];rw[if_neg (by omega)]
   ·simp only[if_true];rw[if_pos (by omega)]
  rw[OU (by rw[b];omega)];refine aI nf vm mix (by simp[f255]) ?_;rw[kn,b,l];simp only[eN];obtain⟨c,cs,hc⟩:=dp k;rw[hc]at e⊢;rw[hc]at j;cases cs with
  |nil=>
   have i:c=n:=by simpa using e rfl
   subst i;cases neg<;>simp[f255,hI,dA,cQ]
  |cons c2 cs=>
   have m:¬((cs.length:Int)+1+1=1):=by omega
   have o:¬((cs.length:Int)+1+1=0):=by omega
   cases neg<;>simp[f255,m,o,dA,cQ]
def okW(z:Int):Prop:=(aw wB z.natAbs).length<=900000
theorem aEi{p:PV}{z:Int}(h:DJ p z):∃a b,p=.st 128 [a,b]:=by
 rcases h with⟨rfl,_⟩|⟨rfl,_⟩
 ·exact⟨_,_,rfl⟩
 ·exact⟨_,_,rfl⟩
theorem u7(a:NI):∃x y,eI a=.st 128 [x,y]:=aEi (lU a)
theorem th(a:NI)(l:okW a.v):au prog 246 [eI a] (eI a.neg):=by
 have h:=lU a;have d:=ny (eI a) a.v h;have b:=vq (!decide (a.v<0)) a.v.natAbs (by rw[okW]at l;omega);have k:(if(!decide (a.v<0))=true then -((a.v.natAbs:Nat):Int)else a.v.natAbs)= -a.v:=by
  by_cases e:a.v<0
  ·simp[e];omega
  ·simp[e];omega
 rw[k]at b;rw[show a.neg=.mk' (-a.v)from rfl];generalize a.v=z at*;generalize n:eI a=p at*;obtain⟨o,q,g⟩:=u7 (.mk' (-z));rcases h with⟨rfl,i,m⟩|⟨rfl,i⟩
 ·by_cases f:z= -9223372036854775808
  ·rw[g]at b⊢;refine aI nf yR mix (by simp[f246]) ?_;subst f;simp only[eQ]at d⊢;simp[f246,dA,cQ];refine c1 d ?_;simp[eN]at b⊢;refine c2 b ?_;simp[aa,aL,bD]
  ·rw[nP (by omega) (by omega)];have w:b5.wrap (-z)= -z:=aP _ (by omega) (by omega);refine aI nf yR mix (by simp[f246]) ?_;simp[f246,eQ,f,w,dA,cQ]
 ·rw[g]at b⊢;refine aI nf yR mix (by simp[f246]) ?_;have j:aw wB z.natAbs≠[]:=fun h=>by
   have:=ch bn z.natAbs;rw[h,dz,fm]at this;omega
  simp only[kn,eN]at d b⊢;obtain⟨c,cs,hc⟩:=dp j;rw[hc]at d b⊢;generalize (if z<0 then(-1:Int)else 1)=r at*;simp[f246,dA,cQ];refine c1 d ?_;simp at b⊢;refine c2 b ?_;simp[aa,aL,bD]
theorem sW(a:NI):au prog 258 [eI a] (.int .i64 (if a.v<0 then -1 else if a.v=0 then 0 else 1)):=by
 have h:=lU a;generalize a.v=z at*;generalize eI a=p at*;refine aI nf MI mix (by simp[f258]) ?_;rcases h with⟨rfl,b,c⟩|⟨rfl,b⟩
 ·simp[f258,eQ];rcases cv z 0 with h|h|h
  ·have e:z<1:=by omega
   simp[h,e];omega
  ·subst h;simp
  ·have e1:¬z<0:=by omega
   have e2:¬z=0:=by omega
   have e3:¬z<1:=by omega
   simp[e1,e2,e3]
 ·simp[f258,kn,eN]
  by_cases h:z<0
  ·simp[h]
  ·have e2:¬z=0:=by omega
   simp[h,e2]
theorem Va{z:Int}(h:-18446744073709551616<=z)(a:z<=18446744073709551614):b5.wrap z=if z< -9223372036854775808 then z+18446744073709551616 else if 9223372036854775807<z then z-18446744073709551616 else z:=by
 rw[cb]
 split
 ·omega
 ·split<;>omega
theorem nu{z:Int}(h:okW z):(aw wB z.natAbs).length<=900000:=h
theorem Tx{a b L:Nat}(c:(aw wB a).length<=L)(d:(aw wB b).length<=L):(aw wB (a+b)).length<=L+1:=by
 refine dJ bn _ _ ?_;have e:=eq (ch bn a) (e6 (show 0<wB by decide) c);have f:=eq (ch bn b) (e6 (show 0<wB by decide) d);have g:2*wB^L<=wB^(L+1):=by rw[e9,en];exact fl _ bn
 omega
theorem Sc{a b:Int}(i:okW a)(j:okW b):
 ((decide (a<0)=decide (b<0)/\au prog 255 [.bool (decide (a<0)),eN (a.natAbs+b.natAbs)] (eI (.mk' (a+b))))\/
  (decide (a<0)≠decide (b<0)/\b.natAbs<=a.natAbs/\au prog 255 [.bool (decide (a<0)),eN (a.natAbs-b.natAbs)] (eI (.mk' (a+b))))\/
  (decide (a<0)≠decide (b<0)/\a.natAbs<b.natAbs/\au prog 255 [.bool (decide (b<0)),eN (b.natAbs-a.natAbs)] (eI (.mk' (a+b))))):=by
 have m:=Tx (a:=a.natAbs) (b:=b.natAbs) i j;have l:∀n,n<=a.natAbs+b.natAbs->(aw wB n).length<=1048576:=fun n h=>by
  have:=dJ bn _ _ (e7 h (ch bn (a.natAbs+b.natAbs)));omega
 have f:∀(neg:Bool)(n:Nat),n<=a.natAbs+b.natAbs->(if neg then -(n:Int)else n)=a+b->au prog 255 [.bool neg,eN n] (eI (.mk' (a+b))):=fun neg n h e=>by
  have g:=vq neg n (l n h);rw[e]at g;exact g
 by_cases d:decide (a<0)=decide (b<0)
 ·have c:=f (decide (a<0)) (a.natAbs+b.natAbs) (gx _) (by
   by_cases h:a<0
   ·have:b<0:=by simpa[h]using d
    simp[h];omega
   ·have:¬b<0:=by simpa[h]using d
    simp[h];omega)
  exact .inl ⟨d,c⟩
 ·by_cases k:b.natAbs<=a.natAbs
  ·have c:=f (decide (a<0)) (a.natAbs-b.natAbs) (by omega) (by
    by_cases h:a<0
    ·have:¬b<0:=by simpa[h]using d
     simp[h];omega
    ·have:b<0:=by simpa[h]using d
     simp[h];omega)
   exact .inr (.inl ⟨d,k,c⟩)
  ·have c:=f (decide (b<0)) (b.natAbs-a.natAbs) (by omega) (by
    by_cases h:b<0
    ·have:¬a<0:=fun c=>d (by simp[h,c]);simp[h];omega
    ·have:a<0:=by
      by_cases c:a<0
      ·exact c
      ·exact(d (by simp[h,c])).elim
     simp[h];omega)
   exact .inr (.inr ⟨d,by omega,c⟩)
theorem C8(a:NI):(eI a=eQ a.v/\a.sm=true/\-9223372036854775808<=a.v/\a.v<=9223372036854775807)\/(a.sm=false/\∃d c cs,eI a=.st 128 [.int .i64 d,.seq (c::cs)]):=by
 by_cases h:a.sm=true
 ·left;exact⟨by rw[jb,if_pos h],h,NI.oY h⟩
 ·right;refine⟨by simpa using h,?_⟩;have e:=NI.yF h;have b:aw wB a.v.natAbs≠[]:=fun h=>by
   have:=ch bn a.v.natAbs;rw[h,dz,fm]at this;omega
  obtain⟨c,cs,hc⟩:=dp b;rw[jb,if_neg h,kn,eN,hc];exact⟨_,_,_,rfl⟩
theorem vK(a b:NI)(B:okW a.v)(D:okW b.v):au prog 271 [eI a,eI b] (eI (a.add b)):=by
 have o:=ny (eI a) a.v (lU a);have q:=ny (eI b) b.v (lU b);have U:=nu B;have V:=nu D;have t:=Gx a.v.natAbs b.v.natAbs (by omega) (by omega);have C:=Ua a.v.natAbs b.v.natAbs (by omega) (by omega);have y:=Sc B D;have tS:=C8 a;have G:=C8 b
 by_cases u:(a.sm=true/\b.sm=true)/\-9223372036854775808<=a.v+b.v/\a.v+b.v<=9223372036854775807
 ·obtain⟨⟨g,n⟩,d,l⟩:=u;rw[show eI a=eQ a.v by rw[jb,if_pos g],show eI b=eQ b.v by rw[jb,if_pos n],show a.add b=.of (a.v+b.v)by rw[NI.add,g,n];rfl,tt d l];generalize a.v=a at*;generalize b.v=b at*;refine aI nf Db mix (by simp[f271]) ?_;have w:=aP (a+b) d l;have e:(decide (a<a+b)==decide (0<b))=true:=by
   have:a<a+b↔0<b:=by omega
   simp[this]
  simp[f271,eQ,w,dA,cQ,e]
 have F:eI (a.add b)=eI (.mk' (a.v+b.v)):=by
  by_cases h:-9223372036854775808<a.v+b.v/\a.v+b.v<9223372036854775808
  ·rw[nP h.1 h.2,jb,if_pos (NI.yX h.1 h.2)];rfl
  ·by_cases l:(a.sm&&b.sm)=true
   ·have H:a.sm=true/\b.sm=true:=by simpa using l
    have I:¬(-9223372036854775808<=a.v+b.v/\a.v+b.v<=9223372036854775807):=fun h=>u ⟨H,h⟩;rw[OU (by omega),jb,if_neg,NI.rj];intro g;have:=NI.oY g;rw[NI.rj]at this;omega
   ·rw[NI.add,NI.mk'];rw[show(a.sm&&b.sm)=false by simpa using l]
 rw[F];clear F;obtain⟨M,N,J⟩:=u7 a;obtain⟨O,P,K⟩:=u7 b;obtain⟨Y,Z,L⟩:=u7 (.mk' (a.v+b.v));rw[L]at y⊢;rw[J]at o tS⊢;rw[K]at q G⊢;generalize a.v=f at*;generalize b.v=bv at*;refine aI nf Db mix (by simp[f271]) ?_;simp[f271,-bt];rw[bt];simp[-bt];refine join (fun s=>aQ s.env 2=.ptr 0 []/\aQ s.env 3=.ptr 1 []/\aQ s.env 4=.ptr 2 []/\s.heap=[.box false (.p (.st 128 [M,N])),.box false (.p (.st 128 [O,P])),.box false (.p (.st 128 [.int .i64 0,.aO]))]) ?_ ?_
 ·clear y t C o q;rcases tS with⟨d,m,l,g⟩|⟨m,Q,c,cs,d⟩
  ·simp only[eQ,PV.st.injEq,ej,and_true,true_and]at d;obtain⟨rfl,rfl⟩:=d;rcases G with⟨n,A,S,T⟩|⟨A,Q,c,cs,n⟩
   ·simp only[eQ,PV.st.injEq,ej,and_true,true_and]at n;obtain⟨rfl,rfl⟩:=n;have I:¬(-9223372036854775808<=f+bv/\f+bv<=9223372036854775807):=fun h=>u ⟨⟨m,A⟩,h⟩;have w:=Va (z:=f+bv) (by omega) (by omega);have e:¬(f<b5.wrap (f+bv)↔0<bv):=by
     rw[w]
     by_cases W:0<bv
     ·rw[if_neg (by omega),if_pos (by omega)];omega
     ·rw[if_pos (by omega)];omega
    simp[dA,cQ,e]
   ·simp only[PV.st.injEq,ej,and_true,true_and]at n;obtain⟨rfl,rfl⟩:=n;simp[dA,cQ]
  ·simp only[PV.st.injEq,ej,and_true,true_and]at d;obtain⟨rfl,rfl⟩:=d;simp[dA,cQ]
 rintro⟨R,X⟩ ⟨i,j,k,E⟩;dsimp only at i j k E;subst E;simp[i,j,k];refine c1 o ?_;simp[i,j,k,aa,aL,bD];refine c1 q ?_;rcases y with⟨d,g⟩|⟨d,l,g⟩|⟨d,l,g⟩
 ·have m:(f<0↔bv<0):=by simpa using d
  rw[d]at g;simp[i,j,k,m,aa,aL,bD];refine c2 C ?_;simp;refine c2 g ?_;simp[i,j,k,aa,aL,bD]
 ·have m:¬(f<0↔bv<0):=by simpa using d
  have r:0<=fH f.natAbs bv.natAbs:=by
   have h:=mt oV.1 (show¬f.natAbs<bv.natAbs by omega);omega
  have x:=HE f.natAbs bv.natAbs l (by omega);simp[i,j,k,m,aa,aL,bD];refine c2 t ?_;simp[r];refine c2 x ?_;simp[i,j,k,aa,aL,bD];refine c2 g ?_;simp[i,j,k,aa,aL,bD]
 ·have m:¬(f<0↔bv<0):=by simpa using d
  have r:¬0<=fH f.natAbs bv.natAbs:=by have:=oV.2 l;omega
  have x:=HE bv.natAbs f.natAbs (by omega) (by omega);simp[i,j,k,m,aa,aL,bD];refine c2 t ?_;simp[r];refine c2 x ?_;simp[i,j,k,aa,aL,bD];refine c2 g ?_;simp[i,j,k,aa,aL,bD]
@[simp] theorem aMr(a:NI):aL (eI a)=.agg 128:=by
 obtain⟨x,y,h⟩:=u7 a;rw[h];rfl
theorem Qn(a:NI):∃z:Int,z=if a.sm=true then a.v else if a.v<0 then -1 else 1:=⟨_,rfl⟩
noncomputable def sI(a:NI):Int:=b2 (Qn a)
theorem yG(a:NI):sI a=if a.sm=true then a.v else if a.v<0 then -1 else 1:=b1 (Qn a)
theorem QC(a:NI):∃p:PV,p=if a.sm=true then .aO else eN a.v.natAbs:=⟨_,rfl⟩
noncomputable def wI(a:NI):PV:=b2 (QC a)
theorem CY(a:NI):wI a=if a.sm=true then .aO else eN a.v.natAbs:=b1 (QC a)
@[simp] theorem ZN(a:NI):bW (eI a)=[.int .i64 (sI a),wI a]:=by
 by_cases h:a.sm=true
 ·rw[jb,yG,CY,if_pos h,if_pos h,if_pos h];rfl
 ·rw[jb,yG,CY,if_neg h,if_neg h,if_neg h];rfl
theorem Qo(a:NI):sI a<0↔a.v<0:=by
 rw[yG];split
 ·exact Iff.rfl
 ·split<;>omega
theorem lR{a:NI}(h:a.sm=true):wI a=.aO:=by rw[CY,if_pos h]
theorem nJ{a:NI}(h:a.sm=false):∃c cs,wI a=.seq (c::cs):=by
 rcases C8 a with⟨_,b,_⟩|⟨_,e,c,cs,d⟩
 ·rw[h]at b;exact absurd b (by decide)
 ·refine⟨c,cs,?_⟩;have:=ZN a;rw[d]at this;simp[bW]at this;exact this.2.symm
theorem mE{a:NI}(h:a.sm=true):sI a=a.v:=by rw[yG,if_pos h]
theorem Du(a b:NI)(d:okW a.v)(c:okW b.v):au prog 257 [eI a,eI b] (eI (a.sub b)):=by
 refine aI nf MJ mix (by simp[f257]) ?_;have e:okW b.neg.v:=by simpa[okW]using c
 simp[f257];refine e1 (th b c) ?_;simp;refine e2 (vK a b.neg d e) ?_;simp[aa];exact Wk.refl _
theorem Ox(a:NI)(c:okW a.v):au prog 331 [eI a] (eI a.abs):=by
 refine aI nf Nb mix (by simp[f331]) ?_
 by_cases h:a.v<0
 ·have b:=(Qo a).2 h;have e:a.abs=a.neg:=by rw[NI.abs,if_pos h];rfl
  simp[f331,aa,b];refine c1 (th a c) ?_;simp[aa,e]
 ·have b:=mt (Qo a).1 h;have e:a.abs=a:=by rw[NI.abs,if_neg h]
  simp[f331,aa,b,e]
def jO(x y:Int):Int:=if x<y then -1 else if x=y then 0 else 1
theorem Oy(a b:NI)(l:okW a.v)(m:okW b.v):au prog 169 [eI a,eI b] (.int .i64 (jO a.v b.v)):=by
 refine aI nf Og mix (by simp[f169]) ?_;have o:(a.sm=true/\b.sm=true)\/¬(a.sm=true/\b.sm=true):=b3 _;rcases o with⟨d,k⟩|d
 ·have w1:=lR d;have f:=lR k;have i:=mE d;have j:=mE k;rcases cv a.v b.v with h|h|h
  ·have e:jO a.v b.v= -1:=by rw[jO,if_pos h]
   simp[f169,aa,w1,f,i,j,h,e,dA,cQ]
  ·have e:jO b.v b.v=0:=by rw[jO,if_neg (by omega),if_pos rfl]
   have d:¬a.v<b.v:=by omega
   simp[f169,aa,w1,f,i,j,h,e,dA,cQ]
  ·have e:jO a.v b.v=1:=by rw[jO,if_neg (by omega),if_neg (by omega)]
   have d:¬a.v<b.v:=by omega
   simp[f169,aa,w1,f,i,j,h,d,e,dA,cQ]
 ·have e:(if(a.sub b).v<0 then(-1:Int)else if(a.sub b).v=0 then 0 else 1)=jO a.v b.v:=by
   rw[NI.Qr,jO];rcases cv a.v b.v with h|h|h
   ·rw[if_pos (by omega),if_pos h]
   ·rw[if_neg (by omega),if_pos (by omega),if_neg (by omega),if_pos h]
   ·rw[if_neg (by omega),if_neg (by omega),if_neg (by omega),if_neg (by omega)]
  have g:=sW (a.sub b);rw[e]at g;rcases hs:a.sm with _|_
  ·obtain⟨c,cs,w1⟩:=nJ hs;simp[f169,aa,w1,dA,cQ];refine c2 (Du a b l m) ?_;simp;refine c1 g ?_;simp
  ·have w1:=lR hs;obtain⟨c,cs,f⟩:=nJ (a:=b) (by cases n:b.sm with|false=>rfl|true=>exact(d ⟨hs,n⟩).elim);simp[f169,aa,w1,f,dA,cQ];refine c2 (Du a b l m) ?_;simp;refine c1 g ?_;simp
theorem Tw{a b L M:Nat}(e:(aw wB a).length<=L)(f:(aw wB b).length<=M):(aw wB (a*b)).length<=L+M:=by
 refine dJ bn _ _ ?_;have c:=eq (ch bn a) (e6 (show 0<wB by decide) e);have d:=eq (ch bn b) (e6 (show 0<wB by decide) f);rw[ge];exact gi c d
theorem zi(a b:NI)(G:(aw wB a.v.natAbs).length+(aw wB b.v.natAbs).length<=900000):au prog 168 [eI a,eI b] (eI (a.mul b)):=by
 have E:=ny (eI a) a.v (lU a);have hq:=ny (eI b) b.v (lU b);have D:=T8 a.v.natAbs b.v.natAbs (by omega);have I:=Tw (gx (aw wB a.v.natAbs).length) (gx (aw wB b.v.natAbs).length);have w:=vq (decide (a.v<0)!=decide (b.v<0)) (a.v.natAbs*b.v.natAbs) (by omega);have e:(if(decide (a.v<0)!=decide (b.v<0))=true then -((a.v.natAbs*b.v.natAbs:Nat):Int)else(a.v.natAbs*b.v.natAbs:Nat))=a.v*b.v:=by
  rw[<-ce];rcases dg a.v 0 with i|i
  ·rcases dg b.v 0 with d|d
   ·have:=Int.mul_nonneg_of_nonpos_of_nonpos (c6 i) (c6 d);simp[i,d];omega
   ·have:=Int.mul_nonpos_of_nonpos_of_nonneg (c6 i) d;have n:¬b.v<0:=by omega
    simp[i,n];omega
  ·have n:¬a.v<0:=by omega
   rcases dg b.v 0 with d|d
   ·have:=Int.mul_nonpos_of_nonneg_of_nonpos i (c6 d);simp[n,d];omega
   ·have:=Int.mul_nonneg i d;have B:¬b.v<0:=by omega
    simp[n,B];omega
 rw[e]at w;rw[show a.mul b=.mk' (a.v*b.v)from rfl];refine aI nf Oh mix (by simp[f168]) ?_;simp[f168,-bt];rw[bt];simp[-bt];refine join (fun s=>aQ s.env 2=.ptr 0 []/\aQ s.env 3=.ptr 1 []/\aQ s.env 4=.ptr 2 []/\s.heap=[.box false (.p (eI a)),.box false (.p (eI b)),.box false (.p (.st 128 [.int .i64 0,.aO]))]) ?_ ?_
 ·rcases hs:a.sm with _|_
  ·obtain⟨c,cs,w1⟩:=nJ hs;simp[aa,w1,dA,cQ]
  ·have w1:=lR hs;rcases o:b.sm with _|_
   ·obtain⟨c,cs,j⟩:=nJ o;simp[aa,w1,j,dA,cQ]
   ·have j:=lR o;have f:=mE hs;have g:=mE o;have y:=NI.oY hs;have z:=NI.oY o;have z1:=Dk a.v y.1 y.2;have z2:=Dk b.v z.1 z.2;have M:=yn a.v.natAbs b.v.natAbs (by omega) (by omega);obtain⟨H,t⟩:∃H,H=a.v.natAbs*b.v.natAbs/18446744073709551616:=⟨_,rfl⟩
    obtain⟨L,q⟩:∃L,L=a.v.natAbs*b.v.natAbs% 18446744073709551616:=⟨_,rfl⟩
    rw[<-t,<-q]at M;have C:a.v.natAbs*b.v.natAbs=H*18446744073709551616+L:=by omega
    clear t q
    by_cases c1:H=0/\L<=9223372036854775807
    ·obtain⟨rfl,q⟩:=c1;have u:(L:Int)<=9223372036854775807:=by omega
     have r:b5.wrap (L:Int)=L:=aP _ (by omega) (by omega);have A:b5.wrap (-(L:Int))= -L:=aP _ (by omega) (by omega);rw[C]at e;simp only[ha,hb]at e;rw[nP (by rw[<-e];split<;>omega) (by rw[<-e];split<;>omega),eQ]
     by_cases c2:a.v<0↔b.v<0
     ·rw[if_neg (by simp[c2])]at e;rw[<-e];simp[aa,w1,j,f,g,dA,cQ];refine e1 z1 ?_;simp[f,g];refine e1 z2 ?_;simp;refine e2 M ?_;simp[u,c2,aa,w1,j,f,g,r]
     ·rw[if_pos (by simp[c2])]at e;rw[<-e];simp[aa,w1,j,f,g,dA,cQ];refine e1 z1 ?_;simp[f,g];refine e1 z2 ?_;simp;refine e2 M ?_;simp[u,c2,aa,w1,j,f,g,r,A]
    ·simp[aa,w1,j,f,g,dA,cQ];refine e1 z1 ?_;simp[f,g];refine e1 z2 ?_;simp;refine e2 M ?_
     by_cases c2:H=0
     ·have c3:¬(L:Int)<=9223372036854775807:=fun h=>c1 ⟨c2,by omega⟩;simp[c2,c3]
     ·have c3:¬(H:Int)=0:=by omega
      simp[c2,c3]
 ·rintro⟨F,J⟩ ⟨k,l,m,x⟩;dsimp only at k l m x;subst x;simp[k,l,m];refine c1 E ?_;simp[k,l,m];refine c1 hq ?_;simp[k,l,m];refine c2 D ?_;simp;refine c2 w ?_;simp[k,l,m,aa]
  done
end Go.ak
