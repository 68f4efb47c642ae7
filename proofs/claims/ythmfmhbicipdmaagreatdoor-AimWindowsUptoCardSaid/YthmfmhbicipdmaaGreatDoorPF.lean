import Derived.Test.YthmfmhbicipdmaaGreatDoorPE
/- Parts of a proof. -/
set_option linter.unusedSimpArgs false
set_option linter.unusedVariables false
set_option linter.unusedSectionVars false
open Go.Proofs.Tryz
open Bool renaming and_eq_true->bV, or_eq_true->b2
open Classical renaming choose_spec->b3, choose->b4, em->b5
open Go.IntKind renaming u64->cb, i64->cc, wrap_i64->ce
open Go.Lib renaming bitLen->ch
open Int renaming natAbs_mul->ck, natAbs_natCast->cv, lt_trichotomy->cx, natCast_mul->cy, lt_of_le_of_lt->c6, le_of_lt->c9, ediv_le_self->da, ediv_nonneg->db, natAbs_sign_of_ne_zero->dg, lt_or_le->dk
open List renaming getElem?_eq_getElem->dl, range->dp, exists_cons_of_ne_nil->dq, take_of_length_le->dz, length_nil->ea, map_congr_left->eb, range_one->ec, mem_range->ed, map_take->ee, map_cons->ei, map_nil->ej
open List.cons renaming injEq->en
open Nat renaming mul_comm->eo, mod_eq_of_lt->eq, lt_of_lt_of_le->ew, div_lt_iff_lt_mul->e6, pow_le_pow_right->e7, lt_of_le_of_lt->e8, mod_lt->e9, pow_succ->fb, pow_pos->fd, mul_le_mul_right->fl, mul_le_mul_left->fm, pow_zero->fv, mul_lt_mul_of_pos_right->fw, add_mul->gb, div_add_mod->gc, lt_or_ge->ge, pow_add->gg, add_mul_mod_self_right->gi, mul_lt_mul''->gj, div_le_self->gm, add_sub_cancel->gt, one_mul->gw, le_refl->gx, mul_assoc->gy, add_comm->gE, mul_right_comm->g0, div_eq_of_lt->g4, lt_trans->g5, div_div_eq_div_mul->g6, div_one->g7, div_mul_le_self->g8, zero_mul->g9, zero_add->ha, add_zero->hb, zero_le->hd, pow_one->hg, min_eq_left->hj, add_sub_cancel_left->hl, mul_mod_mul_right->ho, mul_div_mul_right->hp, add_mul_div_right->hr, mul_one->ht, mul_mod_mul_left->hu, eq_zero_or_pos->hv, lt_of_succ_lt->hw, mul_ne_zero->hy, mod_add_div->hz, lt_succ_iff->hA, mul_le_mul->hB, add_assoc->hC, zero_mod->hD, sub_zero->hE, gcd->hF, beq->hG, or_comm->hH, mul_add->hJ, not_lt->hK
open Rat renaming divInt->hL, normalize_eq_mkRat->hM, sub_eq_add_neg->hN, num_eq_zero->hO
namespace Go.ah
open Go.Proofs
set_option maxHeartbeats 4000000
set_option maxRecDepth 100000
theorem zp(n:Nat):cb.wrap (n:Int)=(n% wB:Nat):=by
 rw[show cb.wrap (n:Int)=(n:Int)% 18446744073709551616 from rfl];rfl
theorem xG(x s:Nat)(hs:s<64):cb.wrap ((x:Int)*2^(min s cb.bits))=(x*2^s% wB:Nat):=by
 rw[show cb.bits=64 from rfl,hj (by omega),<-zp];congr 1
theorem uS(x s:Nat)(hs:s<=64):(x:Int).fdiv (2^(min s cb.bits))=(x/2^s:Nat):=by
 rw[show cb.bits=64 from rfl,hj hs,show(2:Int)^s=((2^s:Nat):Int)by push_cast;rfl,Int.fdiv_eq_ediv_of_nonneg _ (Int.natCast_nonneg _)];rfl
theorem Fm(a b:Nat)(c:a<wB)(d:b<wB):cb.wrap ((a% 2^cb.bits|||b% 2^cb.bits:Nat):Int)=(a|||b:Nat):=by
 rw[show(2^cb.bits:Nat)=wB from rfl,eq c,eq d,zp,eq];exact Nat.or_lt_two_pow (n:=64) c d
def cu(a s i:Nat):Nat:=if i=0 then 0 else ae wB a (i-1)/2^(64-s)
def gG(a s i k:Nat):Nat:=if k<i then ae wB (a*2^s) k else if k=i then cu a s i else 0
theorem zK{s:Nat}(hs:s<64):2^s*2^(64-s)=wB:=by rw[<-gg,show s+(64-s)=64 by omega];rfl
theorem Nk(a s i:Nat)(hs:s<64):cu a s i|||(ae wB a i*2^s% wB)=ae wB (a*2^s) i:=by
 have c:0<2^s:=fd (by decide);have d:0<2^(64-s):=fd (by decide);have b:=zK hs;have hc:cu a s i<2^s:=by
  rw[cu];split
  ·exact c
  ·rw[e6 d,b];exact ct bn _ _
 have e:ae wB a i*2^s% wB=ae wB a i% 2^(64-s)*2^s:=by
  rw[<-b,eo,hu,eo]
 rw[hH,e,DY hc,<-e];cases i with
 |zero=>rw[cu,if_pos rfl,hb,<-b];exact(Yb a).symm
 |succ i=>rw[cu,if_neg (by omega),gt,<-b];exact(Yc c d a i).symm
theorem Cf{n:Nat}{f g:Nat->Nat}(h:∀k,k<n->f k=g k):cj n f=cj n g:=by
 rw[cj,cj];exact eb fun k hk=>by rw[h k (ed.1 hk)]
theorem axu(a s n:Nat)(hs:s<64)(h:ae wB a n=0):cu a s n=ae wB (a*2^s) n:=by
 rw[<-Nk a s n hs,h,g9,hD,Nat.or_zero]
theorem Lu(a s:Nat)(hs:s<64)(A:(aB wB a).length<=1000000):cA prog 332 [] [.p (eN a),.p (.int .i64 s)] [.arr .exact 0 1 (cj ((aB wB a).length+1) (ae wB (a*2^s)))] (.sl 0 0 1 0 ((aB wB a).length+1)):=by
 refine fh nf PG mix (by simp[f332]) ?_;have C:∀i(h:i<(aB wB a).length),(aB wB a)[i]=ae wB a i:=fun i h=>eD bn h;have F:=@Dy a;simp only[eN];generalize aB wB a=x at*;obtain⟨n,c⟩:∃n,x.length=n:=⟨_,rfl⟩
 rw[c]at A;have J:cc.wrap ((n:Int)+1)=(n:Int)+1:=bR (by omega);simp[f332,c,J];refine⟨⟨by omega,by simp only[cN];omega⟩,?_⟩;rw[C8 (f:=gG a s 0) (by intro j;simp[gG,cu])];refine lp (α:=Nat) (fun i=>⟨[(14,.p (.int .i64 i)),(13,.p (.int .i64 n)),(12,.p (.seq (x.map fun x:Nat=>.int .u64 x))),(5,.sl 0 0 1 0 (n+1)),(1,.p (.int .i64 s))],[.arr .exact 0 1 (cj (n+1) (gG a s i))]⟩)
  (fun i=>i<=n) (fun i=>n-i) 0 (by simp) ?_ (he:=by simp)
 intro i k1;have w:=bR (i:=i) (by omega)
 by_cases hi:i<n
 ·have l:i<x.length:=by rw[c];exact hi
  have hx:=C i l;have e:i<n+1:=by omega
  have o:=mV (gG a s i) e;have E:ae wB a i*2^s% wB<wB:=e9 _ (by decide);have B:gG a s i i<wB:=by
   rw[gG,if_neg (by omega),if_pos rfl,cu];split
   ·decide
   ·exact e8 (gm _ _) (ct bn _ _)
  have e1:=xG (ae wB a i) s hs;have e2:=Fm (gG a s i i) (ae wB a i*2^s% wB) B E;have e3:gG a s i i|||(ae wB a i*2^s% wB)=ae wB (a*2^s) i:=by rw[<-Nk a s i hs,gG,if_neg (by omega),if_pos rfl]
  rw[e3]at e2;have y:cc.wrap (64-(s:Int))=((64-s:Nat):Int):=by rw[aQ _ (by omega) (by omega)];omega
  have e4:=uS (ae wB a i) (64-s) (by omega);have r:i+1<n+1:=by omega
  have u:=pP (n:=n+1) (i:=i) (f:=gG a s i) (g:=fun k=>if k=i then ae wB (a*2^s) i else gG a s i k) (if_pos rfl) (fun k hk=>if_neg hk);have G:=pP (n:=n+1) (i:=i+1) (v:=ae wB a i/2^(64-s)) (f:=fun k=>if k=i then ae wB (a*2^s) i else gG a s i k) (g:=gG a s (i+1)) (by
   simp[gG,cu]) (fun k hk=>by
   by_cases d:k=i
   ·subst d;simp[gG]
   ·simp only[gG,d,if_false]
    by_cases b:k<i
    ·rw[if_pos (by omega),if_pos b]
    ·rw[if_neg (by omega),if_neg hk,if_neg b])
  have D:=mV (n:=n+1) (fun k=>if k=i then ae wB (a*2^s) i else gG a s i k) r;have H:s=0->cj (n+1) (fun k=>if k=i then ae wB (a*2^s) i else gG a s i k)=cj (n+1) (gG a s (i+1)):=fun h=>by
   have K:ae wB a i/2^(64-s)=0:=by rw[h];exact g4 (ct bn _ _)
   refine Cr fun k=>?_
   by_cases d:k=i
   ·subst d;simp[gG]
   ·simp only[gG,d,if_false]
    by_cases b:k<i
    ·rw[if_pos b,if_pos (by omega)]
    ·by_cases q:k=i+1
     ·rw[q,if_neg (by omega),if_neg (by omega),if_pos rfl,cu,if_neg (by omega),gt,K]
     ·rw[if_neg b,if_neg (by omega),if_neg q]
  generalize ae wB a i*2^s% wB=L at*;generalize ae wB a i/2^(64-s)=M at*;generalize (fun k=>if k=i then ae wB (a*2^s) i else gG a s i k)=g1 at*;obtain⟨t,I⟩:∃t,t=64-s:=⟨_,rfl⟩
  rw[<-I]at y e4
  by_cases m:0<s
  ·simp[c,hi,e,l,hx,o,e1,e2,m,y,e4,w,u,r,D,G,aa,aL,bF];refine⟨⟨by rfl,by rfl,by rfl⟩,?_⟩;refine⟨by omega,?_⟩;exact rd (i+1) (show i+1<=n by omega)
  ·have z:s=0:=by omega
   simp[c,hi,e,l,hx,o,e1,e2,m,w,u,H z,aa,aL,bF];refine⟨⟨by rfl,by rfl,by rfl⟩,?_⟩;exact rd (i+1) (show i+1<=n by omega)
 have:i=n:=by omega
 subst this;simp[c];refine .inl (Cf fun k hk=>?_);rw[gG]
 by_cases b:k<i
 ·rw[if_pos b]
 ·obtain rfl:k=i:=by omega
  rw[if_neg b,if_pos rfl,axu a s k hs (F (by omega))]
theorem yH:∀(n x:Nat),x<=n->0<x->x<2^64->1<=ch x/\2^(ch x-1)<=x/\x<2^ch x
 |0,x,h,a,_=>by omega
 |n+1,x,h,a,c=>by
  have d:=Lib.bitLen_half x (by omega) c
  by_cases b:x=1
  ·subst b;decide
  ·obtain⟨i1,i2,i3⟩:=yH n (x/2) (by omega) (by omega) (by omega);rw[d];generalize ch (x/2)=L at*;obtain⟨k,rfl⟩:∃k,L=k+1:=⟨L-1,by omega⟩
   rw[show 1+(k+1)=k+2 by omega,show k+2-1=k+1 by omega,fb,fb];rw[fb]at i3;simp only[gt]at i2;omega
theorem QF{x:Nat}(a:0<x)(h:x<2^64):ch x<=64:=by
 obtain⟨_,b,_⟩:=yH x x (gx _) a h;have:=(Nat.pow_lt_pow_iff_right (show 1<2 by decide)).1 (e8 b h);omega
def wH:Nat:=4294967296
theorem wHH:wH*wH=wB:=rfl
theorem MG{y:Nat}(a:0<y)(h:y<2^64):∃s,s<64/\ch y+s=64/\wB<=2*(y*2^s)/\y*2^s<wB:=by
 obtain⟨d,b,c⟩:=yH y y (gx _) a h;have e:=QF a h;refine⟨64-ch y,by omega,by omega,?_,?_⟩
 ·have:=fl (2^(64-ch y)) b;rw[<-gg,show ch y-1+(64-ch y)=63 by omega]at this;simp only[wB];omega
 ·have:=fw c (fd (show 0<2 by decide) (n:=64-ch y));rw[<-gg,show ch y+(64-ch y)=64 by omega]at this;simp only[wB];omega
structure SQ(hi lo y s:Nat) where
 Y:Nat
 v1:Nat
 v0:Nat
 T:Nat
 u:Nat
 u1:Nat
 u0:Nat
 q1:Nat
 R:Nat
 q0:Nat
 hY:Y=y*2^s
 eY:Y=v1*wH+v0
 Bb:v1<wH
 lY:v0<wH
 uW:wH<=2*v1
 xL:T<Y
 AR:hi*2^s<wB
 Fo:hi*2^s|||lo/2^(64-s)=T
 eu:u=lo*2^s% wB
 ED:u1=u/wH
 EC:u0=u% wH
 Ba:u1<wH
 A9:u0<wH
 oW:q1=hq wH v1 v0 T u1
 A3:q1<wH
 eR:R=T*wH+u1-q1*Y
 xJ:R<Y
 So:q1*Y<=T*wH+u1
 xq:q0=hq wH v1 v0 R u0
 A2:q0<wH
 Sn:q0*Y<=R*wH+u0
 DC:q1*wH+q0=(hi*wB+lo)/y
 rem:(R*wH+u0-q0*Y)/2^s=(hi*wB+lo)% y
theorem azA{hi lo y:Nat}(n:hi<y)(G:y<wB)(A:lo<wB):∃s,s<64/\ch y+s=64/\Nonempty (SQ hi lo y s):=by
 obtain⟨s,hs,v,H,l⟩:=MG (y:=y) (by omega) G;have f:=zK hs;have a:0<2^s:=fd (by decide);have w:0<2^(64-s):=fd (by decide);refine⟨s,hs,v,⟨?_⟩⟩;have e0:y*2^s=y*2^s/wH*wH+y*2^s% wH:=by rw[eo _ wH,gc]
 have D:y*2^s% wH<wH:=e9 _ (by decide);have E:y*2^s/wH<wH:=by rw[e6 (by decide)];exact l
 have F:wH<=2*(y*2^s/wH):=by simp only[wH,wB]at*;omega
 have z:lo/2^(64-s)<2^s:=by rw[e6 w,f];exact A
 have t:hi*2^s<wB:=g5 (fw n a) l;have g:hi*2^s+lo/2^(64-s)<y*2^s:=by
  have:=fl (2^s) (show hi+1<=y from n);rw[gb,gw]at this;omega
 have B:hi*2^s|||lo/2^(64-s)=hi*2^s+lo/2^(64-s):=DY z
 have m:lo*2^s% wB/wH<wH:=by rw[e6 (by decide)];exact e9 _ (by decide)
 have b:lo*2^s% wB% wH<wH:=e9 _ (by decide);have h:(hi*wB+lo)*2^s=((hi*2^s+lo/2^(64-s))*wH+lo*2^s% wB/wH)*wH+lo*2^s% wB% wH:=by
  have e1:lo*2^s=lo/2^(64-s)*wB+lo*2^s% wB:=by
   have e2:lo*2^s/wB=lo/2^(64-s):=by
    rw[<-f,eo lo,Nat.mul_div_mul_left _ _ a]
   rw[<-e2,eo _ wB,gc]
  have e3:lo*2^s% wB=lo*2^s% wB/wH*wH+lo*2^s% wB% wH:=by rw[eo _ wH,gc]
  rw[gb,g0,e1,gb (_*wH),gy (_+_) wH wH,wHH,gb];generalize hi*2^s*wB=a1;rw[<-e1];generalize lo*2^s% wB=a2 at*;generalize lo/2^(64-s)*wB=a3 at*;omega
 have k:0<y*2^s:=by omega
 obtain⟨b1,d⟩:=aAe (Y:=y*2^s) (U:=(hi*wB+lo)*2^s) (c:=wH) k;have i:(hi*wB+lo)*2^s/wH=(hi*2^s+lo/2^(64-s))*wH+lo*2^s% wB/wH:=by
  rw[h,gE,hr _ _ (by decide),g4 b,ha]
 have j:(hi*wB+lo)*2^s% wH=lo*2^s% wB% wH:=by
  rw[h,gE,gi,eq b]
 rw[i,j,hp _ _ a]at b1;rw[i,j,eo _ (2^s),eo y,hu]at d;rw[eo (2^s) y]at d;generalize x:y*2^s=Y at*;generalize hi*2^s+lo/2^(64-s)=T at*;generalize C:lo*2^s% wB=u at*;have r:=Ok (T:=T) (c:=wH) (u1:=u/wH) (v1:=Y/wH) (v0:=Y% wH);rw[<-e0]at r;have q:=Ok (T:=(T*wH+u/wH)% Y) (c:=wH) (u1:=u% wH) (v1:=Y/wH) (v0:=Y% wH);rw[<-e0]at q;have p:hq wH (Y/wH) (Y% wH) T (u/wH)=(T*wH+u/wH)/Y:=by rw[hq,<-e0]
 have o:hq wH (Y/wH) (Y% wH) ((T*wH+u/wH)% Y) (u% wH)=((T*wH+u/wH)% Y*wH+u% wH)/Y:=by rw[hq,<-e0]
 have e:(T*wH+u/wH)% Y<Y:=e9 _ k;exact{
  Y:=Y,v1:=Y/wH,v0:=Y% wH,T:=T,u:=u,u1:=u/wH,u0:=u% wH
  q1:=hq wH (Y/wH) (Y% wH) T (u/wH),R:=(T*wH+u/wH)% Y,q0:=hq wH (Y/wH) (Y% wH) ((T*wH+u/wH)% Y) (u% wH)
  hY:=x.symm,eY:=e0,Bb:=E,lY:=D,uW:=F,xL:=g,AR:=t,Fo:=B,eu:=C.symm,ED:=rfl,EC:=rfl,Ba:=m,A9:=b
  oW:=rfl,A3:=Rg (by rw[<-e0];exact g) m,eR:=r.symm,xJ:=e
  So:=by rw[p];exact g8 _ _
  xq:=rfl,A2:=Rg (by rw[<-e0];exact e) b
  Sn:=by rw[o];exact g8 _ _
  DC:=by rw[p,o,<-b1]
  rem:=by rw[q,<-d,Nat.mul_div_cancel_left _ a]}
section
variable[Gl]{P:Program}{ag:FuncId->Bool}{q:Nat×Nat}
theorem sC{b:Code}{Q:bw->St->Prop}{s:St}{id:Nat}(R:St->Prop)(f:eM P ag q (.loop b) (rL id (rW R (fun _ _=>False))) s)(c:∀s',R s'->Q .normal s'):eM P ag q (.loop b) (rL id Q) s:=by
 refine nQ _ (fun e s a=>?_) f;cases e with
 |normal=>exact c s a
 |exit i=>
  simp only[rL,oD]at a⊢
  by_cases d:i=id
  ·simp[d,rW]at a⊢;exact c s a
  ·simp[d,rW]at a
 |ret=>exact a.elim
end
theorem LC(a:Nat)(b:a<wB):cb.wrap ((a% 2^cb.bits&&&4294967295% 2^cb.bits:Nat):Int)=(a% wH:Nat):=by
 rw[show(2^cb.bits:Nat)=wB from rfl,eq b,show 4294967295% wB=2^32-1 from rfl,Nat.and_two_pow_sub_one_eq_mod,zp];rw[show(2:Nat)^32=wH from rfl,eq (ew (e9 _ (by decide)) (show wH<=wB by decide))]
theorem SO{a b c:Int}{R:Nat}(h:a+b-c=R)(hR:R<wB):cb.wrap (cb.wrap (cb.wrap a+b)-cb.wrap c)=R:=by
 show(((a% 18446744073709551616+b)% 18446744073709551616)-c% 18446744073709551616)% 18446744073709551616=R;have:R<18446744073709551616:=hR;omega
theorem OD(hi lo y:Nat)(aB:hi<y)(ai:y<wB)(ag:lo<wB):ar prog 330 [.int .u64 hi,.int .u64 lo,.int .u64 y] (.aE [.int .u64 ((hi*wB+lo)/y:Nat),.int .u64 ((hi*wB+lo)% y:Nat)]):=by
 refine aI nf PH mix (by simp[f330]) ?_;have H:¬(y:Int)=0:=by omega
 have N:¬(y:Int)<=hi:=by omega
 have ae:¬y<=hi:=by omega
 have ad:¬y=0:=by omega
 by_cases ac:hi=0
 ·subst ac;have af:cb.wrap ((lo:Int)/y)=(lo:Int)/y:=fB _ (db (by omega) (by omega)) (c6 (da _ (by omega)) (by omega));have aw:(lo:Int).tmod y=(lo:Int)% y:=Int.tmod_eq_emod_of_nonneg (by omega);simp[f330,H,N,ad,ae,af,aw]
 obtain⟨s,hs,aP,⟨Y,b,v0,T,u,u1,u0,q1,R,q0,ab,eY,Bb,lY,uW,xL,AR,Fo,eu,ED,EC,Ba,A9,oW,A3,eR,xJ,So,xq,A2,Sn,DC,rem⟩⟩:=azA aB ai ag;have az:=PQ y ai;obtain⟨t,ah⟩:∃t,t=64-s:=⟨_,rfl⟩
 have O:wH=4294967296:=rfl;have ax:wB=18446744073709551616:=rfl;have X:Y<wB:=by
  rw[O]at Bb lY eY;rw[ax];omega
 have av:cb.wrap (64-((ch y:Nat):Int))=s:=by rw[fB _ (by omega) (by omega)];omega
 have f2:cb.wrap (64-(s:Int))=t:=by rw[fB _ (by omega) (by omega)];omega
 have f3:cb.wrap ((y:Int)*2^(min s cb.bits))=Y:=by rw[xG y s hs,<-ab,eq X]
 have f4:(Y:Int).fdiv (2^(min 32 cb.bits))=b:=by
  rw[uS Y 32 (by omega)];rw[O]at lY eY;congr 1;omega
 have f5:cb.wrap ((hi:Int)*2^(min s cb.bits))=(hi*2^s:Nat):=by rw[xG hi s hs,eq AR]
 have f6:(lo:Int).fdiv (2^(min t cb.bits))=(lo/2^t:Nat):=uS lo t (by omega);have f7:=Fm (hi*2^s) (lo/2^t) AR (e8 (gm _ _) ag);rw[ah,Fo,<-ah]at f7;have f8:cb.wrap ((lo:Int)*2^(min s cb.bits))=u:=by rw[xG lo s hs,<-eu]
 have aM:u<wB:=by rw[eu];exact e9 _ (by decide)
 have f9:(u:Int).fdiv (2^(min 32 cb.bits))=u1:=by
  rw[uS u 32 (by omega)];congr 1;rw[ED];rfl
 have d:0<b:=by rw[O]at uW;omega
 have al:¬b=0:=by omega
 have am:¬(b:Int)=0:=by omega
 have aN:T<wB:=by omega
 generalize hi*2^s=aO at*;generalize lo/2^t=aQ at*;have aF:T/b<=wH+1:=Rf d (by rw[<-eY];exact xL) uW lY;have aK:T/b*b+T% b=T:=by rw[eo,gc]
 have aR:T% b<b:=e9 _ d;have aH:=Ol (T:=T) (u1:=u1) d lY Ba;have g1:cb.wrap ((T:Int)/b)=(T/b:Nat):=by rw[fB _ (db (by omega) (by omega)) (c6 (da _ (by omega)) (by omega))];rfl
 generalize T/b=K at*;generalize T% b=aj at*;have g2:cb.wrap ((T:Int)-cb.wrap ((K:Int)*b))=aj:=by
  have e:((K*b:Nat):Int)=(K:Int)*b:=by push_cast;rfl
  rw[fB ((K:Int)*b) (by omega) (by omega),fB _ (by omega) (by omega)];omega
 have b1:=LC Y X;have aa:=LC u aM;rw[show Y% wH=v0 by rw[eY,gE,gi,eq lY]]at b1;rw[<-EC]at aa;have aY:b<4294967296:=Bb;have aW:v0<4294967296:=lY;have aV:u1<4294967296:=Ba;have aU:u0<4294967296:=A9;have aX:4294967296<=2*b:=uW;have aG:R/b<=wH+1:=Rf d (by rw[<-eY];exact xJ) uW lY;have aL:R/b*b+R% b=R:=by rw[eo,gc]
 have aT:R% b<b:=e9 _ d;have ap:R<wB:=by omega
 have aJ:=Ol (T:=R) (u1:=u0) d lY A9;have aC:cb.wrap ((R:Int)/b)=(R/b:Nat):=by rw[fB _ (db (by omega) (by omega)) (c6 (da _ (by omega)) (by omega))];rfl
 generalize R/b=L at*;generalize R% b=ak at*;have aD:cb.wrap ((R:Int)-cb.wrap ((L:Int)*b))=ak:=by
  have e:((L*b:Nat):Int)=(L:Int)*b:=by push_cast;rfl
  rw[fB ((L:Int)*b) (by omega) (by omega),fB _ (by omega) (by omega)];omega
 have an:cb.wrap (cb.wrap (cb.wrap ((T:Int)*4294967296)+u1)-cb.wrap ((q1:Int)*Y))=R:=by
  refine SO (h:=?_) (hR:=ap);have e1:((T*wH:Nat):Int)=(T:Int)*4294967296:=by push_cast;rfl
  have e2:((q1*Y:Nat):Int)=(q1:Int)*Y:=by push_cast;rfl
  omega
 have M2:cb.wrap (cb.wrap ((q1:Int)*4294967296)+q0)=((q1*wH+q0:Nat):Int):=by
  have H:q1*4294967296+q0<18446744073709551616:=by
   have N:q1<4294967296:=A3;have af:q0<4294967296:=A2;omega
  rw[fB ((q1:Int)*4294967296) (by omega) (by omega),fB _ (by omega) (by omega)];push_cast;rfl
 obtain⟨Z,P⟩:∃Z,Z=R*wH+u0-q0*Y:=⟨_,rfl⟩
 have aq:Z<wB:=by
  have H:Z/2^s<y:=by rw[P,rem];exact e9 _ (by omega)
  rw[e6 (fd (by decide)),<-ab]at H;omega
 have ao:cb.wrap (cb.wrap (cb.wrap ((R:Int)*4294967296)+u0)-cb.wrap ((q0:Int)*Y))=Z:=by
  refine SO (h:=?_) (hR:=aq);have e1:((R*wH:Nat):Int)=(R:Int)*4294967296:=by push_cast;rfl
  have e2:((q0*Y:Nat):Int)=(q0:Int)*Y:=by push_cast;rfl
  omega
 have M:=uS Z s (by omega);rw[P,rem]at M;rw[<-P]at M;rw[DC]at M2;simp[f330,H,N,ad,ae,ac];refine c1 az ?_;simp[av,f2,f3,f4,f5,f6,f7,f8,f9,al,am,g1,g2,b1,aa];refine sC (fun s'=>aS s'.env 15=.p (.int .u64 q1)/\aS s'.env 14=.p (.int .u64 u0)/\aS s'.env 13=.p (.int .u64 u1)/\aS s'.env 11=.p (.int .u64 T)/\aS s'.env 10=.p (.int .u64 v0)/\aS s'.env 9=.p (.int .u64 b)/\aS s'.env 8=.p (.int .u64 s)/\aS s'.env 2=.p (.int .u64 Y)/\s'.heap=[]) ?_ ?_
 ·refine lp (α:=Nat×Nat) (fun a=>⟨[(16,.p (.int .u64 a.2)),(15,.p (.int .u64 a.1)),(14,.p (.int .u64 u0)),(13,.p (.int .u64 u1)),(11,.p (.int .u64 T)),(10,.p (.int .u64 v0)),(9,.p (.int .u64 b)),(8,.p (.int .u64 s)),(2,.p (.int .u64 Y))],[]⟩) (fun a=>a.1*b+a.2=T/\hq wH b v0 T u1<=a.1/\a.2<wH/\a.1<=wH+1) (fun a=>a.1) (K,aj) ⟨aK,aH,by omega,aF⟩ ?_;rintro⟨x,r⟩ ⟨k1,k2,k3,k4⟩;dsimp only at k1 k2 k3 k4;have aE:r<4294967296:=k3;have W:x<=4294967297:=k4;have g:cb.wrap ((x:Int)*v0)=(x*v0:Nat):=by
   have:=hB W (show v0<=4294967295 by omega);rw[fB _ (by rw[<-cy];omega) (by rw[<-cy];omega)];push_cast;rfl
  have v:cb.wrap (4294967296*(r:Int))=4294967296*r:=fB _ (by omega) (by omega);have w:cb.wrap (4294967296*(r:Int)+u1)=4294967296*r+u1:=fB _ (by omega) (by omega);have m:cb.wrap ((r:Int)+b)=r+b:=fB _ (by omega) (by omega)
  by_cases i:4294967296<=x\/4294967296*r+u1<x*v0
  ·have j:=P5 d (show 0<wH by decide) k1 k2 (i.imp (fun h=>⟨h,by rw[<-oW];exact A3⟩) id);obtain⟨k,rfl⟩:∃k,x=k+1:=⟨x-1,by
    rcases i with h|h
    ·omega
    ·rcases hv x with e|e
     ·rw[e]at h;omega
     ·omega⟩
   have l:cb.wrap (k:Int)=k:=fB _ (by omega) (by omega);have k5:k*b+(r+b)=T:=by rw[<-k1,gb];omega
   rw[gt]at j;have kB:k<=wH+1:=by omega
   by_cases Q:4294967296<=r+b
   ·have hq:=MZ d (by rw[<-eY];exact xL) lY k5 Q j;have f:(4294967296:Int)<=(r:Int)+b:=by omega
    rw[<-oW]at hq;subst hq;rcases ge (k+1) 4294967296 with hc|hc
    ·have n:((k:Int)+1<4294967296):=by omega
     have c:¬((4294967296:Int)<=(k:Int)+1):=by omega
     have o:(4294967296*(r:Int)+u1<((k+1)*v0:Nat)):=by omega
     have q:4294967296*r+u1<(k+1)*v0:=by omega
     generalize (k+1)*v0=J at*;push_cast at g;simp[g,v,w,l,m,n,c,o,q,f]
    ·have c:((4294967296:Int)<=(k:Int)+1):=by omega
     simp[l,m,c,f]
   ·have f:¬(4294967296:Int)<=(r:Int)+b:=by omega
    rcases ge (k+1) 4294967296 with hc|hc
    ·have n:((k:Int)+1<4294967296):=by omega
     have c:¬((4294967296:Int)<=(k:Int)+1):=by omega
     have o:(4294967296*(r:Int)+u1<((k+1)*v0:Nat)):=by omega
     have q:4294967296*r+u1<(k+1)*v0:=by omega
     generalize (k+1)*v0=J at*;push_cast at g;simp[g,v,w,l,m,n,c,o,q,f];exact rd (k,r+b) ⟨k5,j,show r+b<4294967296 by omega,kB⟩
    ·have c:((4294967296:Int)<=(k:Int)+1):=by omega
     simp[l,m,c,f];exact rd (k,r+b) ⟨k5,j,show r+b<4294967296 by omega,kB⟩
  ·have aA:¬4294967296<=x:=fun h=>i (.inl h);have U:¬4294967296*r+u1<x*v0:=fun h=>i (.inr h);have hq:=Dt d (show 0<wH by decide) k1 k2 (hK.1 U);rw[<-oW]at hq;subst hq;have S:¬(4294967296:Int)<=x:=by omega
   have V:¬(4294967296*(r:Int)+u1<(x*v0:Nat)):=by omega
   generalize x*v0=J at*;simp[g,v,w,S,V]
 rintro⟨au,ay⟩ ⟨z,A,B,C,D,E,F,G,I⟩;dsimp only at z A B C D E F G I;subst I;simp[z,A,B,C,D,E,F,G,an,al,am,aC,aD];refine sC (fun s'=>aS s'.env 18=.p (.int .u64 q0)/\aS s'.env 15=.p (.int .u64 q1)/\aS s'.env 17=.p (.int .u64 R)/\aS s'.env 14=.p (.int .u64 u0)/\aS s'.env 10=.p (.int .u64 v0)/\aS s'.env 9=.p (.int .u64 b)/\aS s'.env 8=.p (.int .u64 s)/\aS s'.env 2=.p (.int .u64 Y)/\s'.heap=[]) ?_ ?_
 ·refine lp (α:=Nat×Nat) (fun a=>⟨[(16,.p (.int .u64 a.2)),(18,.p (.int .u64 a.1)),(15,.p (.int .u64 q1)),(17,.p (.int .u64 R)),(14,.p (.int .u64 u0)),(10,.p (.int .u64 v0)),(9,.p (.int .u64 b)),(8,.p (.int .u64 s)),(2,.p (.int .u64 Y))],[]⟩) (fun a=>a.1*b+a.2=R/\hq wH b v0 R u0<=a.1/\a.2<wH/\a.1<=wH+1) (fun a=>a.1) (L,ak) ⟨aL,aJ,by omega,aG⟩ ?_ (he:=by simp[z,A,B,C,D,E,F,G]);rintro⟨x,r⟩ ⟨k1,k2,k3,k4⟩;dsimp only at k1 k2 k3 k4;have aE:r<4294967296:=k3;have W:x<=4294967297:=k4;have g:cb.wrap ((x:Int)*v0)=(x*v0:Nat):=by
   have:=hB W (show v0<=4294967295 by omega);rw[fB _ (by rw[<-cy];omega) (by rw[<-cy];omega)];push_cast;rfl
  have v:cb.wrap (4294967296*(r:Int))=4294967296*r:=fB _ (by omega) (by omega);have w:cb.wrap (4294967296*(r:Int)+u0)=4294967296*r+u0:=fB _ (by omega) (by omega);have m:cb.wrap ((r:Int)+b)=r+b:=fB _ (by omega) (by omega)
  by_cases i:4294967296<=x\/4294967296*r+u0<x*v0
  ·have j:=P5 d (show 0<wH by decide) k1 k2 (i.imp (fun h=>⟨h,by rw[<-xq];exact A2⟩) id);obtain⟨k,rfl⟩:∃k,x=k+1:=⟨x-1,by
    rcases i with h|h
    ·omega
    ·rcases hv x with e|e
     ·rw[e]at h;omega
     ·omega⟩
   have l:cb.wrap (k:Int)=k:=fB _ (by omega) (by omega);have k5:k*b+(r+b)=R:=by rw[<-k1,gb];omega
   rw[gt]at j;have kB:k<=wH+1:=by omega
   by_cases Q:4294967296<=r+b
   ·have hq:=MZ d (by rw[<-eY];exact xJ) lY k5 Q j;have f:(4294967296:Int)<=(r:Int)+b:=by omega
    rw[<-xq]at hq;subst hq;rcases ge (k+1) 4294967296 with hc|hc
    ·have n:((k:Int)+1<4294967296):=by omega
     have c:¬((4294967296:Int)<=(k:Int)+1):=by omega
     have o:(4294967296*(r:Int)+u0<((k+1)*v0:Nat)):=by omega
     have q:4294967296*r+u0<(k+1)*v0:=by omega
     generalize (k+1)*v0=J at*;push_cast at g;simp[g,v,w,l,m,n,c,o,q,f]
    ·have c:((4294967296:Int)<=(k:Int)+1):=by omega
     simp[l,m,c,f]
   ·have f:¬(4294967296:Int)<=(r:Int)+b:=by omega
    rcases ge (k+1) 4294967296 with hc|hc
    ·have n:((k:Int)+1<4294967296):=by omega
     have c:¬((4294967296:Int)<=(k:Int)+1):=by omega
     have o:(4294967296*(r:Int)+u0<((k+1)*v0:Nat)):=by omega
     have q:4294967296*r+u0<(k+1)*v0:=by omega
     generalize (k+1)*v0=J at*;push_cast at g;simp[g,v,w,l,m,n,c,o,q,f];exact rd (k,r+b) ⟨k5,j,show r+b<4294967296 by omega,kB⟩
    ·have c:((4294967296:Int)<=(k:Int)+1):=by omega
     simp[l,m,c,f];exact rd (k,r+b) ⟨k5,j,show r+b<4294967296 by omega,kB⟩
  ·have aA:¬4294967296<=x:=fun h=>i (.inl h);have U:¬4294967296*r+u0<x*v0:=fun h=>i (.inr h);have hq:=Dt d (show 0<wH by decide) k1 k2 (hK.1 U);rw[<-xq]at hq;subst hq;have S:¬(4294967296:Int)<=x:=by omega
   have V:¬(4294967296*(r:Int)+u0<(x*v0:Nat)):=by omega
   generalize x*v0=J at*;simp[g,v,w,S,V]
 rintro⟨au,ay⟩ ⟨z,A,B,C,D,E,F,G,I⟩;dsimp only at z A B C D E F G I;subst I;simp[z,A,B,C,D,E,F,G,M2,ao,M]
def dH(j n:Nat)(g f:Nat->Nat)(k:Nat):Nat:=if j<=k/\k<j+n then f (k-j)else g k
theorem tC{j:Nat}{g f:Nat->Nat}:dH j 0 g f=g:=by
 funext k;rw[dH,if_neg (by omega)]
theorem yV{m j i:Nat}{g f:Nat->Nat}{v:Nat}(a:f i=v):(cj m (dH j i g f)).set (j+i) (.p (.int .u64 v))=cj m (dH j (i+1) g f):=by
 refine pP ?_ fun k hk=>?_
 ·rw[dH,if_pos (by omega),hl,a]
 ·rw[dH,dH]
  by_cases h:j<=k/\k<j+i
  ·rw[if_pos h,if_pos (by omega)]
  ·rw[if_neg h,if_neg (by omega)]
theorem yW{m j i:Nat}{g f:Nat->Nat}(h:j+i<m):(cj m (dH j i g f))[j+i]?=some (.p (.int .u64 (g (j+i)))):=by
 rw[mV _ h,dH,if_neg (by omega)]
theorem YR{j n:Nat}{g f a:Nat->Nat}:dH j n (dH j n g f) a=dH j n g a:=by
 funext k;rw[dH,dH,dH];split<;>rfl
theorem az1(X V m j n:Nat)(t:(aB wB V).length=n)(G:2<=n)(bj:j+n+1<=m)(bm:m<=1000002)(aO:X<V*wB^(j+1)):
 cA prog 333 [.arr .exact 0 1 (cj m (ae wB X))] [.sl 0 0 1 j (n+1),.p (eN V)] [.arr .exact 0 1 (cj m (ae wB (X% (V*wB^j))))] (.p (.int .u64 (X/(V*wB^j):Nat))):=by
 refine fh nf Ix mix (by simp[f333]) ?_;have l:=cm bn V;have I:wB^(n-1)<=V:=by
  rcases ge V (wB^(n-1))with h|h
  ·have:=dO bn (n-1) V h;omega
  ·exact h
 rw[t]at l;have U:∀i(h:i<(aB wB V).length),(aB wB V)[i]=ae wB V i:=fun i h=>eD bn h;have aC:0<V:=CV bn G I;obtain⟨W,w⟩:∃W,X/wB^j=W:=⟨_,rfl⟩
 have af:W<V*wB:=by
  rw[<-w,e6 (fd (by decide)),gy,eo wB,<-fb];exact aO
 have T:W<wB^(n+1):=g5 af (by rw[fb];exact fw l (by decide));have aj:∀i,i<n+1->(cj m (ae wB X))[j+i]?=some (.p (.int .u64 (ae wB W i))):=fun i hi=>by rw[mV _ (by omega),<-w,rr]
 have aR:X/(V*wB^j)=W/V:=by rw[yE.2,w]
 have aF:∀f:Nat->Nat,(∀i,i<n+1->f i=ae wB (W% V) i)->cj m (dH j (n+1) (ae wB X) f)=cj m (ae wB (X% (V*wB^j))):=fun f hf=>Cf fun k hk=>by
  rw[yE.1,w,K0 bn,dH]
  by_cases u:k<j
  ·rw[if_neg (by omega),if_pos u]
  ·rw[if_neg u]
   by_cases H:k<j+(n+1)
   ·rw[if_pos (by omega),hf _ (by omega)]
   ·have e1:ae wB X k=0:=by
     obtain⟨e,rfl⟩:∃e,k=j+e:=⟨k-j,by omega⟩
     rw[<-rr,w];exact jG (ew T (e7 (by decide) (by omega)))
    have e2:ae wB (W% V) (k-j)=0:=jG (ew (e8 (Nat.mod_le _ _) T) (e7 (by decide) (by omega)));rw[if_neg (by omega),e1,e2]
 rw[aR];simp only[eN];generalize aB wB V=x at*;have az:∀i,i<n->i<x.length:=fun i h=>by omega
 have e1:cc.wrap ((n:Int)-1)=((n-1:Nat):Int):=by rw[aQ _ (by omega) (by omega)];omega
 have e2:cc.wrap ((n:Int)-2)=((n-2:Nat):Int):=by rw[aQ _ (by omega) (by omega)];omega
 obtain⟨b,E⟩:∃b,b=n-1:=⟨_,rfl⟩
 obtain⟨d,al⟩:∃d,d=n-2:=⟨_,rfl⟩
 rw[<-E]at e1;rw[<-al]at e2;have F:=U b (by omega);have aH:=U d (by omega);have ba:b<x.length:=by omega
 have bb:d<x.length:=by omega
 have L:x[b]?=some (ae wB V b):=by rw[dl ba,F]
 have a9:x[d]?=some (ae wB V d):=by rw[dl bb,aH]
 have O:b<n:=by omega
 have Y:d<n:=by omega
 have R:b<n+1:=by omega
 have Z:d<n+1:=by omega
 have av:=aj n (by omega);have g1:=aj b (by omega);have g2:=aj d (by omega);have aX:n=b+1:=by omega
 have ay:W/wB^n=ae wB W n:=by
  rw[ae,eq];rw[e6 (fd (by decide)),eo,<-fb];exact T
 have ag:W/wB^b=ae wB W n*wB+ae wB W b:=by rw[tg,<-aX,ay]
 simp[f333,-bt,t];rw[bt];simp[-bt,t];rw[bt];simp[-bt,t];rw[bt];simp[-bt,t];rw[bt];simp[-bt,t];refine join (fun s=>∃q r o:Nat,q*ae wB V b+(r+o*wB)=W/wB^b/\W/V<=q/\q<wB/\r<wB/\o<=1/\aS s.env 0=.sl 0 0 1 j (n+1)/\aS s.env 1=.p (.seq (x.map fun x:Nat=>.int .u64 x))/\aS s.env 5=.p (.int .i64 n)/\aS s.env 6=.p (.int .u64 q)/\aS s.env 7=.p (.int .u64 r)/\aS s.env 8=.p (.int .u64 o)/\s.heap=[.arr .exact 0 1 (cj m (ae wB X))]) ?_ ?_
 ·by_cases hc:ae wB V b<=ae wB W n
  ·have ah:(ae wB V b:Int)<=ae wB W n:=by omega
   simp[e1,e2,F,L,O,R,av,g1,ah,t,aa,aL,bF];refine e3 (rE (ae wB W b) (ae wB V b) 0 (by omega)) ?_;simp;have a1:=ct bn W b;have au:=ct bn V b;have aJ:ae wB W n=ae wB V b:=by
    have:=(Du bn (by omega) l af).1;rw[ay,<-E]at this;omega
   refine⟨18446744073709551615,(ae wB W b+ae wB V b)% wB,(ae wB W b+ae wB V b)/wB,?_,?_,by decide,e9 _ (by decide),?_,rfl,rfl,rfl⟩
   ·rw[ag,aJ];simp only[wB];omega
   ·have:=(Du bn (by omega) l af).2;simp only[wB]at this;omega
   ·simp only[wB]at*;omega
  ·have ah:¬(ae wB V b:Int)<=ae wB W n:=by omega
   simp[e1,e2,F,L,O,R,av,g1,ah,t,aa,aL,bF];refine e3 (OD (ae wB W n) (ae wB W b) (ae wB V b) (by omega) (ct bn _ _) (ct bn _ _)) ?_;simp;have a1:=ct bn W b;have au:=ct bn V b;refine⟨(ae wB W n*wB+ae wB W b)/ae wB V b,(ae wB W n*wB+ae wB W b)% ae wB V b,0,?_,?_,?_,?_,by omega,rfl,rfl,rfl⟩
   ·rw[ag,g9,hb,eo,gc]
   ·rw[<-ag,E];exact Oo bn G I l
   ·rw[e6 (by omega)];have:=fl wB (show ae wB W n+1<=ae wB V b by omega);rw[gb,gw]at this;rw[eo wB];omega
   ·exact g5 (e9 _ (by omega)) au
 rintro⟨aK,aU⟩ ⟨q,r,o,k1,k2,k3,k4,k5,y,z,A,B,an,ao,K⟩;dsimp only at y z A B an ao K;subst K;simp[y,z,A,B,an,ao];refine sC (fun s=>∃q:Nat,W/V<=q/\q<=W/V+1/\q<wB/\aS s.env 0=.sl 0 0 1 j (n+1)/\aS s.env 1=.p (.seq (x.map fun x:Nat=>.int .u64 x))/\aS s.env 5=.p (.int .i64 n)/\aS s.env 6=.p (.int .u64 q)/\s.heap=[.arr .exact 0 1 (cj m (ae wB X))]) ?_ ?_
 ·have a0:q*ae wB V b+(r+o*wB)=W/wB^b/\W/V<=q/\q<wB/\r<wB/\o<=1:=⟨k1,k2,k3,k4,k5⟩
  clear k1 k2 k3 k4 k5;refine lp (α:=Nat×Nat×Nat) (fun a=>⟨[(8,.p (.int .u64 a.2.2)),(7,.p (.int .u64 a.2.1)),(6,.p (.int .u64 a.1)),(5,.p (.int .i64 n)),(1,.p (.seq (x.map fun x:Nat=>.int .u64 x))),(0,.sl 0 0 1 j (n+1))],[.arr .exact 0 1 (cj m (ae wB X))]⟩)
   (fun a=>a.1*ae wB V b+(a.2.1+a.2.2*wB)=W/wB^b/\W/V<=a.1/\a.1<wB/\a.2.1<wB/\a.2.2<=1) (fun a=>a.1) (q,r,o) a0 ?_ (he:=by simp[y,z,A,B,an,ao])
  rintro⟨q,r,o⟩ ⟨k1,k2,k3,k4,k5⟩;dsimp only at k1 k2 k3 k4 k5
  by_cases aY:o=0
  ·subst aY;rw[g9,hb]at k1;have S:=zy q (ae wB V d) k3 (ct bn _ _);rw[show(18446744073709551616:Nat)=wB from rfl]at S;have bf:=gc (q*ae wB V d) wB;have bg:q*ae wB V d% wB<wB:=e9 _ (by decide);have ax:=fun h=>EG bn G I l (by rw[<-E];exact k1) k3 (by rw[<-al];exact h);have aw:=fun h=>P7 (q:=q) (r:=r) bn G I l (by rw[<-E];exact k1) (by rw[<-al];exact h);have bh:=ct bn W d;generalize q*ae wB V d% wB=lo at*;generalize q*ae wB V d/wB=hi at*;generalize q*ae wB V d=P at*;have v:=rE r (ae wB V b) 0 (by omega);simp[e1,e2,F,L,aH,a9,O,R,Y,Z,t];refine c2 S ?_;rcases Nat.lt_trichotomy hi r with h|h|h
   ·have hI:(hi:Int)<r:=by omega
    simp[hI];refine⟨q,k2,ax (by
     have:=fm wB (show hi+1<=r by omega);rw[hJ,ht,eo wB r]at this;omega),k3,rfl⟩
   ·subst h
    by_cases bk:lo<=ae wB W d
    ·have hI:(lo:Int)<=ae wB W d:=by omega
     simp[hI,e2,g2,Y,Z];exact⟨q,k2,ax (by rw[eo hi];omega),k3,rfl⟩
    ·have hI:¬(lo:Int)<=ae wB W d:=by omega
     have J:=aw (by rw[eo hi];omega);have a2:0<q:=e8 (hd _) J;obtain⟨k,rfl⟩:∃k,q=k+1:=⟨q-1,by omega⟩
     have w1:cb.wrap (k:Int)=k:=fB _ (by omega) (by omega);simp[hI,e1,e2,g2,O,R,Y,Z,F,L,w1,aa,aL,bF];refine c3 v ?_;simp;have z1:=hz (hi+ae wB V b) wB;have z2:k*ae wB V b+((hi+ae wB V b)% wB+(hi+ae wB V b)/wB*wB)=W/wB^b:=by
      rw[eo _ wB,z1,<-k1,gb,gw,hC,gE hi]
     have z3:=ct bn V b;have z4:(hi+ae wB V b)/wB<=1:=by
      have z5:=k4;simp only[wB]at z3 z5⊢;omega
     exact rd (k,(hi+ae wB V b)% wB,(hi+ae wB V b)/wB) ⟨z2,hA.1 J,hw k3,e9 _ (by decide),z4⟩
   ·have hI:¬(hi:Int)<r:=by omega
    have aN:¬(hi:Int)=r:=by omega
    have aP:=fm wB (show r+1<=hi by omega);rw[hJ,ht,eo wB r]at aP;have J:=aw (by omega);have a2:0<q:=e8 (hd _) J;obtain⟨k,rfl⟩:∃k,q=k+1:=⟨q-1,by omega⟩
    have w1:cb.wrap (k:Int)=k:=fB _ (by omega) (by omega);simp[hI,aN,e1,e2,g2,O,R,Y,Z,F,L,w1,aa,aL,bF];refine c3 v ?_;simp;have z1:=hz (r+ae wB V b) wB;have z2:k*ae wB V b+((r+ae wB V b)% wB+(r+ae wB V b)/wB*wB)=W/wB^b:=by
     rw[eo _ wB,z1,<-k1,gb,gw,hC,gE r]
    have z3:=ct bn V b;have z4:(r+ae wB V b)/wB<=1:=by
     have z5:=k4;simp only[wB]at z3 z5⊢;omega
    exact rd (k,(r+ae wB V b)% wB,(r+ae wB V b)/wB) ⟨z2,hA.1 J,hw k3,e9 _ (by decide),z4⟩
  ·have aZ:o=1:=by omega
   subst aZ;simp;exact⟨q,k2,EG bn G I l (by rw[<-E];exact k1) k3 (On bn (by omega) k3),k3,rfl⟩
 rintro⟨aK,aU⟩ ⟨q,k2,k3,k4,y,z,A,B,K⟩;dsimp only at y z A B K;subst K;have a3:q*V<wB^(n+1):=Wm k4 l;have aD:q*V<=W+wB^(n+1):=by omega
 obtain⟨D,ad⟩:∃D,D=W+wB^(n+1)-q*V:=⟨_,rfl⟩
 have aG:∀i,i<n+1->ar prog 343 [.int .u64 (ae wB W i),.int .u64 (ae wB (q*V) i),.int .u64 (ff wB (W+wB^(n+1)) (q*V) i)] (.aE [.int .u64 (ae wB D i),.int .u64 (ff wB (W+wB^(n+1)) (q*V) (i+1))]):=fun i hi=>by
  have h:=PN aD i;rw[<-ad,vO hi]at h;exact h
 have a5:∀i,(q*ae wB V i% wB+iT wB V q i+0)% wB=ae wB (q*V) i/\cb.wrap (((q*ae wB V i/wB:Nat):Int)+((q*ae wB V i% wB+iT wB V q i+0)/wB:Nat))=(iT wB V q (i+1):Nat):=fun i=>by
  obtain⟨u,H⟩:=Y4 (q:=q) (V:=V) bn i;have aM:=aKx (V:=V) bn k4 (i+1);rw[<-u,<-H];rw[<-H]at aM;generalize q*ae wB V i=P at*;generalize iT wB V q i=c at*;have e:P/wB+(P% wB+c+0)/wB=(P+c)/wB:=by simp only[wB];omega
  refine⟨by simp only[wB];omega,?_⟩;rw[fB _ (by omega) (by omega)];omega
 have aT:=VZ (V:=V) (q:=q) T a3;have a4:=Y6 bn k4 l;have bl:(cj m (ae wB X)).length=m:=Nz _ _;simp[y,z,A,B];refine lp (α:=Nat) (fun i=>⟨[(105,.p (.int .i64 i)),(104,.p (.int .i64 n)),(12,.p (.int .u64 (iT wB V q i:Nat))),(11,.p (.int .u64 (ff wB (W+wB^(n+1)) (q*V) i:Nat))),(6,.p (.int .u64 q)),(5,.p (.int .i64 n)),(1,.p (.seq (x.map fun x:Nat=>.int .u64 x))),(0,.sl 0 0 1 j (n+1))],[.arr .exact 0 1 (cj m (dH j i (ae wB X) (ae wB D)))]⟩)
  (fun i=>i<=n) (fun i=>n-i) 0 (by simp) ?_ (hn:=by simp[tC]) (he:=by simp[y,z,A,B,XE,B6]) (hh:=by simp[tC])
 intro i k5;have a7:=bR (i:=i) (by omega)
 by_cases hi:i<n
 ·have N:i<x.length:=az i hi;have M:=U i N;have am:x[i]?=some (ae wB V i):=by rw[dl N,M]
  have S:=zy q (ae wB V i) k4 (ct bn _ _);rw[show(18446744073709551616:Nat)=wB from rfl]at S;have v:=rE (q*ae wB V i% wB) (iT wB V q i) 0 (by omega);obtain⟨bc,bd⟩:=a5 i;have ab:=aG i (by omega);rw[bc]at v;generalize q*ae wB V i% wB=lo at*;generalize q*ae wB V i/wB=bi at*;generalize (lo+iT wB V q i+0)/wB=c' at*;have aq:i<n+1:=by omega
  have C:(cj m (dH j i (ae wB X) (ae wB D)))[j+i]?=some (.p (.int .u64 (ae wB W i))):=by rw[yW (by omega),<-w,rr]
  have ac:=yV (m:=m) (j:=j) (i:=i) (g:=ae wB X) (f:=ae wB D) rfl;simp[t,hi,M,am];refine c2 S ?_;simp;refine c3 v ?_;simp[bd,aq,C];refine c3 ab ?_;simp[aq,C,ac,a7,aa,aL,bF];exact rd (i+1) (show i+1<=n by omega)
 have aV:i=n:=by omega
 subst aV;have C:(cj m (dH j i (ae wB X) (ae wB D)))[j+i]?=some (.p (.int .u64 (ae wB W i))):=by rw[yW (by omega),<-w,rr]
 have ac:=yV (m:=m) (j:=j) (i:=i) (g:=ae wB X) (f:=ae wB D) rfl;have ab:=aG i (by omega);rw[<-a4]at ab;simp[C];refine c3 ab ?_;rw[aT]
 by_cases aE:q*V<=W
 ·obtain⟨y1,y2⟩:=aKq aE k3 aC k2;have ai:=aF (ae wB D) fun k hk=>by rw[ad,<-y2];exact aKp aE hk
  have ap:(q:Int)=(W:Int)/V:=by rw[y1];rfl
  have ak:(if W<q*V then 1 else 0:Nat)=0:=if_neg (by omega);rw[ak];simp[C,ac,ai,<-ap,aa,aL,bF]
 ·obtain⟨y1,y2⟩:=Za (by omega) k3 aC k2;have y3:=y2 (wB^(i+1)) aD;rw[<-ad]at y3;have ai:=aF (ae wB (D+V)) fun k hk=>by rw[y3,vO hk]
  have ak:(if W<q*V then 1 else 0:Nat)=1:=if_pos (by omega);have ap:cb.wrap ((q:Int)-1)=(W:Int)/V:=by
   have e:((W/V:Nat):Int)=(W:Int)/V:=rfl;rw[<-e];generalize W/V=Q at*;rw[fB _ (by omega) (by omega)];omega
  rw[ak];simp[C,ac,aa,aL,bF];refine lp (α:=Nat) (fun k=>⟨[(157,.p (.int .i64 k)),(156,.p (.int .i64 i)),(17,.p (.int .u64 (dj wB D V k:Nat))),(6,.p (.int .u64 q)),(5,.p (.int .i64 i)),(1,.p (.seq (x.map fun x:Nat=>.int .u64 x))),(0,.sl 0 0 1 j (i+1))],[.arr .exact 0 1 (cj m (dH j k (dH j (i+1) (ae wB X) (ae wB D)) (ae wB (D+V))))]⟩)
   (fun k=>k<=i) (fun k=>i-k) 0 (by simp) ?_ (hn:=by simp[tC]) (he:=by simp[yx]) (hh:=by simp[tC])
  intro k k6;have a8:=bR (i:=k) (by omega);have gk:(cj m (dH j k (dH j (i+1) (ae wB X) (ae wB D)) (ae wB (D+V))))[j+k]?=some (.p (.int .u64 (ae wB D k))):=by rw[yW (by omega),dH,if_pos (by omega),hl]
  have aI:=yV (m:=m) (j:=j) (i:=k) (g:=dH j (i+1) (ae wB X) (ae wB D)) (f:=ae wB (D+V)) rfl;obtain⟨u,H⟩:=qW bn D V k
  by_cases hk:k<i
  ·have N:k<x.length:=az k hk;have M:=U k N;have am:x[k]?=some (ae wB V k):=by rw[dl N,M]
   have v:=rE (ae wB D k) (ae wB V k) (dj wB D V k) (mh bn _ _ _);rw[u,H]at v;have aA:k<i+1:=by omega
   simp[t,hk,aA,M,am,gk,aa,aL,bF];refine e3 v ?_;simp[aA,gk,aI,a8,aa,aL,bF];refine⟨⟨by rfl,by rfl,by rfl⟩,?_⟩;exact rd (k+1) (show k+1<=i by omega)
  have aW:k=i:=by omega
  subst aW;have a6:ae wB V k=0:=jG l;rw[a6,hb]at u;have be:cb.wrap ((ae wB D k:Int)+(dj wB D V k:Nat))=(ae wB (D+V) k:Nat):=by rw[<-Int.natCast_add,zp,u]
  simp[gk,aI,be,ap,ai,YR,aa,aL,bF]
theorem YP{a b i:Nat}(c:0<b):(a/wB^(i+1)% b*wB+ae wB a i)/b=ae wB (a/b) i/\(a/wB^(i+1)% b*wB+ae wB a i)% b=a/wB^i% b:=by
 have e:=tg (B:=wB) a i;have g:=gc (a/wB^(i+1)) b;have f:a/wB^i=(a/wB^(i+1)% b*wB+ae wB a i)+a/wB^(i+1)/b*wB*b:=by
  rw[e];generalize ae wB a i=d;generalize a/wB^(i+1)/b=Q at*;generalize a/wB^(i+1)% b=R at*;rw[<-g,gb,eo b,g0 Q b wB];omega
 have j:(a/wB^(i+1)% b*wB+ae wB a i)/b<wB:=by
  rw[e6 c];have k:=ct bn a i;have h:=fl wB (show a/wB^(i+1)% b+1<=b from e9 _ c);rw[gb,gw]at h;rw[eo wB];omega
 constructor
 ·conv=>rhs;rw[ae,g6,eo b,<-g6,f,hr _ _ c,gi,eq j]
 ·rw[f,gi]
def qF(Q i k:Nat):Nat:=if i<=k then ae wB Q k else 0
theorem OP{m Q i:Nat}:(cj m (qF Q (i+1))).set i (.p (.int .u64 (ae wB Q i)))=cj m (qF Q i):=by
 refine pP ?_ fun k hk=>?_
 ·rw[qF,if_pos (gx _)]
 ·rw[qF,qF]
  by_cases h:i<=k
  ·rw[if_pos h,if_pos (by omega)]
  ·rw[if_neg h,if_neg (by omega)]
theorem NX{m Q:Nat}:cj m (qF Q 0)=cj m (ae wB Q):=Cr fun k=>by rw[qF,if_pos (hd _)]
theorem NY{m Q:Nat}:List.replicate m (AV.p (.int .u64 0))=cj m (qF Q m):=by
 rw[C8 (f:=fun _=>0) (fun _=>rfl)];exact Cf fun k hk=>by rw[qF,if_neg (by omega)]
theorem DF{m N:Nat}(h:N<wB^m)(b:m<=1048576):∃l:List Nat,l.length=m/\cj m (ae wB N)=l.map (AV.p∘fun x:Nat=>PV.int .u64 x)/\ar prog 315 [.seq (eW l)] (eN N):=by
 refine⟨(dp m).map (ae wB N),by simp,C9 m _,?_⟩;have a:=tY ((dp m).map (ae wB N)) (by simp;omega);rw[show ey ((dp m).map (ae wB N))=aB wB N from jH bn h]at a;exact a
theorem pS{a b:Nat}:fS a b<0↔a<b:=by
 rw[fS];split
 ·simp[*]
 ·split<;>simp[*]
theorem WJ(r:Nat):((r:Int)% 2^cb.bits).toNat=r% 2^cb.bits:=by
 rw[show cb.bits=64 from rfl];omega
theorem azF{b d n a s V:Nat}(g:b/wB^a=d)(h:n=a+1)(hs:s<64)(o:wB<=2*(d*2^s))(i:d*2^s<wB)(f:V=b*2^s):V<wB^n/\wB^n<=2*V:=by
 have m:0<wB^a:=fd (by decide);have j:0<2^s:=fd (by decide);have k:b<(d+1)*wB^a:=by
  rw[<-g,gb,gw];exact Nat.lt_div_mul_add m
 have l:(d+1)*2^s<=wB:=by
  have c:=zK hs;have e:d<2^(64-s):=by
   rw[<-c,eo d]at i;exact Nat.lt_of_mul_lt_mul_left i
  rw[<-c,eo];exact fm _ e
 constructor
 ·rw[f,h,fb,eo _ wB];refine ew (fw k j) ?_;rw[g0];exact fl _ l
 ·rw[f,h,fb,eo _ wB];refine Nat.le_trans (fl _ o) ?_;have c:d*wB^a<=b:=by rw[<-g];exact g8 _ _
  have e:=fl (2^s) c;rw[gy 2,g0 d];exact fm _ e
theorem YH{a n b s V:Nat}(f:a<wB^b)(hs:s<64)(e:wB^n<=2*V)(i:n<=b):a*2^s<V*wB^(b-n+1):=by
 have d:2*2^s<=wB:=by
  have c:2^(s+1)<=2^64:=e7 (by decide) hs;rw[fb,eo]at c;exact c
 have g:=fl (wB^(b-n+1)) e;rw[<-gg,show n+(b-n+1)=b+1 by omega,fb,gy]at g;have c:=fm a d;have h:=fw f (show 0<wB by decide);rw[Nat.mul_left_comm]at c;generalize wB^b*wB=z1 at*;generalize V*wB^(b-n+1)=z2 at*;generalize a*2^s=z3 at*;generalize a*wB=z4 at*;clear d e f;omega
theorem azG{a b n d c:Nat}(h:a<wB^c)(f:0<b)(i:n=d+1)(g:wB^d<=b)(j:n<=c):a/b<wB^(c-n+1):=by
 rw[e6 f];refine ew h ?_;have e:=fm (wB^(c-n+1)) g;rw[<-gg,show c-n+1+d=c by omega]at e;exact e
theorem YI{a b s k:Nat}(c:0<2^s):a*2^s% (b*2^s*wB^(k+1))/(b*2^s*wB^k)=ae wB (a/b) k:=by
 rw[fb,<-gy,Nat.mod_mul_right_div_self,<-g6,hp _ _ c,ae]
theorem NA{n N:Nat}{f g:Nat->Nat}(a:n<=N)(h:∀k,k<n->f k=g k):((dp N).map f).take n=(dp n).map g:=by
 rw[<-ee,List.take_range,hj a];exact eb fun k hk=>h k (ed.1 hk)
theorem C2(a b:Nat)(A:0<b)(bd:(aB wB a).length<=1000000)(bL:(aB wB b).length<=1000000):ar prog 296 [eN a,eN b] (.aE [eN (a/b),eN (a% b)]):=by
 refine aI nf Ph mix (by simp[f296]) ?_;have bg:=Jd a b (by omega) (by omega);simp[f296];refine c2 bg ?_
 by_cases I:a<b
 ·have G:=pS.2 I;simp[G,g4 I,eq I,eN,aB,nD]
 have G:¬fS a b<0:=fun h=>I (pS.1 h);have bj:∀i(h:i<(aB wB a).length),(aB wB a)[i]=ae wB a i:=fun i h=>eD bn h;have U:∀i(h:i<(aB wB b).length),(aB wB b)[i]=ae wB b i:=fun i h=>eD bn h;have B:=cm bn a;have q:=cm bn b
 by_cases K:(aB wB b).length=1
 ·rw[K,hg]at q;have W:((aB wB b).length:Int)=1:=by omega
  obtain⟨l,C,L,z⟩:=DF (m:=(aB wB a).length) (N:=a/b) (e8 (gm _ _) B) (by omega);have av:=tY [a% b] (by simp);have bi:ey [a% b]=aB wB (a% b):=by
   have M:a% b<wB:=g5 (e9 _ A) q;have:=jH bn (m:=1) (n:=a% b) (by rw[hg];exact M);rw[<-this,row,ec,ei,ej,ae,fv,g7,eq M]
  rw[bi]at av;have be:(aB wB b)[0]?=some b:=by
   rw[dl (by omega),U 0 (by omega),ae,fv,g7,eq q]
  have bf:∀h:0<(aB wB b).length,(aB wB b)[0]'h=b:=fun h=>by rw[U 0 h,ae,fv,g7,eq q]
  have aE:a/wB^(aB wB a).length% b=0:=by rw[g4 B,hD]
  simp only[eN]at z⊢;generalize aB wB (a/b)=bE at*;generalize aB wB (a% b)=aV at*;generalize aB wB a=x at*;generalize aB wB b=y at*;obtain⟨n,w⟩:∃n,x.length=n:=⟨_,rfl⟩
  rw[w]at C L aE bd;have e1:cc.wrap ((n:Int)-1)=n-1:=aQ _ (by omega) (by omega);simp[G,K,W,w,e1];refine⟨by simp only[cN];omega,?_⟩;rw[NY (Q:=a/b)];refine lp (α:=Nat) (fun i=>⟨[(8,.p (.int .i64 ((i:Int)-1))),(7,.p (.int .u64 (a/wB^i% b:Nat))),(6,.sl 0 0 1 0 n),(1,.p (.seq (y.map fun x:Nat=>.int .u64 x))),(0,.p (.seq (x.map fun x:Nat=>.int .u64 x)))],[.arr .exact 0 1 (cj n (qF (a/b) i))]⟩)
   (fun i=>i<=n) (fun i=>i) n (gx _) ?_ (he:=by simp[aE])
  intro i k1
  by_cases hi:0<i
  ·obtain⟨k,rfl⟩:∃k,i=k+1:=⟨i-1,by omega⟩
   have e2:cc.wrap ((k:Int)-1)=k-1:=aQ _ (by omega) (by omega);have aT:k<x.length:=by omega
   have hx:=bj k aT;have ad:x[k]?=some (ae wB a k):=by rw[dl aT,hx]
   have au:=OD (a/wB^(k+1)% b) (ae wB a k) b (e9 _ A) q (ct bn _ _);obtain⟨r,ag⟩:=YP (a:=a) (i:=k) A;rw[r,ag]at au;have aO:=OP (m:=n) (Q:=a/b) (i:=k);have gk:=mV (n:=n) (qF (a/b) (k+1)) (show k<n by omega);have aG:k<n:=by omega
   generalize a/wB^(k+1)% b=bG at*;simp[w,e2,hx,ad,be,bf,K,aG,aa,aL,bF];refine e3 au ?_;simp[aO,gk,e2,aG,aa,aL,bF];refine⟨by rfl,?_⟩;exact rd k (show k<=n by omega)
  ·obtain rfl:i=0:=by omega
   simp[NX,L];refine cp z (by simp[C];exact⟨rfl,rfl⟩) ?_ (h1:=by simp[eW,dz,C]);simp;refine cp av (by simp;exact⟨rfl,rfl⟩) ?_ (h1:=by simp[eW]);simp;exact bD.refl _
 have bO:2<=(aB wB b).length:=by
  rcases ge (aB wB b).length 1 with h|h
  ·have e:(aB wB b).length=0:=by omega
   rw[e,fv]at q;omega
  ·omega
 have W:¬((aB wB b).length:Int)=1:=by omega
 obtain⟨n,w⟩:∃n,(aB wB b).length=n:=⟨_,rfl⟩
 obtain⟨c,Y⟩:∃c,(aB wB a).length=c:=⟨_,rfl⟩
 obtain⟨o,Z⟩:∃o,n=o+1:=⟨n-1,by omega⟩
 have aC:wB^o<=b:=by
  rcases ge b (wB^o)with h|h
  ·have:=dO bn o b h;omega
  ·exact h
 obtain⟨d,J⟩:∃d,d=ae wB b o:=⟨_,rfl⟩
 have aD:d<wB:=by rw[J];exact ct bn _ _
 have aA:b/wB^o=d:=by
  rw[J,ae,eq];rw[e6 (fd (by decide)),eo,<-fb,show o.succ=n from Z.symm,<-w];exact q
 have bh:0<d:=by rw[<-aA];exact Nat.div_pos aC (fd (by decide))
 obtain⟨s,hs,bK,bu,bv⟩:=MG bh aD;have aK:=PQ d aD;obtain⟨V,E⟩:∃V,V=b*2^s:=⟨_,rfl⟩
 have D:0<2^s:=fd (by decide);have bb:b<=V:=by rw[E];exact Nat.le_mul_of_pos_right _ D
 have ba:0<V:=ew A bb;obtain⟨ay,bc⟩:=azF aA Z hs bu bv E;have ax:(aB wB V).length=n:=by
  have u:=dO bn n V ay;rcases ge (aB wB V).length n with h|h
  ·have ao:=ew (cm bn V) (e7 (show 0<wB by decide) (show(aB wB V).length<=o by omega));omega
  ·omega
 have z:=DF (m:=n+1) (N:=V) (ew ay (e7 (by decide) (by omega))) (by omega);obtain⟨l,C,L,z⟩:=z;have ac:=Lu b s hs (by omega);have ab:=Lu a s hs (by omega);have af:o<(aB wB b).length:=by omega
 have hx:=U o af;have ad:(aB wB b)[o]?=some d:=by rw[dl af,hx,J]
 rw[w,<-E]at ac;rw[Y]at ab;have aN:n<=c:=by
  rcases ge c n with h|h
  ·have:=ew B (e7 (show 0<wB by decide) (show(aB wB a).length<=o by omega));omega
  ·exact h
 rw[Y]at B;have a3:=YH (n:=n) B hs bc aN;have a5:=azG (n:=n) B A Z aC aN;have a6:a% b<wB^n:=g5 (e9 _ A) (by rw[w]at q;exact q);have bx:ey ((dp n).map (ae wB (a% b)))=aB wB (a% b):=jH bn a6;have ij:∀X j,j+n+1<=c+1->X<V*wB^(j+1)->_:=fun X j u ao=>az1 X V (c+1) j n ax (by omega) u (by omega) ao;simp only[eN]at z⊢ab ac ij;generalize aB wB V=bC at*;generalize bz:aB wB (a/b)=bE at*;generalize bP:aB wB (a% b)=aV at*;generalize aB wB a=x at*;generalize aB wB b=y at*;have e1:cc.wrap ((n:Int)-1)=o:=by rw[aQ _ (by omega) (by omega)];omega
 have bt:(64:Int)-(ch d:Nat)=s:=by omega
 rw[bt]at aK;rw[<-J]at hx;have bm:¬(n:Int)=1:=by omega
 have bo:¬n=1:=by omega
 simp[G,K,W,bm,bo,w,e1,hx,ad,af,aa,aL,bF];refine c1 aK ?_;simp;refine QP ac ?_;simp[L];refine cp z (by simp[C];exact⟨rfl,rfl⟩) ?_ (h1:=by simp[eW,dz,C]);simp;refine QP ab ?_;obtain⟨m,aM⟩:∃m,m=c-n:=⟨_,rfl⟩
 have e2:cc.wrap ((c:Int)-n)=m:=by rw[aQ _ (by omega) (by omega)];omega
 have e3:cc.wrap ((m:Int)+1)=m+1:=bR (by omega);simp[ax,Y,e2,e3];refine⟨⟨by omega,by simp only[cN];omega⟩,?_⟩;have ap:a*2^s% (V*wB^(m+1))=a*2^s:=eq (by rw[aM];exact a3);rw[NY (Q:=a/b)];refine sC (fun s'=>aS s'.env 9=.p (.int .i64 s)/\aS s'.env 11=.sl 1 0 1 0 (c+1)/\aS s'.env 12=.p (.int .i64 n)/\aS s'.env 13=.sl 2 0 1 0 (m+1)/\s'.heap=[.arr .frozen 0 1 (l.map (AV.p∘fun x:Nat=>PV.int .u64 x)),.arr .exact 0 1 (cj (c+1) (ae wB (a% b*2^s))),.arr .exact 0 1 (cj (m+1) (ae wB (a/b)))]) ?_ ?_
 ·refine lp (α:=Nat) (fun j=>⟨[(14,.p (.int .i64 ((j:Int)-1))),(13,.sl 2 0 1 0 (m+1)),(12,.p (.int .i64 n)),(11,.sl 1 0 1 0 (c+1)),(10,.p (.seq (bC.map fun x:Nat=>.int .u64 x))),(9,.p (.int .i64 s))],[.arr .frozen 0 1 (l.map (AV.p∘fun x:Nat=>PV.int .u64 x)),.arr .exact 0 1 (cj (c+1) (ae wB (a*2^s% (V*wB^j)))),.arr .exact 0 1 (cj (m+1) (qF (a/b) j))]⟩)
   (fun j=>j<=m+1) (fun j=>j) (m+1) (gx _) ?_ (hn:=by simp[ap]) (hh:=by simp[ap])
  intro j k1
  by_cases bN:0<j
  ·obtain⟨k,rfl⟩:∃k,j=k+1:=⟨j-1,by omega⟩
   have e4:cc.wrap ((k:Int)-1)=k-1:=aQ _ (by omega) (by omega);have e5:cc.wrap ((k:Int)+n)=k+n:=aQ _ (by omega) (by omega);have aX:cc.wrap ((k:Int)+n+1)=k+n+1:=aQ _ (by omega) (by omega);have aO:=ij (a*2^s% (V*wB^(k+1))) k (by omega) (e9 _ (Nat.mul_pos ba (fd (by decide))));have hq:a*2^s% (V*wB^(k+1))/(V*wB^k)=ae wB (a/b) k:=by
    rw[E];exact YI D
   have M:a*2^s% (V*wB^(k+1))% (V*wB^k)=a*2^s% (V*wB^k):=by
    rw[fb,<-gy,Nat.mod_mul_right_mod]
   rw[hq,M]at aO;generalize a*2^s% (V*wB^(k+1))=X at*;generalize az:a*2^s% (V*wB^k)=bH at*;have a2:((k:Int)+n+1).toNat=k+n+1:=by omega
   have f2:(0:Int)<=(k:Int)+n+1:=by omega
   have f3:(k:Int)+n+1<=(c:Int)+1:=by omega
   have f4:k<=k+n+1:=by omega
   have f5:¬k=k+n+1:=by omega
   have f6:k+n+1-k=n+1:=by omega
   have f7:k<m+1:=by omega
   have gk:=mV (n:=m+1) (qF (a/b) (k+1)) f7;have bB:=OP (m:=m+1) (Q:=a/b) (i:=k);simp[e4,e5,aX,Nz,a2,f2,f3,f4,f5,f6];rw[show(if k=0 then({v:=.sl 1 0 1 0 (k+n+1),aq:=[(1,.arr .exact 0 1 (cj (c+1) (ae wB X)))]}:aZ)else{v:=.sl 1 0 1 k (n+1),aq:=[(1,.arr .exact 0 1 (cj (c+1) (ae wB X)))]})={v:=.sl 1 0 1 k (n+1),aq:=[(1,.arr .exact 0 1 (cj (c+1) (ae wB X)))]}by split<;>simp[*]];simp;refine⟨by omega,?_⟩;refine cf aO [1] ?_;simp[gk,bB,e4,f7,aa,aL,bF];exact rd k (show k<=m+1 by omega) (hn:=by simp[az]) (hh:=by simp[az])
  ·obtain rfl:j=0:=by omega
   have a4:a*2^s% V=a% b*2^s:=by rw[E,ho]
   simp[NX,a4]
 rintro⟨bI,bM⟩ ⟨ah,ai,aj,ak,aP⟩;dsimp only at ah ai aj ak aP;subst aP;obtain⟨R,H⟩:∃R,R=a% b*2^s:=⟨_,rfl⟩
 rw[<-H];simp[ah,ai,aj,ak];refine lp (α:=Nat) (fun i=>⟨[(97,.p (.int .i64 i)),(96,.p (.int .i64 n)),(13,.sl 2 0 1 0 (m+1)),(12,.p (.int .i64 n)),(11,.sl 1 0 1 0 (c+1)),(9,.p (.int .i64 s))],[.arr .frozen 0 1 (l.map (AV.p∘fun x:Nat=>PV.int .u64 x)),.arr .exact 0 1 (cj (c+1) (dH 0 i (ae wB R) (ae wB (a% b)))),.arr .exact 0 1 (cj (m+1) (ae wB (a/b)))]⟩)
  (fun i=>i<=n) (fun i=>n-i) 0 (hd _) ?_ (hn:=by simp[tC]) (he:=by simp[ah,ai,aj,ak]) (hh:=by simp[tC])
 intro i k1;have O:=bR (i:=i) (by omega)
 by_cases hi:i<n
 ·have F:i<c+1:=by omega
  have aF:i+1<c+1:=by omega
  have am:(cj (c+1) (dH 0 i (ae wB R) (ae wB (a% b))))[i]?=some (.p (.int .u64 (ae wB R i))):=by
   have:=yW (m:=c+1) (j:=0) (i:=i) (g:=ae wB R) (f:=ae wB (a% b)) (by omega)
   rwa [ha]at this
  have al:=uS (ae wB R i) s (by omega);have bl:i<c:=by omega
  by_cases an:0<s
  ·obtain⟨t,bw⟩:∃t,t=64-s:=⟨_,rfl⟩
   have a0:cc.wrap (64-(s:Int))=(t:Int):=by rw[aQ _ (by omega) (by omega)];omega
   have a1:=xG (ae wB R (i+1)) t (by omega);have aO:=zK hs;rw[<-bw]at aO;have a8:0<2^t:=fd (by decide);have bs:ae wB R i/2^s<2^t:=by rw[e6 D,eo,aO];exact ct bn _ _
   have aR:ae wB R (i+1)*2^t% wB=ae wB R (i+1)% 2^s*2^t:=by rw[<-aO,ho]
   have br:ae wB R i/2^s|||(ae wB R (i+1)*2^t% wB)=ae wB (a% b) i:=by
    have u:=aKK D a8 R i;rw[aO,H,Nat.mul_div_cancel _ D,<-H]at u;rw[hH,aR,DY bs,<-aR,u,gE]
   have T:=Fm (ae wB R i/2^s) (ae wB R (i+1)*2^t% wB) (e8 (gm _ _) (ct bn _ _)) (e9 _ (by decide));rw[br]at T;generalize ae wB R i/2^s=r at*;generalize ae wB R (i+1)*2^t% wB=ag at*;have aW:cb.wrap ((r% 2^cb.bits|||((ag:Int)% 2^cb.bits).toNat:Nat):Int)=(ae wB (a% b) i:Nat):=by
    rw[WJ];exact T
   have S:=pP (n:=c+1) (i:=i) (v:=r) (f:=dH 0 i (ae wB R) (ae wB (a% b))) (g:=fun k=>if k=i then r else dH 0 i (ae wB R) (ae wB (a% b)) k) (if_pos rfl) (fun k hk=>if_neg hk);have g2:=mV (n:=c+1) (fun k=>if k=i then r else dH 0 i (ae wB R) (ae wB (a% b)) k) F;have g3:=mV (n:=c+1) (fun k=>if k=i then r else dH 0 i (ae wB R) (ae wB (a% b)) k) aF;rw[if_pos rfl]at g2;rw[if_neg (by omega),dH,if_neg (by omega)]at g3;have bA:=pP (n:=c+1) (i:=i) (v:=ae wB (a% b) i) (f:=fun k=>if k=i then r else dH 0 i (ae wB R) (ae wB (a% b)) k) (g:=dH 0 (i+1) (ae wB R) (ae wB (a% b))) (by rw[dH,if_pos (by omega),hE]) (fun k hk=>by
    rw[if_neg hk,dH,dH]
    by_cases h:k<i
    ·rw[if_pos (by omega),if_pos (by omega)]
    ·rw[if_neg (by omega),if_neg (by omega)])
   generalize (fun k=>if k=i then r else dH 0 i (ae wB R) (ae wB (a% b)) k)=bJ at*;simp[hi,F,am,al,an,O,S,aa,aL,bF];simp[F,aF,bl,a0,O,g2,g3,aa,aL,bF];simp[a1,T,aW,F,O,bA,g2,aa,aL,bF];refine⟨by omega,⟨by rfl,by rfl,by rfl,by rfl,by rfl⟩,?_⟩;exact rd (i+1) (show i+1<=n by omega)
  ·have aU:s=0:=by omega
   have a7:ae wB R i=ae wB (a% b) i:=by rw[H,aU,fv,ht]
   have S:=yV (m:=c+1) (j:=0) (i:=i) (g:=ae wB R) (f:=ae wB (a% b)) (v:=ae wB R i) a7.symm;rw[ha]at S;have aY:(ae wB R i:Int).fdiv (2^(min s cb.bits))=(ae wB R i:Nat):=by rw[al,aU,fv,g7]
   simp[hi,F,am,an,O,S,aY,aa,aL,bF];exact rd (i+1) (show i+1<=n by omega)
 obtain rfl:i=n:=by omega
 obtain⟨bQ,aH,bp,aw⟩:=DF (m:=m+1) (N:=a/b) (by rw[aM];exact a5) (by omega);obtain⟨P,aJ,bq,a9⟩:∃P:List Nat,P.length=c+1/\cj (c+1) (dH 0 i (ae wB R) (ae wB (a% b)))=P.map (AV.p∘fun x:Nat=>PV.int .u64 x)/\ar prog 315 [.seq (eW (P.take i))] (.seq (aV.map fun x:Nat=>.int .u64 x)):=by
  refine⟨(dp (c+1)).map (dH 0 i (ae wB R) (ae wB (a% b))),by simp,C9 _ _,?_⟩;have e:((dp (c+1)).map (dH 0 i (ae wB R) (ae wB (a% b)))).take i=(dp i).map (ae wB (a% b)):=by
   exact NA (by omega) fun k hk=>by rw[dH,if_pos (by omega),hE]
  rw[e];have u:=tY ((dp i).map (ae wB (a% b))) (by simp;omega);rw[bx]at u;exact u
 simp only[eN,bz]at aw;simp[bp,bq];refine ep aw (by simp[aH];exact⟨rfl,rfl⟩) (by simp;exact⟨rfl,rfl⟩) ?_ (h1:=by simp[eW,dz,aH]);simp[aJ];refine⟨by omega,?_⟩;have bk:i<=c+1:=by omega
 refine ep a9 (by simp[aJ,bk];exact⟨rfl,rfl⟩) (by simp;exact⟨rfl,rfl⟩) ?_ (h1:=by simp[eW,ee]);simp;rfl
def bE(k:Nat)(q:Rat):Prop:=q.num.natAbs<2^k/\q.den<2^k
theorem bE.mono{k l:Nat}{q:Rat}(h:bE k q)(a:k<=l):bE l q:=
 ⟨ew h.1 (e7 (by omega) a),ew h.2 (e7 (by omega) a)⟩
theorem mf{n:Int}{d:Nat}(h:d≠0):(hL n d).num=n/(hF n.natAbs d:Nat)/\(hL n d).den=d/hF n.natAbs d:=by
 have:hL n d=Rat.normalize n d h:=by
  rw[hM];rfl
 rw[this,Rat.normalize_eq h];exact⟨rfl,rfl⟩
theorem zD{n:Int}{d k:Nat}(h:d≠0)(a:n.natAbs<2^k)(b:d<2^k):bE k (hL n d):=by
 obtain⟨e1,e2⟩:=mf (n:=n) h;refine⟨?_,?_⟩
 ·rw[e1];refine e8 ?_ a;rw[Int.natAbs_ediv_of_dvd (Int.ofNat_dvd_left.2 (Nat.gcd_dvd_left _ _))];exact gm _ _
 ·rw[e2];exact e8 (gm _ _) b
theorem xb{a b:Nat}{x y:Rat}(h:bE a x)(c:bE b y):bE (a+b+1) (x+y):=by
 have e:x+y=hL (x.num*y.den+y.num*x.den) ((x.den*y.den:Nat):Int):=by rw[Rat.add_def'];rfl
 rw[e];have e1:2^(a+b+1)=2^a*2^b+2^a*2^b:=by rw[fb,gg];omega
 refine zD (hy x.den_nz y.den_nz) ?_ ?_
 ·rw[e1];refine e8 (Int.natAbs_add_le _ _) ?_;rw[ck,ck,cv,cv];have g1:=gj h.1 c.2;have g2:=gj c.1 h.2;rw[eo (2^b)]at g2;omega
 ·have:=gj h.2 c.2;rw[e1];omega
theorem zf{a:Nat}{x:Rat}(h:bE a x):bE a (-x):=by
 refine⟨by rw[Rat.neg_num,Int.natAbs_neg];exact h.1,by rw[Rat.neg_den];exact h.2⟩
theorem pI{a b:Nat}{x y:Rat}(h:bE a x)(c:bE b y):bE (a+b+1) (x-y):=by
 rw[hN];exact xb h (zf c)
theorem fC{a b:Nat}{x y:Rat}(h:bE a x)(c:bE b y):bE (a+b) (x*y):=by
 have e:x*y=hL (x.num*y.num) ((x.den*y.den:Nat):Int):=by
  rw[Rat.mul_def,hM];rfl
 rw[e];refine zD (hy x.den_nz y.den_nz) ?_ ?_
 ·rw[ck,gg];exact gj h.1 c.1
 ·rw[gg];exact gj h.2 c.2
theorem X1{x:Rat}(h:x≠0):(x⁻¹).num=x.num.sign*x.den/\(x⁻¹).den=x.num.natAbs:=by
 have a:x.num≠0:=fun e=>h (hO.1 e);have e:x⁻¹=hL (x.num.sign*x.den) (x.num.natAbs:Nat):=by
  rw[Rat.inv_def];rcases cx x.num 0 with h|h|h
  ·have e1:x.num.sign= -1:=Int.sign_eq_neg_one_of_neg h;have e2:((x.num.natAbs:Nat):Int)= -x.num:=by omega
   rw[e1,e2,show(-1*(x.den:Int))= -(x.den:Int)by omega,Rat.divInt_neg',Int.neg_neg]
  ·exact(a h).elim
  ·have e1:x.num.sign=1:=Int.sign_eq_one_of_pos h;have e2:((x.num.natAbs:Nat):Int)=x.num:=by omega
   rw[e1,e2,Int.one_mul]
 have b:hF (x.num.sign*x.den).natAbs x.num.natAbs=1:=by
  rw[ck,dg a,gw,cv,Nat.gcd_comm];exact x.reduced
 obtain⟨e1,e2⟩:=mf (n:=x.num.sign*x.den) (d:=x.num.natAbs) (by omega);rw[e,e1,e2,b];simp
theorem yy{a:Nat}{x:Rat}(h:bE a x):bE a x⁻¹:=by
 by_cases b:x=0
 ·subst b;have:(0:Rat)⁻¹=0:=Rat.inv_zero;rw[this];exact h
 ·obtain⟨e1,e2⟩:=X1 b;have c:x.num≠0:=fun e=>b (hO.1 e);refine⟨?_,by rw[e2];exact h.1⟩;rw[e1,ck,dg c,gw,cv];exact h.2
theorem OH{a b:Nat}{x y:Rat}(h:bE a x)(c:bE b y):bE (a+b) (x/y):=by
 rw[Rat.div_def];exact fC h (yy c)
theorem mF{k:Nat}{n:Int}(h:n.natAbs<2^k)(hk:0<k):bE k (n:Rat):=by
 refine⟨h,?_⟩;show(1:Nat)<2^k;exact Nat.one_lt_two_pow (by omega)
structure NI where
 v:Int
 m:Bool
def NI.sm(a:NI):Bool:=decide (-9223372036854775808<a.v/\a.v<9223372036854775808)||(decide (a.v= -9223372036854775808)&&a.m)
def NI.of(n:Int):NI:=⟨n,true⟩
def NI.mk'(n:Int):NI:=⟨n,false⟩
def NI.neg(a:NI):NI:=.mk' (-a.v)
def NI.abs(a:NI):NI:=if a.v<0 then .mk' (-a.v)else a
def NI.add(a b:NI):NI:=⟨a.v+b.v,a.sm&&b.sm⟩
def NI.sub(a b:NI):NI:=a.add b.neg
def NI.mul(a b:NI):NI:=.mk' (a.v*b.v)
def NI.div(a b:NI):NI:=⟨a.v/b.v,decide (a.v% b.v≠0)⟩
def NI.mod(a b:NI):NI:=.mk' (a.v% b.v)
structure NF where
 q:Rat
 m:Bool
def NF.num(a:NF):NI:=⟨a.q.num,a.m⟩
def NF.den(a:NF):NI:=.mk' a.q.den
def NF.whole(a:NI):NF:=⟨a.v,a.m⟩
def NF.int(n:Int):NF:=⟨n,true⟩
def NF.fE(a:NF):Bool:=decide (a.q.den=1)
def NF.add(a b:NF):NF:=⟨a.q+b.q,a.fE&&b.fE&&(a.num.sm&&b.num.sm)⟩
def NF.neg(a:NF):NF:=⟨-a.q,false⟩
def NF.sub(a b:NF):NF:=a.add b.neg
def NF.mul(a b:NF):NF:=⟨a.q*b.q,false⟩
def NF.inv(a:NF):NF:=⟨a.q⁻¹,false⟩
def NF.div(a b:NF):NF:=⟨a.q/b.q,false⟩
@[simp] theorem NI.sf(a b:NI):(a.add b).v=a.v+b.v:=rfl
@[simp] theorem NI.my(a b:NI):(a.mul b).v=a.v*b.v:=rfl
@[simp] theorem NI.Fe(a:NI):a.neg.v= -a.v:=rfl
@[simp] theorem NI.SA(a b:NI):(a.sub b).v=a.v-b.v:=by show a.v+-b.v=_;omega
@[simp] theorem NF.BW(a b:NF):(a.add b).q=a.q+b.q:=rfl
@[simp] theorem NF.aOq(a:NF):a.neg.q= -a.q:=rfl
@[simp] theorem NF.fQ(a b:NF):(a.sub b).q=a.q-b.q:=by show a.q+-b.q=_;rw[hN]
@[simp] theorem NF.aOp(a b:NF):(a.mul b).q=a.q*b.q:=rfl
@[simp] theorem NF.aNE(a:NF):a.inv.q=a.q⁻¹:=rfl
@[simp] theorem NF.aMC(a b:NF):(a.div b).q=a.q/b.q:=rfl
@[simp] theorem NF.aND(n:Int):(NF.int n).q=n:=rfl
def fc(z:Int):PV:=.st 124 [.int .i64 z,.aP]
def ld(z:Int):PV:=.st 124 [.int .i64 (if z<0 then -1 else 1),eN z.natAbs]
def EO(p:PV)(z:Int):Prop:=(p=fc z/\-9223372036854775808<=z/\z<=9223372036854775807)\/(p=ld z/\9223372036854775808<=z.natAbs)
theorem Q3(a:NI):∃p,p=if a.sm=true then fc a.v else ld a.v:=⟨_,rfl⟩
noncomputable def eI(a:NI):PV:=b4 (Q3 a)
theorem jv(a:NI):eI a=if a.sm=true then fc a.v else ld a.v:=b3 (Q3 a)
theorem NI.Ae{a:NI}(h:-9223372036854775808<a.v)(b:a.v<9223372036854775808):a.sm=true:=by
 simp[NI.sm,h,b]
theorem NI.pV{a:NI}(h:a.sm=true):-9223372036854775808<=a.v/\a.v<=9223372036854775807:=by
 simp only[NI.sm,b2,decide_eq_true_eq,bV]at h;omega
theorem NI.zN{a:NI}(h:¬a.sm=true):9223372036854775808<=a.v.natAbs:=by
 simp only[NI.sm,b2,decide_eq_true_eq,bV,not_or,not_and]at h;omega
theorem NI.R6(z:Int):(NI.mk' z).sm=decide (-9223372036854775808<z/\z<9223372036854775808):=by
 rw[NI.sm,NI.mk',Bool.and_false,Bool.or_false]
theorem NI.iS(z:Int):(NI.mk' z).v=z:=rfl
theorem mC(a:NI):EO (eI a) a.v:=by
 rw[jv]
 by_cases h:a.sm=true
 ·rw[if_pos h];have:=NI.pV h;exact .inl ⟨rfl,this⟩
 ·rw[if_neg h];exact .inr ⟨rfl,NI.zN h⟩
theorem oM{z:Int}(h:-9223372036854775808<z)(a:z<9223372036854775808):eI (.mk' z)=fc z:=by
 rw[jv,NI.R6,if_pos (by simp[h,a]),NI.iS]
theorem Q2{z:Int}(h:9223372036854775808<=z.natAbs):eI (.mk' z)=ld z:=by
 rw[jv,NI.R6,if_neg (by simp;omega),NI.iS]
theorem uq{z:Int}(h:-9223372036854775808<=z)(c:z<=9223372036854775807):eI (.of z)=fc z:=by
 rw[jv,if_pos]
 ·rfl
 ·by_cases b:z= -9223372036854775808
  ·subst b;rfl
  ·exact NI.Ae (a:=.of z) (by show _<z;omega) (by show z<_;omega)
@[simp] theorem bxN(u:TypeId)(h:¬u=353):(Gl.bx u:Option TypeId)=none:=by
 have a:hG u 353=false:=by
  cases a:hG u 353
  ·rfl
  ·exact(h (Nat.eq_of_beq_eq_true a)).elim
 show(bif hG u 353 then some 354 else none)=none;rw[a];rfl
@[simp] theorem aMp:(Gl.bx 353:Option TypeId)=some 354:=(rfl)
theorem lS:aB wB 0=[]:=by simp[aB,nD]
theorem tX{n:Nat}(a:0<n)(h:n<wB):aB wB n=[n]:=by
 have h1:=jH bn (m:=1) (n:=n) (by rw[hg];exact h);rw[<-h1,row,ec,ei,ej,ae,fv,g7,eq h];have:=vt [] n (by omega)
 rwa [List.nil_append]at this
theorem sA(n:Int):ar prog 226 [.int .i64 n] (fc n):=by
 refine aI nf Ig mix (by simp[f226]) ?_;simp[f226,fc]
theorem Eh(n:Int)(h:-9223372036854775808<=n)(b:n<=9223372036854775807):ar prog 270 [.int .i64 n] (.int .u64 (n.natAbs:Nat)):=by
 refine aI nf GG mix (by simp[f270]) ?_
 by_cases a:n<0
 ·have e:cb.wrap (cc.wrap (-n))=(n.natAbs:Nat):=by
   by_cases hm:n= -9223372036854775808
   ·subst hm;rfl
   ·rw[aQ _ (by omega) (by omega),fB _ (by omega) (by simp only[wB];omega)];omega
  simp[f270,a,e]
 ·have e:cb.wrap n=(n.natAbs:Nat):=by rw[fB _ (by omega) (by simp only[wB];omega)];omega
  simp[f270,a,e]
theorem oi(p:PV)(z:Int)(h:EO p z):ar prog 271 [p] (.aE [.bool (decide (z<0)),eN z.natAbs]):=by
 refine aI nf Oh mix (by simp[f271]) ?_;rcases h with⟨rfl,b,d⟩|⟨rfl,b⟩
 ·have hs:=Eh z b d
  by_cases a:z=0
  ·subst a;simp[f271,fc,eN,lS,dE,cW]
  ·simp[f271,fc,a,dE,cW];refine e1 hs ?_;simp[eN,tX (n:=z.natAbs) (by omega) (by simp only[wB];omega)]
   done
 ·have e:aB wB z.natAbs≠[]:=fun h=>by
   have:=cm bn z.natAbs;rw[h,ea,fv]at this;omega
  simp only[ld,eN];obtain⟨c,cs,hc⟩:=dq e;rw[hc];have f:decide ((if z<0 then(-1:Int)else 1)<0)=decide (z<0):=by split<;>simp[*]
  generalize (if z<0 then(-1:Int)else 1)=g at*;simp[f271,dE,cW,f]
theorem wN(neg:Bool)(n:Nat)(j:(aB wB n).length<=1048576):ar prog 272 [.bool neg,eN n] (eI (.mk' (if neg then -(n:Int)else n))):=by
 by_cases g:n=0
 ·subst g;rw[show(if neg=true then -((0:Nat):Int)else((0:Nat):Int))=0 by simp,oM (by decide) (by decide)];refine aI nf u6 mix (by simp[f272]) ?_;simp[f272,fc,eN,lS,dE,cW]
 by_cases p:n<=9223372036854775807
 ·have d:=tX (n:=n) (by omega) (by simp only[wB];omega);have hI:(n:Int)<=9223372036854775807:=by omega
  have w1:cc.wrap (n:Int)=n:=aQ _ (by omega) (by omega);have f:cc.wrap (-(n:Int))= -n:=aQ _ (by omega) (by omega);cases neg
  ·rw[if_neg (by decide),oM (by omega) (by omega)];refine aI nf u6 mix (by simp[f272]) ?_;simp[f272,fc,eN,d,hI,w1,f,dE,cW]
  ·rw[if_pos rfl,oM (by omega) (by omega)];refine aI nf u6 mix (by simp[f272]) ?_;simp[f272,fc,eN,d,hI,w1,f,dE,cW]
 ·have k:aB wB n≠[]:=fun h=>by
   have:=cm bn n;rw[h,ea,fv]at this;omega
  have e:(aB wB n).length=1->(aB wB n)[0]?=some n:=fun h=>by
   have a:=cm bn n;rw[h,hg]at a;rw[tX (by omega) a];rfl
  have hI:¬(n:Int)<=9223372036854775807:=by omega
  have b:(if neg then -(n:Int)else n).natAbs=n:=by cases neg<;>simp
  have l:(if(if neg then -(n:Int)else n)<0 then(-1:Int)else 1)=if neg then -1 else 1:=by
   cases neg
   ·simp only[Bool.false_eq_true,if_false];rw[if_neg (by omega)]
   ·simp only[if_true];rw[if_pos (by omega)]
  rw[Q2 (by rw[b];omega)];refine aI nf u6 mix (by simp[f272]) ?_;rw[ld,b,l];simp only[eN];obtain⟨c,cs,hc⟩:=dq k;rw[hc]at e⊢;rw[hc]at j;cases cs with
  |nil=>
   have i:c=n:=by simpa using e rfl
   subst i;cases neg<;>simp[f272,hI,dE,cW]
  |cons c2 cs=>
   have m:¬((cs.length:Int)+1+1=1):=by omega
   have o:¬((cs.length:Int)+1+1=0):=by omega
   cases neg<;>simp[f272,m,o,dE,cW]
def okW(z:Int):Prop:=(aB wB z.natAbs).length<=900000
theorem aJf{p:PV}{z:Int}(h:EO p z):∃a b,p=.st 124 [a,b]:=by
 rcases h with⟨rfl,_⟩|⟨rfl,_⟩
 ·exact⟨_,_,rfl⟩
 ·exact⟨_,_,rfl⟩
theorem wy(a:NI):∃x y,eI a=.st 124 [x,y]:=aJf (mC a)
theorem uk(a:NI)(l:okW a.v):ar prog 238 [eI a] (eI a.neg):=by
 have h:=mC a;have d:=oi (eI a) a.v h;have b:=wN (!decide (a.v<0)) a.v.natAbs (by rw[okW]at l;omega);have k:(if(!decide (a.v<0))=true then -((a.v.natAbs:Nat):Int)else a.v.natAbs)= -a.v:=by
  by_cases e:a.v<0
  ·simp[e];omega
  ·simp[e];omega
 rw[k]at b;rw[show a.neg=.mk' (-a.v)from rfl];generalize a.v=z at*;generalize n:eI a=p at*;obtain⟨o,q,g⟩:=wy (.mk' (-z));rcases h with⟨rfl,i,m⟩|⟨rfl,i⟩
 ·by_cases f:z= -9223372036854775808
  ·rw[g]at b⊢;refine aI nf Az mix (by simp[f238]) ?_;subst f;simp only[fc]at d⊢;simp[f238,dE,cW];refine c1 d ?_;simp[eN]at b⊢;refine c2 b ?_;simp[aa,aL,bF]
  ·rw[oM (by omega) (by omega)];have w:cc.wrap (-z)= -z:=aQ _ (by omega) (by omega);refine aI nf Az mix (by simp[f238]) ?_;simp[f238,fc,f,w,dE,cW]
 ·rw[g]at b⊢;refine aI nf Az mix (by simp[f238]) ?_;have j:aB wB z.natAbs≠[]:=fun h=>by
   have:=cm bn z.natAbs;rw[h,ea,fv]at this;omega
  simp only[ld,eN]at d b⊢;obtain⟨c,cs,hc⟩:=dq j;rw[hc]at d b⊢;generalize (if z<0 then(-1:Int)else 1)=r at*;simp[f238,dE,cW];refine c1 d ?_;simp at b⊢;refine c2 b ?_;simp[aa,aL,bF]
theorem uc(a:NI):ar prog 262 [eI a] (.int .i64 (if a.v<0 then -1 else if a.v=0 then 0 else 1)):=by
 have h:=mC a;generalize a.v=z at*;generalize eI a=p at*;refine aI nf Gp mix (by simp[f262]) ?_;rcases h with⟨rfl,b,c⟩|⟨rfl,b⟩
 ·simp[f262,fc];rcases cx z 0 with h|h|h
  ·have e:z<1:=by omega
   simp[h,e];omega
  ·subst h;simp
  ·have e1:¬z<0:=by omega
   have e2:¬z=0:=by omega
   have e3:¬z<1:=by omega
   simp[e1,e2,e3]
 ·simp[f262,ld,eN]
  by_cases h:z<0
  ·simp[h]
  ·have e2:¬z=0:=by omega
   simp[h,e2]
theorem Xk{z:Int}(h:-18446744073709551616<=z)(a:z<=18446744073709551614):cc.wrap z=if z< -9223372036854775808 then z+18446744073709551616 else if 9223372036854775807<z then z-18446744073709551616 else z:=by
 rw[ce]
 split
 ·omega
 ·split<;>omega
theorem nZ{z:Int}(h:okW z):(aB wB z.natAbs).length<=900000:=h
theorem VL{a b L:Nat}(c:(aB wB a).length<=L)(d:(aB wB b).length<=L):(aB wB (a+b)).length<=L+1:=by
 refine dO bn _ _ ?_;have e:=ew (cm bn a) (e7 (show 0<wB by decide) c);have f:=ew (cm bn b) (e7 (show 0<wB by decide) d);have g:2*wB^L<=wB^(L+1):=by rw[fb,eo];exact fm _ bn
 omega
theorem Ux{a b:Int}(i:okW a)(j:okW b):
 ((decide (a<0)=decide (b<0)/\ar prog 272 [.bool (decide (a<0)),eN (a.natAbs+b.natAbs)] (eI (.mk' (a+b))))\/
  (decide (a<0)≠decide (b<0)/\b.natAbs<=a.natAbs/\ar prog 272 [.bool (decide (a<0)),eN (a.natAbs-b.natAbs)] (eI (.mk' (a+b))))\/
  (decide (a<0)≠decide (b<0)/\a.natAbs<b.natAbs/\ar prog 272 [.bool (decide (b<0)),eN (b.natAbs-a.natAbs)] (eI (.mk' (a+b))))):=by
 have m:=VL (a:=a.natAbs) (b:=b.natAbs) i j;have l:∀n,n<=a.natAbs+b.natAbs->(aB wB n).length<=1048576:=fun n h=>by
  have:=dO bn _ _ (e8 h (cm bn (a.natAbs+b.natAbs)));omega
 have f:∀(neg:Bool)(n:Nat),n<=a.natAbs+b.natAbs->(if neg then -(n:Int)else n)=a+b->ar prog 272 [.bool neg,eN n] (eI (.mk' (a+b))):=fun neg n h e=>by
  have g:=wN neg n (l n h);rw[e]at g;exact g
 by_cases d:decide (a<0)=decide (b<0)
 ·have c:=f (decide (a<0)) (a.natAbs+b.natAbs) (gx _) (by
   by_cases h:a<0
   ·have:b<0:=by simpa[h]using d
    simp[h];omega
   ·have:¬b<0:=by simpa[h]using d
    simp[h];omega)
  exact .inl ⟨d,c⟩
 ·by_cases k:b.natAbs<=a.natAbs
  ·have c:=f (decide (a<0)) (a.natAbs-b.natAbs) (by omega) (by
    by_cases h:a<0
    ·have:¬b<0:=by simpa[h]using d
     simp[h];omega
    ·have:b<0:=by simpa[h]using d
     simp[h];omega)
   exact .inr (.inl ⟨d,k,c⟩)
  ·have c:=f (decide (b<0)) (b.natAbs-a.natAbs) (by omega) (by
    by_cases h:b<0
    ·have:¬a<0:=fun c=>d (by simp[h,c]);simp[h];omega
    ·have:a<0:=by
      by_cases c:a<0
      ·exact c
      ·exact(d (by simp[h,c])).elim
     simp[h];omega)
   exact .inr (.inr ⟨d,by omega,c⟩)
theorem D8(a:NI):(eI a=fc a.v/\a.sm=true/\-9223372036854775808<=a.v/\a.v<=9223372036854775807)\/(a.sm=false/\∃d c cs,eI a=.st 124 [.int .i64 d,.seq (c::cs)]):=by
 by_cases h:a.sm=true
 ·left;exact⟨by rw[jv,if_pos h],h,NI.pV h⟩
 ·right;refine⟨by simpa using h,?_⟩;have e:=NI.zN h;have b:aB wB a.v.natAbs≠[]:=fun h=>by
   have:=cm bn a.v.natAbs;rw[h,ea,fv]at this;omega
  obtain⟨c,cs,hc⟩:=dq b;rw[jv,if_neg h,ld,eN,hc];exact⟨_,_,_,rfl⟩
theorem xi(a b:NI)(B:okW a.v)(D:okW b.v):ar prog 243 [eI a,eI b] (eI (a.add b)):=by
 have o:=oi (eI a) a.v (mC a);have q:=oi (eI b) b.v (mC b);have U:=nZ B;have V:=nZ D;have t:=Jd a.v.natAbs b.v.natAbs (by omega) (by omega);have C:=Wl a.v.natAbs b.v.natAbs (by omega) (by omega);have y:=Ux B D;have uT:=D8 a;have G:=D8 b
 by_cases u:(a.sm=true/\b.sm=true)/\-9223372036854775808<=a.v+b.v/\a.v+b.v<=9223372036854775807
 ·obtain⟨⟨g,n⟩,d,l⟩:=u;rw[show eI a=fc a.v by rw[jv,if_pos g],show eI b=fc b.v by rw[jv,if_pos n],show a.add b=.of (a.v+b.v)by rw[NI.add,g,n];rfl,uq d l];generalize a.v=a at*;generalize b.v=b at*;refine aI nf BI mix (by simp[f243]) ?_;have w:=aQ (a+b) d l;have e:(decide (a<a+b)==decide (0<b))=true:=by
   have:a<a+b↔0<b:=by omega
   simp[this]
  simp[f243,fc,w,dE,cW,e]
 have F:eI (a.add b)=eI (.mk' (a.v+b.v)):=by
  by_cases h:-9223372036854775808<a.v+b.v/\a.v+b.v<9223372036854775808
  ·rw[oM h.1 h.2,jv,if_pos (NI.Ae h.1 h.2)];rfl
  ·by_cases l:(a.sm&&b.sm)=true
   ·have H:a.sm=true/\b.sm=true:=by simpa using l
    have I:¬(-9223372036854775808<=a.v+b.v/\a.v+b.v<=9223372036854775807):=fun h=>u ⟨H,h⟩;rw[Q2 (by omega),jv,if_neg,NI.sf];intro g;have:=NI.pV g;rw[NI.sf]at this;omega
   ·rw[NI.add,NI.mk'];rw[show(a.sm&&b.sm)=false by simpa using l]
 rw[F];clear F;obtain⟨M,N,J⟩:=wy a;obtain⟨O,P,K⟩:=wy b;obtain⟨Y,Z,L⟩:=wy (.mk' (a.v+b.v));rw[L]at y⊢;rw[J]at o uT⊢;rw[K]at q G⊢;generalize a.v=f at*;generalize b.v=bv at*;refine aI nf BI mix (by simp[f243]) ?_;simp[f243,-bt];rw[bt];simp[-bt];refine join (fun s=>aS s.env 2=.ptr 0 []/\aS s.env 3=.ptr 1 []/\aS s.env 4=.ptr 2 []/\s.heap=[.box false (.p (.st 124 [M,N])),.box false (.p (.st 124 [O,P])),.box false (.p (.st 124 [.int .i64 0,.aP]))]) ?_ ?_
 ·clear y t C o q;rcases uT with⟨d,m,l,g⟩|⟨m,Q,c,cs,d⟩
  ·simp only[fc,PV.st.injEq,en,and_true,true_and]at d;obtain⟨rfl,rfl⟩:=d;rcases G with⟨n,A,S,T⟩|⟨A,Q,c,cs,n⟩
   ·simp only[fc,PV.st.injEq,en,and_true,true_and]at n;obtain⟨rfl,rfl⟩:=n;have I:¬(-9223372036854775808<=f+bv/\f+bv<=9223372036854775807):=fun h=>u ⟨⟨m,A⟩,h⟩;have w:=Xk (z:=f+bv) (by omega) (by omega);have e:¬(f<cc.wrap (f+bv)↔0<bv):=by
     rw[w]
     by_cases W:0<bv
     ·rw[if_neg (by omega),if_pos (by omega)];omega
     ·rw[if_pos (by omega)];omega
    simp[dE,cW,e]
   ·simp only[PV.st.injEq,en,and_true,true_and]at n;obtain⟨rfl,rfl⟩:=n;simp[dE,cW]
  ·simp only[PV.st.injEq,en,and_true,true_and]at d;obtain⟨rfl,rfl⟩:=d;simp[dE,cW]
 rintro⟨R,X⟩ ⟨i,j,k,E⟩;dsimp only at i j k E;subst E;simp[i,j,k];refine c1 o ?_;simp[i,j,k,aa,aL,bF];refine c1 q ?_;rcases y with⟨d,g⟩|⟨d,l,g⟩|⟨d,l,g⟩
 ·have m:(f<0↔bv<0):=by simpa using d
  rw[d]at g;simp[i,j,k,m,aa,aL,bF];refine c2 C ?_;simp;refine c2 g ?_;simp[i,j,k,aa,aL,bF]
 ·have m:¬(f<0↔bv<0):=by simpa using d
  have r:0<=fS f.natAbs bv.natAbs:=by
   have h:=mt pS.1 (show¬f.natAbs<bv.natAbs by omega);omega
  have x:=Kb f.natAbs bv.natAbs l (by omega);simp[i,j,k,m,aa,aL,bF];refine c2 t ?_;simp[r];refine c2 x ?_;simp[i,j,k,aa,aL,bF];refine c2 g ?_;simp[i,j,k,aa,aL,bF]
 ·have m:¬(f<0↔bv<0):=by simpa using d
  have r:¬0<=fS f.natAbs bv.natAbs:=by have:=pS.2 l;omega
  have x:=Kb bv.natAbs f.natAbs (by omega) (by omega);simp[i,j,k,m,aa,aL,bF];refine c2 t ?_;simp[r];refine c2 x ?_;simp[i,j,k,aa,aL,bF];refine c2 g ?_;simp[i,j,k,aa,aL,bF]
@[simp] theorem aOL(a:NI):aL (eI a)=.agg 124:=by
 obtain⟨x,y,h⟩:=wy a;rw[h];rfl
theorem Sv(a:NI):∃z:Int,z=if a.sm=true then a.v else if a.v<0 then -1 else 1:=⟨_,rfl⟩
noncomputable def sI(a:NI):Int:=b4 (Sv a)
theorem zO(a:NI):sI a=if a.sm=true then a.v else if a.v<0 then -1 else 1:=b3 (Sv a)
theorem SL(a:NI):∃p:PV,p=if a.sm=true then .aP else eN a.v.natAbs:=⟨_,rfl⟩
noncomputable def wI(a:NI):PV:=b4 (SL a)
theorem DX(a:NI):wI a=if a.sm=true then .aP else eN a.v.natAbs:=b3 (SL a)
@[simp] theorem azQ(a:NI):bY (eI a)=[.int .i64 (sI a),wI a]:=by
 by_cases h:a.sm=true
 ·rw[jv,zO,DX,if_pos h,if_pos h,if_pos h];rfl
 ·rw[jv,zO,DX,if_neg h,if_neg h,if_neg h];rfl
theorem Sw(a:NI):sI a<0↔a.v<0:=by
 rw[zO];split
 ·exact Iff.rfl
 ·split<;>omega
theorem mz{a:NI}(h:a.sm=true):wI a=.aP:=by rw[DX,if_pos h]
theorem oG{a:NI}(h:a.sm=false):∃c cs,wI a=.seq (c::cs):=by
 rcases D8 a with⟨_,b,_⟩|⟨_,e,c,cs,d⟩
 ·rw[h]at b;exact absurd b (by decide)
 ·refine⟨c,cs,?_⟩;have:=azQ a;rw[d]at this;simp[bY]at this;exact this.2.symm
theorem nu{a:NI}(h:a.sm=true):sI a=a.v:=by rw[zO,if_pos h]
theorem Ev(a b:NI)(d:okW a.v)(c:okW b.v):ar prog 274 [eI a,eI b] (eI (a.sub b)):=by
 refine aI nf IM mix (by simp[f274]) ?_;have e:okW b.neg.v:=by simpa[okW]using c
 simp[f274];refine e1 (uk b c) ?_;simp;refine e2 (xi a b.neg d e) ?_;simp[aa];exact Wk.refl _
theorem QG(a:NI)(c:okW a.v):ar prog 327 [eI a] (eI a.abs):=by
 refine aI nf Gy mix (by simp[f327]) ?_
 by_cases h:a.v<0
 ·have b:=(Sw a).2 h;have e:a.abs=a.neg:=by rw[NI.abs,if_pos h];rfl
  simp[f327,aa,b];refine c1 (uk a c) ?_;simp[aa,e]
 ·have b:=mt (Sw a).1 h;have e:a.abs=a:=by rw[NI.abs,if_neg h]
  simp[f327,aa,b,e]
def kj(x y:Int):Int:=if x<y then -1 else if x=y then 0 else 1
theorem QH(a b:NI)(l:okW a.v)(m:okW b.v):ar prog 213 [eI a,eI b] (.int .i64 (kj a.v b.v)):=by
 refine aI nf HU mix (by simp[f213]) ?_;have o:(a.sm=true/\b.sm=true)\/¬(a.sm=true/\b.sm=true):=b5 _;rcases o with⟨d,k⟩|d
 ·have w1:=mz d;have f:=mz k;have i:=nu d;have j:=nu k;rcases cx a.v b.v with h|h|h
  ·have e:kj a.v b.v= -1:=by rw[kj,if_pos h]
   simp[f213,aa,w1,f,i,j,h,e,dE,cW]
  ·have e:kj b.v b.v=0:=by rw[kj,if_neg (by omega),if_pos rfl]
   have d:¬a.v<b.v:=by omega
   simp[f213,aa,w1,f,i,j,h,e,dE,cW]
  ·have e:kj a.v b.v=1:=by rw[kj,if_neg (by omega),if_neg (by omega)]
   have d:¬a.v<b.v:=by omega
   simp[f213,aa,w1,f,i,j,h,d,e,dE,cW]
 ·have e:(if(a.sub b).v<0 then(-1:Int)else if(a.sub b).v=0 then 0 else 1)=kj a.v b.v:=by
   rw[NI.SA,kj];rcases cx a.v b.v with h|h|h
   ·rw[if_pos (by omega),if_pos h]
   ·rw[if_neg (by omega),if_pos (by omega),if_neg (by omega),if_pos h]
   ·rw[if_neg (by omega),if_neg (by omega),if_neg (by omega),if_neg (by omega)]
  have g:=uc (a.sub b);rw[e]at g;rcases hs:a.sm with _|_
  ·obtain⟨c,cs,w1⟩:=oG hs;simp[f213,aa,w1,dE,cW];refine c2 (Ev a b l m) ?_;simp;refine c1 g ?_;simp
  ·have w1:=mz hs;obtain⟨c,cs,f⟩:=oG (a:=b) (by cases n:b.sm with|false=>rfl|true=>exact(d ⟨hs,n⟩).elim);simp[f213,aa,w1,f,dE,cW];refine c2 (Ev a b l m) ?_;simp;refine c1 g ?_;simp
theorem VK{a b L M:Nat}(e:(aB wB a).length<=L)(f:(aB wB b).length<=M):(aB wB (a*b)).length<=L+M:=by
 refine dO bn _ _ ?_;have c:=ew (cm bn a) (e7 (show 0<wB by decide) e);have d:=ew (cm bn b) (e7 (show 0<wB by decide) f);rw[gg];exact gj c d
theorem An(a b:NI)(G:(aB wB a.v.natAbs).length+(aB wB b.v.natAbs).length<=900000):ar prog 212 [eI a,eI b] (eI (a.mul b)):=by
 have E:=oi (eI a) a.v (mC a);have hq:=oi (eI b) b.v (mC b);have D:=Wi a.v.natAbs b.v.natAbs (by omega);have I:=VK (gx (aB wB a.v.natAbs).length) (gx (aB wB b.v.natAbs).length);have w:=wN (decide (a.v<0)!=decide (b.v<0)) (a.v.natAbs*b.v.natAbs) (by omega);have e:(if(decide (a.v<0)!=decide (b.v<0))=true then -((a.v.natAbs*b.v.natAbs:Nat):Int)else(a.v.natAbs*b.v.natAbs:Nat))=a.v*b.v:=by
  rw[<-ck];rcases dk a.v 0 with i|i
  ·rcases dk b.v 0 with d|d
   ·have:=Int.mul_nonneg_of_nonpos_of_nonpos (c9 i) (c9 d);simp[i,d];omega
   ·have:=Int.mul_nonpos_of_nonpos_of_nonneg (c9 i) d;have n:¬b.v<0:=by omega
    simp[i,n];omega
  ·have n:¬a.v<0:=by omega
   rcases dk b.v 0 with d|d
   ·have:=Int.mul_nonpos_of_nonneg_of_nonpos i (c9 d);simp[n,d];omega
   ·have:=Int.mul_nonneg i d;have B:¬b.v<0:=by omega
    simp[n,B];omega
 rw[e]at w;rw[show a.mul b=.mk' (a.v*b.v)from rfl];refine aI nf HV mix (by simp[f212]) ?_;simp[f212,-bt];rw[bt];simp[-bt];refine join (fun s=>aS s.env 2=.ptr 0 []/\aS s.env 3=.ptr 1 []/\aS s.env 4=.ptr 2 []/\s.heap=[.box false (.p (eI a)),.box false (.p (eI b)),.box false (.p (.st 124 [.int .i64 0,.aP]))]) ?_ ?_
 ·rcases hs:a.sm with _|_
  ·obtain⟨c,cs,w1⟩:=oG hs;simp[aa,w1,dE,cW]
  ·have w1:=mz hs;rcases o:b.sm with _|_
   ·obtain⟨c,cs,j⟩:=oG o;simp[aa,w1,j,dE,cW]
   ·have j:=mz o;have f:=nu hs;have g:=nu o;have y:=NI.pV hs;have z:=NI.pV o;have z1:=Eh a.v y.1 y.2;have z2:=Eh b.v z.1 z.2;have M:=zy a.v.natAbs b.v.natAbs (by omega) (by omega);obtain⟨H,t⟩:∃H,H=a.v.natAbs*b.v.natAbs/18446744073709551616:=⟨_,rfl⟩
    obtain⟨L,q⟩:∃L,L=a.v.natAbs*b.v.natAbs% 18446744073709551616:=⟨_,rfl⟩
    rw[<-t,<-q]at M;have C:a.v.natAbs*b.v.natAbs=H*18446744073709551616+L:=by omega
    clear t q
    by_cases c1:H=0/\L<=9223372036854775807
    ·obtain⟨rfl,q⟩:=c1;have u:(L:Int)<=9223372036854775807:=by omega
     have r:cc.wrap (L:Int)=L:=aQ _ (by omega) (by omega);have A:cc.wrap (-(L:Int))= -L:=aQ _ (by omega) (by omega);rw[C]at e;simp only[g9,ha]at e;rw[oM (by rw[<-e];split<;>omega) (by rw[<-e];split<;>omega),fc]
     by_cases c2:a.v<0↔b.v<0
     ·rw[if_neg (by simp[c2])]at e;rw[<-e];simp[aa,w1,j,f,g,dE,cW];refine e1 z1 ?_;simp[f,g];refine e1 z2 ?_;simp;refine e2 M ?_;simp[u,c2,aa,w1,j,f,g,r]
     ·rw[if_pos (by simp[c2])]at e;rw[<-e];simp[aa,w1,j,f,g,dE,cW];refine e1 z1 ?_;simp[f,g];refine e1 z2 ?_;simp;refine e2 M ?_;simp[u,c2,aa,w1,j,f,g,r,A]
    ·simp[aa,w1,j,f,g,dE,cW];refine e1 z1 ?_;simp[f,g];refine e1 z2 ?_;simp;refine e2 M ?_
     by_cases c2:H=0
     ·have c3:¬(L:Int)<=9223372036854775807:=fun h=>c1 ⟨c2,by omega⟩;simp[c2,c3]
     ·have c3:¬(H:Int)=0:=by omega
      simp[c2,c3]
 ·rintro⟨F,J⟩ ⟨k,l,m,x⟩;dsimp only at k l m x;subst x;simp[k,l,m];refine c1 E ?_;simp[k,l,m];refine c1 hq ?_;simp[k,l,m];refine c2 D ?_;simp;refine c2 w ?_;simp[k,l,m,aa]
  done
end Go.ah
