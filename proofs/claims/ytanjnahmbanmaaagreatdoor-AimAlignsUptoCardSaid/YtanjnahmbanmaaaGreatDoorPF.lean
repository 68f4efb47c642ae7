import Derived.Test.YtanjnahmbanmaaaGreatDoorPE
/- Parts of a proof. -/
set_option linter.unusedSimpArgs false
set_option linter.unusedVariables false
set_option linter.unusedSectionVars false
namespace Go.Abs
open Go.Proofs
set_option maxHeartbeats 4000000
set_option maxRecDepth 100000
theorem ajS (n:Nat):IntKind.u64.wrap (n:Int)=(n % wB:Nat):=by
 rw [show IntKind.u64.wrap (n:Int)=(n:Int) % 18446744073709551616 from rfl]; rfl
theorem shlU (x s:Nat) (hs:s<64):IntKind.u64.wrap ((x:Int)*2 ^ (min s IntKind.u64.bits))=(x*2 ^ s % wB:Nat):=by
 rw [show IntKind.u64.bits=64 from rfl,Nat.min_eq_left (by omega),← ajS];congr 1
theorem shrU (x s:Nat) (hs:s≤64):(x:Int).fdiv (2 ^ (min s IntKind.u64.bits))=(x / 2 ^ s:Nat):=by
 rw [show IntKind.u64.bits=64 from rfl,Nat.min_eq_left hs,show (2:Int) ^ s=((2 ^ s:Nat):Int) by push_cast; rfl,Int.fdiv_eq_ediv_of_nonneg _ (Int.natCast_nonneg _)];rfl
theorem orU (a b:Nat) (ha:a<wB) (hb:b<wB):IntKind.u64.wrap ((a % 2 ^ IntKind.u64.bits ||| b % 2 ^ IntKind.u64.bits:Nat):Int)=(a ||| b:Nat):=by
 rw [show (2 ^ IntKind.u64.bits:Nat)=wB from rfl,Nat.mod_eq_of_lt ha,Nat.mod_eq_of_lt hb,ajS,Nat.mod_eq_of_lt];exact Nat.or_lt_two_pow (n:=64) ha hb
def cu (a s i:Nat):Nat:=if i=0 then 0 else plc wB a (i - 1) / 2 ^ (64 - s)
def upF (a s i k:Nat):Nat:=if k<i then plc wB (a*2 ^ s) k else if k=i then cu a s i else 0
theorem aoG {s:Nat} (hs:s<64):2 ^ s*2 ^ (64 - s)=wB:=by rw [← Nat.pow_add,show s+(64 - s)=64 by omega]; rfl
theorem arA (a s i:Nat) (hs:s<64):cu a s i ||| (plc wB a i*2 ^ s % wB)=plc wB (a*2 ^ s) i:=by
 have hS:0<2 ^ s:=Nat.pow_pos (by decide);have hT:0<2 ^ (64 - s):=Nat.pow_pos (by decide);have hST:=aoG hs;have hc:cu a s i<2 ^ s:=by
  rw [cu]; split
  · exact hS
  · rw [Nat.div_lt_iff_lt_mul hT,hST]; exact aaq wB2 _ _
 have hsh:plc wB a i*2 ^ s % wB=plc wB a i % 2 ^ (64 - s)*2 ^ s:=by
  rw [← hST,Nat.mul_comm,Nat.mul_mod_mul_left,Nat.mul_comm]
 rw [Nat.or_comm,hsh,asL hc,← hsh];cases i with
 | zero=>rw [cu,if_pos rfl,Nat.add_zero,← hST]; exact (au6 a).symm
 | succ i=>rw [cu,if_neg (by omega),Nat.add_sub_cancel,← hST]; exact (au7 hS hT a i).symm
theorem agc {n:Nat} {f g:Nat→Nat} (h:∀ k,k<n→f k=g k):mkF n f=mkF n g:=by
 rw [mkF,mkF]; exact List.map_congr_left fun k hk=>by rw [h k (List.mem_range.1 hk)]
theorem cu_end (a s n:Nat) (hs:s<64) (h:plc wB a n=0):cu a s n=plc wB (a*2 ^ s) n:=by
 rw [← arA a s n hs,h,Nat.zero_mul,Nat.zero_mod,Nat.or_zero]
theorem ami (a s:Nat) (hs:s<64) (ha:(dig wB a).length≤1000000):abp Tryz.prog 336 [] [.p (eN a),.p (.int .i64 s)] [.arr .exact 0 1 (mkF ((dig wB a).length+1) (plc wB (a*2 ^ s)))] (.sl 0 0 1 0 ((dig wB a).length+1)):=by
 refine adT nf axt mix (by simp [Tryz.f336]) ?_;have hda:∀ i (h:i<(dig wB a).length),(dig wB a)[i]=plc wB a i:=fun i h=>aal wB2 h;have hoa:=@anc a;simp only [eN];generalize dig wB a=x at *;obtain ⟨n,hn⟩:∃ n,x.length=n:=⟨_,rfl⟩
 rw [hn] at ha;have hwn:IntKind.i64.wrap ((n:Int)+1)=(n:Int)+1:=wi1 (by omega);simp [Tryz.f336,hn,hwn];refine ⟨⟨by omega,by simp only [maxL]; omega⟩,?_⟩;rw [akn (f:=upF a s 0) (by intro j; simp [upF,cu])];refine lp (α:=Nat) (fun i=>⟨[(14,.p (.int .i64 i)),(13,.p (.int .i64 n)),(12,.p (.seq (x.map fun x:Nat=>.int .u64 x))),(5,.sl 0 0 1 0 (n+1)),(1,.p (.int .i64 s))],[.arr .exact 0 1 (mkF (n+1) (upF a s i))]⟩)
  (fun i=>i≤n) (fun i=>n - i) 0 (by simp) ?_ (he:=by simp)
 intro i k1;have hwi:=wi1 (i:=i) (by omega)
 by_cases hi:i<n
 · have hix:i<x.length:=by rw [hn]; exact hi
   have hx:=hda i hix;have hi1:i<n+1:=by omega
   have hg:=ac9 (upF a s i) hi1;have hlt:plc wB a i*2 ^ s % wB<wB:=Nat.mod_lt _ (by decide);have hcl:upF a s i i<wB:=by
    rw [upF,if_neg (by omega),if_pos rfl,cu]; split
    · decide
    · exact Nat.lt_of_le_of_lt (Nat.div_le_self _ _) (aaq wB2 _ _)
   have e1:=shlU (plc wB a i) s hs;have e2:=orU (upF a s i i) (plc wB a i*2 ^ s % wB) hcl hlt;have e3:upF a s i i ||| (plc wB a i*2 ^ s % wB)=plc wB (a*2 ^ s) i:=by rw [← arA a s i hs,upF,if_neg (by omega),if_pos rfl]
   rw [e3] at e2;have w6:IntKind.i64.wrap (64 - (s:Int))=((64 - s:Nat):Int):=by rw [wi64 _ (by omega) (by omega)]; omega
   have e4:=shrU (plc wB a i) (64 - s) (by omega);have hn1:i+1<n+1:=by omega
   have hs1:=aep (n:=n+1) (i:=i) (f:=upF a s i) (g:=fun k=>if k=i then plc wB (a*2 ^ s) i else upF a s i k) (if_pos rfl) (fun k hk=>if_neg hk);have hs2:=aep (n:=n+1) (i:=i+1) (v:=plc wB a i / 2 ^ (64 - s)) (f:=fun k=>if k=i then plc wB (a*2 ^ s) i else upF a s i k) (g:=upF a s (i+1)) (by
    simp [upF,cu]) (fun k hk=>by
    by_cases hki:k=i
    · subst hki; simp [upF]
    · simp only [upF,hki,if_false]
      by_cases hk2:k<i
      · rw [if_pos (by omega),if_pos hk2]
      · rw [if_neg (by omega),if_neg hk,if_neg hk2])
   have hg2:=ac9 (n:=n+1) (fun k=>if k=i then plc wB (a*2 ^ s) i else upF a s i k) hn1;have hs3:s=0→mkF (n+1) (fun k=>if k=i then plc wB (a*2 ^ s) i else upF a s i k)=mkF (n+1) (upF a s (i+1)):=fun h=>by
    have hz:plc wB a i / 2 ^ (64 - s)=0:=by rw [h]; exact Nat.div_eq_of_lt (aaq wB2 _ _)
    refine ah3 fun k=>?_
    by_cases hki:k=i
    · subst hki; simp [upF]
    · simp only [upF,hki,if_false]
      by_cases hk2:k<i
      · rw [if_pos hk2,if_pos (by omega)]
      · by_cases hk3:k=i+1
        · rw [hk3,if_neg (by omega),if_neg (by omega),if_pos rfl,cu,if_neg (by omega),Nat.add_sub_cancel,hz]
        · rw [if_neg hk2,if_neg (by omega),if_neg hk3]
   generalize plc wB a i*2 ^ s % wB=r1 at *;generalize plc wB a i / 2 ^ (64 - s)=r2 at *;generalize (fun k=>if k=i then plc wB (a*2 ^ s) i else upF a s i k)=g1 at *;obtain ⟨t,ht⟩:∃ t,t=64 - s:=⟨_,rfl⟩
   rw [← ht] at w6 e4
   by_cases h0:0<s
   · simp [hn,hi,hi1,hix,hx,hg,e1,e2,h0,w6,e4,hwi,hs1,hn1,hg2,hs2,shpA,shp,aah];refine ⟨⟨by rfl,by rfl,by rfl⟩,?_⟩;refine ⟨by omega,?_⟩;exact rd (i+1) (show i+1≤n by omega)
   · have h00:s=0:=by omega
     simp [hn,hi,hi1,hix,hx,hg,e1,e2,h0,hwi,hs1,hs3 h00,shpA,shp,aah];refine ⟨⟨by rfl,by rfl,by rfl⟩,?_⟩;exact rd (i+1) (show i+1≤n by omega)
 have:i=n:=by omega
 subst this;simp [hn];refine .inl (agc fun k hk=>?_);rw [upF]
 by_cases hk2:k<i
 · rw [if_pos hk2]
 · obtain rfl:k=i:=by omega
   rw [if_neg hk2,if_pos rfl,cu_end a s k hs (hoa (by omega))]
theorem afS:∀ (n x:Nat),x≤n→0<x→x<2 ^ 64→1≤Lib.bitLen x∧2 ^ (Lib.bitLen x - 1)≤x∧x<2 ^ Lib.bitLen x
 | 0,x,h,h0,_=>by omega
 | n+1,x,h,h0,h64=>by
  have hh:=Lib.bitLen_half x (by omega) h64
  by_cases h1:x=1
  · subst h1; decide
  · obtain ⟨i1,i2,i3⟩:=afS n (x / 2) (by omega) (by omega) (by omega);rw [hh];generalize Lib.bitLen (x / 2)=L at *;obtain ⟨k,rfl⟩:∃ k,L=k+1:=⟨L - 1,by omega⟩
    rw [show 1+(k+1)=k+2 by omega,show k+2 - 1=k+1 by omega,Nat.pow_succ,Nat.pow_succ];rw [Nat.pow_succ] at i3;simp only [Nat.add_sub_cancel] at i2;omega
theorem bl_le {x:Nat} (h0:0<x) (h:x<2 ^ 64):Lib.bitLen x≤64:=by
 obtain ⟨_,h2,_⟩:=afS x x (Nat.le_refl _) h0 h;have:=(Nat.pow_lt_pow_iff_right (show 1<2 by decide)).1 (Nat.lt_of_le_of_lt h2 h);omega
def wH:Nat:=4294967296
theorem wHH:wH*wH=wB:=rfl
theorem apd {y:Nat} (h0:0<y) (h:y<2 ^ 64):∃ s,s<64∧Lib.bitLen y+s=64∧wB≤2*(y*2 ^ s)∧y*2 ^ s<wB:=by
 obtain ⟨h1,h2,h3⟩:=afS y y (Nat.le_refl _) h0 h;have h4:=bl_le h0 h;refine ⟨64 - Lib.bitLen y,by omega,by omega,?_,?_⟩
 · have:=Nat.mul_le_mul_right (2 ^ (64 - Lib.bitLen y)) h2;rw [← Nat.pow_add,show Lib.bitLen y - 1+(64 - Lib.bitLen y)=63 by omega] at this;simp only [wB]; omega
 · have:=Nat.mul_lt_mul_of_pos_right h3 (Nat.pow_pos (show 0<2 by decide) (n:=64 - Lib.bitLen y));rw [← Nat.pow_add,show Lib.bitLen y+(64 - Lib.bitLen y)=64 by omega] at this;simp only [wB]; omega
structure DivF (hi lo y s:Nat) where
 Y:Nat
 v1:Nat
 v0:Nat
 T:Nat
 u:Nat
 u1:Nat
 u0:Nat
 q1:Nat
 R:Nat
 q0:Nat
 hY:Y=y*2 ^ s
 eY:Y=v1*wH+v0
 v1lt:v1<wH
 v0lt:v0<wH
 v1ge:wH≤2*v1
 T_lt:T<Y
 lt2:hi*2 ^ s<wB
 orr:hi*2 ^ s ||| lo / 2 ^ (64 - s)=T
 eu:u=lo*2 ^ s % wB
 eu1:u1=u / wH
 eu0:u0=u % wH
 u1lt:u1<wH
 u0lt:u0<wH
 eq1:q1=hq wH v1 v0 T u1
 q1lt:q1<wH
 eR:R=T*wH+u1 - q1*Y
 R_lt:R<Y
 q1Y:q1*Y≤T*wH+u1
 eq0:q0=hq wH v1 v0 R u0
 q0lt:q0<wH
 q0Y:q0*Y≤R*wH+u0
 ans:q1*wH+q0=(hi*wB+lo) / y
 rem:(R*wH+u0 - q0*Y) / 2 ^ s=(hi*wB+lo) % y
theorem divF {hi lo y:Nat} (hy:hi<y) (hyB:y<wB) (hlo:lo<wB):∃ s,s<64∧Lib.bitLen y+s=64∧Nonempty (DivF hi lo y s):=by
 obtain ⟨s,hs,hL,hn1,hn2⟩:=apd (y:=y) (by omega) hyB;have hST:=aoG hs;have hS:0<2 ^ s:=Nat.pow_pos (by decide);have hT:0<2 ^ (64 - s):=Nat.pow_pos (by decide);refine ⟨s,hs,hL,⟨?_⟩⟩;have e0:y*2 ^ s=y*2 ^ s / wH*wH+y*2 ^ s % wH:=by rw [Nat.mul_comm _ wH,Nat.div_add_mod]
 have hv0:y*2 ^ s % wH<wH:=Nat.mod_lt _ (by decide);have hv1:y*2 ^ s / wH<wH:=by rw [Nat.div_lt_iff_lt_mul (by decide)]; exact hn2
 have hv1g:wH≤2*(y*2 ^ s / wH):=by simp only [wH,wB] at *; omega
 have hd:lo / 2 ^ (64 - s)<2 ^ s:=by rw [Nat.div_lt_iff_lt_mul hT,hST]; exact hlo
 have h2:hi*2 ^ s<wB:=Nat.lt_trans (Nat.mul_lt_mul_of_pos_right hy hS) hn2;have hTl:hi*2 ^ s+lo / 2 ^ (64 - s)<y*2 ^ s:=by
  have:=Nat.mul_le_mul_right (2 ^ s) (show hi+1≤y from hy);rw [Nat.add_mul,Nat.one_mul] at this;omega
 have hor:hi*2 ^ s ||| lo / 2 ^ (64 - s)=hi*2 ^ s+lo / 2 ^ (64 - s):=asL hd
 have hu1:lo*2 ^ s % wB / wH<wH:=by rw [Nat.div_lt_iff_lt_mul (by decide)]; exact Nat.mod_lt _ (by decide)
 have hu0:lo*2 ^ s % wB % wH<wH:=Nat.mod_lt _ (by decide);have hU:(hi*wB+lo)*2 ^ s=((hi*2 ^ s+lo / 2 ^ (64 - s))*wH+lo*2 ^ s % wB / wH)*wH+lo*2 ^ s % wB % wH:=by
  have e1:lo*2 ^ s=lo / 2 ^ (64 - s)*wB+lo*2 ^ s % wB:=by
   have e2:lo*2 ^ s / wB=lo / 2 ^ (64 - s):=by
    rw [← hST,Nat.mul_comm lo,Nat.mul_div_mul_left _ _ hS]
   rw [← e2,Nat.mul_comm _ wB,Nat.div_add_mod]
  have e3:lo*2 ^ s % wB=lo*2 ^ s % wB / wH*wH+lo*2 ^ s % wB % wH:=by rw [Nat.mul_comm _ wH,Nat.div_add_mod]
  rw [Nat.add_mul,Nat.mul_right_comm,e1,Nat.add_mul (_*wH),Nat.mul_assoc (_+_) wH wH,wHH,Nat.add_mul];generalize hi*2 ^ s*wB=a1;rw [← e1];generalize lo*2 ^ s % wB=a2 at *;generalize lo / 2 ^ (64 - s)*wB=a3 at *;omega
 have hYp:0<y*2 ^ s:=by omega
 obtain ⟨b1,b2⟩:=hq_both (Y:=y*2 ^ s) (U:=(hi*wB+lo)*2 ^ s) (c:=wH) hYp;have hUd:(hi*wB+lo)*2 ^ s / wH=(hi*2 ^ s+lo / 2 ^ (64 - s))*wH+lo*2 ^ s % wB / wH:=by
  rw [hU,Nat.add_comm,Nat.add_mul_div_right _ _ (by decide),Nat.div_eq_of_lt hu0,Nat.zero_add]
 have hUm:(hi*wB+lo)*2 ^ s % wH=lo*2 ^ s % wB % wH:=by
  rw [hU,Nat.add_comm,Nat.add_mul_mod_self_right,Nat.mod_eq_of_lt hu0]
 rw [hUd,hUm,Nat.mul_div_mul_right _ _ hS] at b1;rw [hUd,hUm,Nat.mul_comm _ (2 ^ s),Nat.mul_comm y,Nat.mul_mod_mul_left] at b2;rw [Nat.mul_comm (2 ^ s) y] at b2;generalize hYe:y*2 ^ s=Y at *;generalize hi*2 ^ s+lo / 2 ^ (64 - s)=T at *;generalize hue:lo*2 ^ s % wB=u at *;have r1:=atq (T:=T) (c:=wH) (u1:=u / wH) (v1:=Y / wH) (v0:=Y % wH);rw [← e0] at r1;have r0:=atq (T:=(T*wH+u / wH) % Y) (c:=wH) (u1:=u % wH) (v1:=Y / wH) (v0:=Y % wH);rw [← e0] at r0;have q1e:hq wH (Y / wH) (Y % wH) T (u / wH)=(T*wH+u / wH) / Y:=by rw [hq,← e0]
 have q0e:hq wH (Y / wH) (Y % wH) ((T*wH+u / wH) % Y) (u % wH)=((T*wH+u / wH) % Y*wH+u % wH) / Y:=by rw [hq,← e0]
 have hRl:(T*wH+u / wH) % Y<Y:=Nat.mod_lt _ hYp;exact {
  Y:=Y,v1:=Y / wH,v0:=Y % wH,T:=T,u:=u,u1:=u / wH,u0:=u % wH
  q1:=hq wH (Y / wH) (Y % wH) T (u / wH),R:=(T*wH+u / wH) % Y,q0:=hq wH (Y / wH) (Y % wH) ((T*wH+u / wH) % Y) (u % wH)
  hY:=hYe.symm,eY:=e0,v1lt:=hv1,v0lt:=hv0,v1ge:=hv1g,T_lt:=hTl,lt2:=h2,orr:=hor,eu:=hue.symm,eu1:=rfl,eu0:=rfl,u1lt:=hu1,u0lt:=hu0
  eq1:=rfl,q1lt:=hq_lt (by rw [← e0]; exact hTl) hu1,eR:=r1.symm,R_lt:=hRl
  q1Y:=by rw [q1e]; exact Nat.div_mul_le_self _ _
  eq0:=rfl,q0lt:=hq_lt (by rw [← e0]; exact hRl) hu0
  q0Y:=by rw [q0e]; exact Nat.div_mul_le_self _ _
  ans:=by rw [q1e,q0e,← b1]
  rem:=by rw [r0,← b2,Nat.mul_div_cancel_left _ hS] }
section
variable [Gl] {P:Program} {frz:FuncId→Bool} {q:Nat×Nat}
theorem cutL {b:Code} {Q:aan→St→Prop} {s:St} {id:Nat} (R:St→Prop) (h1:abQ P frz q (.loop b) (aiR id (anQ R (fun _ _=>False))) s) (h2:∀ s',R s'→Q .normal s'):abQ P frz q (.loop b) (aiR id Q) s:=by
 refine abH _ (fun e s he=>?_) h1;cases e with
 | normal=>exact h2 s he
 | exit i =>
  simp only [aiR,afR] at he ⊢
  by_cases hb:i=id
  · simp [hb,anQ] at he ⊢; exact h2 s he
  · simp [hb,anQ] at he
 | ret=>exact he.elim
end
theorem andU (a:Nat) (ha:a<wB):IntKind.u64.wrap ((a % 2 ^ IntKind.u64.bits &&& 4294967295 % 2 ^ IntKind.u64.bits:Nat):Int)=(a % wH:Nat):=by
 rw [show (2 ^ IntKind.u64.bits:Nat)=wB from rfl,Nat.mod_eq_of_lt ha,show 4294967295 % wB=2 ^ 32 - 1 from rfl,Nat.and_two_pow_sub_one_eq_mod,ajS];rw [show (2:Nat) ^ 32=wH from rfl,Nat.mod_eq_of_lt (Nat.lt_of_lt_of_le (Nat.mod_lt _ (by decide)) (show wH≤wB by decide))]
theorem wrapR {a b c:Int} {R:Nat} (h:a+b - c=R) (hR:R<wB):IntKind.u64.wrap (IntKind.u64.wrap (IntKind.u64.wrap a+b) - IntKind.u64.wrap c)=R:=by
 show (((a % 18446744073709551616+b) % 18446744073709551616) - c % 18446744073709551616) % 18446744073709551616=R;have:R<18446744073709551616:=hR;omega
theorem aut (hi lo y:Nat) (hy:hi<y) (hyB:y<wB) (hlo:lo<wB):aab Tryz.prog 334 [.int .u64 hi,.int .u64 lo,.int .u64 y] (.tup [.int .u64 ((hi*wB+lo) / y:Nat),.int .u64 ((hi*wB+lo) % y:Nat)]):=by
 refine aad nf axu mix (by simp [Tryz.f334]) ?_;have h1:¬ (y:Int)=0:=by omega
 have h2:¬ (y:Int)≤hi:=by omega
 have h2':¬ y≤hi:=by omega
 have h1':¬ y=0:=by omega
 by_cases h0:hi=0
 · subst h0;have h3:IntKind.u64.wrap ((lo:Int) / y)=(lo:Int) / y:=wu64 _ (Int.ediv_nonneg (by omega) (by omega)) (Int.lt_of_le_of_lt (Int.ediv_le_self _ (by omega)) (by omega));have h4:(lo:Int).tmod y=(lo:Int) % y:=Int.tmod_eq_emod_of_nonneg (by omega);simp [Tryz.f334,h1,h2,h1',h2',h3,h4]
 obtain ⟨s,hs,hL,⟨Y,v1,v0,T,u,u1,u0,q1,R,q0,eY0,eY,v1lt,v0lt,v1ge,T_lt,lt2,orr,eu,eu1,eu0,u1lt,u0lt,eq1,q1lt,eR,R_lt,q1Y,eq0,q0lt,q0Y,ans,rem⟩⟩:=divF hy hyB hlo;have hlz:=ay8 y hyB;obtain ⟨t,ht⟩:∃ t,t=64 - s:=⟨_,rfl⟩
 have hH:wH=4294967296:=rfl;have hB:wB=18446744073709551616:=rfl;have YB:Y<wB:=by
  rw [hH] at v1lt v0lt eY; rw [hB]; omega
 have f1:IntKind.u64.wrap (64 - ((Lib.bitLen y:Nat):Int))=s:=by rw [wu64 _ (by omega) (by omega)]; omega
 have f2:IntKind.u64.wrap (64 - (s:Int))=t:=by rw [wu64 _ (by omega) (by omega)]; omega
 have f3:IntKind.u64.wrap ((y:Int)*2 ^ (min s IntKind.u64.bits))=Y:=by rw [shlU y s hs,← eY0,Nat.mod_eq_of_lt YB]
 have f4:(Y:Int).fdiv (2 ^ (min 32 IntKind.u64.bits))=v1:=by
  rw [shrU Y 32 (by omega)]; rw [hH] at v0lt eY; congr 1; omega
 have f5:IntKind.u64.wrap ((hi:Int)*2 ^ (min s IntKind.u64.bits))=(hi*2 ^ s:Nat):=by rw [shlU hi s hs,Nat.mod_eq_of_lt lt2]
 have f6:(lo:Int).fdiv (2 ^ (min t IntKind.u64.bits))=(lo / 2 ^ t:Nat):=shrU lo t (by omega);have f7:=orU (hi*2 ^ s) (lo / 2 ^ t) lt2 (Nat.lt_of_le_of_lt (Nat.div_le_self _ _) hlo);rw [ht,orr,← ht] at f7;have f8:IntKind.u64.wrap ((lo:Int)*2 ^ (min s IntKind.u64.bits))=u:=by rw [shlU lo s hs,← eu]
 have uB:u<wB:=by rw [eu]; exact Nat.mod_lt _ (by decide)
 have f9:(u:Int).fdiv (2 ^ (min 32 IntKind.u64.bits))=u1:=by
  rw [shrU u 32 (by omega)]; congr 1; rw [eu1]; rfl
 have v1p:0<v1:=by rw [hH] at v1ge; omega
 have v1n:¬ v1=0:=by omega
 have v1n':¬ (v1:Int)=0:=by omega
 have TB:T<wB:=by omega
 generalize hi*2 ^ s=h5 at *;generalize lo / 2 ^ t=l5 at *;have q_le:T / v1≤wH+1:=hq_le v1p (by rw [← eY]; exact T_lt) v1ge v0lt;have qv:T / v1*v1+T % v1=T:=by rw [Nat.mul_comm,Nat.div_add_mod]
 have rlt:T % v1<v1:=Nat.mod_lt _ v1p;have qi:=atr (T:=T) (u1:=u1) v1p v0lt u1lt;have g1:IntKind.u64.wrap ((T:Int) / v1)=(T / v1:Nat):=by rw [wu64 _ (Int.ediv_nonneg (by omega) (by omega)) (Int.lt_of_le_of_lt (Int.ediv_le_self _ (by omega)) (by omega))]; rfl
 generalize T / v1=qa at *;generalize T % v1=ra at *;have g2:IntKind.u64.wrap ((T:Int) - IntKind.u64.wrap ((qa:Int)*v1))=ra:=by
  have e:((qa*v1:Nat):Int)=(qa:Int)*v1:=by push_cast; rfl
  rw [wu64 ((qa:Int)*v1) (by omega) (by omega),wu64 _ (by omega) (by omega)]; omega
 have b1:=andU Y YB;have b2:=andU u uB;rw [show Y % wH=v0 by rw [eY,Nat.add_comm,Nat.add_mul_mod_self_right,Nat.mod_eq_of_lt v0lt]] at b1;rw [← eu0] at b2;have v1lt':v1<4294967296:=v1lt;have v0lt':v0<4294967296:=v0lt;have u1lt':u1<4294967296:=u1lt;have u0lt':u0<4294967296:=u0lt;have v1ge':4294967296≤2*v1:=v1ge;have q_le2:R / v1≤wH+1:=hq_le v1p (by rw [← eY]; exact R_lt) v1ge v0lt;have qv2:R / v1*v1+R % v1=R:=by rw [Nat.mul_comm,Nat.div_add_mod]
 have rlt2:R % v1<v1:=Nat.mod_lt _ v1p;have RB:R<wB:=by omega
 have qi2:=atr (T:=R) (u1:=u0) v1p v0lt u0lt;have j1:IntKind.u64.wrap ((R:Int) / v1)=(R / v1:Nat):=by rw [wu64 _ (Int.ediv_nonneg (by omega) (by omega)) (Int.lt_of_le_of_lt (Int.ediv_le_self _ (by omega)) (by omega))]; rfl
 generalize R / v1=qb at *;generalize R % v1=rb at *;have j2:IntKind.u64.wrap ((R:Int) - IntKind.u64.wrap ((qb:Int)*v1))=rb:=by
  have e:((qb*v1:Nat):Int)=(qb:Int)*v1:=by push_cast; rfl
  rw [wu64 ((qb:Int)*v1) (by omega) (by omega),wu64 _ (by omega) (by omega)]; omega
 have M1:IntKind.u64.wrap (IntKind.u64.wrap (IntKind.u64.wrap ((T:Int)*4294967296)+u1) - IntKind.u64.wrap ((q1:Int)*Y))=R:=by
  refine wrapR (h:=?_) (hR:=RB);have e1:((T*wH:Nat):Int)=(T:Int)*4294967296:=by push_cast; rfl
  have e2:((q1*Y:Nat):Int)=(q1:Int)*Y:=by push_cast; rfl
  omega
 have M2:IntKind.u64.wrap (IntKind.u64.wrap ((q1:Int)*4294967296)+q0)=((q1*wH+q0:Nat):Int):=by
  have h1:q1*4294967296+q0<18446744073709551616:=by
   have h2:q1<4294967296:=q1lt;have h3:q0<4294967296:=q0lt;omega
  rw [wu64 ((q1:Int)*4294967296) (by omega) (by omega),wu64 _ (by omega) (by omega)]; push_cast; rfl
 obtain ⟨Z,hZ⟩:∃ Z,Z=R*wH+u0 - q0*Y:=⟨_,rfl⟩
 have ZB:Z<wB:=by
  have h1:Z / 2 ^ s<y:=by rw [hZ,rem]; exact Nat.mod_lt _ (by omega)
  rw [Nat.div_lt_iff_lt_mul (Nat.pow_pos (by decide)),← eY0] at h1;omega
 have M3:IntKind.u64.wrap (IntKind.u64.wrap (IntKind.u64.wrap ((R:Int)*4294967296)+u0) - IntKind.u64.wrap ((q0:Int)*Y))=Z:=by
  refine wrapR (h:=?_) (hR:=ZB);have e1:((R*wH:Nat):Int)=(R:Int)*4294967296:=by push_cast; rfl
  have e2:((q0*Y:Nat):Int)=(q0:Int)*Y:=by push_cast; rfl
  omega
 have M4:=shrU Z s (by omega);rw [hZ,rem] at M4;rw [← hZ] at M4;rw [ans] at M2;simp [Tryz.f334,h1,h2,h1',h2',h0];refine c1 hlz ?_;simp [f1,f2,f3,f4,f5,f6,f7,f8,f9,v1n,v1n',g1,g2,b1,b2];refine cutL (fun s'=>getE s'.env 15=.p (.int .u64 q1)∧getE s'.env 14=.p (.int .u64 u0)∧getE s'.env 13=.p (.int .u64 u1)∧getE s'.env 11=.p (.int .u64 T)∧getE s'.env 10=.p (.int .u64 v0)∧getE s'.env 9=.p (.int .u64 v1)∧getE s'.env 8=.p (.int .u64 s)∧getE s'.env 2=.p (.int .u64 Y)∧s'.heap=[]) ?_ ?_
 · refine lp (α:=Nat×Nat) (fun a=>⟨[(16,.p (.int .u64 a.2)),(15,.p (.int .u64 a.1)),(14,.p (.int .u64 u0)),(13,.p (.int .u64 u1)),(11,.p (.int .u64 T)),(10,.p (.int .u64 v0)),(9,.p (.int .u64 v1)),(8,.p (.int .u64 s)),(2,.p (.int .u64 Y))],[]⟩) (fun a=>a.1*v1+a.2=T∧hq wH v1 v0 T u1≤a.1∧a.2<wH∧a.1≤wH+1) (fun a=>a.1) (qa,ra) ⟨qv,qi,by omega,q_le⟩ ?_;rintro ⟨x,r⟩ ⟨k1,k2,k3,k4⟩;dsimp only at k1 k2 k3 k4;have k3':r<4294967296:=k3;have k4':x≤4294967297:=k4;have p1:IntKind.u64.wrap ((x:Int)*v0)=(x*v0:Nat):=by
    have:=Nat.mul_le_mul k4' (show v0≤4294967295 by omega);rw [wu64 _ (by rw [← Int.natCast_mul]; omega) (by rw [← Int.natCast_mul]; omega)]; push_cast; rfl
   have p2:IntKind.u64.wrap (4294967296*(r:Int))=4294967296*r:=wu64 _ (by omega) (by omega);have p3:IntKind.u64.wrap (4294967296*(r:Int)+u1)=4294967296*r+u1:=wu64 _ (by omega) (by omega);have p5:IntKind.u64.wrap ((r:Int)+v1)=r+v1:=wu64 _ (by omega) (by omega)
   by_cases ht1:4294967296≤x∨4294967296*r+u1<x*v0
   · have kd:=ayN v1p (show 0<wH by decide) k1 k2 (ht1.imp (fun h=>⟨h,by rw [← eq1]; exact q1lt⟩) id);obtain ⟨k,rfl⟩:∃ k,x=k+1:=⟨x - 1,by
      rcases ht1 with h | h
      · omega
      · rcases Nat.eq_zero_or_pos x with e | e
        · rw [e] at h; omega
        · omega⟩
     have p4:IntKind.u64.wrap (k:Int)=k:=wu64 _ (by omega) (by omega);have k5:k*v1+(r+v1)=T:=by rw [← k1,Nat.add_mul]; omega
     rw [Nat.add_sub_cancel] at kd;have kB:k≤wH+1:=by omega
     by_cases hb:4294967296≤r+v1
     · have hq:=apy v1p (by rw [← eY]; exact T_lt) v0lt k5 hb kd;have hb':(4294967296:Int)≤(r:Int)+v1:=by omega
       rw [← eq1] at hq;subst hq;rcases Nat.lt_or_ge (k+1) 4294967296 with hc | hc
       · have hc1:((k:Int)+1<4294967296):=by omega
         have hc2:¬ ((4294967296:Int)≤(k:Int)+1):=by omega
         have hc3:(4294967296*(r:Int)+u1<((k+1)*v0:Nat)):=by omega
         have hc4:4294967296*r+u1<(k+1)*v0:=by omega
         generalize (k+1)*v0=kv at *;push_cast at p1;simp [p1,p2,p3,p4,p5,hc1,hc2,hc3,hc4,hb']
       · have hc2:((4294967296:Int)≤(k:Int)+1):=by omega
         simp [p4,p5,hc2,hb']
     · have hb':¬ (4294967296:Int)≤(r:Int)+v1:=by omega
       rcases Nat.lt_or_ge (k+1) 4294967296 with hc | hc
       · have hc1:((k:Int)+1<4294967296):=by omega
         have hc2:¬ ((4294967296:Int)≤(k:Int)+1):=by omega
         have hc3:(4294967296*(r:Int)+u1<((k+1)*v0:Nat)):=by omega
         have hc4:4294967296*r+u1<(k+1)*v0:=by omega
         generalize (k+1)*v0=kv at *;push_cast at p1;simp [p1,p2,p3,p4,p5,hc1,hc2,hc3,hc4,hb'];exact rd (k,r+v1) ⟨k5,kd,show r+v1<4294967296 by omega,kB⟩
       · have hc2:((4294967296:Int)≤(k:Int)+1):=by omega
         simp [p4,p5,hc2,hb'];exact rd (k,r+v1) ⟨k5,kd,show r+v1<4294967296 by omega,kB⟩
   · have hx1:¬ 4294967296≤x:=fun h=>ht1 (.inl h);have hx2:¬ 4294967296*r+u1<x*v0:=fun h=>ht1 (.inr h);have hq:=anR v1p (show 0<wH by decide) k1 k2 (Nat.not_lt.1 hx2);rw [← eq1] at hq;subst hq;have hx1':¬ (4294967296:Int)≤x:=by omega
     have hx2':¬ (4294967296*(r:Int)+u1<(x*v0:Nat)):=by omega
     generalize x*v0=kv at *;simp [p1,p2,p3,hx1',hx2']
 rintro ⟨env',heap'⟩ ⟨x1,x2,x3,x4,x5,x6,x7,x8,hp⟩;dsimp only at x1 x2 x3 x4 x5 x6 x7 x8 hp;subst hp;simp [x1,x2,x3,x4,x5,x6,x7,x8,M1,v1n,v1n',j1,j2];refine cutL (fun s'=>getE s'.env 18=.p (.int .u64 q0)∧getE s'.env 15=.p (.int .u64 q1)∧getE s'.env 17=.p (.int .u64 R)∧getE s'.env 14=.p (.int .u64 u0)∧getE s'.env 10=.p (.int .u64 v0)∧getE s'.env 9=.p (.int .u64 v1)∧getE s'.env 8=.p (.int .u64 s)∧getE s'.env 2=.p (.int .u64 Y)∧s'.heap=[]) ?_ ?_
 · refine lp (α:=Nat×Nat) (fun a=>⟨[(16,.p (.int .u64 a.2)),(18,.p (.int .u64 a.1)),(15,.p (.int .u64 q1)),(17,.p (.int .u64 R)),(14,.p (.int .u64 u0)),(10,.p (.int .u64 v0)),(9,.p (.int .u64 v1)),(8,.p (.int .u64 s)),(2,.p (.int .u64 Y))],[]⟩) (fun a=>a.1*v1+a.2=R∧hq wH v1 v0 R u0≤a.1∧a.2<wH∧a.1≤wH+1) (fun a=>a.1) (qb,rb) ⟨qv2,qi2,by omega,q_le2⟩ ?_ (he:=by simp [x1,x2,x3,x4,x5,x6,x7,x8]);rintro ⟨x,r⟩ ⟨k1,k2,k3,k4⟩;dsimp only at k1 k2 k3 k4;have k3':r<4294967296:=k3;have k4':x≤4294967297:=k4;have p1:IntKind.u64.wrap ((x:Int)*v0)=(x*v0:Nat):=by
    have:=Nat.mul_le_mul k4' (show v0≤4294967295 by omega);rw [wu64 _ (by rw [← Int.natCast_mul]; omega) (by rw [← Int.natCast_mul]; omega)]; push_cast; rfl
   have p2:IntKind.u64.wrap (4294967296*(r:Int))=4294967296*r:=wu64 _ (by omega) (by omega);have p3:IntKind.u64.wrap (4294967296*(r:Int)+u0)=4294967296*r+u0:=wu64 _ (by omega) (by omega);have p5:IntKind.u64.wrap ((r:Int)+v1)=r+v1:=wu64 _ (by omega) (by omega)
   by_cases ht1:4294967296≤x∨4294967296*r+u0<x*v0
   · have kd:=ayN v1p (show 0<wH by decide) k1 k2 (ht1.imp (fun h=>⟨h,by rw [← eq0]; exact q0lt⟩) id);obtain ⟨k,rfl⟩:∃ k,x=k+1:=⟨x - 1,by
      rcases ht1 with h | h
      · omega
      · rcases Nat.eq_zero_or_pos x with e | e
        · rw [e] at h; omega
        · omega⟩
     have p4:IntKind.u64.wrap (k:Int)=k:=wu64 _ (by omega) (by omega);have k5:k*v1+(r+v1)=R:=by rw [← k1,Nat.add_mul]; omega
     rw [Nat.add_sub_cancel] at kd;have kB:k≤wH+1:=by omega
     by_cases hb:4294967296≤r+v1
     · have hq:=apy v1p (by rw [← eY]; exact R_lt) v0lt k5 hb kd;have hb':(4294967296:Int)≤(r:Int)+v1:=by omega
       rw [← eq0] at hq;subst hq;rcases Nat.lt_or_ge (k+1) 4294967296 with hc | hc
       · have hc1:((k:Int)+1<4294967296):=by omega
         have hc2:¬ ((4294967296:Int)≤(k:Int)+1):=by omega
         have hc3:(4294967296*(r:Int)+u0<((k+1)*v0:Nat)):=by omega
         have hc4:4294967296*r+u0<(k+1)*v0:=by omega
         generalize (k+1)*v0=kv at *;push_cast at p1;simp [p1,p2,p3,p4,p5,hc1,hc2,hc3,hc4,hb']
       · have hc2:((4294967296:Int)≤(k:Int)+1):=by omega
         simp [p4,p5,hc2,hb']
     · have hb':¬ (4294967296:Int)≤(r:Int)+v1:=by omega
       rcases Nat.lt_or_ge (k+1) 4294967296 with hc | hc
       · have hc1:((k:Int)+1<4294967296):=by omega
         have hc2:¬ ((4294967296:Int)≤(k:Int)+1):=by omega
         have hc3:(4294967296*(r:Int)+u0<((k+1)*v0:Nat)):=by omega
         have hc4:4294967296*r+u0<(k+1)*v0:=by omega
         generalize (k+1)*v0=kv at *;push_cast at p1;simp [p1,p2,p3,p4,p5,hc1,hc2,hc3,hc4,hb'];exact rd (k,r+v1) ⟨k5,kd,show r+v1<4294967296 by omega,kB⟩
       · have hc2:((4294967296:Int)≤(k:Int)+1):=by omega
         simp [p4,p5,hc2,hb'];exact rd (k,r+v1) ⟨k5,kd,show r+v1<4294967296 by omega,kB⟩
   · have hx1:¬ 4294967296≤x:=fun h=>ht1 (.inl h);have hx2:¬ 4294967296*r+u0<x*v0:=fun h=>ht1 (.inr h);have hq:=anR v1p (show 0<wH by decide) k1 k2 (Nat.not_lt.1 hx2);rw [← eq0] at hq;subst hq;have hx1':¬ (4294967296:Int)≤x:=by omega
     have hx2':¬ (4294967296*(r:Int)+u0<(x*v0:Nat)):=by omega
     generalize x*v0=kv at *;simp [p1,p2,p3,hx1',hx2']
 rintro ⟨env',heap'⟩ ⟨x1,x2,x3,x4,x5,x6,x7,x8,hp⟩;dsimp only at x1 x2 x3 x4 x5 x6 x7 x8 hp;subst hp;simp [x1,x2,x3,x4,x5,x6,x7,x8,M2,M3,M4]
def mixF (j n:Nat) (g f:Nat→Nat) (k:Nat):Nat:=if j≤k∧k<j+n then f (k - j) else g k
theorem ads {j:Nat} {g f:Nat→Nat}:mixF j 0 g f=g:=by
 funext k; rw [mixF,if_neg (by omega)]
theorem ag6 {m j i:Nat} {g f:Nat→Nat} {v:Nat} (hv:f i=v):(mkF m (mixF j i g f)).set (j+i) (.p (.int .u64 v))=mkF m (mixF j (i+1) g f):=by
 refine aep ?_ fun k hk=>?_
 · rw [mixF,if_pos (by omega),Nat.add_sub_cancel_left,hv]
 · rw [mixF,mixF]
   by_cases h:j≤k∧k<j+i
   · rw [if_pos h,if_pos (by omega)]
   · rw [if_neg h,if_neg (by omega)]
theorem ag7 {m j i:Nat} {g f:Nat→Nat} (h:j+i<m):(mkF m (mixF j i g f))[j+i]?=some (.p (.int .u64 (g (j+i)))):=by
 rw [ac9 _ h,mixF,if_neg (by omega)]
theorem avJ {j n:Nat} {g f f':Nat→Nat}:mixF j n (mixF j n g f) f'=mixF j n g f':=by
 funext k; rw [mixF,mixF,mixF]; split <;> rfl
theorem g_step (X V m j n : Nat) (hn : (dig wB V).length = n) (h2 : 2 ≤ n) (hjm : j + n + 1 ≤ m) (hm : m ≤ 1000002) (hX : X < V * wB ^ (j + 1)) :
    abp Tryz.prog 337 [.arr .exact 0 1 (mkF m (plc wB X))] [.sl 0 0 1 j (n+1),.p (eN V)] [.arr .exact 0 1 (mkF m (plc wB (X % (V*wB ^ j))))] (.p (.int .u64 (X / (V*wB ^ j):Nat))):=by
 refine adT nf axs mix (by simp [Tryz.f337]) ?_;have hV2:=aaf wB2 V;have hV:wB ^ (n - 1)≤V:=by
  rcases Nat.lt_or_ge V (wB ^ (n - 1)) with h | h
  · have:=aak wB2 (n - 1) V h; omega
  · exact h
 rw [hn] at hV2;have hdV:∀ i (h:i<(dig wB V).length),(dig wB V)[i]=plc wB V i:=fun i h=>aal wB2 h;have hp0:0<V:=ajU wB2 h2 hV;obtain ⟨W,hW⟩:∃ W,X / wB ^ j=W:=⟨_,rfl⟩
 have hWV:W<V*wB:=by
  rw [← hW,Nat.div_lt_iff_lt_mul (Nat.pow_pos (by decide)),Nat.mul_assoc,Nat.mul_comm wB,← Nat.pow_succ]; exact hX
 have hWn:W<wB ^ (n+1):=Nat.lt_trans hWV (by rw [Nat.pow_succ]; exact Nat.mul_lt_mul_of_pos_right hV2 (by decide));have hg:∀ i,i<n+1→(mkF m (plc wB X))[j+i]?=some (.p (.int .u64 (plc wB W i))):=fun i hi=>by rw [ac9 _ (by omega),← hW,ae6]
 have hans:X / (V*wB ^ j)=W / V:=by rw [afH.2,hW]
 have hrow:∀ f:Nat→Nat,(∀ i,i<n+1→f i=plc wB (W % V) i)→mkF m (mixF j (n+1) (plc wB X) f)=mkF m (plc wB (X % (V*wB ^ j))):=fun f hf=>agc fun k hk=>by
  rw [afH.1,hW,alb wB2,mixF]
  by_cases h1:k<j
  · rw [if_neg (by omega),if_pos h1]
  · rw [if_neg h1]
    by_cases h3:k<j+(n+1)
    · rw [if_pos (by omega),hf _ (by omega)]
    · have e1:plc wB X k=0:=by
       obtain ⟨e,rfl⟩:∃ e,k=j+e:=⟨k - j,by omega⟩
       rw [← ae6,hW];exact aat (Nat.lt_of_lt_of_le hWn (Nat.pow_le_pow_right (by decide) (by omega)))
      have e2:plc wB (W % V) (k - j)=0:=aat (Nat.lt_of_lt_of_le (Nat.lt_of_le_of_lt (Nat.mod_le _ _) hWn) (Nat.pow_le_pow_right (by decide) (by omega)));rw [if_neg (by omega),e1,e2]
 rw [hans];simp only [eN];generalize dig wB V=x at *;have hix:∀ i,i<n→i<x.length:=fun i h=>by omega
 have e1:IntKind.i64.wrap ((n:Int) - 1)=((n - 1:Nat):Int):=by rw [wi64 _ (by omega) (by omega)]; omega
 have e2:IntKind.i64.wrap ((n:Int) - 2)=((n - 2:Nat):Int):=by rw [wi64 _ (by omega) (by omega)]; omega
 obtain ⟨n1,hn1⟩:∃ n1,n1=n - 1:=⟨_,rfl⟩
 obtain ⟨n2,hn2⟩:∃ n2,n2=n - 2:=⟨_,rfl⟩
 rw [← hn1] at e1;rw [← hn2] at e2;have hx1:=hdV n1 (by omega);have hx2:=hdV n2 (by omega);have i1:n1<x.length:=by omega
 have i2:n2<x.length:=by omega
 have hx1':x[n1]?=some (plc wB V n1):=by rw [List.getElem?_eq_getElem i1,hx1]
 have hx2':x[n2]?=some (plc wB V n2):=by rw [List.getElem?_eq_getElem i2,hx2]
 have l1:n1<n:=by omega
 have l2:n2<n:=by omega
 have l1':n1<n+1:=by omega
 have l2':n2<n+1:=by omega
 have g0:=hg n (by omega);have g1:=hg n1 (by omega);have g2:=hg n2 (by omega);have hnn:n=n1+1:=by omega
 have hWd:W / wB ^ n=plc wB W n:=by
  rw [plc,Nat.mod_eq_of_lt];rw [Nat.div_lt_iff_lt_mul (Nat.pow_pos (by decide)),Nat.mul_comm,← Nat.pow_succ]; exact hWn
 have hWt:W / wB ^ n1=plc wB W n*wB+plc wB W n1:=by rw [abG,← hnn,hWd]
 simp [Tryz.f337,-aai,hn];rw [aai];simp [-aai,hn];rw [aai];simp [-aai,hn];rw [aai];simp [-aai,hn];rw [aai];simp [-aai,hn];refine join (fun s=>∃ q r o:Nat,q*plc wB V n1+(r+o*wB)=W / wB ^ n1∧W / V≤q∧q<wB∧r<wB∧o≤1∧getE s.env 0=.sl 0 0 1 j (n+1)∧getE s.env 1=.p (.seq (x.map fun x:Nat=>.int .u64 x))∧getE s.env 5=.p (.int .i64 n)∧getE s.env 6=.p (.int .u64 q)∧getE s.env 7=.p (.int .u64 r)∧getE s.env 8=.p (.int .u64 o)∧s.heap=[.arr .exact 0 1 (mkF m (plc wB X))]) ?_ ?_
 · by_cases hc:plc wB V n1≤plc wB W n
   · have hcI:(plc wB V n1:Int)≤plc wB W n:=by omega
     simp [e1,e2,hx1,hx1',l1,l1',g0,g1,hcI,hn,shpA,shp,aah];refine e3 (afh (plc wB W n1) (plc wB V n1) 0 (by omega)) ?_;simp;have a1:=aaq wB2 W n1;have a2:=aaq wB2 V n1;have a3:plc wB W n=plc wB V n1:=by
      have:=(anT wB2 (by omega) hV2 hWV).1;rw [hWd,← hn1] at this; omega
     refine ⟨18446744073709551615,(plc wB W n1+plc wB V n1) % wB,(plc wB W n1+plc wB V n1) / wB,?_,?_,by decide,Nat.mod_lt _ (by decide),?_,rfl,rfl,rfl⟩
     · rw [hWt,a3]; simp only [wB]; omega
     · have:=(anT wB2 (by omega) hV2 hWV).2;simp only [wB] at this; omega
     · simp only [wB] at *; omega
   · have hcI:¬ (plc wB V n1:Int)≤plc wB W n:=by omega
     simp [e1,e2,hx1,hx1',l1,l1',g0,g1,hcI,hn,shpA,shp,aah];refine e3 (aut (plc wB W n) (plc wB W n1) (plc wB V n1) (by omega) (aaq wB2 _ _) (aaq wB2 _ _)) ?_;simp;have a1:=aaq wB2 W n1;have a2:=aaq wB2 V n1;refine ⟨(plc wB W n*wB+plc wB W n1) / plc wB V n1,(plc wB W n*wB+plc wB W n1) % plc wB V n1,0,?_,?_,?_,?_,by omega,rfl,rfl,rfl⟩
     · rw [hWt,Nat.zero_mul,Nat.add_zero,Nat.mul_comm,Nat.div_add_mod]
     · rw [← hWt,hn1]; exact atw wB2 h2 hV hV2
     · rw [Nat.div_lt_iff_lt_mul (by omega)];have:=Nat.mul_le_mul_right wB (show plc wB W n+1≤plc wB V n1 by omega);rw [Nat.add_mul,Nat.one_mul] at this;rw [Nat.mul_comm wB]; omega
     · exact Nat.lt_trans (Nat.mod_lt _ (by omega)) a2
 rintro ⟨env',heap'⟩ ⟨q,r,o,k1,k2,k3,k4,k5,x1,x2,x3,x4,x5,x6,hp⟩;dsimp only at x1 x2 x3 x4 x5 x6 hp;subst hp;simp [x1,x2,x3,x4,x5,x6];refine cutL (fun s=>∃ q:Nat,W / V≤q∧q≤W / V+1∧q<wB∧getE s.env 0=.sl 0 0 1 j (n+1)∧getE s.env 1=.p (.seq (x.map fun x:Nat=>.int .u64 x))∧getE s.env 5=.p (.int .i64 n)∧getE s.env 6=.p (.int .u64 q)∧s.heap=[.arr .exact 0 1 (mkF m (plc wB X))]) ?_ ?_
 · have hok0:q*plc wB V n1+(r+o*wB)=W / wB ^ n1∧W / V≤q∧q<wB∧r<wB∧o≤1:=⟨k1,k2,k3,k4,k5⟩
   clear k1 k2 k3 k4 k5;refine lp (α:=Nat×Nat×Nat) (fun a=>⟨[(8,.p (.int .u64 a.2.2)),(7,.p (.int .u64 a.2.1)),(6,.p (.int .u64 a.1)),(5,.p (.int .i64 n)),(1,.p (.seq (x.map fun x:Nat=>.int .u64 x))),(0,.sl 0 0 1 j (n+1))],[.arr .exact 0 1 (mkF m (plc wB X))]⟩)
    (fun a=>a.1*plc wB V n1+(a.2.1+a.2.2*wB)=W / wB ^ n1∧W / V≤a.1∧a.1<wB∧a.2.1<wB∧a.2.2≤1) (fun a=>a.1) (q,r,o) hok0 ?_ (he:=by simp [x1,x2,x3,x4,x5,x6])
   rintro ⟨q,r,o⟩ ⟨k1,k2,k3,k4,k5⟩;dsimp only at k1 k2 k3 k4 k5
   by_cases ho:o=0
   · subst ho;rw [Nat.zero_mul,Nat.add_zero] at k1;have m1:=akN q (plc wB V n2) k3 (aaq wB2 _ _);rw [show (18446744073709551616:Nat)=wB from rfl] at m1;have a5:=Nat.div_add_mod (q*plc wB V n2) wB;have a6:q*plc wB V n2 % wB<wB:=Nat.mod_lt _ (by decide);have gok:=fun h=>gs_ok wB2 h2 hV hV2 (by rw [← hn1]; exact k1) k3 (by rw [← hn2]; exact h);have gdec:=fun h=>ayP (q:=q) (r:=r) wB2 h2 hV hV2 (by rw [← hn1]; exact k1) (by rw [← hn2]; exact h);have a7:=aaq wB2 W n2;generalize q*plc wB V n2 % wB=lo at *;generalize q*plc wB V n2 / wB=hi at *;generalize q*plc wB V n2=P at *;have m2:=afh r (plc wB V n1) 0 (by omega);simp [e1,e2,hx1,hx1',hx2,hx2',l1,l1',l2,l2',hn];refine c2 m1 ?_;rcases Nat.lt_trichotomy hi r with h | h | h
     · have hI:(hi:Int)<r:=by omega
       simp [hI];refine ⟨q,k2,gok (by
        have:=Nat.mul_le_mul_left wB (show hi+1≤r by omega);rw [Nat.mul_add,Nat.mul_one,Nat.mul_comm wB r] at this; omega),k3,rfl⟩
     · subst h
       by_cases hl:lo≤plc wB W n2
       · have hI:(lo:Int)≤plc wB W n2:=by omega
         simp [hI,e2,g2,l2,l2'];exact ⟨q,k2,gok (by rw [Nat.mul_comm hi]; omega),k3,rfl⟩
       · have hI:¬ (lo:Int)≤plc wB W n2:=by omega
         have hd:=gdec (by rw [Nat.mul_comm hi]; omega);have hq0:0<q:=Nat.lt_of_le_of_lt (Nat.zero_le _) hd;obtain ⟨k,rfl⟩:∃ k,q=k+1:=⟨q - 1,by omega⟩
         have w1:IntKind.u64.wrap (k:Int)=k:=wu64 _ (by omega) (by omega);simp [hI,e1,e2,g2,l1,l1',l2,l2',hx1,hx1',w1,shpA,shp,aah];refine c3 m2 ?_;simp;have z1:=Nat.mod_add_div (hi+plc wB V n1) wB;have z2:k*plc wB V n1+((hi+plc wB V n1) % wB+(hi+plc wB V n1) / wB*wB)=W / wB ^ n1:=by
          rw [Nat.mul_comm _ wB,z1,← k1,Nat.add_mul,Nat.one_mul,Nat.add_assoc,Nat.add_comm hi]
         have z3:=aaq wB2 V n1;have z4:(hi+plc wB V n1) / wB≤1:=by
          have z5:=k4;simp only [wB] at z3 z5 ⊢; omega
         exact rd (k,(hi+plc wB V n1) % wB,(hi+plc wB V n1) / wB) ⟨z2,Nat.lt_succ_iff.1 hd,Nat.lt_of_succ_lt k3,Nat.mod_lt _ (by decide),z4⟩
     · have hI:¬ (hi:Int)<r:=by omega
       have hI2:¬ (hi:Int)=r:=by omega
       have ha:=Nat.mul_le_mul_left wB (show r+1≤hi by omega);rw [Nat.mul_add,Nat.mul_one,Nat.mul_comm wB r] at ha;have hd:=gdec (by omega);have hq0:0<q:=Nat.lt_of_le_of_lt (Nat.zero_le _) hd;obtain ⟨k,rfl⟩:∃ k,q=k+1:=⟨q - 1,by omega⟩
       have w1:IntKind.u64.wrap (k:Int)=k:=wu64 _ (by omega) (by omega);simp [hI,hI2,e1,e2,g2,l1,l1',l2,l2',hx1,hx1',w1,shpA,shp,aah];refine c3 m2 ?_;simp;have z1:=Nat.mod_add_div (r+plc wB V n1) wB;have z2:k*plc wB V n1+((r+plc wB V n1) % wB+(r+plc wB V n1) / wB*wB)=W / wB ^ n1:=by
        rw [Nat.mul_comm _ wB,z1,← k1,Nat.add_mul,Nat.one_mul,Nat.add_assoc,Nat.add_comm r]
       have z3:=aaq wB2 V n1;have z4:(r+plc wB V n1) / wB≤1:=by
        have z5:=k4;simp only [wB] at z3 z5 ⊢; omega
       exact rd (k,(r+plc wB V n1) % wB,(r+plc wB V n1) / wB) ⟨z2,Nat.lt_succ_iff.1 hd,Nat.lt_of_succ_lt k3,Nat.mod_lt _ (by decide),z4⟩
   · have ho1:o=1:=by omega
     subst ho1;simp;exact ⟨q,k2,gs_ok wB2 h2 hV hV2 (by rw [← hn1]; exact k1) k3 (atv wB2 (by omega) k3),k3,rfl⟩
 rintro ⟨env',heap'⟩ ⟨q,k2,k3,k4,x1,x2,x3,x4,hp⟩;dsimp only at x1 x2 x3 x4 hp;subst hp;have hqV:q*V<wB ^ (n+1):=aqA k4 hV2;have hqV':q*V≤W+wB ^ (n+1):=by omega
 obtain ⟨D,hD⟩:∃ D,D=W+wB ^ (n+1) - q*V:=⟨_,rfl⟩
 have hsub:∀ i,i<n+1→aab Tryz.prog 350 [.int .u64 (plc wB W i),.int .u64 (plc wB (q*V) i),.int .u64 (aaF wB (W+wB ^ (n+1)) (q*V) i)] (.tup [.int .u64 (plc wB D i),.int .u64 (aaF wB (W+wB ^ (n+1)) (q*V) (i+1))]):=fun i hi=>by
  have h:=ay6 hqV' i;rw [← hD,afw hi] at h;exact h
 have hrowq:∀ i,(q*plc wB V i % wB+rowC wB V q i+0) % wB=plc wB (q*V) i∧IntKind.u64.wrap (((q*plc wB V i / wB:Nat):Int)+((q*plc wB V i % wB+rowC wB V q i+0) / wB:Nat))=(rowC wB V q (i+1):Nat):=fun i=>by
  obtain ⟨h1,h3⟩:=avd (q:=q) (V:=V) wB2 i;have h4:=rowC_lt (V:=V) wB2 k4 (i+1);rw [← h1,← h3];rw [← h3] at h4;generalize q*plc wB V i=P at *;generalize rowC wB V q i=c at *;have e:P / wB+(P % wB+c+0) / wB=(P+c) / wB:=by simp only [wB]; omega
  refine ⟨by simp only [wB]; omega,?_⟩;rw [wu64 _ (by omega) (by omega)]; omega
 have hb:=anO (V:=V) (q:=q) hWn hqV;have hrn:=avf wB2 k4 hV2;have hll:(mkF m (plc wB X)).length=m:=as2 _ _;simp [x1,x2,x3,x4];refine lp (α:=Nat) (fun i=>⟨[(105,.p (.int .i64 i)),(104,.p (.int .i64 n)),(12,.p (.int .u64 (rowC wB V q i:Nat))),(11,.p (.int .u64 (aaF wB (W+wB ^ (n+1)) (q*V) i:Nat))),(6,.p (.int .u64 q)),(5,.p (.int .i64 n)),(1,.p (.seq (x.map fun x:Nat=>.int .u64 x))),(0,.sl 0 0 1 j (n+1))],[.arr .exact 0 1 (mkF m (mixF j i (plc wB X) (plc wB D)))]⟩)
  (fun i=>i≤n) (fun i=>n - i) 0 (by simp) ?_ (hn:=by simp [ads]) (he:=by simp [x1,x2,x3,x4,ase,aev]) (hh:=by simp [ads])
 intro i k5;have hwi:=wi1 (i:=i) (by omega)
 by_cases hi:i<n
 · have ix:i<x.length:=hix i hi;have hxi:=hdV i ix;have hxi':x[i]?=some (plc wB V i):=by rw [List.getElem?_eq_getElem ix,hxi]
   have m1:=akN q (plc wB V i) k4 (aaq wB2 _ _);rw [show (18446744073709551616:Nat)=wB from rfl] at m1;have m2:=afh (q*plc wB V i % wB) (rowC wB V q i) 0 (by omega);obtain ⟨r1,r2⟩:=hrowq i;have m3:=hsub i (by omega);rw [r1] at m2;generalize q*plc wB V i % wB=lo at *;generalize q*plc wB V i / wB=hi' at *;generalize (lo+rowC wB V q i+0) / wB=c' at *;have hin:i<n+1:=by omega
   have gi:(mkF m (mixF j i (plc wB X) (plc wB D)))[j+i]?=some (.p (.int .u64 (plc wB W i))):=by rw [ag7 (by omega),← hW,ae6]
   have si:=ag6 (m:=m) (j:=j) (i:=i) (g:=plc wB X) (f:=plc wB D) rfl;simp [hn,hi,hxi,hxi'];refine c2 m1 ?_;simp;refine c3 m2 ?_;simp [r2,hin,gi];refine c3 m3 ?_;simp [hin,gi,si,hwi,shpA,shp,aah];exact rd (i+1) (show i+1≤n by omega)
 have hi2:i=n:=by omega
 subst hi2;have gi:(mkF m (mixF j i (plc wB X) (plc wB D)))[j+i]?=some (.p (.int .u64 (plc wB W i))):=by rw [ag7 (by omega),← hW,ae6]
 have si:=ag6 (m:=m) (j:=j) (i:=i) (g:=plc wB X) (f:=plc wB D) rfl;have m3:=hsub i (by omega);rw [← hrn] at m3;simp [gi];refine c3 m3 ?_;rw [hb]
 by_cases hqW:q*V≤W
 · obtain ⟨y1,y2⟩:=rem_no hqW k3 hp0 k2;have hfin:=hrow (plc wB D) fun k hk=>by rw [hD,← y2]; exact remW_eq hqW hk
   have yq:(q:Int)=(W:Int) / V:=by rw [y1]; rfl
   have hif:(if W<q*V then 1 else 0:Nat)=0:=if_neg (by omega);rw [hif];simp [gi,si,hfin,← yq,shpA,shp,aah]
 · obtain ⟨y1,y2⟩:=avj (by omega) k3 hp0 k2;have y3:=y2 (wB ^ (i+1)) hqV';rw [← hD] at y3;have hfin:=hrow (plc wB (D+V)) fun k hk=>by rw [y3,afw hk]
   have hif:(if W<q*V then 1 else 0:Nat)=1:=if_pos (by omega);have yq:IntKind.u64.wrap ((q:Int) - 1)=(W:Int) / V:=by
    have e:((W / V:Nat):Int)=(W:Int) / V:=rfl;rw [← e];generalize W / V=Q at *;rw [wu64 _ (by omega) (by omega)]; omega
   rw [hif];simp [gi,si,shpA,shp,aah];refine lp (α:=Nat) (fun k=>⟨[(157,.p (.int .i64 k)),(156,.p (.int .i64 i)),(17,.p (.int .u64 (aaz wB D V k:Nat))),(6,.p (.int .u64 q)),(5,.p (.int .i64 i)),(1,.p (.seq (x.map fun x:Nat=>.int .u64 x))),(0,.sl 0 0 1 j (i+1))],[.arr .exact 0 1 (mkF m (mixF j k (mixF j (i+1) (plc wB X) (plc wB D)) (plc wB (D+V))))]⟩)
    (fun k=>k≤i) (fun k=>i - k) 0 (by simp) ?_ (hn:=by simp [ads]) (he:=by simp [adZ]) (hh:=by simp [ads])
   intro k k6;have hwk:=wi1 (i:=k) (by omega);have gk:(mkF m (mixF j k (mixF j (i+1) (plc wB X) (plc wB D)) (plc wB (D+V))))[j+k]?=some (.p (.int .u64 (plc wB D k))):=by rw [ag7 (by omega),mixF,if_pos (by omega),Nat.add_sub_cancel_left]
   have sk:=ag6 (m:=m) (j:=j) (i:=k) (g:=mixF j (i+1) (plc wB X) (plc wB D)) (f:=plc wB (D+V)) rfl;obtain ⟨h1,h3⟩:=ad2 wB2 D V k
   by_cases hk:k<i
   · have ix:k<x.length:=hix k hk;have hxi:=hdV k ix;have hxi':x[k]?=some (plc wB V k):=by rw [List.getElem?_eq_getElem ix,hxi]
     have m2:=afh (plc wB D k) (plc wB V k) (aaz wB D V k) (abx wB2 _ _ _);rw [h1,h3] at m2;have hk1:k<i+1:=by omega
     simp [hn,hk,hk1,hxi,hxi',gk,shpA,shp,aah];refine e3 m2 ?_;simp [hk1,gk,sk,hwk,shpA,shp,aah];refine ⟨⟨by rfl,by rfl,by rfl⟩,?_⟩;exact rd (k+1) (show k+1≤i by omega)
   have hk2:k=i:=by omega
   subst hk2;have hv0:plc wB V k=0:=aat hV2;rw [hv0,Nat.add_zero] at h1;have w9:IntKind.u64.wrap ((plc wB D k:Int)+(aaz wB D V k:Nat))=(plc wB (D+V) k:Nat):=by rw [← Int.natCast_add,ajS,h1]
   simp [gk,sk,w9,yq,hfin,avJ,shpA,shp,aah]
theorem avG {a b i:Nat} (hb:0<b):(a / wB ^ (i+1) % b*wB+plc wB a i) / b=plc wB (a / b) i∧(a / wB ^ (i+1) % b*wB+plc wB a i) % b=a / wB ^ i % b:=by
 have e:=abG (B:=wB) a i;have h1:=Nat.div_add_mod (a / wB ^ (i+1)) b;have h2:a / wB ^ i=(a / wB ^ (i+1) % b*wB+plc wB a i)+a / wB ^ (i+1) / b*wB*b:=by
  rw [e];generalize plc wB a i=d;generalize a / wB ^ (i+1) / b=Q at *;generalize a / wB ^ (i+1) % b=R at *;rw [← h1,Nat.add_mul,Nat.mul_comm b,Nat.mul_right_comm Q b wB];omega
 have hlt:(a / wB ^ (i+1) % b*wB+plc wB a i) / b<wB:=by
  rw [Nat.div_lt_iff_lt_mul hb];have h3:=aaq wB2 a i;have h4:=Nat.mul_le_mul_right wB (show a / wB ^ (i+1) % b+1≤b from Nat.mod_lt _ hb);rw [Nat.add_mul,Nat.one_mul] at h4;rw [Nat.mul_comm wB]; omega
 constructor
 · conv=>rhs; rw [plc,Nat.div_div_eq_div_mul,Nat.mul_comm b,← Nat.div_div_eq_div_mul,h2,Nat.add_mul_div_right _ _ hb,Nat.add_mul_mod_self_right,Nat.mod_eq_of_lt hlt]
 · rw [h2,Nat.add_mul_mod_self_right]
def qF (Q i k:Nat):Nat:=if i≤k then plc wB Q k else 0
theorem aw8 {m Q i:Nat}:(mkF m (qF Q (i+1))).set i (.p (.int .u64 (plc wB Q i)))=mkF m (qF Q i):=by
 refine aep ?_ fun k hk=>?_
 · rw [qF,if_pos (Nat.le_refl _)]
 · rw [qF,qF]
   by_cases h:i≤k
   · rw [if_pos h,if_pos (by omega)]
   · rw [if_neg h,if_neg (by omega)]
theorem asr {m Q:Nat}:mkF m (qF Q 0)=mkF m (plc wB Q):=ah3 fun k=>by rw [qF,if_pos (Nat.zero_le _)]
theorem ass {m Q:Nat}:List.replicate m (AV.p (.int .u64 0))=mkF m (qF Q m):=by
 rw [akn (f:=fun _=>0) (fun _=>rfl)];exact agc fun k hk=>by rw [qF,if_neg (by omega)]
theorem aoa {m N:Nat} (h:N<wB ^ m) (hm:m≤1048576):∃ l:List Nat,l.length=m∧mkF m (plc wB N)=l.map (AV.p∘fun x:Nat=>PV.int .u64 x)∧aab Tryz.prog 313 [.seq (eW l)] (eN N):=by
 refine ⟨(List.range m).map (plc wB N),by simp,ako m _,?_⟩;have hT:=agq ((List.range m).map (plc wB N)) (by simp; omega);rw [show aby ((List.range m).map (plc wB N))=dig wB N from abl wB2 h] at hT;exact hT
theorem aeu {a b:Nat}:cmpN a b<0↔a<b:=by
 rw [cmpN]; split
 · simp [*]
 · split <;> simp [*]
theorem aqn (r:Nat):((r:Int) % 2 ^ IntKind.u64.bits).toNat=r % 2 ^ IntKind.u64.bits:=by
 rw [show IntKind.u64.bits=64 from rfl];omega
theorem dv_norm {b d n n1 s V:Nat} (hbd:b / wB ^ n1=d) (hn1:n=n1+1) (hs:s<64) (hs1:wB≤2*(d*2 ^ s)) (hs2:d*2 ^ s<wB) (hV:V=b*2 ^ s):V<wB ^ n∧wB ^ n≤2*V:=by
 have hpn:0<wB ^ n1:=Nat.pow_pos (by decide);have hS:0<2 ^ s:=Nat.pow_pos (by decide);have hbl2:b<(d+1)*wB ^ n1:=by
  rw [← hbd,Nat.add_mul,Nat.one_mul]; exact Nat.lt_div_mul_add hpn
 have hd1:(d+1)*2 ^ s≤wB:=by
  have h3:=aoG hs;have h4:d<2 ^ (64 - s):=by
   rw [← h3,Nat.mul_comm d] at hs2;exact Nat.lt_of_mul_lt_mul_left hs2
  rw [← h3,Nat.mul_comm]; exact Nat.mul_le_mul_left _ h4
 constructor
 · rw [hV,hn1,Nat.pow_succ,Nat.mul_comm _ wB];refine Nat.lt_of_lt_of_le (Nat.mul_lt_mul_of_pos_right hbl2 hS) ?_;rw [Nat.mul_right_comm]; exact Nat.mul_le_mul_right _ hd1
 · rw [hV,hn1,Nat.pow_succ,Nat.mul_comm _ wB];refine Nat.le_trans (Nat.mul_le_mul_right _ hs1) ?_;have h3:d*wB ^ n1≤b:=by rw [← hbd]; exact Nat.div_mul_le_self _ _
   have h4:=Nat.mul_le_mul_right (2 ^ s) h3;rw [Nat.mul_assoc 2,Nat.mul_right_comm d]; exact Nat.mul_le_mul_left _ h4
theorem av8 {a n la s V:Nat} (hla:a<wB ^ la) (hs:s<64) (hVg:wB ^ n≤2*V) (hnla:n≤la):a*2 ^ s<V*wB ^ (la - n+1):=by
 have h3:2*2 ^ s≤wB:=by
  have h5:2 ^ (s+1)≤2 ^ 64:=Nat.pow_le_pow_right (by decide) hs;rw [Nat.pow_succ,Nat.mul_comm] at h5;exact h5
 have h4:=Nat.mul_le_mul_right (wB ^ (la - n+1)) hVg;rw [← Nat.pow_add,show n+(la - n+1)=la+1 by omega,Nat.pow_succ,Nat.mul_assoc] at h4;have h5:=Nat.mul_le_mul_left a h3;have h6:=Nat.mul_lt_mul_of_pos_right hla (show 0<wB by decide);rw [Nat.mul_left_comm] at h5;generalize wB ^ la*wB=z1 at *;generalize V*wB ^ (la - n+1)=z2 at *;generalize a*2 ^ s=z3 at *;generalize a*wB=z4 at *;clear h3 hVg hla;omega
theorem dv_quot {a b n n1 la:Nat} (hla:a<wB ^ la) (hb:0<b) (hn1:n=n1+1) (hbt:wB ^ n1≤b) (hnla:n≤la):a / b<wB ^ (la - n+1):=by
 rw [Nat.div_lt_iff_lt_mul hb];refine Nat.lt_of_lt_of_le hla ?_;have h3:=Nat.mul_le_mul_left (wB ^ (la - n+1)) hbt;rw [← Nat.pow_add,show la - n+1+n1=la by omega] at h3;exact h3
theorem av9 {a b s k:Nat} (hS:0<2 ^ s):a*2 ^ s % (b*2 ^ s*wB ^ (k+1)) / (b*2 ^ s*wB ^ k)=plc wB (a / b) k:=by
 rw [Nat.pow_succ,← Nat.mul_assoc,Nat.mod_mul_right_div_self,← Nat.div_div_eq_div_mul,Nat.mul_div_mul_right _ _ hS,plc]
theorem as3 {n N:Nat} {f g:Nat→Nat} (hn:n≤N) (h:∀ k,k<n→f k=g k):((List.range N).map f).take n=(List.range n).map g:=by
 rw [← List.map_take,List.take_range,Nat.min_eq_left hn];exact List.map_congr_left fun k hk=>h k (List.mem_range.1 hk)
theorem akO (a b:Nat) (hb:0<b) (ha:(dig wB a).length≤1000000) (hbl:(dig wB b).length≤1000000):aab Tryz.prog 302 [eN a,eN b] (.tup [eN (a / b),eN (a % b)]):=by
 refine aad nf axL mix (by simp [Tryz.f302]) ?_;have hcmp:=aeV a b (by omega) (by omega);simp [Tryz.f302];refine c2 hcmp ?_
 by_cases hab:a<b
 · have h1:=aeu.2 hab;simp [h1,Nat.div_eq_of_lt hab,Nat.mod_eq_of_lt hab,eN,dig,digs]
 have h1:¬ cmpN a b<0:=fun h=>hab (aeu.1 h);have hda:∀ i (h:i<(dig wB a).length),(dig wB a)[i]=plc wB a i:=fun i h=>aal wB2 h;have hdb:∀ i (h:i<(dig wB b).length),(dig wB b)[i]=plc wB b i:=fun i h=>aal wB2 h;have hla:=aaf wB2 a;have hlb:=aaf wB2 b
 by_cases hl1:(dig wB b).length=1
 · rw [hl1,Nat.pow_one] at hlb;have hl1':((dig wB b).length:Int)=1:=by omega
   obtain ⟨l,hll,hlm,hT⟩:=aoa (m:=(dig wB a).length) (N:=a / b) (Nat.lt_of_le_of_lt (Nat.div_le_self _ _) hla) (by omega);have hT2:=agq [a % b] (by simp);have hd2:aby [a % b]=dig wB (a % b):=by
    have hr:a % b<wB:=Nat.lt_trans (Nat.mod_lt _ hb) hlb;have:=abl wB2 (m:=1) (n:=a % b) (by rw [Nat.pow_one]; exact hr);rw [← this,row,List.range_one,List.map_cons,List.map_nil,plc,Nat.pow_zero,Nat.div_one,Nat.mod_eq_of_lt hr]
   rw [hd2] at hT2;have hb0:(dig wB b)[0]?=some b:=by
    rw [List.getElem?_eq_getElem (by omega),hdb 0 (by omega),plc,Nat.pow_zero,Nat.div_one,Nat.mod_eq_of_lt hlb]
   have hb0':∀ h:0<(dig wB b).length,(dig wB b)[0]'h=b:=fun h=>by rw [hdb 0 h,plc,Nat.pow_zero,Nat.div_one,Nat.mod_eq_of_lt hlb]
   have hend:a / wB ^ (dig wB a).length % b=0:=by rw [Nat.div_eq_of_lt hla,Nat.zero_mod]
   simp only [eN] at hT ⊢;generalize dig wB (a / b)=zq at *;generalize dig wB (a % b)=zr at *;generalize dig wB a=x at *;generalize dig wB b=y at *;obtain ⟨n,hn⟩:∃ n,x.length=n:=⟨_,rfl⟩
   rw [hn] at hll hlm hend ha;have e1:IntKind.i64.wrap ((n:Int) - 1)=n - 1:=wi64 _ (by omega) (by omega);simp [h1,hl1,hl1',hn,e1];refine ⟨by simp only [maxL]; omega,?_⟩;rw [ass (Q:=a / b)];refine lp (α:=Nat) (fun i=>⟨[(8,.p (.int .i64 ((i:Int) - 1))),(7,.p (.int .u64 (a / wB ^ i % b:Nat))),(6,.sl 0 0 1 0 n),(1,.p (.seq (y.map fun x:Nat=>.int .u64 x))),(0,.p (.seq (x.map fun x:Nat=>.int .u64 x)))],[.arr .exact 0 1 (mkF n (qF (a / b) i))]⟩)
    (fun i=>i≤n) (fun i=>i) n (Nat.le_refl _) ?_ (he:=by simp [hend])
   intro i k1
   by_cases hi:0<i
   · obtain ⟨k,rfl⟩:∃ k,i=k+1:=⟨i - 1,by omega⟩
     have e2:IntKind.i64.wrap ((k:Int) - 1)=k - 1:=wi64 _ (by omega) (by omega);have ik:k<x.length:=by omega
     have hx:=hda k ik;have hx':x[k]?=some (plc wB a k):=by rw [List.getElem?_eq_getElem ik,hx]
     have hD:=aut (a / wB ^ (k+1) % b) (plc wB a k) b (Nat.mod_lt _ hb) hlb (aaq wB2 _ _);obtain ⟨r1,r2⟩:=avG (a:=a) (i:=k) hb;rw [r1,r2] at hD;have hst:=aw8 (m:=n) (Q:=a / b) (i:=k);have gk:=ac9 (n:=n) (qF (a / b) (k+1)) (show k<n by omega);have hkn:k<n:=by omega
     generalize a / wB ^ (k+1) % b=R1 at *;simp [hn,e2,hx,hx',hb0,hb0',hl1,hkn,shpA,shp,aah];refine e3 hD ?_;simp [hst,gk,e2,hkn,shpA,shp,aah];refine ⟨by rfl,?_⟩;exact rd k (show k≤n by omega)
   · obtain rfl:i=0:=by omega
     simp [asr,hlm];refine cp hT (by simp [hll]; exact ⟨rfl,rfl⟩) ?_ (h1:=by simp [eW,List.take_of_length_le,hll]);simp;refine cp hT2 (by simp; exact ⟨rfl,rfl⟩) ?_ (h1:=by simp [eW]);simp;exact Wkl.refl _
 have hl2:2≤(dig wB b).length:=by
  rcases Nat.lt_or_ge (dig wB b).length 1 with h | h
  · have e:(dig wB b).length=0:=by omega
    rw [e,Nat.pow_zero] at hlb; omega
  · omega
 have hl1':¬ ((dig wB b).length:Int)=1:=by omega
 obtain ⟨n,hn⟩:∃ n,(dig wB b).length=n:=⟨_,rfl⟩
 obtain ⟨la,hla'⟩:∃ la,(dig wB a).length=la:=⟨_,rfl⟩
 obtain ⟨n1,hn1⟩:∃ n1,n=n1+1:=⟨n - 1,by omega⟩
 have hbt:wB ^ n1≤b:=by
  rcases Nat.lt_or_ge b (wB ^ n1) with h | h
  · have:=aak wB2 n1 b h; omega
  · exact h
 obtain ⟨d,hd⟩:∃ d,d=plc wB b n1:=⟨_,rfl⟩
 have hdl:d<wB:=by rw [hd]; exact aaq wB2 _ _
 have hbd:b / wB ^ n1=d:=by
  rw [hd,plc,Nat.mod_eq_of_lt];rw [Nat.div_lt_iff_lt_mul (Nat.pow_pos (by decide)),Nat.mul_comm,← Nat.pow_succ,show n1.succ=n from hn1.symm,← hn]; exact hlb
 have hd0:0<d:=by rw [← hbd]; exact Nat.div_pos hbt (Nat.pow_pos (by decide))
 obtain ⟨s,hs,hL,hs1,hs2⟩:=apd hd0 hdl;have hlz:=ay8 d hdl;obtain ⟨V,hV⟩:∃ V,V=b*2 ^ s:=⟨_,rfl⟩
 have hS:0<2 ^ s:=Nat.pow_pos (by decide);have hVb:b≤V:=by rw [hV]; exact Nat.le_mul_of_pos_right _ hS
 have hV0:0<V:=Nat.lt_of_lt_of_le hb hVb;obtain ⟨hVt,hVg⟩:=dv_norm hbd hn1 hs hs1 hs2 hV;have hVn:(dig wB V).length=n:=by
  have h3:=aak wB2 n V hVt;rcases Nat.lt_or_ge (dig wB V).length n with h | h
  · have h4:=Nat.lt_of_lt_of_le (aaf wB2 V) (Nat.pow_le_pow_right (show 0<wB by decide) (show (dig wB V).length≤n1 by omega));omega
  · omega
 have hT:=aoa (m:=n+1) (N:=V) (Nat.lt_of_lt_of_le hVt (Nat.pow_le_pow_right (by decide) (by omega))) (by omega);obtain ⟨l,hll,hlm,hT⟩:=hT;have hupb:=ami b s hs (by omega);have hupa:=ami a s hs (by omega);have ix:n1<(dig wB b).length:=by omega
 have hx:=hdb n1 ix;have hx':(dig wB b)[n1]?=some d:=by rw [List.getElem?_eq_getElem ix,hx,hd]
 rw [hn,← hV] at hupb;rw [hla'] at hupa;have hnla:n≤la:=by
  rcases Nat.lt_or_ge la n with h | h
  · have:=Nat.lt_of_lt_of_le hla (Nat.pow_le_pow_right (show 0<wB by decide) (show (dig wB a).length≤n1 by omega)); omega
  · exact h
 rw [hla'] at hla;have hA:=av8 (n:=n) hla hs hVg hnla;have hQ:=dv_quot (n:=n) hla hb hn1 hbt hnla;have hRb:a % b<wB ^ n:=Nat.lt_trans (Nat.mod_lt _ hb) (by rw [hn] at hlb; exact hlb);have htrr:aby ((List.range n).map (plc wB (a % b)))=dig wB (a % b):=abl wB2 hRb;have ade:∀ X j,j+n+1≤la+1→X<V*wB ^ (j+1)→_:=fun X j h3 h4=>g_step X V (la+1) j n hVn (by omega) h3 (by omega) h4;simp only [eN] at hT ⊢ hupa hupb ade;generalize dig wB V=vv at *;generalize hzq:dig wB (a / b)=zq at *;generalize hzr:dig wB (a % b)=zr at *;generalize dig wB a=x at *;generalize dig wB b=y at *;have e1:IntKind.i64.wrap ((n:Int) - 1)=n1:=by rw [wi64 _ (by omega) (by omega)]; omega
 have hs0:(64:Int) - (Lib.bitLen d:Nat)=s:=by omega
 rw [hs0] at hlz;rw [← hd] at hx;have hl3:¬ (n:Int)=1:=by omega
 have hl4:¬ n=1:=by omega
 simp [h1,hl1,hl1',hl3,hl4,hn,e1,hx,hx',ix,shpA,shp,aah];refine c1 hlz ?_;simp;refine cn2 hupb ?_;simp [hlm];refine cp hT (by simp [hll]; exact ⟨rfl,rfl⟩) ?_ (h1:=by simp [eW,List.take_of_length_le,hll]);simp;refine cn2 hupa ?_;obtain ⟨m,hm⟩:∃ m,m=la - n:=⟨_,rfl⟩
 have e2:IntKind.i64.wrap ((la:Int) - n)=m:=by rw [wi64 _ (by omega) (by omega)]; omega
 have e3:IntKind.i64.wrap ((m:Int)+1)=m+1:=wi1 (by omega);simp [hVn,hla',e2,e3];refine ⟨⟨by omega,by simp only [maxL]; omega⟩,?_⟩;have hA':a*2 ^ s % (V*wB ^ (m+1))=a*2 ^ s:=Nat.mod_eq_of_lt (by rw [hm]; exact hA);rw [ass (Q:=a / b)];refine cutL (fun s'=>getE s'.env 9=.p (.int .i64 s)∧getE s'.env 11=.sl 1 0 1 0 (la+1)∧getE s'.env 12=.p (.int .i64 n)∧getE s'.env 13=.sl 2 0 1 0 (m+1)∧s'.heap=[.arr .frozen 0 1 (l.map (AV.p∘fun x:Nat=>PV.int .u64 x)),.arr .exact 0 1 (mkF (la+1) (plc wB (a % b*2 ^ s))),.arr .exact 0 1 (mkF (m+1) (plc wB (a / b)))]) ?_ ?_
 · refine lp (α:=Nat) (fun j=>⟨[(14,.p (.int .i64 ((j:Int) - 1))),(13,.sl 2 0 1 0 (m+1)),(12,.p (.int .i64 n)),(11,.sl 1 0 1 0 (la+1)),(10,.p (.seq (vv.map fun x:Nat=>.int .u64 x))),(9,.p (.int .i64 s))],[.arr .frozen 0 1 (l.map (AV.p∘fun x:Nat=>PV.int .u64 x)),.arr .exact 0 1 (mkF (la+1) (plc wB (a*2 ^ s % (V*wB ^ j)))),.arr .exact 0 1 (mkF (m+1) (qF (a / b) j))]⟩)
    (fun j=>j≤m+1) (fun j=>j) (m+1) (Nat.le_refl _) ?_ (hn:=by simp [hA']) (hh:=by simp [hA'])
   intro j k1
   by_cases hj:0<j
   · obtain ⟨k,rfl⟩:∃ k,j=k+1:=⟨j - 1,by omega⟩
     have e4:IntKind.i64.wrap ((k:Int) - 1)=k - 1:=wi64 _ (by omega) (by omega);have e5:IntKind.i64.wrap ((k:Int)+n)=k+n:=wi64 _ (by omega) (by omega);have e6:IntKind.i64.wrap ((k:Int)+n+1)=k+n+1:=wi64 _ (by omega) (by omega);have hst:=ade (a*2 ^ s % (V*wB ^ (k+1))) k (by omega) (Nat.mod_lt _ (Nat.mul_pos hV0 (Nat.pow_pos (by decide))));have hq:a*2 ^ s % (V*wB ^ (k+1)) / (V*wB ^ k)=plc wB (a / b) k:=by
      rw [hV]; exact av9 hS
     have hr:a*2 ^ s % (V*wB ^ (k+1)) % (V*wB ^ k)=a*2 ^ s % (V*wB ^ k):=by
      rw [Nat.pow_succ,← Nat.mul_assoc,Nat.mod_mul_right_mod]
     rw [hq,hr] at hst;generalize a*2 ^ s % (V*wB ^ (k+1))=X at *;generalize hX':a*2 ^ s % (V*wB ^ k)=X' at *;have f1:((k:Int)+n+1).toNat=k+n+1:=by omega
     have f2:(0:Int)≤(k:Int)+n+1:=by omega
     have f3:(k:Int)+n+1≤(la:Int)+1:=by omega
     have f4:k≤k+n+1:=by omega
     have f5:¬ k=k+n+1:=by omega
     have f6:k+n+1 - k=n+1:=by omega
     have f7:k<m+1:=by omega
     have gk:=ac9 (n:=m+1) (qF (a / b) (k+1)) f7;have sk:=aw8 (m:=m+1) (Q:=a / b) (i:=k);simp [e4,e5,e6,as2,f1,f2,f3,f4,f5,f6];rw [show (if k=0 then ({ v:=.sl 1 0 1 0 (k+n+1),hin:=[(1,.arr .exact 0 1 (mkF (la+1) (plc wB X)))] }:Eff) else { v:=.sl 1 0 1 k (n+1),hin:=[(1,.arr .exact 0 1 (mkF (la+1) (plc wB X)))] }) = { v:=.sl 1 0 1 k (n+1),hin:=[(1,.arr .exact 0 1 (mkF (la+1) (plc wB X)))] } by split <;> simp [*]];simp;refine ⟨by omega,?_⟩;refine cf hst [1] ?_;simp [gk,sk,e4,f7,shpA,shp,aah];exact rd k (show k≤m+1 by omega) (hn:=by simp [hX']) (hh:=by simp [hX'])
   · obtain rfl:j=0:=by omega
     have hAV:a*2 ^ s % V=a % b*2 ^ s:=by rw [hV,Nat.mul_mod_mul_right]
     simp [asr,hAV]
 rintro ⟨env',heap'⟩ ⟨x1,x2,x3,x4,hp⟩;dsimp only at x1 x2 x3 x4 hp;subst hp;obtain ⟨R,hR⟩:∃ R,R=a % b*2 ^ s:=⟨_,rfl⟩
 rw [← hR];simp [x1,x2,x3,x4];refine lp (α:=Nat) (fun i=>⟨[(97,.p (.int .i64 i)),(96,.p (.int .i64 n)),(13,.sl 2 0 1 0 (m+1)),(12,.p (.int .i64 n)),(11,.sl 1 0 1 0 (la+1)),(9,.p (.int .i64 s))],[.arr .frozen 0 1 (l.map (AV.p∘fun x:Nat=>PV.int .u64 x)),.arr .exact 0 1 (mkF (la+1) (mixF 0 i (plc wB R) (plc wB (a % b)))),.arr .exact 0 1 (mkF (m+1) (plc wB (a / b)))]⟩)
  (fun i=>i≤n) (fun i=>n - i) 0 (Nat.zero_le _) ?_ (hn:=by simp [ads]) (he:=by simp [x1,x2,x3,x4]) (hh:=by simp [ads])
 intro i k1;have hwi:=wi1 (i:=i) (by omega)
 by_cases hi:i<n
 · have hila:i<la+1:=by omega
   have hila2:i+1<la+1:=by omega
   have gi:(mkF (la+1) (mixF 0 i (plc wB R) (plc wB (a % b))))[i]?=some (.p (.int .u64 (plc wB R i))):=by
    have:=ag7 (m:=la+1) (j:=0) (i:=i) (g:=plc wB R) (f:=plc wB (a % b)) (by omega)
    rwa [Nat.zero_add] at this
   have e7:=shrU (plc wB R i) s (by omega);have hila3:i<la:=by omega
   by_cases h0:0<s
   · obtain ⟨t,ht⟩:∃ t,t=64 - s:=⟨_,rfl⟩
     have e8:IntKind.i64.wrap (64 - (s:Int))=(t:Int):=by rw [wi64 _ (by omega) (by omega)]; omega
     have e9:=shlU (plc wB R (i+1)) t (by omega);have hst:=aoG hs;rw [← ht] at hst;have hTp:0<2 ^ t:=Nat.pow_pos (by decide);have hr1:plc wB R i / 2 ^ s<2 ^ t:=by rw [Nat.div_lt_iff_lt_mul hS,Nat.mul_comm,hst]; exact aaq wB2 _ _
     have hr2:plc wB R (i+1)*2 ^ t % wB=plc wB R (i+1) % 2 ^ s*2 ^ t:=by rw [← hst,Nat.mul_mod_mul_right]
     have hor:plc wB R i / 2 ^ s ||| (plc wB R (i+1)*2 ^ t % wB)=plc wB (a % b) i:=by
      have h3:=shr_plc hS hTp R i;rw [hst,hR,Nat.mul_div_cancel _ hS,← hR] at h3;rw [Nat.or_comm,hr2,asL hr1,← hr2,h3,Nat.add_comm]
     have e10:=orU (plc wB R i / 2 ^ s) (plc wB R (i+1)*2 ^ t % wB) (Nat.lt_of_le_of_lt (Nat.div_le_self _ _) (aaq wB2 _ _)) (Nat.mod_lt _ (by decide));rw [hor] at e10;generalize plc wB R i / 2 ^ s=r1 at *;generalize plc wB R (i+1)*2 ^ t % wB=r2 at *;have e11:IntKind.u64.wrap ((r1 % 2 ^ IntKind.u64.bits ||| ((r2:Int) % 2 ^ IntKind.u64.bits).toNat:Nat):Int)=(plc wB (a % b) i:Nat):=by
      rw [aqn]; exact e10
     have s1:=aep (n:=la+1) (i:=i) (v:=r1) (f:=mixF 0 i (plc wB R) (plc wB (a % b))) (g:=fun k=>if k=i then r1 else mixF 0 i (plc wB R) (plc wB (a % b)) k) (if_pos rfl) (fun k hk=>if_neg hk);have g2:=ac9 (n:=la+1) (fun k=>if k=i then r1 else mixF 0 i (plc wB R) (plc wB (a % b)) k) hila;have g3:=ac9 (n:=la+1) (fun k=>if k=i then r1 else mixF 0 i (plc wB R) (plc wB (a % b)) k) hila2;rw [if_pos rfl] at g2;rw [if_neg (by omega),mixF,if_neg (by omega)] at g3;have s2:=aep (n:=la+1) (i:=i) (v:=plc wB (a % b) i) (f:=fun k=>if k=i then r1 else mixF 0 i (plc wB R) (plc wB (a % b)) k) (g:=mixF 0 (i+1) (plc wB R) (plc wB (a % b))) (by rw [mixF,if_pos (by omega),Nat.sub_zero]) (fun k hk=>by
      rw [if_neg hk,mixF,mixF]
      by_cases h:k<i
      · rw [if_pos (by omega),if_pos (by omega)]
      · rw [if_neg (by omega),if_neg (by omega)])
     generalize (fun k=>if k=i then r1 else mixF 0 i (plc wB R) (plc wB (a % b)) k)=gg at *;simp [hi,hila,gi,e7,h0,hwi,s1,shpA,shp,aah];simp [hila,hila2,hila3,e8,hwi,g2,g3,shpA,shp,aah];simp [e9,e10,e11,hila,hwi,s2,g2,shpA,shp,aah];refine ⟨by omega,⟨by rfl,by rfl,by rfl,by rfl,by rfl⟩,?_⟩;exact rd (i+1) (show i+1≤n by omega)
   · have s00:s=0:=by omega
     have hRi:plc wB R i=plc wB (a % b) i:=by rw [hR,s00,Nat.pow_zero,Nat.mul_one]
     have s1:=ag6 (m:=la+1) (j:=0) (i:=i) (g:=plc wB R) (f:=plc wB (a % b)) (v:=plc wB R i) hRi.symm;rw [Nat.zero_add] at s1;have e7':(plc wB R i:Int).fdiv (2 ^ (min s IntKind.u64.bits))=(plc wB R i:Nat):=by rw [e7,s00,Nat.pow_zero,Nat.div_one]
     simp [hi,hila,gi,h0,hwi,s1,e7',shpA,shp,aah];exact rd (i+1) (show i+1≤n by omega)
 obtain rfl:i=n:=by omega
 obtain ⟨lq,hlq1,hlq2,hTq⟩:=aoa (m:=m+1) (N:=a / b) (by rw [hm]; exact hQ) (by omega);obtain ⟨lu,hlu1,hlu2,hTu⟩:∃ lu:List Nat,lu.length=la+1∧mkF (la+1) (mixF 0 i (plc wB R) (plc wB (a % b)))=lu.map (AV.p∘fun x:Nat=>PV.int .u64 x)∧aab Tryz.prog 313 [.seq (eW (lu.take i))] (.seq (zr.map fun x:Nat=>.int .u64 x)):=by
  refine ⟨(List.range (la+1)).map (mixF 0 i (plc wB R) (plc wB (a % b))),by simp,ako _ _,?_⟩;have e:((List.range (la+1)).map (mixF 0 i (plc wB R) (plc wB (a % b)))).take i=(List.range i).map (plc wB (a % b)):=by
   exact as3 (by omega) fun k hk=>by rw [mixF,if_pos (by omega),Nat.sub_zero]
  rw [e];have h3:=agq ((List.range i).map (plc wB (a % b))) (by simp; omega);rw [htrr] at h3;exact h3
 simp only [eN,hzq] at hTq;simp [hlq2,hlu2];refine ep hTq (by simp [hlq1]; exact ⟨rfl,rfl⟩) (by simp; exact ⟨rfl,rfl⟩) ?_ (h1:=by simp [eW,List.take_of_length_le,hlq1]);simp [hlu1];refine ⟨by omega,?_⟩;have hi9:i≤la+1:=by omega
 refine ep hTu (by simp [hlu1,hi9]; exact ⟨rfl,rfl⟩) (by simp; exact ⟨rfl,rfl⟩) ?_ (h1:=by simp [eW,List.map_take]);simp;rfl
def okR (k:Nat) (q:Rat):Prop:=q.num.natAbs<2 ^ k∧q.den<2 ^ k
theorem okR.mono {k l:Nat} {q:Rat} (h:okR k q) (hl:k≤l):okR l q :=
 ⟨Nat.lt_of_lt_of_le h.1 (Nat.pow_le_pow_right (by omega) hl),Nat.lt_of_lt_of_le h.2 (Nat.pow_le_pow_right (by omega) hl)⟩
theorem abf {n:Int} {d:Nat} (h:d≠0):(Rat.divInt n d).num=n / (Nat.gcd n.natAbs d:Nat)∧(Rat.divInt n d).den=d / Nat.gcd n.natAbs d:=by
 have:Rat.divInt n d=Rat.normalize n d h:=by
  rw [Rat.normalize_eq_mkRat]; rfl
 rw [this,Rat.normalize_eq h];exact ⟨rfl,rfl⟩
theorem aki {n:Int} {d k:Nat} (h:d≠0) (h1:n.natAbs<2 ^ k) (h2:d<2 ^ k):okR k (Rat.divInt n d):=by
 obtain ⟨e1,e2⟩:=abf (n:=n) h;refine ⟨?_,?_⟩
 · rw [e1];refine Nat.lt_of_le_of_lt ?_ h1;rw [Int.natAbs_ediv_of_dvd (Int.ofNat_dvd_left.2 (Nat.gcd_dvd_left _ _))];exact Nat.div_le_self _ _
 · rw [e2]; exact Nat.lt_of_le_of_lt (Nat.div_le_self _ _) h2
theorem asU {a b:Nat} {x y:Rat} (h:okR a x) (h':okR b y):okR (a+b+1) (x+y):=by
 have e:x+y=Rat.divInt (x.num*y.den+y.num*x.den) ((x.den*y.den:Nat):Int):=by rw [Rat.add_def']; rfl
 rw [e];have e1:2 ^ (a+b+1)=2 ^ a*2 ^ b+2 ^ a*2 ^ b:=by rw [Nat.pow_succ,Nat.pow_add]; omega
 refine aki (Nat.mul_ne_zero x.den_nz y.den_nz) ?_ ?_
 · rw [e1];refine Nat.lt_of_le_of_lt (Int.natAbs_add_le _ _) ?_;rw [Int.natAbs_mul,Int.natAbs_mul,Int.natAbs_natCast,Int.natAbs_natCast];have g1:=Nat.mul_lt_mul'' h.1 h'.2;have g2:=Nat.mul_lt_mul'' h'.1 h.2;rw [Nat.mul_comm (2 ^ b)] at g2;omega
 · have:=Nat.mul_lt_mul'' h.2 h'.2;rw [e1]; omega
theorem ahV {a:Nat} {x:Rat} (h:okR a x):okR a (-x):=by
 refine ⟨by rw [Rat.neg_num,Int.natAbs_neg]; exact h.1,by rw [Rat.neg_den]; exact h.2⟩
theorem adL {a b:Nat} {x y:Rat} (h:okR a x) (h':okR b y):okR (a+b+1) (x - y):=by
 rw [Rat.sub_eq_add_neg]; exact asU h (ahV h')
theorem abP {a b:Nat} {x y:Rat} (h:okR a x) (h':okR b y):okR (a+b) (x*y):=by
 have e:x*y=Rat.divInt (x.num*y.num) ((x.den*y.den:Nat):Int):=by
  rw [Rat.mul_def,Rat.normalize_eq_mkRat]; rfl
 rw [e];refine aki (Nat.mul_ne_zero x.den_nz y.den_nz) ?_ ?_
 · rw [Int.natAbs_mul,Nat.pow_add]; exact Nat.mul_lt_mul'' h.1 h'.1
 · rw [Nat.pow_add]; exact Nat.mul_lt_mul'' h.2 h'.2
theorem atn {x:Rat} (h:x≠0):(x⁻¹).num=x.num.sign*x.den∧(x⁻¹).den=x.num.natAbs:=by
 have hn:x.num≠0:=fun e=>h (Rat.num_eq_zero.1 e);have e:x⁻¹=Rat.divInt (x.num.sign*x.den) (x.num.natAbs:Nat):=by
  rw [Rat.inv_def];rcases Int.lt_trichotomy x.num 0 with h | h | h
  · have e1:x.num.sign = -1:=Int.sign_eq_neg_one_of_neg h;have e2:((x.num.natAbs:Nat):Int) = -x.num:=by omega
    rw [e1,e2,show (-1*(x.den:Int)) = -(x.den:Int) by omega,Rat.divInt_neg',Int.neg_neg]
  · exact (hn h).elim
  · have e1:x.num.sign=1:=Int.sign_eq_one_of_pos h;have e2:((x.num.natAbs:Nat):Int)=x.num:=by omega
    rw [e1,e2,Int.one_mul]
 have hg:Nat.gcd (x.num.sign*x.den).natAbs x.num.natAbs=1:=by
  rw [Int.natAbs_mul,Int.natAbs_sign_of_ne_zero hn,Nat.one_mul,Int.natAbs_natCast,Nat.gcd_comm];exact x.reduced
 obtain ⟨e1,e2⟩:=abf (n:=x.num.sign*x.den) (d:=x.num.natAbs) (by omega);rw [e,e1,e2,hg];simp
theorem ae9 {a:Nat} {x:Rat} (h:okR a x):okR a x⁻¹:=by
 by_cases h0:x=0
 · subst h0;have:(0:Rat)⁻¹=0:=Rat.inv_zero;rw [this]; exact h
 · obtain ⟨e1,e2⟩:=atn h0;have hn:x.num≠0:=fun e=>h0 (Rat.num_eq_zero.1 e);refine ⟨?_,by rw [e2]; exact h.1⟩;rw [e1,Int.natAbs_mul,Int.natAbs_sign_of_ne_zero hn,Nat.one_mul,Int.natAbs_natCast]; exact h.2
theorem avH {a b:Nat} {x y:Rat} (h:okR a x) (h':okR b y):okR (a+b) (x / y):=by
 rw [Rat.div_def]; exact abP h (ae9 h')
theorem akh {k:Nat} {n:Int} (h:n.natAbs<2 ^ k) (hk:0<k):okR k (n:Rat):=by
 refine ⟨h,?_⟩;show (1:Nat)<2 ^ k;exact Nat.one_lt_two_pow (by omega)
structure NI where
 v:Int
 m:Bool
def NI.sm (a:NI):Bool:=decide (-9223372036854775808<a.v∧a.v<9223372036854775808) || (decide (a.v = -9223372036854775808) && a.m)
def NI.of (n:Int):NI:=⟨n,true⟩
def NI.mk' (n:Int):NI:=⟨n,false⟩
def NI.neg (a:NI):NI:=.mk' (-a.v)
def NI.abs (a:NI):NI:=if a.v<0 then .mk' (-a.v) else a
def NI.add (a b:NI):NI:=⟨a.v+b.v,a.sm && b.sm⟩
def NI.sub (a b:NI):NI:=a.add b.neg
def NI.mul (a b:NI):NI:=.mk' (a.v*b.v)
def NI.div (a b:NI):NI:=⟨a.v / b.v,decide (a.v % b.v≠0)⟩
def NI.mod (a b:NI):NI:=.mk' (a.v % b.v)
structure NF where
 q:Rat
 m:Bool
def NF.num (a:NF):NI:=⟨a.q.num,a.m⟩
def NF.den (a:NF):NI:=.mk' a.q.den
def NF.whole (a:NI):NF:=⟨a.v,a.m⟩
def NF.int (n:Int):NF:=⟨n,true⟩
def NF.isW (a:NF):Bool:=decide (a.q.den=1)
def NF.add (a b:NF):NF:=⟨a.q+b.q,a.isW && b.isW && (a.num.sm && b.num.sm)⟩
def NF.neg (a:NF):NF:=⟨-a.q,false⟩
def NF.sub (a b:NF):NF:=a.add b.neg
def NF.mul (a b:NF):NF:=⟨a.q*b.q,false⟩
def NF.inv (a:NF):NF:=⟨a.q⁻¹,false⟩
def NF.div (a b:NF):NF:=⟨a.q / b.q,false⟩
@[simp] theorem NI.aop (a b:NI):(a.add b).v=a.v+b.v:=rfl
@[simp] theorem NI.ahY (a b:NI):(a.mul b).v=a.v*b.v:=rfl
@[simp] theorem NI.neg_v (a:NI):a.neg.v = -a.v:=rfl
@[simp] theorem NI.sub_v (a b:NI):(a.sub b).v=a.v - b.v:=by show a.v+-b.v=_; omega
@[simp] theorem NF.add_q (a b:NF):(a.add b).q=a.q+b.q:=rfl
@[simp] theorem NF.neg_q (a:NF):a.neg.q = -a.q:=rfl
@[simp] theorem NF.ajW (a b:NF):(a.sub b).q=a.q - b.q:=by show a.q+-b.q=_; rw [Rat.sub_eq_add_neg]
@[simp] theorem NF.mul_q (a b:NF):(a.mul b).q=a.q*b.q:=rfl
@[simp] theorem NF.inv_q (a:NF):a.inv.q=a.q⁻¹:=rfl
@[simp] theorem NF.div_q (a b:NF):(a.div b).q=a.q / b.q:=rfl
@[simp] theorem NF.int_q (n:Int):(NF.int n).q=n:=rfl
def smI (z:Int):PV:=.st 128 [.int .i64 z,.nsl]
def bgI (z:Int):PV:=.st 128 [.int .i64 (if z<0 then -1 else 1),eN z.natAbs]
def isI (p:PV) (z:Int):Prop:=(p=smI z∧-9223372036854775808≤z∧z≤9223372036854775807)∨(p=bgI z∧9223372036854775808≤z.natAbs)
theorem eI_ex (a:NI):∃ p,p=if a.sm=true then smI a.v else bgI a.v:=⟨_,rfl⟩
noncomputable def eI (a:NI):PV:=Classical.choose (eI_ex a)
theorem acv (a:NI):eI a=if a.sm=true then smI a.v else bgI a.v:=Classical.choose_spec (eI_ex a)
theorem NI.au3 {a:NI} (h:-9223372036854775808<a.v) (h':a.v<9223372036854775808):a.sm=true:=by
 simp [NI.sm,h,h']
theorem NI.agE {a:NI} (h:a.sm=true):-9223372036854775808≤a.v∧a.v≤9223372036854775807:=by
 simp only [NI.sm,Bool.or_eq_true,decide_eq_true_eq,Bool.and_eq_true] at h; omega
theorem NI.aoP {a:NI} (h:¬ a.sm=true):9223372036854775808≤a.v.natAbs:=by
 simp only [NI.sm,Bool.or_eq_true,decide_eq_true_eq,Bool.and_eq_true,not_or,not_and] at h; omega
theorem NI.mk_sm (z:Int):(NI.mk' z).sm=decide (-9223372036854775808<z∧z<9223372036854775808):=by
 rw [NI.sm,NI.mk',Bool.and_false,Bool.or_false]
theorem NI.mk_v (z:Int):(NI.mk' z).v=z:=rfl
theorem aic (a:NI):isI (eI a) a.v:=by
 rw [acv]
 by_cases h:a.sm=true
 · rw [if_pos h]; have:=NI.agE h; exact .inl ⟨rfl,this⟩
 · rw [if_neg h]; exact .inr ⟨rfl,NI.aoP h⟩
theorem akD {z:Int} (h:-9223372036854775808<z) (h':z<9223372036854775808):eI (.mk' z)=smI z:=by
 rw [acv,NI.mk_sm,if_pos (by simp [h,h']),NI.mk_v]
theorem eI_bg {z:Int} (h:9223372036854775808≤z.natAbs):eI (.mk' z)=bgI z:=by
 rw [acv,NI.mk_sm,if_neg (by simp; omega),NI.mk_v]
theorem aqX {z:Int} (h:-9223372036854775808≤z) (h':z≤9223372036854775807):eI (.of z)=smI z:=by
 rw [acv,if_pos]
 · rfl
 · by_cases h2:z = -9223372036854775808
   · subst h2; rfl
   · exact NI.au3 (a:=.of z) (by show _<z; omega) (by show z < _; omega)
@[simp] theorem bxN (u:TypeId) (h:¬ u=359):(Gl.bx u:Option TypeId)=none:=by
 have hb:Nat.beq u 359=false:=by
  cases hb:Nat.beq u 359
  · rfl
  · exact (h (Nat.eq_of_beq_eq_true hb)).elim
 show (bif Nat.beq u 359 then some 360 else none)=none;rw [hb]; rfl
@[simp] theorem bx359:(Gl.bx 359:Option TypeId)=some 360:=(rfl)
theorem agV:dig wB 0=[]:=by simp [dig,digs]
theorem agp {n:Nat} (h0:0<n) (h:n<wB):dig wB n=[n]:=by
 have h1:=abl wB2 (m:=1) (n:=n) (by rw [Nat.pow_one]; exact h);rw [← h1,row,List.range_one,List.map_cons,List.map_nil,plc,Nat.pow_zero,Nat.div_one,Nat.mod_eq_of_lt h];have:=adm [] n (by omega)
 rwa [List.nil_append] at this
theorem c_Of (n:Int):aab Tryz.prog 198 [.int .i64 n] (smI n):=by
 refine aad nf ayj mix (by simp [Tryz.f198]) ?_;simp [Tryz.f198,smI]
theorem auj (n:Int) (h:-9223372036854775808≤n) (h':n≤9223372036854775807):aab Tryz.prog 253 [.int .i64 n] (.int .u64 (n.natAbs:Nat)):=by
 refine aad nf ax1 mix (by simp [Tryz.f253]) ?_
 by_cases hn:n<0
 · have e:IntKind.u64.wrap (IntKind.i64.wrap (-n))=(n.natAbs:Nat):=by
    by_cases hm:n = -9223372036854775808
    · subst hm; rfl
    · rw [wi64 _ (by omega) (by omega),wu64 _ (by omega) (by simp only [wB]; omega)]; omega
   simp [Tryz.f253,hn,e]
 · have e:IntKind.u64.wrap n=(n.natAbs:Nat):=by rw [wu64 _ (by omega) (by simp only [wB]; omega)]; omega
   simp [Tryz.f253,hn,e]
theorem ad0 (p:PV) (z:Int) (h:isI p z):aab Tryz.prog 254 [p] (.tup [.bool (decide (z<0)),eN z.natAbs]):=by
 refine aad nf ax0 mix (by simp [Tryz.f254]) ?_;rcases h with ⟨rfl,h1,h2⟩ | ⟨rfl,h1⟩
 · have hs:=auj z h1 h2
   by_cases h0:z=0
   · subst h0;simp [Tryz.f254,smI,eN,agV,aa3,aaQ]
   · simp [Tryz.f254,smI,h0,aa3,aaQ];refine e1 hs ?_;simp [eN,agp (n:=z.natAbs) (by omega) (by simp only [wB]; omega)]
     done
 · have hne:dig wB z.natAbs≠[]:=fun h=>by
    have:=aaf wB2 z.natAbs;rw [h,List.length_nil,Nat.pow_zero] at this; omega
   simp only [bgI,eN];obtain ⟨c,cs,hc⟩:=List.exists_cons_of_ne_nil hne;rw [hc];have hz:decide ((if z < 0 then (-1:Int) else 1) < 0)=decide (z < 0):=by split <;> simp [*]
   generalize (if z<0 then (-1:Int) else 1)=sg at *;simp [Tryz.f254,aa3,aaQ,hz]
theorem amC (neg:Bool) (n:Nat) (hn:(dig wB n).length≤1048576):aab Tryz.prog 255 [.bool neg,eN n] (eI (.mk' (if neg then -(n:Int) else n))):=by
 by_cases h0:n=0
 · subst h0;rw [show (if neg=true then -((0:Nat):Int) else ((0:Nat):Int))=0 by simp,akD (by decide) (by decide)];refine aad nf al6 mix (by simp [Tryz.f255]) ?_;simp [Tryz.f255,smI,eN,agV,aa3,aaQ]
 by_cases h1:n≤9223372036854775807
 · have hd:=agp (n:=n) (by omega) (by simp only [wB]; omega);have hI:(n:Int)≤9223372036854775807:=by omega
   have w1:IntKind.i64.wrap (n:Int)=n:=wi64 _ (by omega) (by omega);have w2:IntKind.i64.wrap (-(n:Int)) = -n:=wi64 _ (by omega) (by omega);cases neg
   · rw [if_neg (by decide),akD (by omega) (by omega)];refine aad nf al6 mix (by simp [Tryz.f255]) ?_;simp [Tryz.f255,smI,eN,hd,hI,w1,w2,aa3,aaQ]
   · rw [if_pos rfl,akD (by omega) (by omega)];refine aad nf al6 mix (by simp [Tryz.f255]) ?_;simp [Tryz.f255,smI,eN,hd,hI,w1,w2,aa3,aaQ]
 · have hne:dig wB n≠[]:=fun h=>by
    have:=aaf wB2 n;rw [h,List.length_nil,Nat.pow_zero] at this; omega
   have hone:(dig wB n).length=1→(dig wB n)[0]?=some n:=fun h=>by
    have h3:=aaf wB2 n;rw [h,Nat.pow_one] at h3;rw [agp (by omega) h3]; rfl
   have hI:¬ (n:Int)≤9223372036854775807:=by omega
   have hab:(if neg then -(n:Int) else n).natAbs=n:=by cases neg <;> simp
   have hsg:(if (if neg then -(n:Int) else n)<0 then (-1:Int) else 1)=if neg then -1 else 1:=by
    cases neg
    · simp only [Bool.false_eq_true,if_false]; rw [if_neg (by omega)]
    · simp only [if_true]; rw [if_pos (by omega)]
   rw [eI_bg (by rw [hab]; omega)];refine aad nf al6 mix (by simp [Tryz.f255]) ?_;rw [bgI,hab,hsg];simp only [eN];obtain ⟨c,cs,hc⟩:=List.exists_cons_of_ne_nil hne;rw [hc] at hone ⊢;rw [hc] at hn;cases cs with
   | nil =>
    have hcn:c=n:=by simpa using hone rfl
    subst hcn;cases neg <;> simp [Tryz.f255,hI,aa3,aaQ]
   | cons c2 cs =>
    have l1:¬ ((cs.length:Int)+1+1=1):=by omega
    have l2:¬ ((cs.length:Int)+1+1=0):=by omega
    cases neg <;> simp [Tryz.f255,l1,l2,aa3,aaQ]
def okW (z:Int):Prop:=(dig wB z.natAbs).length≤900000
theorem isI_st {p:PV} {z:Int} (h:isI p z):∃ a b,p=.st 128 [a,b]:=by
 rcases h with ⟨rfl,_⟩ | ⟨rfl,_⟩
 · exact ⟨_,_,rfl⟩
 · exact ⟨_,_,rfl⟩
theorem aib (a:NI):∃ x y,eI a=.st 128 [x,y]:=isI_st (aic a)
theorem aq8 (a:NI) (hz:okW a.v):aab Tryz.prog 246 [eI a] (eI a.neg):=by
 have h:=aic a;have hp:=ad0 (eI a) a.v h;have hm:=amC (!decide (a.v<0)) a.v.natAbs (by rw [okW] at hz; omega);have hv:(if (!decide (a.v<0))=true then -((a.v.natAbs:Nat):Int) else a.v.natAbs) = -a.v:=by
  by_cases h0:a.v<0
  · simp [h0]; omega
  · simp [h0]; omega
 rw [hv] at hm;rw [show a.neg=.mk' (-a.v) from rfl];generalize a.v=z at *;generalize hpe:eI a=p at *;obtain ⟨ra,rb,hrs⟩:=aib (.mk' (-z));rcases h with ⟨rfl,h1,h2⟩ | ⟨rfl,h1⟩
 · by_cases hmin:z = -9223372036854775808
   · rw [hrs] at hm ⊢;refine aad nf apt mix (by simp [Tryz.f246]) ?_;subst hmin;simp only [smI] at hp ⊢;simp [Tryz.f246,aa3,aaQ];refine c1 hp ?_;simp [eN] at hm ⊢;refine c2 hm ?_;simp [shpA,shp,aah]
   · rw [akD (by omega) (by omega)];have w:IntKind.i64.wrap (-z) = -z:=wi64 _ (by omega) (by omega);refine aad nf apt mix (by simp [Tryz.f246]) ?_;simp [Tryz.f246,smI,hmin,w,aa3,aaQ]
 · rw [hrs] at hm ⊢;refine aad nf apt mix (by simp [Tryz.f246]) ?_;have hne:dig wB z.natAbs≠[]:=fun h=>by
    have:=aaf wB2 z.natAbs;rw [h,List.length_nil,Nat.pow_zero] at this; omega
   simp only [bgI,eN] at hp hm ⊢;obtain ⟨c,cs,hc⟩:=List.exists_cons_of_ne_nil hne;rw [hc] at hp hm ⊢;generalize (if z<0 then (-1:Int) else 1)=sg at *;simp [Tryz.f246,aa3,aaQ];refine c1 hp ?_;simp at hm ⊢;refine c2 hm ?_;simp [shpA,shp,aah]
theorem ajO (a:NI):aab Tryz.prog 258 [eI a] (.int .i64 (if a.v<0 then -1 else if a.v=0 then 0 else 1)):=by
 have h:=aic a;generalize a.v=z at *;generalize eI a=p at *;refine aad nf axX mix (by simp [Tryz.f258]) ?_;rcases h with ⟨rfl,h1,h2⟩ | ⟨rfl,h1⟩
 · simp [Tryz.f258,smI];rcases Int.lt_trichotomy z 0 with h | h | h
   · have e:z<1:=by omega
     simp [h,e]; omega
   · subst h; simp
   · have e1:¬ z<0:=by omega
     have e2:¬ z=0:=by omega
     have e3:¬ z<1:=by omega
     simp [e1,e2,e3]
 · simp [Tryz.f258,bgI,eN]
   by_cases h:z<0
   · simp [h]
   · have e2:¬ z=0:=by omega
     simp [h,e2]
theorem ark {z:Int} (h:-18446744073709551616≤z) (h':z≤18446744073709551614):IntKind.i64.wrap z=if z < -9223372036854775808 then z+18446744073709551616 else if 9223372036854775807<z then z - 18446744073709551616 else z:=by
 rw [IntKind.wrap_i64]
 split
 · omega
 · split <;> omega
theorem acx {z:Int} (h:okW z):(dig wB z.natAbs).length≤900000:=h
theorem an1 {a b L:Nat} (ha:(dig wB a).length≤L) (hb:(dig wB b).length≤L):(dig wB (a+b)).length≤L+1:=by
 refine aak wB2 _ _ ?_;have h1:=Nat.lt_of_lt_of_le (aaf wB2 a) (Nat.pow_le_pow_right (show 0<wB by decide) ha);have h2:=Nat.lt_of_lt_of_le (aaf wB2 b) (Nat.pow_le_pow_right (show 0<wB by decide) hb);have h4:2*wB ^ L≤wB ^ (L+1):=by rw [Nat.pow_succ,Nat.mul_comm]; exact Nat.mul_le_mul_left _ wB2
 omega
theorem add_big {a b : Int} (ha : okW a) (hb : okW b) :
    ((decide (a<0)=decide (b<0)∧aab Tryz.prog 255 [.bool (decide (a<0)),eN (a.natAbs+b.natAbs)] (eI (.mk' (a+b)))) ∨
     (decide (a<0)≠decide (b<0)∧b.natAbs≤a.natAbs∧aab Tryz.prog 255 [.bool (decide (a<0)),eN (a.natAbs - b.natAbs)] (eI (.mk' (a+b)))) ∨
     (decide (a<0)≠decide (b<0)∧a.natAbs<b.natAbs∧aab Tryz.prog 255 [.bool (decide (b<0)),eN (b.natAbs - a.natAbs)] (eI (.mk' (a+b))))):=by
 have hl:=an1 (a:=a.natAbs) (b:=b.natAbs) ha hb;have hle:∀ n,n≤a.natAbs+b.natAbs→(dig wB n).length≤1048576:=fun n h=>by
  have:=aak wB2 _ _ (Nat.lt_of_le_of_lt h (aaf wB2 (a.natAbs+b.natAbs)));omega
 have fin:∀ (neg:Bool) (n:Nat),n≤a.natAbs+b.natAbs→(if neg then -(n:Int) else n)=a+b→aab Tryz.prog 255 [.bool neg,eN n] (eI (.mk' (a+b))):=fun neg n h e=>by
  have hm:=amC neg n (hle n h);rw [e] at hm;exact hm
 by_cases h1:decide (a<0)=decide (b<0)
 · have h3:=fin (decide (a<0)) (a.natAbs+b.natAbs) (Nat.le_refl _) (by
    by_cases h:a<0
    · have:b<0:=by simpa [h] using h1
      simp [h]; omega
    · have:¬ b<0:=by simpa [h] using h1
      simp [h]; omega)
   exact .inl ⟨h1,h3⟩
 · by_cases hl2:b.natAbs≤a.natAbs
   · have h3:=fin (decide (a<0)) (a.natAbs - b.natAbs) (by omega) (by
      by_cases h:a<0
      · have:¬ b<0:=by simpa [h] using h1
        simp [h]; omega
      · have:b<0:=by simpa [h] using h1
        simp [h]; omega)
     exact .inr (.inl ⟨h1,hl2,h3⟩)
   · have h3:=fin (decide (b<0)) (b.natAbs - a.natAbs) (by omega) (by
      by_cases h:b<0
      · have:¬ a<0:=fun h3=>h1 (by simp [h,h3]);simp [h]; omega
      · have:a<0:=by
         by_cases h3:a<0
         · exact h3
         · exact (h1 (by simp [h,h3])).elim
        simp [h]; omega)
     exact .inr (.inr ⟨h1,by omega,h3⟩)
theorem atJ (a:NI):(eI a=smI a.v∧a.sm=true∧-9223372036854775808≤a.v∧a.v≤9223372036854775807)∨(a.sm=false∧∃ sg c cs,eI a=.st 128 [.int .i64 sg,.seq (c::cs)]):=by
 by_cases h:a.sm=true
 · left; exact ⟨by rw [acv,if_pos h],h,NI.agE h⟩
 · right;refine ⟨by simpa using h,?_⟩;have h1:=NI.aoP h;have hne:dig wB a.v.natAbs≠[]:=fun h=>by
    have:=aaf wB2 a.v.natAbs;rw [h,List.length_nil,Nat.pow_zero] at this; omega
   obtain ⟨c,cs,hc⟩:=List.exists_cons_of_ne_nil hne;rw [acv,if_neg h,bgI,eN,hc];exact ⟨_,_,_,rfl⟩
theorem auC (a b:NI) (ha:okW a.v) (hb:okW b.v):aab Tryz.prog 271 [eI a,eI b] (eI (a.add b)):=by
 have c1':=ad0 (eI a) a.v (aic a);have c2':=ad0 (eI b) b.v (aic b);have ha':=acx ha;have hb':=acx hb;have hcmp:=aeV a.v.natAbs b.v.natAbs (by omega) (by omega);have hadd:=aq7 a.v.natAbs b.v.natAbs (by omega) (by omega);have htail:=add_big ha hb;have two1:=atJ a;have two2:=atJ b
 by_cases hsm:(a.sm=true∧b.sm=true)∧-9223372036854775808≤a.v+b.v∧a.v+b.v≤9223372036854775807
 · obtain ⟨⟨h3,h4⟩,h1,h2⟩:=hsm;rw [show eI a=smI a.v by rw [acv,if_pos h3],show eI b=smI b.v by rw [acv,if_pos h4],show a.add b=.of (a.v+b.v) by rw [NI.add,h3,h4]; rfl,aqX h1 h2];generalize a.v=a at *;generalize b.v=b at *;refine aad nf atj mix (by simp [Tryz.f271]) ?_;have w:=wi64 (a+b) h1 h2;have e:(decide (a<a+b) == decide (0<b))=true:=by
    have:a<a+b↔0<b:=by omega
    simp [this]
   simp [Tryz.f271,smI,w,aa3,aaQ,e]
 have hres:eI (a.add b)=eI (.mk' (a.v+b.v)):=by
  by_cases h:-9223372036854775808<a.v+b.v∧a.v+b.v<9223372036854775808
  · rw [akD h.1 h.2,acv,if_pos (NI.au3 h.1 h.2)]; rfl
  · by_cases h2:(a.sm && b.sm)=true
    · have h2':a.sm=true∧b.sm=true:=by simpa using h2
      have hov:¬ (-9223372036854775808≤a.v+b.v∧a.v+b.v≤9223372036854775807):=fun h=>hsm ⟨h2',h⟩;rw [eI_bg (by omega),acv,if_neg,NI.aop];intro h3;have:=NI.agE h3;rw [NI.aop] at this;omega
    · rw [NI.add,NI.mk'];rw [show (a.sm && b.sm)=false by simpa using h2]
 rw [hres];clear hres;obtain ⟨pa,pb,hps⟩:=aib a;obtain ⟨qa,qb,hqs⟩:=aib b;obtain ⟨ra,rb,hrs⟩:=aib (.mk' (a.v+b.v));rw [hrs] at htail ⊢;rw [hps] at c1' two1 ⊢;rw [hqs] at c2' two2 ⊢;generalize a.v=av at *;generalize b.v=bv at *;refine aad nf atj mix (by simp [Tryz.f271]) ?_;simp [Tryz.f271,-aai];rw [aai];simp [-aai];refine join (fun s=>getE s.env 2=.ptr 0 []∧getE s.env 3=.ptr 1 []∧getE s.env 4=.ptr 2 []∧s.heap=[.box false (.p (.st 128 [pa,pb])),.box false (.p (.st 128 [qa,qb])),.box false (.p (.st 128 [.int .i64 0,.nsl]))]) ?_ ?_
 · clear htail hcmp hadd c1' c2';rcases two1 with ⟨h1,h1',h2,h3⟩ | ⟨h1',sg,c,cs,h1⟩
   · simp only [smI,PV.st.injEq,List.cons.injEq,and_true,true_and] at h1;obtain ⟨rfl,rfl⟩:=h1;rcases two2 with ⟨h4,h4',h5,h6⟩ | ⟨h4',sg,c,cs,h4⟩
     · simp only [smI,PV.st.injEq,List.cons.injEq,and_true,true_and] at h4;obtain ⟨rfl,rfl⟩:=h4;have hov:¬ (-9223372036854775808≤av+bv∧av+bv≤9223372036854775807):=fun h=>hsm ⟨⟨h1',h4'⟩,h⟩;have w:=ark (z:=av+bv) (by omega) (by omega);have e:¬ (av<IntKind.i64.wrap (av+bv)↔0<bv):=by
        rw [w]
        by_cases hb0:0<bv
        · rw [if_neg (by omega),if_pos (by omega)]; omega
        · rw [if_pos (by omega)]; omega
       simp [aa3,aaQ,e]
     · simp only [PV.st.injEq,List.cons.injEq,and_true,true_and] at h4;obtain ⟨rfl,rfl⟩:=h4;simp [aa3,aaQ]
   · simp only [PV.st.injEq,List.cons.injEq,and_true,true_and] at h1;obtain ⟨rfl,rfl⟩:=h1;simp [aa3,aaQ]
 rintro ⟨env',heap'⟩ ⟨x1,x2,x3,hpp⟩;dsimp only at x1 x2 x3 hpp;subst hpp;simp [x1,x2,x3];refine c1 c1' ?_;simp [x1,x2,x3,shpA,shp,aah];refine c1 c2' ?_;rcases htail with ⟨h1,h3⟩ | ⟨h1,h2,h3⟩ | ⟨h1,h2,h3⟩
 · have h1':(av<0↔bv<0):=by simpa using h1
   rw [h1] at h3;simp [x1,x2,x3,h1',shpA,shp,aah];refine c2 hadd ?_;simp;refine c2 h3 ?_;simp [x1,x2,x3,shpA,shp,aah]
 · have h1':¬ (av<0↔bv<0):=by simpa using h1
   have hc0:0≤cmpN av.natAbs bv.natAbs:=by
    have h:=mt aeu.1 (show ¬ av.natAbs<bv.natAbs by omega);omega
   have hsub:=ajK av.natAbs bv.natAbs h2 (by omega);simp [x1,x2,x3,h1',shpA,shp,aah];refine c2 hcmp ?_;simp [hc0];refine c2 hsub ?_;simp [x1,x2,x3,shpA,shp,aah];refine c2 h3 ?_;simp [x1,x2,x3,shpA,shp,aah]
 · have h1':¬ (av<0↔bv<0):=by simpa using h1
   have hc0:¬ 0≤cmpN av.natAbs bv.natAbs:=by have:=aeu.2 h2; omega
   have hsub:=ajK bv.natAbs av.natAbs (by omega) (by omega);simp [x1,x2,x3,h1',shpA,shp,aah];refine c2 hcmp ?_;simp [hc0];refine c2 hsub ?_;simp [x1,x2,x3,shpA,shp,aah];refine c2 h3 ?_;simp [x1,x2,x3,shpA,shp,aah]
@[simp] theorem shp_eI (a:NI):shp (eI a)=.agg 128:=by
 obtain ⟨x,y,h⟩:=aib a;rw [h]; rfl
theorem sI_ex (a:NI):∃ z:Int,z=if a.sm=true then a.v else if a.v<0 then -1 else 1:=⟨_,rfl⟩
noncomputable def sI (a:NI):Int:=Classical.choose (sI_ex a)
theorem aoV (a:NI):sI a=if a.sm=true then a.v else if a.v<0 then -1 else 1:=Classical.choose_spec (sI_ex a)
theorem wI_ex (a:NI):∃ p:PV,p=if a.sm=true then .nsl else eN a.v.natAbs:=⟨_,rfl⟩
noncomputable def wI (a:NI):PV:=Classical.choose (wI_ex a)
theorem arx (a:NI):wI a=if a.sm=true then .nsl else eN a.v.natAbs:=Classical.choose_spec (wI_ex a)
@[simp] theorem flds_eI (a:NI):flds (eI a)=[.int .i64 (sI a),wI a]:=by
 by_cases h:a.sm=true
 · rw [acv,aoV,arx,if_pos h,if_pos h,if_pos h]; rfl
 · rw [acv,aoV,arx,if_neg h,if_neg h,if_neg h]; rfl
theorem sI_lt (a:NI):sI a<0↔a.v<0:=by
 rw [aoV]; split
 · exact Iff.rfl
 · split <;> omega
theorem ahf {a:NI} (h:a.sm=true):wI a=.nsl:=by rw [arx,if_pos h]
theorem afi {a:NI} (h:a.sm=false):∃ c cs,wI a=.seq (c::cs):=by
 rcases atJ a with ⟨_,h1,_⟩ | ⟨_,sg,c,cs,h2⟩
 · rw [h] at h1; exact absurd h1 (by decide)
 · refine ⟨c,cs,?_⟩;have:=flds_eI a;rw [h2] at this;simp [flds] at this;exact this.2.symm
theorem ai4 {a:NI} (h:a.sm=true):sI a=a.v:=by rw [aoV,if_pos h]
theorem c_Sub (a b:NI) (ha:okW a.v) (hb:okW b.v):aab Tryz.prog 257 [eI a,eI b] (eI (a.sub b)):=by
 refine aad nf axY mix (by simp [Tryz.f257]) ?_;have hb':okW b.neg.v:=by simpa [okW] using hb
 simp [Tryz.f257];refine e1 (aq8 b hb) ?_;simp;refine e2 (auC a b.neg ha hb') ?_;simp [shpA];exact Wk.refl _
theorem c_Abs (a:NI) (ha:okW a.v):aab Tryz.prog 331 [eI a] (eI a.abs):=by
 refine aad nf axw mix (by simp [Tryz.f331]) ?_
 by_cases h:a.v<0
 · have h1:=(sI_lt a).2 h;have e:a.abs=a.neg:=by rw [NI.abs,if_pos h]; rfl
   simp [Tryz.f331,shpA,h1];refine c1 (aq8 a ha) ?_;simp [shpA,e]
 · have h1:=mt (sI_lt a).1 h;have e:a.abs=a:=by rw [NI.abs,if_neg h]
   simp [Tryz.f331,shpA,h1,e]
def ordI (x y:Int):Int:=if x<y then -1 else if x=y then 0 else 1
theorem c_Cmp (a b:NI) (ha:okW a.v) (hb:okW b.v):aab Tryz.prog 169 [eI a,eI b] (.int .i64 (ordI a.v b.v)):=by
 refine aad nf ays mix (by simp [Tryz.f169]) ?_;have hgen:(a.sm=true∧b.sm=true)∨¬ (a.sm=true∧b.sm=true):=Classical.em _;rcases hgen with ⟨h1,h2⟩ | h1
 · have w1:=ahf h1;have w2:=ahf h2;have s1:=ai4 h1;have s2:=ai4 h2;rcases Int.lt_trichotomy a.v b.v with h | h | h
   · have e:ordI a.v b.v = -1:=by rw [ordI,if_pos h]
     simp [Tryz.f169,shpA,w1,w2,s1,s2,h,e,aa3,aaQ]
   · have e:ordI b.v b.v=0:=by rw [ordI,if_neg (by omega),if_pos rfl]
     have h1:¬ a.v<b.v:=by omega
     simp [Tryz.f169,shpA,w1,w2,s1,s2,h,e,aa3,aaQ]
   · have e:ordI a.v b.v=1:=by rw [ordI,if_neg (by omega),if_neg (by omega)]
     have h1:¬ a.v<b.v:=by omega
     simp [Tryz.f169,shpA,w1,w2,s1,s2,h,h1,e,aa3,aaQ]
 · have e:(if (a.sub b).v<0 then (-1:Int) else if (a.sub b).v=0 then 0 else 1)=ordI a.v b.v:=by
    rw [NI.sub_v,ordI];rcases Int.lt_trichotomy a.v b.v with h | h | h
    · rw [if_pos (by omega),if_pos h]
    · rw [if_neg (by omega),if_pos (by omega),if_neg (by omega),if_pos h]
    · rw [if_neg (by omega),if_neg (by omega),if_neg (by omega),if_neg (by omega)]
   have hS:=ajO (a.sub b);rw [e] at hS;rcases hs:a.sm with _ | _
   · obtain ⟨c,cs,w1⟩:=afi hs;simp [Tryz.f169,shpA,w1,aa3,aaQ];refine c2 (c_Sub a b ha hb) ?_;simp;refine c1 hS ?_;simp
   · have w1:=ahf hs;obtain ⟨c,cs,w2⟩:=afi (a:=b) (by cases h3:b.sm with | false=>rfl | true=>exact (h1 ⟨hs,h3⟩).elim);simp [Tryz.f169,shpA,w1,w2,aa3,aaQ];refine c2 (c_Sub a b ha hb) ?_;simp;refine c1 hS ?_;simp
theorem an0 {a b L M:Nat} (ha:(dig wB a).length≤L) (hb:(dig wB b).length≤M):(dig wB (a*b)).length≤L+M:=by
 refine aak wB2 _ _ ?_;have h1:=Nat.lt_of_lt_of_le (aaf wB2 a) (Nat.pow_le_pow_right (show 0<wB by decide) ha);have h2:=Nat.lt_of_lt_of_le (aaf wB2 b) (Nat.pow_le_pow_right (show 0<wB by decide) hb);rw [Nat.pow_add];exact Nat.mul_lt_mul'' h1 h2
theorem awF (a b:NI) (hab:(dig wB a.v.natAbs).length+(dig wB b.v.natAbs).length≤900000):aab Tryz.prog 168 [eI a,eI b] (eI (a.mul b)):=by
 have hp:=ad0 (eI a) a.v (aic a);have hq:=ad0 (eI b) b.v (aic b);have hm:=aq5 a.v.natAbs b.v.natAbs (by omega);have hab':=an0 (Nat.le_refl (dig wB a.v.natAbs).length) (Nat.le_refl (dig wB b.v.natAbs).length);have hmm:=amC (decide (a.v<0) != decide (b.v<0)) (a.v.natAbs*b.v.natAbs) (by omega);have hv:(if (decide (a.v<0) != decide (b.v<0))=true then -((a.v.natAbs*b.v.natAbs:Nat):Int) else (a.v.natAbs*b.v.natAbs:Nat))=a.v*b.v:=by
  rw [← Int.natAbs_mul];rcases Int.lt_or_le a.v 0 with h1 | h1
  · rcases Int.lt_or_le b.v 0 with h2 | h2
    · have:=Int.mul_nonneg_of_nonpos_of_nonpos (Int.le_of_lt h1) (Int.le_of_lt h2);simp [h1,h2]; omega
    · have:=Int.mul_nonpos_of_nonpos_of_nonneg (Int.le_of_lt h1) h2;have h3:¬ b.v<0:=by omega
      simp [h1,h3]; omega
  · have h3:¬ a.v<0:=by omega
    rcases Int.lt_or_le b.v 0 with h2 | h2
    · have:=Int.mul_nonpos_of_nonneg_of_nonpos h1 (Int.le_of_lt h2);simp [h3,h2]; omega
    · have:=Int.mul_nonneg h1 h2;have h4:¬ b.v<0:=by omega
      simp [h3,h4]; omega
 rw [hv] at hmm;rw [show a.mul b=.mk' (a.v*b.v) from rfl];refine aad nf ayt mix (by simp [Tryz.f168]) ?_;simp [Tryz.f168,-aai];rw [aai];simp [-aai];refine join (fun s=>getE s.env 2=.ptr 0 []∧getE s.env 3=.ptr 1 []∧getE s.env 4=.ptr 2 []∧s.heap=[.box false (.p (eI a)),.box false (.p (eI b)),.box false (.p (.st 128 [.int .i64 0,.nsl]))]) ?_ ?_
 · rcases hs:a.sm with _ | _
   · obtain ⟨c,cs,w1⟩:=afi hs;simp [shpA,w1,aa3,aaQ]
   · have w1:=ahf hs;rcases hs2:b.sm with _ | _
     · obtain ⟨c,cs,w2⟩:=afi hs2;simp [shpA,w1,w2,aa3,aaQ]
     · have w2:=ahf hs2;have s1:=ai4 hs;have s2:=ai4 hs2;have r1:=NI.agE hs;have r2:=NI.agE hs2;have z1:=auj a.v r1.1 r1.2;have z2:=auj b.v r2.1 r2.2;have M:=akN a.v.natAbs b.v.natAbs (by omega) (by omega);obtain ⟨H,hH⟩:∃ H,H=a.v.natAbs*b.v.natAbs / 18446744073709551616:=⟨_,rfl⟩
       obtain ⟨L,hL⟩:∃ L,L=a.v.natAbs*b.v.natAbs % 18446744073709551616:=⟨_,rfl⟩
       rw [← hH,← hL] at M;have hHL:a.v.natAbs*b.v.natAbs=H*18446744073709551616+L:=by omega
       clear hH hL
       by_cases c1:H=0∧L≤9223372036854775807
       · obtain ⟨rfl,hL⟩:=c1;have hL':(L:Int)≤9223372036854775807:=by omega
         have e1':IntKind.i64.wrap (L:Int)=L:=wi64 _ (by omega) (by omega);have e2':IntKind.i64.wrap (-(L:Int)) = -L:=wi64 _ (by omega) (by omega);rw [hHL] at hv;simp only [Nat.zero_mul,Nat.zero_add] at hv;rw [akD (by rw [← hv]; split <;> omega) (by rw [← hv]; split <;> omega),smI]
         by_cases c2:a.v<0↔b.v<0
         · rw [if_neg (by simp [c2])] at hv;rw [← hv];simp [shpA,w1,w2,s1,s2,aa3,aaQ];refine e1 z1 ?_;simp [s1,s2];refine e1 z2 ?_;simp;refine e2 M ?_;simp [hL',c2,shpA,w1,w2,s1,s2,e1']
         · rw [if_pos (by simp [c2])] at hv;rw [← hv];simp [shpA,w1,w2,s1,s2,aa3,aaQ];refine e1 z1 ?_;simp [s1,s2];refine e1 z2 ?_;simp;refine e2 M ?_;simp [hL',c2,shpA,w1,w2,s1,s2,e1',e2']
       · simp [shpA,w1,w2,s1,s2,aa3,aaQ];refine e1 z1 ?_;simp [s1,s2];refine e1 z2 ?_;simp;refine e2 M ?_
         by_cases c2:H=0
         · have c3:¬ (L:Int)≤9223372036854775807:=fun h=>c1 ⟨c2,by omega⟩;simp [c2,c3]
         · have c3:¬ (H:Int)=0:=by omega
           simp [c2,c3]
 · rintro ⟨env',heap'⟩ ⟨x1,x2,x3,hpp⟩;dsimp only at x1 x2 x3 hpp;subst hpp;simp [x1,x2,x3];refine c1 hp ?_;simp [x1,x2,x3];refine c1 hq ?_;simp [x1,x2,x3];refine c2 hm ?_;simp;refine c2 hmm ?_;simp [x1,x2,x3,shpA]
   done
end Go.Abs
