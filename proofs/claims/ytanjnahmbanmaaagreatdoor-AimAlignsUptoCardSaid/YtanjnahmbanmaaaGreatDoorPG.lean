import Derived.Test.YtanjnahmbanmaaaGreatDoorPF
import Derived.Lib.ItoaNum
import Derived.Lib.Strings
import Derived.Lib.Repeat
import Derived.Lib.Bytealg
import Derived.Test.YtanjnahmbanmaaaGreatDoorThA
import Derived.Test.YtanjnahmbanmaaaGreatDoorPE
import Derived.Shelf.Strings.Builder1
import Derived.Shelf.Strings.Builder2
import Derived.Shelf.Strings.Trim
import Derived.Shelf.Small.Utf8
import Derived.Shelf.Small.Bits
import Derived.Shelf.Small.Strs
import Derived.Shelf.Small.Wraps
import Derived.Shelf.Strings.BuilderF
import Derived.Shelf.Strings.Builder2Cap
import Derived.Shelf.Strconv.Atoi
import Derived.Shelf.Strconv.Itoa0
import Derived.Shelf.Strconv.Itoa1
import Derived.Shelf.LaysM
import Derived.Shelf.Strconv.Itoa2
import Derived.Shelf.Strconv.Itoa3
import Derived.Shelf.Strconv.AtoiErrFast
import Derived.Shelf.Strconv.ParseIntEmpty
import Derived.Shelf.Strconv.AtoiFail
import Derived.Shelf.Strconv.Clone
import Derived.Shelf.Strconv.SyntaxError
import Derived.Shelf.LaysC
import Derived.Shelf.Strconv.ToError
import Derived.Shelf.Strconv.Lower
import Derived.Shelf.Strconv.ParseUint10
import Derived.Shelf.Strconv.ParseUint10Empty
import Derived.Shelf.Strconv.ParseUint10Any
import Derived.Shelf.Strconv.ParseInt10
import Derived.Shelf.Strconv.AtoiLong
import Derived.Shelf.Strconv.AtoiInnerAll
import Derived.Shelf.Strconv.RangeError
import Derived.Shelf.Strconv.ToErrorRange
import Derived.Shelf.Strconv.AtoiAll
import Derived.Shelf.Strconv.ParseUintEmpty
import Derived.Shelf.Strings.Search1
import Derived.Shelf.Strings.Search2
import Derived.Shelf.Strings.Cut
import Derived.Shelf.Strings.Shaped
import Derived.Shelf.Strings.Prefix
import Derived.Shelf.Unicode.Decode
import Derived.Shelf.Strings.Runes
import Derived.Shelf.Strings.AsciiSet
import Derived.Shelf.Bits.Mul64
import Derived.Shelf.Strings.Repeat
import Derived.Shelf.Unicode.DecodeSlow
import Derived.Shelf.Unicode.DecodeAny
import Derived.Shelf.Unicode.DecodeLast
import Derived.Shelf.Slices.Turned
import Derived.Test.YtanjnahmbanmaaaGreatDoorProg
import Derived.Lib.Walk
import Derived.Lib.ItoaMem
import Derived.WalkKit
import Derived.BigCall
import Derived.BigGuard
import Derived.Lib.AppendIntMem
import Derived.Lib.Builder
import Derived.Laws.Externs
import Derived.Shelf.RegionOpenPlain
/- Parts of a proof. -/
set_option linter.unusedSimpArgs false
set_option linter.unusedVariables false
set_option linter.unusedSectionVars false
namespace Go.Abs
open Go.Proofs
set_option maxHeartbeats 4000000
set_option maxRecDepth 100000
theorem ai8 {a b:NI} (h:a.v=b.v) (h2:a.v = -9223372036854775808→a.m=b.m):eI a=eI b:=by
 by_cases h3:a.v = -9223372036854775808
 · have:=h2 h3;cases a; cases b;dsimp only at h this;subst h this;rfl
 · have h4:a.sm=b.sm:=by
    simp only [NI.sm,h];rw [h] at h3;simp [h3]
   rw [acv,acv,h4,h]
theorem awa {a b:Int} (hb:0<b):(a.tdiv b=a / b∧a.tmod b=a % b∧¬ a.tmod b<0)∨(a.tdiv b - 1=a / b∧a.tmod b+b=a % b∧a.tmod b<0∧a / b<0):=by
 have h1:=Int.tmod_add_mul_tdiv a b;have h2:=Int.lt_tmod_of_pos a hb;have h3:=Int.tmod_lt_of_pos a hb
 by_cases h:a.tmod b<0
 · right;have h4:=(Int.ediv_emod_unique (a:=a) (r:=a.tmod b+b) (q:=a.tdiv b - 1) hb).2 ⟨by rw [Int.mul_sub]; omega,by omega,by omega⟩;have h5:a<0:=by
    rcases Int.lt_or_le a 0 with h6 | h6
    · exact h6
    · have:=Int.tmod_nonneg b h6; omega
   have h6:a / b<0:=Int.ediv_lt_of_lt_mul hb (by omega);omega
 · left;have h4:=(Int.ediv_emod_unique (a:=a) (r:=a.tmod b) (q:=a.tdiv b) hb).2 ⟨by omega,by omega,by omega⟩;omega
theorem dm_big {a b : Int} (hb : 0 < b) : ((if a < 0 then -((a.natAbs % b.natAbs : Nat) : Int) else (a.natAbs % b.natAbs : Nat)) < 0 ∧ a / b = (if a < 0 then -((a.natAbs / b.natAbs : Nat) : Int) else (a.natAbs / b.natAbs : Nat)) - 1 ∧ a % b = (if a < 0 then -((a.natAbs % b.natAbs : Nat) : Int) else (a.natAbs % b.natAbs : Nat)) + b) ∨
    (¬ (if a<0 then -((a.natAbs % b.natAbs:Nat):Int) else (a.natAbs % b.natAbs:Nat))<0∧a / b=(if a<0 then -((a.natAbs / b.natAbs:Nat):Int) else (a.natAbs / b.natAbs:Nat))∧a % b=(if a<0 then -((a.natAbs % b.natAbs:Nat):Int) else (a.natAbs % b.natAbs:Nat))):=by
 have hbn:((b.natAbs:Nat):Int)=b:=by omega
 have h1:=Nat.mod_add_div a.natAbs b.natAbs;have h2:=Nat.mod_lt a.natAbs (show 0<b.natAbs by omega);have h3:((a.natAbs % b.natAbs:Nat):Int)+b*(a.natAbs / b.natAbs:Nat)=(a.natAbs:Nat):=by
  rw [← hbn,← Int.natCast_mul,← Int.natCast_add,hbn,h1]
 generalize a.natAbs % b.natAbs=r at *;generalize a.natAbs / b.natAbs=q at *
 by_cases h:a<0
 · simp only [if_pos h]
   by_cases hr:r=0
   · right;have h4:=(Int.ediv_emod_unique (a:=a) (r:=0) (q:=-(q:Int)) hb).2 ⟨by rw [Int.mul_neg]; omega,by omega,by omega⟩;omega
   · left;have h4:=(Int.ediv_emod_unique (a:=a) (r:=-(r:Int)+b) (q:=-(q:Int) - 1) hb).2 ⟨by rw [Int.mul_sub,Int.mul_neg]; omega,by omega,by omega⟩;omega
 · simp only [if_neg h];right;have h4:=(Int.ediv_emod_unique (a:=a) (r:=(r:Int)) (q:=(q:Int)) hb).2 ⟨by omega,by omega,by omega⟩;omega
theorem ap3 (a b:NI) (hb:0<b.v) (ha:okW a.v) (hbl:okW b.v):aab Tryz.prog 332 [eI a,eI b] (.tup [eI (a.div b),eI (a.mod b)]):=by
 have hp:=ad0 (eI a) a.v (aic a);have hq:=ad0 (eI b) b.v (aic b);have ha':=acx ha;have hb':=acx hbl;have hd:=akO a.v.natAbs b.v.natAbs (by omega) (by omega) (by omega);refine aad nf axv mix (by simp [Tryz.f332]) ?_;simp [Tryz.f332,-aai];rw [aai];simp [-aai];refine join (fun s=>getE s.env 2=.ptr 0 []∧getE s.env 3=.ptr 1 []∧getE s.env 4=.ptr 2 []∧getE s.env 5=.ptr 3 []∧s.heap=[.box false (.p (eI a)),.box false (.p (eI b)),.box false (.p (.st 128 [.int .i64 0,.nsl])),.box false (.p (.st 128 [.int .i64 0,.nsl]))]) ?_ ?_
 · rcases hs:a.sm with _ | _
   · obtain ⟨c,cs,w1⟩:=afi hs;simp [shpA,w1,aa3,aaQ]
   · have w1:=ahf hs;rcases hs2:b.sm with _ | _
     · obtain ⟨c,cs,w2⟩:=afi hs2;simp [shpA,w1,w2,aa3,aaQ]
     · have w2:=ahf hs2;have s1:=ai4 hs;have s2:=ai4 hs2;have r1:=NI.agE hs;have r2:=NI.agE hs2
       by_cases hmin:a.v = -9223372036854775808
       · simp [shpA,w1,w2,s1,s2,hmin,aa3,aaQ]
       · have hb0:¬ b.v=0:=by omega
         have b1:-9223372036854775808<a.v / b.v:=by
          have:=Int.le_ediv_of_mul_le (a:=-9223372036854775807) (b:=a.v) hb (by omega);omega
         have b2:a.v / b.v<9223372036854775808:=Int.ediv_lt_of_lt_mul hb (by omega);have b3:=Int.emod_lt_of_pos a.v hb;have b4:=Int.emod_nonneg a.v hb0;have f1:eI (a.div b)=smI (a.v / b.v):=by rw [acv,if_pos (NI.au3 b1 b2)]; rfl
         have f2:eI (a.mod b)=smI (a.v % b.v):=akD (by omega) (by omega);rw [f1,f2];have hlo:=Int.lt_tmod_of_pos a.v hb;have hhi:=Int.tmod_lt_of_pos a.v hb;rcases awa (a:=a.v) hb with ⟨d1,d2,d3⟩ | ⟨d1,d2,d3,d4⟩
         · have q1:IntKind.i64.wrap (a.v.tdiv b.v)=a.v / b.v:=by rw [d1]; exact wi64 _ (by omega) (by omega)
           simp [shpA,w1,w2,s1,s2,hmin,hb0,aa3,aaQ,smI,d3,q1];exact d2.symm
         · have q1:IntKind.i64.wrap (IntKind.i64.wrap (a.v.tdiv b.v) - 1)=a.v / b.v:=by rw [wi64 (a.v.tdiv b.v) (by omega) (by omega),d1]; exact wi64 _ (by omega) (by omega)
           have q2:IntKind.i64.wrap (a.v.tmod b.v+b.v)=a.v % b.v:=by rw [d2]; exact wi64 _ (by omega) (by omega)
           simp [shpA,w1,w2,s1,s2,hmin,hb0,aa3,aaQ,smI,d3,q1,q2]
 · rintro ⟨env',heap'⟩ ⟨x1,x2,x3,x4,hpp⟩;dsimp only at x1 x2 x3 x4 hpp;subst hpp;have hlq:(dig wB (a.v.natAbs / b.v.natAbs)).length≤900000:=by
    have:=aak wB2 _ _ (Nat.lt_of_le_of_lt (Nat.div_le_self a.v.natAbs b.v.natAbs) (aaf wB2 a.v.natAbs));omega
   have hlr:(dig wB (a.v.natAbs % b.v.natAbs)).length≤900000:=by
    have:=aak wB2 _ _ (Nat.lt_of_le_of_lt (Nat.mod_le a.v.natAbs b.v.natAbs) (aaf wB2 a.v.natAbs));omega
   have m1:=amC (decide (a.v < 0)) (a.v.natAbs / b.v.natAbs) (by omega);have m2:=amC (decide (a.v < 0)) (a.v.natAbs % b.v.natAbs) (by omega);have hdm:=dm_big (a:=a.v) hb;simp only [decide_eq_true_eq] at m1 m2;have hrl:=Nat.mod_lt a.v.natAbs (show 0 < b.v.natAbs by omega);generalize a.v.natAbs / b.v.natAbs=qn at *;generalize a.v.natAbs % b.v.natAbs=rn at *;have hRb:-b.v < (if a.v < 0 then -(rn:Int) else (rn:Int)):=by split <;> omega
   have hR0:a.v<0→(if a.v<0 then -(rn:Int) else (rn:Int))≤0:=fun h=>by rw [if_pos h]; omega
   have oq:okW (if a.v < 0 then -(qn:Int) else (qn:Int)):=by rw [okW]; split <;> simpa using hlq
   have or':okW (if a.v < 0 then -(rn:Int) else (rn:Int)):=by rw [okW]; split <;> simpa using hlr
   have hq1:(if a.v < 0 then -(qn:Int) else (qn:Int)) = -9223372036854775808→a.v < 0:=by split <;> omega
   generalize (if a.v<0 then -(qn:Int) else (qn:Int))=Q at *;generalize (if a.v<0 then -(rn:Int) else (rn:Int))=R at *;have hS:=ajO (.mk' R);simp only [NI.mk_v] at hS;have b3:=Int.emod_lt_of_pos a.v hb;have b4:=Int.emod_nonneg a.v (show b.v≠0 by omega);simp [x1,x2,x3,x4];refine c1 hp ?_;simp [x1,x2,x3,x4];refine c1 hq ?_;simp [x1,x2,x3,x4];refine c2 hd ?_;simp;refine c2 m1 ?_;simp;refine c2 m2 ?_;simp [x1,x2,x3,x4,shpA];refine c1 hS ?_;rcases hdm with ⟨d1,d2,d3⟩ | ⟨d1,d2,d3⟩
   · have hsub:=c_Sub (.mk' Q) (.of 1) oq (by rw [okW]; decide);have hadd:=auC (.mk' R) b or' hbl;rw [aqX (by decide) (by decide)] at hsub;have g1:eI (a.div b)=eI ((NI.mk' Q).sub (.of 1)):=by
      refine ai8 (by rw [NI.sub_v]; exact d2) (fun h=>?_);have d2':Q = -9223372036854775807:=by have:a.v / b.v = -9223372036854775808:=h; omega
      have hm0:¬ a.v % b.v=0:=by omega
      subst d2';show decide (a.v % b.v≠0)=_;simp [hm0];rfl
     have g2:eI (a.mod b)=eI ((NI.mk' R).add b):=ai8 (by rw [NI.aop]; exact d3) (fun h=>by have:a.v % b.v = -9223372036854775808:=h; omega);rw [g1,g2];simp [x1,x2,x3,x4,shpA,d1];refine e1 (c_Of 1) ?_;simp [x1,x2,x3,x4,shpA];refine e2 hsub ?_;simp [x1,x2,x3,x4,shpA];refine e2 hadd ?_;simp [x1,x2,x3,x4,shpA];exact ⟨rfl,rfl⟩
   · have g1:eI (a.div b)=eI (.mk' Q):=by
      refine ai8 d2 (fun h=>?_);have h2:a.v / b.v = -9223372036854775808:=h;have h3:=hR0 (hq1 (by omega));have h4:a.v % b.v=0:=by omega
      show decide (a.v % b.v≠0)=false;simp [h4]
     have g2:eI (a.mod b)=eI (.mk' R):=ai8 d3 (fun h=>by have:a.v % b.v = -9223372036854775808:=h; omega);rw [g1,g2]
     by_cases h6:R=0
     · simp [x1,x2,x3,x4,shpA,h6]
     · simp [x1,x2,x3,x4,shpA,d1,h6]
theorem ae8 {a b:Int} (h:okW b) (hab:a.natAbs≤b.natAbs):okW a:=by
 have:=aak wB2 _ _ (Nat.lt_of_le_of_lt hab (aaf wB2 b.natAbs));have:=acx h;rw [okW]; omega
theorem c_Quo (a b:NI) (hb:0<b.v) (ha:okW a.v) (hbl:okW b.v):aab Tryz.prog 300 [eI a,eI b] (eI (a.div b)):=by
 have hS:=ajO b;rw [if_neg (by omega),if_neg (by omega)] at hS;refine aad nf axM mix (by simp [Tryz.f300]) ?_;simp [Tryz.f300];refine c1 hS ?_;simp;refine c2 (ap3 a b hb ha hbl) ?_;simp [shpA]
 done
theorem NI.akX (a:NI):a.abs.v.natAbs=a.v.natAbs:=by
 rw [NI.abs]; split
 · rw [NI.mk_v,Int.natAbs_neg]
 · rfl
theorem NI.azd (a:NI):0≤a.abs.v:=by
 rw [NI.abs]; split
 · rw [NI.mk_v]; omega
 · omega
def gcdI (a b:Int):Int:=(Nat.gcd a.natAbs b.natAbs:Nat)
theorem c_Gcd (a b:NI) (ha:okW a.v) (hb:okW b.v):aab Tryz.prog 299 [eI a,eI b] (eI (.mk' (gcdI a.v b.v))):=by
 refine aad nf axN mix (by simp [Tryz.f299]) ?_;simp [Tryz.f299];refine e1 (c_Abs a ha) ?_;simp;refine e1 (c_Abs b hb) ?_;simp [shpA];refine ⟨⟨rfl,rfl⟩,?_⟩;have hg0:gcdI a.abs.v b.abs.v=gcdI a.v b.v:=by rw [gcdI,gcdI,NI.akX,NI.akX]
 refine lp (α:=NI×NI) (fun x=>⟨[(4,.ptr 2 []),(3,.ptr 1 []),(2,.ptr 0 [])],[.box false (.p (eI x.1)),.box false (.p (eI x.2)),.box false (.p (.st 128 [.int .i64 0,.nsl]))]⟩)
  (fun x=>0≤x.1.v∧0≤x.2.v∧okW x.1.v∧okW x.2.v∧gcdI x.1.v x.2.v=gcdI a.v b.v) (fun x=>x.2.v.toNat) (a.abs,b.abs) ⟨NI.azd a,NI.azd b,ae8 ha (Nat.le_of_eq (NI.akX a)),ae8 hb (Nat.le_of_eq (NI.akX b)),hg0⟩ ?_
 rintro ⟨x,y⟩ ⟨h1,h2,h3,h4,h5⟩;dsimp only at h1 h2 h3 h4 h5;have hS:=ajO y
 by_cases hy:y.v=0
 · rw [if_neg (by omega),if_pos hy] at hS;have hx:eI (.mk' (gcdI a.v b.v))=eI x:=by
    refine ai8 ?_ (fun h=>?_)
    · rw [NI.mk_v,← h5,hy,gcdI]; simp; omega
    · rw [NI.mk_v,gcdI] at h; omega
   rw [hx];simp;refine c1 hS ?_;simp [shpA]
 · rw [if_neg (by omega),if_neg hy] at hS;have hlt:=Int.emod_lt_of_pos x.v (show 0<y.v by omega);have hnn:=Int.emod_nonneg x.v hy;have hab:(x.v % y.v).natAbs=x.v.natAbs % y.v.natAbs:=by
    have e1:(x.v.natAbs:Int)=x.v:=by omega
    have e2:(y.v.natAbs:Int)=y.v:=by omega
    have e3:((x.v.natAbs % y.v.natAbs:Nat):Int)=x.v % y.v:=by rw [Int.natCast_emod,e1,e2]
    omega
   simp;refine c1 hS ?_;simp [shpA];refine c2 (ap3 x y (by omega) h3 h4) ?_;simp [shpA];refine ⟨rfl,?_⟩;refine rd (y,x.mod y) ⟨h2,hnn,h4,ae8 h4 (by show (x.v % y.v).natAbs≤_; omega),?_⟩ (by show (x.v % y.v).toNat<y.v.toNat; omega);show gcdI y.v (x.v % y.v)=_;rw [← h5,gcdI,gcdI,hab,Nat.gcd_comm y.v.natAbs,← Nat.gcd_rec,Nat.gcd_comm]
theorem pow_le {o x k A:Nat} (hx:1≤x) (ho:1≤o) (h:o*x ^ k=A) (hk:1≤k):o*x≤A∧(2≤k→x*x≤A):=by
 have h1:x≤x ^ k:=by
  calc x=x ^ 1:=(Nat.pow_one x).symm
   _≤x ^ k:=Nat.pow_le_pow_right hx hk
 refine ⟨by rw [← h]; exact Nat.mul_le_mul_left _ h1,fun h2=>?_⟩;have h3:x*x≤x ^ k:=by
  calc x*x=x ^ 2:=by rw [Nat.pow_two]
   _≤x ^ k:=Nat.pow_le_pow_right hx h2
 rw [← h];exact Nat.le_trans h3 (Nat.le_mul_of_pos_left _ ho)
theorem c_Pow (a:NI) (n A:Nat) (ha:1≤a.v) (hA:A=a.v.natAbs ^ n) (hl:(dig wB A).length≤400000) (hl2:(dig wB a.v.natAbs).length≤400000) (hn:n≤1000000):aab Tryz.prog 311 [eI a,.int .i64 n] (eI (.mk' A)):=by
 refine aad nf axG mix (by simp [Tryz.f311]) ?_;simp [Tryz.f311];refine c1 (c_Of 1) ?_;rw [show smI 1=eI (.of 1) from (aqX (by decide) (by decide)).symm];simp [shpA];refine lp (α:=Nat×NI×NI) (fun s=>⟨[(1,.p (.int .i64 s.1)),(5,.ptr 2 []),(4,.ptr 1 []),(2,.ptr 0 [])],[.box false (.p (eI s.2.1)),.box false (.p (.st 128 [.int .i64 0,.nsl])),.box false (.p (eI s.2.2))]⟩)
  (fun s=>s.1≤n∧1≤s.2.1.v∧1≤s.2.2.v∧(0<s.1→s.2.2.v.natAbs*s.2.1.v.natAbs ^ s.1=A)∧(s.1=0→s.2.2.v.natAbs=A)∧(dig wB s.2.1.v.natAbs).length≤400000) (fun s=>s.1) (n,a,.of 1) ⟨Nat.le_refl _,ha,(by decide:(1:Int)≤1),fun _=>by rw [hA]; show (1:Int).natAbs * _=_; simp,fun h=>by have h:n=0:=h; rw [hA,h,Nat.pow_zero]; rfl,hl2⟩ ?_
 rintro ⟨k,x,o⟩ ⟨h1,h2,h3,h4,h5,h6⟩;dsimp only at h1 h2 h3 h4 h5 h6
 by_cases k0:k=0
 · subst k0;have e:eI (.mk' A)=eI o:=by
    refine ai8 ?_ (fun h=>?_)
    · rw [NI.mk_v,← h5 rfl]; omega
    · rw [NI.mk_v] at h; omega
   rw [e];simp [shpA]
 have h4:=h4 (by omega);have hb:=pow_le (o:=o.v.natAbs) (x:=x.v.natAbs) (by omega) (by omega) h4 (by omega);have hw:IntKind.i64.wrap (k % 2 ^ IntKind.i64.bits &&& 1 % 2 ^ IntKind.i64.bits:Nat)=(k % 2:Nat):=by
  rw [show (2 ^ IntKind.i64.bits:Nat)=18446744073709551616 from rfl,Nat.mod_eq_of_lt (show k<18446744073709551616 by omega),show 1 % 18446744073709551616=2 ^ 1 - 1 from rfl,Nat.and_two_pow_sub_one_eq_mod];exact wi64 _ (by omega) (by omega)
 have hs:(k:Int).fdiv (2 ^ min 1 IntKind.i64.bits)=(k / 2:Nat):=by
  rw [show ((2:Int) ^ min 1 IntKind.i64.bits)=2 from rfl,Int.fdiv_eq_ediv_of_nonneg _ (by decide)]; omega
 have kp:0<k:=by omega
 have ol:(dig wB o.v.natAbs).length≤400000:=by
  have h7:o.v.natAbs≤A:=Nat.le_trans (Nat.le_mul_of_pos_right _ (show 0<x.v.natAbs by omega)) hb.1;have:=aak wB2 _ _ (Nat.lt_of_le_of_lt h7 (aaf wB2 A));omega
 have xl2:2≤k→(dig wB (x.v*x.v).natAbs).length≤400000:=fun h=>by
  have:=aak wB2 _ _ (Nat.lt_of_le_of_lt (hb.2 h) (aaf wB2 A));rw [Int.natAbs_mul];omega
 have ox:(1:Int)≤o.v*x.v:=by
  have:=Int.mul_le_mul h3 h2 (by decide) (by omega); omega
 have xx:(1:Int)≤x.v*x.v:=by
  have:=Int.mul_le_mul h2 h2 (by decide) (by omega); omega
 have mo:=awF o x (by omega);have mx:=awF x x (by omega);have hpw:x.v.natAbs ^ k=(x.v*x.v).natAbs ^ (k / 2)*x.v.natAbs ^ (k % 2):=by
  rw [Int.natAbs_mul,← Nat.pow_two,← Nat.pow_mul,← Nat.pow_add,Nat.div_add_mod]
 by_cases ko:k % 2=1
 · rw [ko,Nat.pow_one] at hpw;have hcast:((k % 2:Nat):Int)=1:=by omega
   rw [hcast] at hw
   by_cases k1:1<k
   · have k1':(1:Int)<k:=by omega
     simp [kp,hw];refine c2 mo ?_;simp [shpA,k1'];refine c2 mx ?_;simp [shpA,hs];refine rd (k / 2,x.mul x,o.mul x) ⟨by omega,xx,ox,fun _=>?_,fun h=>by dsimp only at h; omega,xl2 k1⟩ (by dsimp only; omega);rw [hpw] at h4;show (o.v*x.v).natAbs*(x.v*x.v).natAbs ^ (k / 2)=A;rw [← h4,Int.natAbs_mul o.v,Nat.mul_comm ((x.v*x.v).natAbs ^ (k / 2)),Nat.mul_assoc]
   · have k1':¬ (1:Int)<k:=by omega
     have kk:k=1:=by omega
     simp [kp,hw];refine c2 mo ?_;simp [shpA,k1',hs];refine rd (k / 2,x,o.mul x) ⟨by omega,h2,ox,fun h=>by dsimp only at h; omega,fun _=>?_,h6⟩ (by dsimp only; omega);subst kk;rw [Nat.pow_one] at h4;show (o.v*x.v).natAbs=A;rw [← h4,Int.natAbs_mul]
 · have ko2:k % 2=0:=by omega
   rw [ko2,Nat.pow_zero,Nat.mul_one] at hpw;have hcast:¬ ((k % 2:Nat):Int)=1:=by omega
   rw [show ((k % 2:Nat):Int)=0 by omega] at hw;have k1':(1:Int)<k:=by omega
   simp [kp,hw,k1'];refine c2 mx ?_;simp [shpA,hs];refine rd (k / 2,x.mul x,o) ⟨by omega,xx,h3,fun _=>?_,fun h=>by dsimp only at h; omega,xl2 (by omega)⟩ (by dsimp only; omega);show o.v.natAbs*(x.v*x.v).natAbs ^ (k / 2)=A;rw [← hpw,h4]
theorem c_len64 (x:Nat) (hx:x<18446744073709551616):aab Tryz.prog 323 [.int .u64 x] (.int .i64 (Lib.bitLen x:Nat)):=by
 refine abd (abe Tryz.func323 (by kernel_rfl)) fun w Imm cargs _ _ ha=>?_;obtain ⟨a,rfl,h1⟩:=ahc ha;simp only [PVV] at h1;subst h1;refine (Tryz.bits_Len64 x w (by omega) (by omega)).mono ?_;rintro e w' ⟨rfl,rfl⟩;refine ⟨_,rfl,⟨Nat.le_refl _,fun _ _=>rfl,rfl,rfl⟩,fun w Imm=>?_⟩;simp only [PVV]; rfl
def akV (n:Nat):Nat:=if n=0 then 0 else 64*((dig wB n).length - 1)+Lib.bitLen (plc wB n ((dig wB n).length - 1))
theorem ace {n:Nat}:dig wB n=[]↔n=0:=by
 constructor
 · intro h;have:=aaf wB2 n;rw [h,List.length_nil,Nat.pow_zero] at this; omega
 · rintro rfl; exact agV
theorem ap9 (n:Nat):n<2 ^ akV n:=by
 by_cases h0:n=0
 · subst h0; exact Nat.pow_pos (by decide)
 · rw [akV,if_neg h0];have hl:=aaf wB2 n;have hp:0<(dig wB n).length:=by
    rcases Nat.eq_zero_or_pos (dig wB n).length with h | h
    · exact (h0 (ace.1 (List.length_eq_zero_iff.1 h))).elim
    · exact h
   obtain ⟨m,hm⟩:∃ m,(dig wB n).length=m+1:=⟨(dig wB n).length - 1,by omega⟩
   rw [hm] at hl ⊢;rw [Nat.add_sub_cancel];have h1:n / wB ^ m<wB:=by
    rw [Nat.div_lt_iff_lt_mul (Nat.pow_pos (by decide)),Nat.mul_comm,← Nat.pow_succ]; exact hl
   have h2:plc wB n m=n / wB ^ m:=by rw [plc,Nat.mod_eq_of_lt h1]
   have h3:0<n / wB ^ m:=by
    rcases Nat.eq_zero_or_pos (n / wB ^ m) with h | h
    · have h4:n<wB ^ m:=by
       rcases Nat.lt_or_ge n (wB ^ m) with h5 | h5
       · exact h5
       · have:=Nat.div_pos h5 (Nat.pow_pos (show 0<wB by decide)); omega
      have:=aak wB2 m n h4; omega
    · exact h
   have h4:=afS (n / wB ^ m) (n / wB ^ m) (Nat.le_refl _) h3 h1;rw [h2,Nat.pow_add,Nat.pow_mul];show n<wB ^ m * _;have h5:n<(n / wB ^ m+1)*wB ^ m:=by
    rw [← Nat.div_lt_iff_lt_mul (Nat.pow_pos (by decide))]; omega
   rw [Nat.mul_comm] at h5;exact Nat.lt_of_lt_of_le h5 (Nat.mul_le_mul_left _ h4.2.2)
theorem c_Bits (a:NI) (ha:okW a.v):aab Tryz.prog 273 [eI a] (.int .i64 (akV a.v.natAbs:Nat)):=by
 have hp:=ad0 (eI a) a.v (aic a);refine aad nf axU mix (by simp [Tryz.f273]) ?_;have ha':=acx ha;have hda:∀ i (h:i<(dig wB a.v.natAbs).length),(dig wB a.v.natAbs)[i]=plc wB a.v.natAbs i:=fun i h=>aal wB2 h;have hpl:=aaq (B:=wB) wB2 a.v.natAbs ((dig wB a.v.natAbs).length - 1);have hlen:=c_len64 _ hpl;have hb:=ap9 a.v.natAbs;have hnil:=ace (n:=a.v.natAbs)
 by_cases h0:a.v.natAbs=0
 · rw [h0] at hp ⊢;simp only [eN,agV] at hp;simp [Tryz.f273];refine c1 hp ?_;simp [akV]
 · have hne:=mt hnil.1 h0;rw [akV,if_neg h0];have hbl:Lib.bitLen (plc wB a.v.natAbs ((dig wB a.v.natAbs).length - 1))≤64:=by
    rcases Nat.eq_zero_or_pos (plc wB a.v.natAbs ((dig wB a.v.natAbs).length - 1)) with h | h
    · rw [h]; decide
    · exact bl_le h hpl
   simp only [eN] at hp;generalize dig wB a.v.natAbs=x at *;obtain ⟨m,hm⟩:∃ m,x.length=m+1:=⟨x.length - 1,by cases x with | nil=>exact (hne rfl).elim | cons c cs=>simp⟩
   rw [hm,Nat.add_sub_cancel] at hlen hbl hpl;rw [hm,Nat.add_sub_cancel];rw [hm] at ha';have hx:=hda m (by omega);have hx':x[m]?=some (plc wB a.v.natAbs m):=by rw [List.getElem?_eq_getElem (by omega),hx]
   have w1:IntKind.i64.wrap (m:Int)=m:=wi64 _ (by omega) (by omega);have w2:IntKind.i64.wrap (64*(m:Int))=64*m:=wi64 _ (by omega) (by omega);have w3:IntKind.i64.wrap (64*(m:Int)+(Lib.bitLen (plc wB a.v.natAbs m):Nat))=(64*m+Lib.bitLen (plc wB a.v.natAbs m):Nat):=by rw [wi64 _ (by omega) (by omega)]; push_cast; rfl
   generalize Lib.bitLen (plc wB a.v.natAbs m)=bl at *;have w3':IntKind.i64.wrap (64*(m:Int)+bl)=64*m+bl:=by rw [w3]; push_cast; rfl
   simp [Tryz.f273];refine c1 hp ?_;have hm0:¬ ((m:Int)+1=0):=by omega
   simp [hne,hm,w1,w2,hx',hx,hm0];refine c1 hlen ?_;simp [w3']
noncomputable def eF (a:NF):PV:=.st 130 [eI a.num,eI a.den]
@[simp] theorem shp_eF (a:NF):shp (eF a)=.agg 130:=rfl
@[simp] theorem flds_eF (a:NF):flds (eF a)=[eI a.num,eI a.den]:=rfl
@[simp] theorem shp_smI (n:Int):shp (smI n)=.agg 128:=rfl
@[simp] theorem ce91':Tryz.prog.cellsOf 128=2:=by kernel_rfl
@[simp] theorem ce93':Tryz.prog.cellsOf 130=4:=by kernel_rfl
theorem arU:smI 1=eI (.mk' 1):=(akD (by decide) (by decide)).symm
def kB:Nat:=100000
theorem kB_3:kB≤3*kB:=Nat.le_mul_of_pos_left _ (by decide)
theorem ag8 {n k:Nat} (h:n<2 ^ k):(dig wB n).length≤k / 64+1:=by
 refine aak wB2 _ _ (Nat.lt_of_lt_of_le h ?_);rw [show wB=2 ^ 64 from rfl,← Nat.pow_mul];exact Nat.pow_le_pow_right (by decide) (by omega)
theorem aaS {z:Int} {k:Nat} (h:z.natAbs<2 ^ k) (hk:k≤3*kB):okW z:=by
 have:=ag8 h;have hb:kB=100000:=rfl;rw [okW]; omega
def NF.make (n d:NI):NF:=⟨Rat.divInt n.v d.v,n.m && decide (d.v=1)⟩
theorem aiM (a:NF):aab Tryz.prog 247 [eF a] (.bool a.isW):=by
 refine aad nf ax5 mix (by simp [Tryz.f247]) ?_;have hv:a.den.v=a.q.den:=rfl;have hd:=a.q.den_pos;rcases hs:a.den.sm with _ | _
 · obtain ⟨c,cs,w1⟩:=afi hs;have h2:=NI.aoP (a:=a.den) (by rw [hs]; decide);have h3:a.isW=false:=by rw [NF.isW,decide_eq_false_iff_not]; omega
   simp [Tryz.f247,shpA,w1,aa3,aaQ,h3]
 · have w1:=ahf hs;have s1:=ai4 hs;rw [hv] at s1;have h3:a.isW=decide ((a.q.den:Int)=1):=by rw [NF.isW,decide_eq_decide]; omega
   simp [Tryz.f247,shpA,w1,s1,aa3,aaQ,h3];rfl
theorem aoh (a:NI):aab Tryz.prog 197 [eI a] (eF (.whole a)):=by
 refine aad nf ayk mix (by simp [Tryz.f197]) ?_;simp [Tryz.f197];refine e1 (c_Of 1) ?_;have h1:(NF.whole a).num=a:=by cases a; rfl
 have h2:(NF.whole a).den=.mk' 1:=rfl;simp [shpA,eF,h1,h2,arU]
theorem c_F (n:Int) (h:-9223372036854775808≤n) (h':n≤9223372036854775807):aab Tryz.prog 116 [.int .i64 n] (eF (.int n)):=by
 have hw:=aoh (.of n);rw [aqX h h'] at hw;refine aad nf ayJ mix (by simp [Tryz.f116]) ?_;simp [Tryz.f116];refine c1 (c_Of n) ?_;simp;refine c1 hw ?_;simp [shpA];exact Wk.refl _
theorem asW (q:Rat):(if q<0 then (-1:Int) else if q=0 then 0 else 1)=if q.num<0 then -1 else if q.num=0 then 0 else 1:=by
 have h1:q<0↔q.num<0:=by rw [← Rat.not_le,← Rat.num_nonneg]; omega
 have h2:q=0↔q.num=0:=Rat.num_eq_zero.symm;simp only [h1,h2]
theorem aod (a:NF):aab Tryz.prog 171 [eF a] (.int .i64 (if a.q<0 then -1 else if a.q=0 then 0 else 1)):=by
 have hS:=ajO a.num;refine aad nf ayq mix (by simp [Tryz.f171]) ?_;simp [Tryz.f171,shpA];refine c1 hS ?_;simp;exact asW a.q
theorem apY (a:NF) (h:okR kB a.q):aab Tryz.prog 163 [eF a] (eF a.neg):=by
 have hS:=aq8 a.num (aaS h.1 kB_3);refine aad nf ayy mix (by simp [Tryz.f163]) ?_;simp [Tryz.f163,shpA];refine e1 hS ?_;have h1:a.neg.num=a.num.neg:=by show (⟨(-a.q).num,false⟩:NI)=⟨-a.q.num,false⟩; rw [Rat.neg_num]
 have h2:a.neg.den=a.den:=by show (⟨((-a.q).den:Int),false⟩:NI)=⟨a.q.den,false⟩; rw [Rat.neg_den]
 simp [shpA,eF,h1,h2]
theorem aqK {n d:NI} (hd:0<d.v):(NI.mk' (gcdI n.v d.v)).v≠0∧0<gcdI n.v d.v∧(¬ d.v=1→eI (n.div (.mk' (gcdI n.v d.v)))=eI (NF.make n d).num)∧eI (d.div (.mk' (gcdI n.v d.v)))=eI (NF.make n d).den:=by
 obtain ⟨dn,hdn⟩:∃ dn:Nat,d.v=dn:=⟨d.v.toNat,by omega⟩
 have h0:dn≠0:=by omega
 obtain ⟨e1,e2⟩:=abf (n:=n.v) h0;have hg:gcdI n.v d.v=(Nat.gcd n.v.natAbs dn:Nat):=by rw [gcdI,hdn]; rfl
 have hgp:0<Nat.gcd n.v.natAbs dn:=Nat.gcd_pos_of_pos_right _ (by omega);have hgd:(Nat.gcd n.v.natAbs dn:Int) ∣ n.v:=Int.ofNat_dvd_left.2 (Nat.gcd_dvd_left _ _);refine ⟨by rw [NI.mk_v,hg]; omega,by rw [hg]; omega,fun hd1=>?_,?_⟩
 · refine ai8 ?_ (fun _=>?_)
   · show n.v / gcdI n.v d.v=(Rat.divInt n.v d.v).num;rw [hg,hdn,e1]
   · show decide (n.v % gcdI n.v d.v≠0)=(n.m && decide (d.v=1))
     rw [hg,Int.emod_eq_zero_of_dvd hgd];simp [hd1]
 · refine ai8 ?_ (fun h=>?_)
   · show d.v / gcdI n.v d.v=((Rat.divInt n.v d.v).den:Int)
     rw [hg,hdn,e2];exact (Int.natCast_ediv _ _).symm
   · have:d.v / gcdI n.v d.v = -9223372036854775808:=h;have:=Int.ediv_nonneg (a:=d.v) (b:=gcdI n.v d.v) (by omega) (by rw [hg]; omega);omega
theorem avL {n d:NI} (hd:d.v<0):NF.make n.neg d.neg=NF.make n d:=by
 rw [NF.make,NF.make];have e1:Rat.divInt n.neg.v d.neg.v=Rat.divInt n.v d.v:=Rat.neg_divInt_neg _ _;have e2:(n.neg.m && decide (d.neg.v=1))=(n.m && decide (d.v=1)):=by
  rw [show n.neg.m=false from rfl,Bool.false_and,decide_eq_false (by omega),Bool.and_false]
 rw [e1,e2]
theorem aiu (n:Int):(Rat.divInt n 1).num=n∧(Rat.divInt n 1).den=1:=by
 obtain ⟨e1,e2⟩:=abf (n:=n) (show 1≠0 by decide);rw [Nat.gcd_one_right] at e1 e2;refine ⟨?_,?_⟩
 · exact e1.trans (Int.ediv_one n)
 · exact e2
theorem auz (n d:NI) (hd:d.v≠0) (hn:okW n.v) (hdk:okW d.v):aab Tryz.prog 245 [eI n,eI d] (eF (.make n d)):=by
 have hS:=ajO d;refine aad nf ax6 mix (by simp [Tryz.f245]) ?_;simp [Tryz.f245,-aai];rw [aai];simp [-aai];refine join (fun s=>∃ n' d':NI,0<d'.v∧okW n'.v∧okW d'.v∧NF.make n' d'=NF.make n d∧getE s.env 2=.ptr 0 []∧getE s.env 3=.ptr 1 []∧getE s.env 4=.ptr 2 []∧s.heap=[.box false (.p (eI n')),.box false (.p (eI d')),.box false (.p (.st 130 [.st 128 [.int .i64 0,.nsl],.st 128 [.int .i64 0,.nsl]]))]) ?_ ?_
 · by_cases h1:d.v<0
   · rw [if_pos h1] at hS;simp;refine c1 hS ?_;simp;refine e1 (aq8 n hn) ?_;simp;refine e1 (aq8 d hdk) ?_;simp [shpA];exact ⟨⟨rfl,rfl⟩,n.neg,d.neg,by rw [NI.neg_v]; omega,ae8 hn (by rw [NI.neg_v]; omega),ae8 hdk (by rw [NI.neg_v]; omega),avL h1,rfl,rfl⟩
   · rw [if_neg h1,if_neg hd] at hS;simp;refine c1 hS ?_;simp;exact ⟨n,d,by omega,hn,hdk,rfl,rfl,rfl⟩
 · rintro ⟨env',heap'⟩ ⟨n',d',y1,y2,y3,y4,x1,x2,x3,hpp⟩;dsimp only at x1 x2 x3 hpp;subst hpp;rw [← y4];clear y4 hS;have hG:=c_Gcd n' d' y2 y3;obtain ⟨g1,g2,g3,g4⟩:=aqK (n:=n') y1;have og:okW (gcdI n'.v d'.v):=by
    refine ae8 y3 ?_;rw [gcdI];exact Nat.le_trans (Nat.le_of_eq (Int.natAbs_natCast _)) (Nat.gcd_le_right _ (by omega))
   have hq1:=c_Quo n' (.mk' (gcdI n'.v d'.v)) g2 y2 og;have hq2:=c_Quo d' (.mk' (gcdI n'.v d'.v)) g2 y3 og
   by_cases hs:d'.v=1
   · have hsm:d'.sm=true:=NI.au3 (by omega) (by omega);have w1:=ahf hsm;have s1:=ai4 hsm;rw [hs] at s1;have m1:eF (.make n' d')=.st 130 [eI n',eI d']:=by
      rw [eF];have r1:(NF.make n' d').num=n':=by
       show (⟨(Rat.divInt n'.v d'.v).num,n'.m && decide (d'.v=1)⟩:NI)=n';rw [hs,(aiu _).1];simp
      have r2:eI (NF.make n' d').den=eI d':=by
       refine ai8 ?_ (fun h=>?_)
       · show ((Rat.divInt n'.v d'.v).den:Int)=d'.v;rw [hs,(aiu _).2]; rfl
       · have:((Rat.divInt n'.v d'.v).den:Int) = -9223372036854775808:=h;omega
      rw [r1,r2]
     rw [m1];simp [x1,x2,x3,shpA,w1,s1,aa3,aaQ]
     done
   · rw [eF,← g3 hs,← g4];have ht:(wI d'=.nsl∧¬ sI d'=1)∨∃ c cs,wI d'=.seq (c::cs):=by
      rcases hsm:d'.sm with _ | _
      · exact .inr (afi hsm)
      · exact .inl ⟨ahf hsm,by rw [ai4 hsm]; exact hs⟩
     rcases ht with ⟨w1,s1⟩ | ⟨c,cs,w1⟩
     · simp [x1,x2,x3,shpA,w1,s1,aa3,aaQ];refine c2 hG ?_;simp [x1,x2,x3,shpA];refine e2 hq1 ?_;simp [x1,x2,x3,shpA];refine e2 hq2 ?_;simp [x1,x2,x3,shpA]
       done
     · simp [x1,x2,x3,shpA,w1,aa3,aaQ];refine c2 hG ?_;simp [x1,x2,x3,shpA];refine e2 hq1 ?_;simp [x1,x2,x3,shpA];refine e2 hq2 ?_;simp [x1,x2,x3,shpA]
       done
theorem agT (a:NF):a.num.v=a.q.num:=rfl
theorem afg (a:NF):a.den.v=a.q.den:=rfl
theorem aaU (a:NF):a.den.v.natAbs=a.q.den:=by rw [afg,Int.natAbs_natCast]
theorem anr {x y:NI} {k l:Nat} (hx:x.v.natAbs<2 ^ k) (hy:y.v.natAbs<2 ^ l) (h:k+l≤4*kB):aab Tryz.prog 168 [eI x,eI y] (eI (x.mul y)):=by
 have h1:=ag8 hx;have h2:=ag8 hy;have hb:kB=100000:=rfl;exact awF x y (by omega)
theorem ac2 {x y:Int} {k l:Nat} (hx:x.natAbs<2 ^ k) (hy:y.natAbs<2 ^ l):(x*y).natAbs<2 ^ (k+l):=by
 rw [Int.natAbs_mul,Nat.pow_add]; exact Nat.mul_lt_mul'' hx hy
theorem anB {n d:NI} {q:Rat} (m:Bool) (hq:Rat.divInt n.v d.v=q) (hm:(n.m && decide (d.v=1))=m):NF.make n d=⟨q,m⟩:=by rw [NF.make,hq,hm]
theorem avI (a b:NF):NF.make (a.num.mul b.num) (a.den.mul b.den)=a.mul b:=by
 refine anB _ ?_ rfl;rw [NI.ahY,NI.ahY,agT,agT,afg,afg,Rat.mul_def,Rat.normalize_eq_mkRat];rfl
theorem agO (a b:NF) (ha:okR kB a.q) (hb:okR kB b.q):aab Tryz.prog 170 [eF a,eF b] (eF (a.mul b)):=by
 have m1:=anr (x:=a.num) (y:=b.num) ha.1 hb.1 (by omega);have m2:=anr (x:=a.den) (y:=b.den) (by rw [aaU]; exact ha.2) (by rw [aaU]; exact hb.2) (by omega);have m3:=auz (a.num.mul b.num) (a.den.mul b.den) (by rw [NI.ahY,afg,afg]; have:=a.q.den_nz; have:=b.q.den_nz; exact Int.mul_ne_zero (by omega) (by omega)) (aaS (ac2 ha.1 hb.1) (by omega)) (aaS (ac2 (x:=a.den.v) (y:=b.den.v) (by rw [aaU]; exact ha.2) (by rw [aaU]; exact hb.2)) (by omega));rw [avI] at m3;refine aad nf ayr mix (by simp [Tryz.f170]) ?_;simp [Tryz.f170,shpA];refine e2 m1 ?_;simp [shpA];refine e2 m2 ?_;simp [shpA];refine e2 m3 ?_;simp [shpA]
theorem avZ (a:NF) (h:a.q≠0):NF.make a.den a.num=a.inv:=by
 refine anB _ ?_ rfl;rw [agT,afg];show Rat.divInt a.q.den a.q.num=a.q⁻¹;rw [Rat.inv_def]
theorem apZ (a:NF) (ha:okR kB a.q) (h0:a.q≠0):aab Tryz.prog 162 [eF a] (eF a.inv):=by
 have m3:=auz a.den a.num (by rw [agT]; exact mt Rat.num_eq_zero.1 h0) (aaS (by rw [aaU]; exact ha.2) kB_3) (aaS ha.1 kB_3);rw [avZ a h0] at m3;refine aad nf ayz mix (by simp [Tryz.f162]) ?_;simp [Tryz.f162,shpA];refine c2 m3 ?_;simp [shpA]
theorem aza (a b:NF) (ha:okR kB a.q) (hb:okR kB b.q) (h0:b.q≠0):aab Tryz.prog 117 [eF a,eF b] (eF (a.div b)):=by
 have m1:=apZ b hb h0;have m2:=agO a b.inv ha (ae9 hb);have e:a.mul b.inv=a.div b:=by
  rw [NF.mul,NF.div,NF.inv,Rat.div_def]
 rw [e] at m2;refine aad nf ayI mix (by simp [Tryz.f117]) ?_;simp [Tryz.f117,shpA];refine e1 m1 ?_;simp [shpA];refine e2 m2 ?_;simp [shpA]
theorem awN (a b:NF) (h:¬ (a.isW=true∧b.isW=true)):NF.make ((a.num.mul b.den).add (b.num.mul a.den)) (a.den.mul b.den)=a.add b:=by
 have hw:(a.isW && b.isW)=false:=by simpa using h
 refine anB _ ?_ ?_
 · rw [NI.aop,NI.ahY,NI.ahY,NI.ahY,agT,agT,afg,afg,Rat.add_def']; rfl
 · rw [hw,Bool.false_and];have:¬ (a.den.mul b.den).v=1:=by
    intro h1;rw [NI.ahY,afg,afg] at h1;have h2:a.q.den*b.q.den=1:=by exact_mod_cast h1
    have h3:=Nat.eq_one_of_mul_eq_one_right h2;have h4:=Nat.eq_one_of_mul_eq_one_left h2;exact h ⟨by rw [NF.isW]; simp [h3,h4],by rw [NF.isW]; simp [h3,h4]⟩
   rw [decide_eq_false this,Bool.and_false]
theorem arp {q:Rat} (h:q.den=1):(q.num:Rat)=q:=by
 apply Rat.ext
 · rw [Rat.num_intCast]
 · rw [Rat.den_intCast,h]
theorem aur (a b:NF) (ha:okR kB a.q) (hb:okR kB b.q):aab Tryz.prog 190 [eF a,eF b] (eF (a.add b)):=by
 have w1:=aiM a;have w2:=aiM b;refine aad nf aym mix (by simp [Tryz.f190]) ?_
 by_cases hw:a.isW=true∧b.isW=true
 · rw [hw.1] at w1;rw [hw.2] at w2;have m1:=auC a.num b.num (aaS ha.1 kB_3) (aaS hb.1 kB_3);have m2:=aoh (a.num.add b.num);have h1:a.q.den=1:=by simpa [NF.isW] using hw.1
   have h2:b.q.den=1:=by simpa [NF.isW] using hw.2
   have e:NF.whole (a.num.add b.num)=a.add b:=by
    rw [NF.whole,NF.add];have e1:(((a.num.add b.num).v:Int):Rat)=a.q+b.q:=by
     rw [NI.aop,agT,agT,Rat.intCast_add,arp h1,arp h2]
    have e2:(a.num.add b.num).m=(a.isW && b.isW && (a.num.sm && b.num.sm)):=by rw [hw.1,hw.2]; rfl
    rw [e1,e2]
   rw [e] at m2;simp [Tryz.f190,shpA];refine c1 w1 ?_;simp [shpA];refine c1 w2 ?_;simp [shpA];refine c2 m1 ?_;simp [shpA];refine c1 m2 ?_;simp [shpA]
 · have da:a.den.v.natAbs<2 ^ kB:=by rw [aaU]; exact ha.2
   have db:b.den.v.natAbs<2 ^ kB:=by rw [aaU]; exact hb.2
   have m1:=anr (x:=a.num) (y:=b.den) ha.1 db (by omega);have m2:=anr (x:=b.num) (y:=a.den) hb.1 da (by omega);have b1:(a.num.mul b.den).v.natAbs<2 ^ (kB+kB):=ac2 ha.1 db;have b2:(b.num.mul a.den).v.natAbs<2 ^ (kB+kB):=ac2 hb.1 da;have m3:=auC _ _ (aaS b1 (by omega)) (aaS b2 (by omega));have m4:=anr (x:=a.den) (y:=b.den) da db (by omega);have b3:((a.num.mul b.den).add (b.num.mul a.den)).v.natAbs<2 ^ (kB+kB+1):=by
    rw [NI.aop,Nat.pow_succ];exact Nat.lt_of_le_of_lt (Int.natAbs_add_le _ _) (by omega)
   have hkb:kB=100000:=rfl;have m5:=auz ((a.num.mul b.den).add (b.num.mul a.den)) (a.den.mul b.den) (by rw [NI.ahY,afg,afg]; have:=a.q.den_nz; have:=b.q.den_nz; exact Int.mul_ne_zero (by omega) (by omega)) (aaS b3 (by omega)) (aaS (ac2 (x:=a.den.v) (y:=b.den.v) da db) (by omega));rw [awN a b hw] at m5;have hc:a.isW=false∨(a.isW=true∧b.isW=false):=by
    rcases h1:a.isW with _ | _
    · exact .inl rfl
    · exact .inr ⟨rfl,by rcases h2:b.isW with _ | _; rfl; exact (hw ⟨h1,h2⟩).elim⟩
   rcases hc with h1 | ⟨h1,h2⟩
   · rw [h1] at w1;simp [Tryz.f190,shpA];refine c1 w1 ?_;simp [shpA];refine e2 m1 ?_;simp [shpA];refine e2 m2 ?_;simp [shpA];refine e2 m3 ?_;simp [shpA];refine e2 m4 ?_;simp [shpA];refine e2 m5 ?_;simp [shpA]
   · rw [h1] at w1;rw [h2] at w2;simp [Tryz.f190,shpA];refine c1 w1 ?_;simp [shpA];refine c1 w2 ?_;simp [shpA];refine e2 m1 ?_;simp [shpA];refine e2 m2 ?_;simp [shpA];refine e2 m3 ?_;simp [shpA];refine e2 m4 ?_;simp [shpA];refine e2 m5 ?_;simp [shpA]
theorem amD (a b:NF) (ha:okR kB a.q) (hb:okR kB b.q):aab Tryz.prog 167 [eF a,eF b] (eF (a.sub b)):=by
 have m1:=apY b hb;have m2:=aur a b.neg ha (ahV hb);refine aad nf ayu mix (by simp [Tryz.f167]) ?_;simp [Tryz.f167,shpA];refine e1 m1 ?_;simp [shpA];refine e2 m2 ?_;simp [shpA];exact Wk.refl _
def ordQ (x y:Rat):Int:=if x<y then -1 else if x=y then 0 else 1
theorem ordQ_eq (a b:Rat):ordI (a.num*b.den) (b.num*a.den)=ordQ a b:=by
 have h1:a<b↔a.num*b.den<b.num*a.den:=Rat.lt_iff _ _;have h2:a=b↔a.num*b.den=b.num*a.den:=by
  constructor
  · rintro rfl; rfl
  · intro h
    by_cases h3:a<b
    · rw [h1] at h3; omega
    · by_cases h4:b<a
      · have h5:=(Rat.lt_iff b a).1 h4; omega
      · exact Rat.le_antisymm (Rat.not_lt.1 h4) (Rat.not_lt.1 h3)
 simp only [ordI,ordQ,h1,h2]
theorem auq (a b:NF) (ha:okR kB a.q) (hb:okR kB b.q):aab Tryz.prog 80 [eF a,eF b] (.int .i64 (ordQ a.q b.q)):=by
 have da:a.den.v.natAbs<2 ^ kB:=by rw [aaU]; exact ha.2
 have db:b.den.v.natAbs<2 ^ kB:=by rw [aaU]; exact hb.2
 have m1:=anr (x:=a.num) (y:=b.den) ha.1 db (by omega);have m2:=anr (x:=b.num) (y:=a.den) hb.1 da (by omega);have b1:(a.num.mul b.den).v.natAbs<2 ^ (kB+kB):=ac2 ha.1 db;have b2:(b.num.mul a.den).v.natAbs<2 ^ (kB+kB):=ac2 hb.1 da;have m3:=c_Cmp _ _ (aaS b1 (by omega)) (aaS b2 (by omega));rw [NI.ahY,NI.ahY,agT,agT,afg,afg,ordQ_eq] at m3;refine aad nf isF80 mix (by simp [Tryz.f80]) ?_;simp [Tryz.f80,shpA];refine e2 m1 ?_;simp [shpA];refine e2 m2 ?_;simp [shpA];refine e2 m3 ?_;simp [shpA]
def low:Nat→Nat→List Nat
 | 0,_=>[]
 | i+1,n=>(48+n / 10 ^ i % 10)::low i n
def nd (n:Nat):Nat:=if h:n=0 then 0 else nd (n / 10)+1
 decreasing_by omega
theorem akk:∀ (i n:Nat),i<nd n↔10 ^ i≤n
 | 0,n=>by
  rw [nd]; split
  · subst n; simp
  · simp; omega
 | i+1,n=>by
  rw [nd]; split
  · rename_i h;subst h;have:=Nat.pow_pos (n:=i+1) (show 0<10 by omega);constructor
    · intro h; omega
    · intro h; omega
  · have:=akk i (n / 10);rw [Nat.le_div_iff_mul_le (by omega),← Nat.pow_succ] at this;rw [← this]; omega
theorem afd (b n:Nat):∀ a,low (a+b) n=low a (n / 10 ^ b) ++ low b n
 | 0=>by simp [low]
 | a+1=>by
  rw [show a+1+b=(a+b)+1 by omega,low,low,afd b n a,Nat.div_div_eq_div_mul,← Nat.pow_add,Nat.add_comm b a]; rfl
theorem anC (n k:Nat):∀ b,b≤k→low b (n % 10 ^ k)=low b n
 | 0,_=>rfl
 | b+1,h=>by
  have e:k=b+(k - b - 1+1):=by omega
  have h1:n % 10 ^ k / 10 ^ b=n / 10 ^ b % 10 ^ (k - b - 1+1):=by
   conv=>lhs; rw [e,Nat.pow_add]
   rw [Nat.mod_mul_right_div_self]
  rw [low,low,anC n k b (by omega),h1,Nat.mod_mod_of_dvd _ (Nat.pow_dvd_pow 10 (show 1≤k - b - 1+1 by omega) |> fun h=>by simpa using h)]
theorem nd_eq {n m:Nat} (h:∀ i,i<nd n↔i<m):nd n=m:=by
 have h1:=h m;have h2:=h (nd n);omega
theorem asZ {n k:Nat} (h:10 ^ k≤n):nd n=nd (n / 10 ^ k)+k:=by
 refine nd_eq fun i=>?_;rw [akk]
 by_cases hi:i<k
 · have:=Nat.pow_le_pow_right (show 0<10 by omega) (Nat.le_of_lt hi);constructor
   · intro _; omega
   · intro _; omega
 · obtain ⟨j,rfl⟩:∃ j,i=j+k:=⟨i - k,by omega⟩
   rw [Nat.pow_add,← Nat.le_div_iff_mul_le (Nat.pow_pos (by omega)),← akk]; omega
theorem anv {n k:Nat} (h:n<10 ^ k):nd n≤k:=by
 rcases Nat.lt_or_ge k (nd n) with h1 | h1
 · rw [akk] at h1; omega
 · exact h1
theorem ape {n:Nat} (h:0<n):0<nd n:=by rw [akk,Nat.pow_zero]; exact h
theorem avM {M:Nat} (h:10 ^ 9≤M):low (nd M) M=low (nd (M / 10 ^ 9)) (M / 10 ^ 9) ++ low 9 (M % 10 ^ 9):=by
 rw [asZ h,afd,anC _ _ _ (Nat.le_refl 9)]
theorem afc (n:Nat):∀ i,(low i n).length=i
 | 0=>rfl
 | i+1=>by simp [low,afc n i]
def txN (n:Nat):List Nat:=low (max 1 (nd n)) n
def txI (z:Int):List Nat:=if z<0 then 45::txN z.natAbs else txN z.natAbs
def txQ (q:Rat):List Nat:=if q.den=1 then txI q.num else txI q.num ++ 47::txN q.den
def valT (s:List Nat):Nat:=s.foldl (fun n c=>n*10+(c - 48)) 0
def isD (c:Nat):Bool:=decide (48≤c) && decide (c≤57)
theorem afj (s:List Nat) (c:Nat):valT (s ++ [c])=valT s*10+(c - 48):=by simp [valT]
theorem aeH (i n:Nat):low (i+1) n=low i (n / 10) ++ [48+n % 10]:=by
 have:=afd 1 n i;rw [this]; simp [low]
theorem low_D:∀ (i n:Nat),(low i n).all isD=true
 | 0,n=>rfl
 | i+1,n=>by
  rw [low,List.all_cons,low_D i n];have:=Nat.mod_lt (n / 10 ^ i) (show 0<10 by omega);simp [isD]; omega
theorem aoA:∀ (i n:Nat),valT (low i n)=n % 10 ^ i
 | 0,n=>by simp [low,valT,Nat.mod_one]
 | i+1,n=>by
  rw [aeH,afj,aoA i,Nat.pow_succ,Nat.mul_comm (10 ^ i),Nat.mod_mul]; omega
theorem akl (n:Nat):n<10 ^ nd n:=by
 rcases Nat.lt_or_ge n (10 ^ nd n) with h | h
 · exact h
 · have:=(akk (nd n) n).2 h; omega
theorem agW (n:Nat):valT (txN n)=n:=by
 rw [txN,aoA];refine Nat.mod_eq_of_lt (Nat.lt_of_lt_of_le (akl n) (Nat.pow_le_pow_right (by omega) (by omega)))
theorem aAb {a b:Nat} (h:txN a=txN b):a=b:=by rw [← agW a,h,agW]
theorem aeZ (n:Nat):(txN n).length=max 1 (nd n):=afc _ _
theorem amS (n:Nat):(txN n).all isD=true:=low_D _ _
theorem adA:txN 0=[48]:=by
 have:nd 0=0:=by rw [nd,dif_pos rfl]
 rw [txN,this]; rfl
theorem aAA {n:Nat} (h:0<n):(txN n).head?=some (48+n / 10 ^ (nd n - 1))∧0<n / 10 ^ (nd n - 1)∧n / 10 ^ (nd n - 1)<10:=by
 have h1:=ape h;obtain ⟨k,hk⟩:∃ k,nd n=k+1:=⟨nd n - 1,by omega⟩
 have e:max 1 (nd n)=k+1:=by omega
 have h2:=(akk k n).1 (by omega);have h3:=akl n;rw [hk] at h3;have h4:n / 10 ^ k<10:=by rw [Nat.div_lt_iff_lt_mul (Nat.pow_pos (by omega)),Nat.mul_comm,← Nat.pow_succ]; exact h3
 rw [txN,e,hk,Nat.add_sub_cancel];exact ⟨by rw [low,List.head?_cons,Nat.mod_eq_of_lt h4],Nat.div_pos h2 (Nat.pow_pos (by omega)),h4⟩
def abc (s:List Nat):Bool:=!s.isEmpty && s.all isD && (decide (s.head?≠some 48) || decide (s=[48]))
theorem aAl (n:Nat):abc (txN n)=true:=by
 rcases Nat.eq_zero_or_pos n with rfl | h
 · rw [adA]; rfl
 · obtain ⟨h1,h2,h3⟩:=aAA h;have hne:(txN n).isEmpty=false:=by
    have:=aeZ n;cases he:txN n with
    | nil=>rw [he] at this; simp at this; omega
    | cons a l=>rfl
   have h4:¬ (some (48+n / 10 ^ (nd n - 1))=some 48):=by intro e; injection e with e; omega
   simp only [abc,hne,amS,h1,Bool.not_false,Bool.true_and,ne_eq,h4,not_false_eq_true,decide_true,Bool.true_or]
theorem aaJ:∀ (k:Nat) (s:List Nat),s.length=k→s.all isD=true→valT s<10 ^ k
 | 0, s, h, _ => by have : s = [] := List.length_eq_zero_iff.1 h
                    subst this; simp [valT]
 | n+1,s,h,ha=>by
  have hne:s≠[]:=by intro e; subst e; simp at h
  obtain ⟨t,c,rfl⟩:∃ t c,s=t ++ [c]:=⟨s.dropLast,s.getLast hne,(List.dropLast_concat_getLast hne).symm⟩
  simp only [List.all_append,List.all_cons,List.all_nil,Bool.and_true,Bool.and_eq_true] at ha;have ih:=aaJ n t (by simpa using h) ha.1;have hc:=ha.2;simp only [isD,Bool.and_eq_true,decide_eq_true_eq] at hc;rw [afj,Nat.pow_succ]; omega
theorem apl:∀ (k:Nat) (s:List Nat),s.length=k→s.all isD=true→low k (valT s)=s
 | 0, s, h, _ => by have : s = [] := List.length_eq_zero_iff.1 h
                    subst this; rfl
 | n+1,s,h,ha=>by
  have hne:s≠[]:=by intro e; subst e; simp at h
  obtain ⟨t,c,rfl⟩:∃ t c,s=t ++ [c]:=⟨s.dropLast,s.getLast hne,(List.dropLast_concat_getLast hne).symm⟩
  simp only [List.all_append,List.all_cons,List.all_nil,Bool.and_true,Bool.and_eq_true] at ha;have ih:=apl n t (by simpa using h) ha.1;have hc:=ha.2;simp only [isD,Bool.and_eq_true,decide_eq_true_eq] at hc;rw [aeH,afj];have e1:(valT t*10+(c - 48)) / 10=valT t:=by omega
  have e2:(valT t*10+(c - 48)) % 10=c - 48:=by omega
  rw [e1,e2,ih];congr 2; omega
theorem ak0 (c:Nat) (s:List Nat) (h:49≤c):10 ^ s.length≤valT (c::s):=by
 have key:∀ (s:List Nat) (a:Nat),a*10 ^ s.length≤s.foldl (fun n c=>n*10+(c - 48)) a:=by
  intro s
  induction s with
  | nil=>intro a; simp
  | cons x r ih =>
   intro a;rw [List.foldl_cons,List.length_cons];refine Nat.le_trans ?_ (ih _);rw [Nat.pow_succ,Nat.mul_comm (10 ^ r.length),← Nat.mul_assoc];exact Nat.mul_le_mul_right _ (by omega)
 have:=key s (c - 48);rw [valT,List.foldl_cons,Nat.zero_mul,Nat.zero_add];refine Nat.le_trans ?_ this;have:1*10 ^ s.length≤(c - 48)*10 ^ s.length:=Nat.mul_le_mul_right _ (by omega);omega
theorem aix {s:List Nat} (h:abc s=true):txN (valT s)=s:=by
 simp only [abc,Bool.and_eq_true,Bool.or_eq_true,decide_eq_true_eq,Bool.not_eq_true'] at h;obtain ⟨⟨h1,h2⟩,h3⟩:=h;rcases h3 with h3 | rfl
 · cases s with
   | nil=>simp at h1
   | cons c r =>
    have hc:isD c=true:=by simpa using (List.all_cons.symm.trans h2 |> fun h=>by simpa using h:isD c=true∧r.all isD=true).1
    simp only [isD,Bool.and_eq_true,decide_eq_true_eq] at hc;have hc2:49≤c:=by
     have:c≠48:=fun e=>h3 (by rw [e]; rfl);omega
    have hb:=aaJ _ _ rfl h2;have hg:=ak0 c r hc2;have hn:nd (valT (c::r))=r.length+1:=by
     have a1:=(akk r.length _).2 hg;have a2:=anv hb;rw [List.length_cons] at a2;omega
    rw [txN,hn,show max 1 (r.length+1)=r.length+1 by omega];exact apl _ _ rfl h2
 · have:valT [48]=0:=rfl;rw [this,adA]
def cutN (c:Nat):List Nat→List Nat×List Nat×Bool
 | []=>([],[],false)
 | x::r=>if x=c then ([],r,true) else (x::(cutN c r).1,(cutN c r).2.1,(cutN c r).2.2)
theorem akG (c:Nat):∀ (a b:List Nat),c ∉ a→cutN c (a ++ c::b)=(a,b,true)
 | [],b,_=>by simp [cutN]
 | x::a,b,h=>by
  simp only [List.mem_cons,not_or] at h;rw [List.cons_append,cutN,if_neg (fun e=>h.1 e.symm),akG c a b h.2]
theorem aiC (c:Nat):∀ (a:List Nat),c ∉ a→cutN c a=(a,[],false)
 | [],_=>rfl
 | x::a,h=>by
  simp only [List.mem_cons,not_or] at h;rw [cutN,if_neg (fun e=>h.1 e.symm),aiC c a h.2]
theorem aet (c:Nat):∀ (s:List Nat),((cutN c s).2.2=true∧s=(cutN c s).1 ++ c::(cutN c s).2.1)∨((cutN c s).2.2=false∧(cutN c s).1=s∧(cutN c s).2.1=[])
 | []=>by simp [cutN]
 | x::s=>by
  rw [cutN]
  by_cases h:x=c
  · subst h; simp
  · rw [if_neg h];rcases aet c s with ⟨h1,h2⟩ | ⟨h1,h2,h3⟩
    · left; exact ⟨h1,by dsimp only; rw [List.cons_append,← h2]⟩
    · right; exact ⟨h1,by dsimp only; rw [h2],h3⟩
def negT (s:List Nat):Bool:=decide (s.head?=some 45)
def absT (s:List Nat):List Nat:=if negT s=true then s.tail else s
def numP (s:List Nat):List Nat:=(cutN 47 (absT s)).1
def denP (s:List Nat):List Nat:=(cutN 47 (absT s)).2.1
def frT (s:List Nat):Bool:=(cutN 47 (absT s)).2.2
def ai7 (s:List Nat):Bool:=abc (numP s) && !(negT s && decide (numP s=[48])) && (!frT s || (abc (denP s) && decide (denP s≠[48]) && decide (denP s≠[49])))
def chk (s:List Nat):Int :=
 if ai7 s=false then 1
 else if 600<(numP s).length∨600<(denP s).length then 4
 else if frT s=true∧Nat.gcd (valT (numP s)) (valT (denP s))≠1 then 1 else 0
def valQ (s:List Nat):Rat:=Rat.divInt (if negT s=true then -(valT (numP s):Int) else valT (numP s)) (if frT s=true then valT (denP s) else 1:Nat)
theorem D_ne {s:List Nat} (h:s.all isD=true) {c:Nat} (hc:isD c=false):c ∉ s:=by
 intro hm;rw [List.all_eq_true] at h;rw [h c hm] at hc; cases hc
theorem afJ {s:List Nat} (h:abc s=true):s.all isD=true:=by
 simp only [abc,Bool.and_eq_true] at h; exact h.1.2
theorem adl (n:Nat):txI (n:Int)=txN n:=by
 rw [txI,if_neg (by omega)]; rfl
theorem txI_neg {n:Nat} (h:0<n):txI (-(n:Int))=45::txN n:=by
 rw [txI,if_pos (by omega)]; congr 1; rw [Int.natAbs_neg]; rfl
theorem agX {s:List Nat} (h:abc s=true) (h0:s≠[48]):0<valT s:=by
 rcases Nat.eq_zero_or_pos (valT s) with e | e
 · have:=aix h;rw [e,adA] at this;exact (h0 this.symm).elim
 · exact e
theorem aeY {s:List Nat} (h:chk s=0):txQ (valQ s)=s∧(valQ s).num=(if negT s=true then -(valT (numP s):Int) else valT (numP s))∧(valQ s).den=(if frT s=true then valT (denP s) else 1:Nat):=by
 unfold chk at h
 split at h
 · cases h
 rename_i h1
 split at h
 · cases h
 split at h
 · cases h
 rename_i h3;have h1:ai7 s=true:=by simpa using h1
 simp only [ai7,Bool.and_eq_true,Bool.not_eq_true',Bool.and_eq_false_iff,decide_eq_false_iff_not,Bool.or_eq_true,decide_eq_true_eq] at h1;obtain ⟨⟨a1,a2⟩,a3⟩:=h1;have hs:s=(if negT s=true then [45] else []) ++ absT s:=by
  rw [absT]
  by_cases hn:negT s=true
  · rw [if_pos hn,if_pos hn];simp only [negT,decide_eq_true_eq] at hn;cases s with
    | nil=>simp at hn
    | cons c r=>simp at hn; subst hn; rfl
  · rw [if_neg hn,if_neg hn]; rfl
 have hd:(if frT s=true then valT (denP s) else 1:Nat)≠0:=by
  split
  · rename_i hf;rcases a3 with a3 | a3
    · rw [hf] at a3; cases a3
    · have:=agX a3.1.1 a3.1.2; omega
  · omega
 have hg:Nat.gcd (if negT s=true then -(valT (numP s):Int) else valT (numP s)).natAbs (if frT s=true then valT (denP s) else 1:Nat)=1:=by
  have e:(if negT s=true then -(valT (numP s):Int) else valT (numP s)).natAbs=valT (numP s):=by split <;> omega
  rw [e]
  by_cases hf:frT s=true
  · rw [if_pos hf];exact Decidable.not_not.1 fun e=>h3 ⟨hf,e⟩
  · rw [if_neg hf,Nat.gcd_one_right]
 obtain ⟨e1,e2⟩:=abf (n:=if negT s=true then -(valT (numP s):Int) else valT (numP s)) hd;rw [hg] at e1 e2;simp only [Nat.div_one] at e2;have e1:(valQ s).num=(if negT s=true then -(valT (numP s):Int) else valT (numP s)):=by rw [valQ,e1]; exact Int.ediv_one _
 have e2:(valQ s).den=(if frT s=true then valT (denP s) else 1:Nat):=e2;refine ⟨?_,e1,e2⟩;have hI:txI (valQ s).num=(if negT s=true then [45] else []) ++ numP s:=by
  rw [e1]
  by_cases hn:negT s=true
  · rw [if_pos hn,if_pos hn,txI_neg,aix a1]; · rfl
    refine agX a1 ?_;rcases a2 with a2 | a2
    · rw [hn] at a2; cases a2
    · exact a2
  · rw [if_neg hn,if_neg hn,adl,aix a1]; rfl
 rw [txQ,hI,e2]
 by_cases hf:frT s=true
 · have hb:abc (denP s)=true∧denP s≠[48]∧denP s≠[49]:=by
    rcases a3 with a3 | a3
    · rw [hf] at a3; cases a3
    · exact ⟨a3.1.1,a3.1.2,a3.2⟩
   have hne:valT (denP s)≠1:=by
    intro e;have:=aix hb.1;rw [e] at this;have h1:nd 1=1:=by rw [nd,dif_neg (by omega),nd,dif_pos (by omega)]
    have:txN 1=[49]:=by rw [txN,h1]; rfl
    exact hb.2.2 (by rw [← this]; assumption |> Eq.symm)
   rw [if_pos hf,if_neg hne,aix hb.1]
   conv=>rhs; rw [hs]
   rw [List.append_assoc];congr 1;rcases aet 47 (absT s) with ⟨g1,g2⟩ | ⟨g1,_⟩
   · exact g2.symm
   · rw [frT,g1] at hf; cases hf
 · rw [if_neg hf,if_pos rfl]
   conv=>rhs; rw [hs]
   congr 1;rcases aet 47 (absT s) with ⟨g1,g2⟩ | ⟨g1,g2,_⟩
   · exact (hf g1).elim
   · exact g2
theorem afl (z:Int) (r:List Nat):negT (txI z ++ r)=decide (z<0)∧absT (txI z ++ r)=txN z.natAbs ++ r:=by
 by_cases h:z<0
 · have:txI z=45::txN z.natAbs:=by rw [txI,if_pos h]
   rw [this];simp [negT,absT,h]
 · have e:txI z=txN z.natAbs:=by rw [txI,if_neg h]
   have hd:=amS z.natAbs;have hl:=aeZ z.natAbs;rw [e];have hn:negT (txN z.natAbs ++ r)=false:=by
    cases ht:txN z.natAbs with
    | nil=>rw [ht] at hl; simp at hl; omega
    | cons c t =>
     rw [ht] at hd;simp only [List.all_cons,Bool.and_eq_true] at hd;have hc:=hd.1;simp only [isD,Bool.and_eq_true,decide_eq_true_eq] at hc;have:¬ (some c=some 45):=by intro e; injection e with e; omega
     simp only [negT,List.cons_append,List.head?_cons,this,decide_false]
   exact ⟨by rw [hn]; simp [h],by rw [absT,hn]; simp⟩
theorem afk (q:Rat):negT (txQ q)=decide (q.num<0)∧numP (txQ q)=txN q.num.natAbs∧frT (txQ q)=decide (q.den≠1)∧denP (txQ q)=if q.den=1 then [] else txN q.den:=by
 have hne:47 ∉ txN q.num.natAbs:=D_ne (amS _) rfl
 by_cases h:q.den=1
 · have e:txQ q=txI q.num ++ []:=by rw [txQ,if_pos h,List.append_nil]
   obtain ⟨h1,h2⟩:=afl q.num [];rw [List.append_nil,List.append_nil] at h2;have h3:=aiC 47 _ hne;rw [← h2] at h3;rw [e];refine ⟨h1,?_,?_,?_⟩
   · rw [List.append_nil,numP,h3,h2]
   · rw [List.append_nil,frT,h3,h]; rfl
   · rw [List.append_nil,denP,h3,if_pos h]
 · have e:txQ q=txI q.num ++ 47::txN q.den:=by rw [txQ,if_neg h]
   obtain ⟨h1,h2⟩:=afl q.num (47::txN q.den);have h3:=akG 47 _ (txN q.den) hne;rw [← h2] at h3;rw [e];refine ⟨h1,?_,?_,?_⟩
   · rw [numP,h3]
   · rw [frT,h3]; simp [h]
   · rw [denP,h3,if_neg h]
theorem aoC (q:Rat):valQ (txQ q)=q:=by
 obtain ⟨h1,h2,h3,h4⟩:=afk q;have e1:(if negT (txQ q)=true then -(valT (numP (txQ q)):Int) else valT (numP (txQ q)))=q.num:=by
  rw [h1,h2,agW]
  by_cases h:q.num<0
  · simp [h]; omega
  · simp [h]; omega
 have e2:(if frT (txQ q)=true then valT (denP (txQ q)) else 1:Nat)=q.den:=by
  rw [h3,h4]
  by_cases h:q.den=1
  · simp [h]
  · simp [h,agW]
 rw [valQ,e1,e2,Rat.num_divInt_den]
theorem aAa {a b:Rat} (h:txQ a=txQ b):a=b:=by rw [← aoC a,h,aoC]
theorem aAk:txN 1=[49]:=by
 have h1:nd 1=1:=by rw [nd,dif_neg (by omega),nd,dif_pos (by omega)]
 rw [txN,h1]; rfl
theorem chk_txQ {q:Rat} (h1:(txN q.num.natAbs).length≤600) (h2:(txN q.den).length≤600):chk (txQ q)=0:=by
 obtain ⟨g1,g2,g3,g4⟩:=afk q;have hf:ai7 (txQ q)=true:=by
  simp only [ai7,g1,g2,g3,g4,aAl,Bool.true_and,Bool.and_eq_true,Bool.or_eq_true,Bool.not_eq_true',Bool.and_eq_false_iff,decide_eq_false_iff_not,decide_eq_true_eq];refine ⟨?_,?_⟩
  · by_cases h:q.num<0
    · right;intro e;have:=aAb (b:=0) (e.trans adA.symm);omega
    · exact .inl h
  · by_cases h:q.den=1
    · left; simp [h]
    · right;rw [if_neg h];have hz:=q.den_nz;refine ⟨⟨aAl _,fun e=>?_⟩,fun e=>?_⟩
      · exact hz (aAb (e.trans adA.symm))
      · exact h (aAb (e.trans aAk.symm))
 rw [chk,hf,if_neg (by simp),g2,g3,g4];rw [if_neg (by
  intro h;rcases h with h | h
  · omega
  · split at h
    · simp at h
    · omega)]
 rw [if_neg];rintro ⟨h3,h4⟩;have h5:¬ q.den=1:=by simpa using h3
 rw [if_neg h5,agW,agW] at h4;exact h4 q.reduced
theorem adk {n k:Nat} (h:n<10 ^ k) (hk:1≤k):(txN n).length≤k:=by
 rw [aeZ]; have:=anv h; omega
theorem aw2 {n k:Nat} (h:(txN n).length≤k):n<10 ^ k:=by
 rw [aeZ] at h;exact Nat.lt_of_lt_of_le (akl n) (Nat.pow_le_pow_right (by omega) (by omega))
theorem amT (z:Int):(txI z).length≤(txN z.natAbs).length+1:=by
 rw [txI]; split <;> simp
theorem aAj (q:Rat):(txQ q).length≤(txN q.num.natAbs).length+(txN q.den).length+2:=by
 have:=amT q.num;rw [txQ]; split <;> simp <;> omega
theorem aAz (q:Rat):∀ c∈txQ q,c<58:=by
 have hN:∀ n,∀ c∈txN n,c<58:=fun n c hc=>by
  have:=List.all_eq_true.1 (amS n) c hc;simp only [isD,Bool.and_eq_true,decide_eq_true_eq] at this; omega
 have hI:∀ z,∀ c∈txI z,c<58:=fun z c hc=>by
  rw [txI] at hc
  split at hc
  · rcases List.mem_cons.1 hc with rfl | hc
    · omega
    · exact hN _ c hc
  · exact hN _ c hc
 intro c hc;rw [txQ] at hc
 split at hc
 · exact hI _ c hc
 · rcases List.mem_append.1 hc with hc | hc
   · exact hI _ c hc
   · rcases List.mem_cons.1 hc with rfl | hc
     · omega
     · exact hN _ c hc
theorem anb (k:Nat):2 ^ (3*k)≤10 ^ k:=by
 rw [Nat.pow_mul]; exact Nat.pow_le_pow_left (by omega) k
theorem ajg {n k:Nat} (h:n<2 ^ (3*k)) (hk:1≤k):(txN n).length≤k:=adk (Nat.lt_of_lt_of_le h (anb k)) hk
theorem azg {n k K:Nat} (h:n<2 ^ K) (hK:K≤3*k) (hk:1≤k):(txN n).length≤k:=ajg (Nat.lt_of_lt_of_le h (Nat.pow_le_pow_right (by decide) hK)) hk
def mD:Nat:=600
theorem chk_lt {s:List Nat} (h:chk s=0):(valQ s).num.natAbs<10 ^ mD∧(valQ s).den<10 ^ mD:=by
 obtain ⟨h1,h2,h3⟩:=aeY h;unfold chk at h
 split at h
 · cases h
 rename_i hform
 split at h
 · cases h
 rename_i hl;have hform:ai7 s=true:=by simpa using hform
 simp only [ai7,Bool.and_eq_true,Bool.or_eq_true,decide_eq_true_eq] at hform;obtain ⟨⟨a1,_⟩,a3⟩:=hform;have b1:=aaJ _ _ rfl (afJ a1);have p1:10 ^ (numP s).length≤10 ^ mD:=Nat.pow_le_pow_right (by omega) (by rw [mD]; omega);refine ⟨?_,?_⟩
 · rw [h2];have e:(if negT s=true then -(valT (numP s):Int) else valT (numP s)).natAbs=valT (numP s):=by split <;> omega
   rw [e]; exact Nat.lt_of_lt_of_le b1 p1
 · rw [h3]
   by_cases hf:frT s=true
   · rw [if_pos hf];rcases a3 with a3 | a3
     · rw [hf] at a3; cases a3
     · have b2:=aaJ _ _ rfl (afJ a3.1.1);have p2:10 ^ (denP s).length≤10 ^ mD:=Nat.pow_le_pow_right (by omega) (by rw [mD]; omega);exact Nat.lt_of_lt_of_le b2 p2
   · rw [if_neg hf];exact Nat.one_lt_pow (by decide) (by omega)
open Go
def abC (l:List UInt8):List Nat:=l.map (·.toNat)
theorem ant (l:List UInt8):(abC l).map UInt8.ofNat=l:=by
 induction l with
 | nil=>rfl
 | cons a r ih=>simp only [abC,List.map_cons] at ih ⊢; rw [ih]; simp
def idxB (c:Nat):List Nat→Nat→Int
 | [],_=>-1
 | x::r,i=>bif Nat.beq x c then (i:Int) else idxB c r (i+1)
theorem apw (c:UInt8):∀ (l:List UInt8) (i:Nat),idxB c.toNat (abC l) i=if Lib.indexByte l c = -1 then -1 else Lib.indexByte l c+i
 | [],i=>by simp [idxB,abC,Lib.indexByte]
 | x::r,i=>by
  have ih:=apw c r (i+1);simp only [abC] at ih;simp only [abC,List.map_cons,idxB,Lib.indexByte]
  by_cases hx:x=c
  · subst hx; simp
  · have hn:Nat.beq x.toNat c.toNat=false:=by
     cases hb:Nat.beq x.toNat c.toNat
     · rfl
     · exact (hx (UInt8.toNat_inj.1 (Nat.eq_of_beq_eq_true hb))).elim
    have hge:=Lib.indexByte_ge r c;simp only [hn,cond_false,ih,beq_iff_eq,hx,if_false]
    by_cases h1:Lib.indexByte r c = -1
    · simp [h1]
    · rw [if_neg h1,if_neg h1];rw [if_neg (by omega)];omega
theorem apx (c : Nat) : ∀ (s : List Nat) (k : Nat), ((cutN c s).2.2 = false ∧ idxB c s k = -1 ∧ cutN c s = (s, [], false)) ∨
    ∃ i,i<s.length∧idxB c s k=((k+i:Nat):Int)∧cutN c s=(s.take i,s.drop (i+1),true)
 | [],k=>by simp [cutN,idxB]
 | x::r,k=>by
  rw [cutN,idxB]
  by_cases h:x=c
  · subst h;right;refine ⟨0,by simp,?_,?_⟩
    · simp
    · simp
  · have hb:Nat.beq x c=false:=by
     cases hb:Nat.beq x c
     · rfl
     · exact (h (Nat.eq_of_beq_eq_true hb)).elim
    rw [hb,if_neg h,cond_false];rcases apx c r (k+1) with ⟨h1,h2,h3⟩ | ⟨i,h1,h2,h3⟩
    · left; exact ⟨h1,h2,by rw [h3]⟩
    · right;refine ⟨i+1,by simp; omega,?_,?_⟩
      · rw [h2]; congr 1; omega
      · rw [h3]; simp
theorem atN (n:Nat):abC (Lib.decDigits n)=txN n:=by
 induction n using Nat.strongRecOn with
 | ind n ih =>
  rw [Lib.decDigits]
  by_cases h:n<10
  · rw [dif_pos h,txN];have h9:nd n≤1:=anv (by omega);rw [show max 1 (nd n)=1 by omega];rw [show (1:Nat)=0+1 from rfl,aeH,low,List.nil_append,Nat.mod_eq_of_lt h];simp [abC,UInt8.toNat_ofNat']; omega
  · rw [dif_neg h];have ih':=ih (n / 10) (by omega);have e:nd n=nd (n / 10)+1:=by
     have:=asZ (n:=n) (k:=1) (by omega);rw [Nat.pow_one] at this; exact this
    have hp:0<nd (n / 10):=ape (by omega);rw [txN,e,show max 1 (nd (n / 10)+1)=max 1 (nd (n / 10))+1 by omega,aeH];have:abC (Lib.decDigits (n / 10) ++ [UInt8.ofNat (48+n % 10)])=abC (Lib.decDigits (n / 10)) ++ [48+n % 10]:=by
     simp [abC,UInt8.toNat_ofNat']; omega
    rw [this,ih',txN]
theorem itoa_tx (z:Int):abC (Lib.itoa z)=txI z:=by
 rw [Lib.itoa,txI]
 by_cases h:z<0
 · rw [if_pos h,if_pos h];show 45::abC _=_;rw [atN]
 · rw [if_neg h,if_neg h,atN]; congr 1; omega
def repN (s:List Nat):Nat→List Nat
 | 0=>[]
 | n+1=>s ++ repN s n
theorem aoZ (s:List UInt8):∀ n,repN (abC s) n=abC (Lib.repeatL s n)
 | 0=>by simp [repN,Lib.repeatL,abC]
 | n+1=>by
  have ih:=aoZ s n;simp only [abC] at ih;simp [repN,Lib.repeatL,abC,ih]
theorem aj5 (c:Nat):∀ n,repN [c] n=List.replicate n c
 | 0=>rfl
 | n+1=>by rw [repN,aj5 c n]; rfl
theorem agl (l:List UInt8):Lib.hasPrefix l [45]=negT (abC l):=by
 cases l with
 | nil=>rfl
 | cons c r =>
  rw [Lib.hasPrefix,negT];simp only [abC,List.map_cons,List.isPrefixOf,List.head?_cons,Bool.and_true,Option.some.injEq]
  by_cases h:c=45
  · subst h; rfl
  · have h2:¬ c.toNat=45:=fun e=>h (UInt8.toNat_inj.1 e);have h3:((45:UInt8) == c)=false:=by simpa using fun e=>h e.symm
    rw [h3]; simp [h2]
theorem ahp (l:List UInt8):abC (Lib.trimPrefix l [45])=absT (abC l):=by
 rw [Lib.trimPrefix,agl,absT];cases h:negT (abC l)
 · simp
 · cases l with
   | nil=>simp [abC,negT] at h
   | cons c r=>simp [abC]
def agS (s:List Nat):List Nat:=s.dropWhile isD
def aed (s:List Nat):List Nat:=(s.reverse.dropWhile isD).reverse
theorem abF {p:Nat→Bool}:∀ {s:List Nat},s.dropWhile p=[]↔s.all p=true
 | []=>by simp
 | x::r=>by
  rw [List.dropWhile_cons];cases h:p x
  · simp [h]
  · simp [h,abF]
theorem aql (s:List Nat):agS (aed s)=[]↔s.all isD=true:=by
 rw [agS,abF,aed];constructor
 · intro h
   by_cases h2:s.reverse.dropWhile isD=[]
   · rw [abF,List.all_reverse] at h2; exact h2
   · have h3:=List.head_dropWhile_not isD h2;rw [List.all_reverse,List.all_eq_true] at h;rw [h _ (List.head_mem h2)] at h3;cases h3
 · intro h;have:s.reverse.dropWhile isD=[]:=by rw [abF,List.all_reverse]; exact h
   rw [this]; rfl
end Go.Abs
namespace Go.Proofs
open Go.Shelf
def Tryz.anM:Go.Shelf.Ren:=⟨fun | 103=>315 | 210=>348 | 206=>345 | n=>n,fun | 9=>9 | 4=>4 | 24=>372 | 3=>3 | n=>n,fun | n=>n⟩
theorem Tryz.lays103:Go.Proofs.Lays.n103 Tryz.prog Tryz.anM:={
 mixed:=by kernel_rfl
 f103:=Tryz.func315.trans (congrArg some (by kernel_rfl))
 f206:=Tryz.func345.trans (congrArg some (by kernel_rfl))
 f210:=Tryz.func348.trans (congrArg some (by kernel_rfl))
 t3:=Tryz.underlying3
 a3:=Tryz.isAgg3
 z3:=Tryz.sizeOf3
 v3:=Tryz.zeroValue3
 t4:=Tryz.underlying4
 a4:=Tryz.isAgg4
 z4:=Tryz.sizeOf4
 v4:=Tryz.zeroValue4
 t9:=Tryz.underlying9
 a9:=Tryz.isAgg9
 z9:=Tryz.sizeOf9
 v9:=Tryz.zeroValue9
 t24:=Tryz.underlying372
 a24:=Tryz.isAgg372
 z24:=Tryz.sizeOf372
 v24:=Tryz.zeroValue372 }
open Go.RowKit in
theorem Tryz.strings_CutPrefix (s p : ByteArray) (w : World) :
    Calls Tryz.prog 315 #[.string s,.string p] w fun e w'=>e=.returned (.tuple #[.string ⟨(Lib.trimPrefix s.data.toList p.data.toList).toArray⟩,.bool (Lib.hasPrefix s.data.toList p.data.toList)])∧w'=w:=Any.strings_CutPrefix Tryz.lays103 s p w
def Tryz.anH:Go.Shelf.Ren:=⟨fun | 283=>353 | n=>n,fun | 3=>3 | 9=>9 | 4=>4 | n=>n,fun | n=>n⟩
theorem Tryz.lays283:Go.Proofs.Lays.n283 Tryz.prog Tryz.anH:={
 mixed:=by kernel_rfl
 f283:=Tryz.func353.trans (congrArg some (by kernel_rfl))
 t3:=Tryz.underlying3
 a3:=Tryz.isAgg3
 z3:=Tryz.sizeOf3
 v3:=Tryz.zeroValue3
 t4:=Tryz.underlying4
 a4:=Tryz.isAgg4
 z4:=Tryz.sizeOf4
 v4:=Tryz.zeroValue4
 t9:=Tryz.underlying9
 a9:=Tryz.isAgg9
 z9:=Tryz.sizeOf9
 v9:=Tryz.zeroValue9 }
open Go.Lib in
theorem Tryz.internal_strconv_small (i : Nat) (h : i < 100) (w : World) :
    Calls Tryz.prog 353 #[.int .i64 i] w fun e w'=>e=.returned (.string ⟨(Lib.decDigits i).toArray⟩)∧w'=w:=Any.internal_strconv_small Tryz.lays283 i h w
def Tryz.alZ:Go.Shelf.Ren:=⟨fun | 284=>354 | 129=>323 | 317=>376 | 318=>377 | n=>n,fun | 53=>309 | 3=>3 | 212=>417 | 0=>0 | 4=>4 | 46=>369 | 5=>5 | 9=>9 | n=>n,fun | 17=>3 | n=>n⟩
theorem Tryz.avR:Go.Proofs.LaysM.n284 Tryz.prog Tryz.alZ:={
 mixed:=by kernel_rfl
 f129:=Tryz.func323.trans (congrArg some (by kernel_rfl))
 f284:=Tryz.func354.trans (congrArg some (by kernel_rfl))
 f317:=Tryz.func376.trans (congrArg some (by kernel_rfl))
 f318:=Tryz.func377.trans (congrArg some (by kernel_rfl))
 t0:=Tryz.underlying0
 a0:=Tryz.isAgg0
 z0:=Tryz.sizeOf0
 v0:=Tryz.zeroValue0
 t3:=Tryz.underlying3
 a3:=Tryz.isAgg3
 z3:=Tryz.sizeOf3
 v3:=Tryz.zeroValue3
 t4:=Tryz.underlying4
 a4:=Tryz.isAgg4
 z4:=Tryz.sizeOf4
 v4:=Tryz.zeroValue4
 t5:=Tryz.underlying5
 a5:=Tryz.isAgg5
 z5:=Tryz.sizeOf5
 v5:=Tryz.zeroValue5
 t9:=Tryz.underlying9
 a9:=Tryz.isAgg9
 z9:=Tryz.sizeOf9
 v9:=Tryz.zeroValue9
 t46:=Tryz.underlying369
 a46:=Tryz.isAgg369
 z46:=Tryz.sizeOf369
 v46:=Tryz.zeroValue369
 t53:=Tryz.underlying309
 a53:=Tryz.isAgg309
 z53:=Tryz.sizeOf309
 v53:=Tryz.zeroValue309
 t212:=Tryz.underlying417
 a212:=Tryz.isAgg417
 z212:=Tryz.sizeOf417
 v212:=Tryz.zeroValue417
 g17:=by kernel_rfl
 i0:=by kernel_rfl
 i3:=by kernel_rfl
 i4:=by kernel_rfl
 i5:=by kernel_rfl
 i9:=by kernel_rfl
 i46:=by kernel_rfl
 i53:=by kernel_rfl
 i212:=by kernel_rfl
 m17:=by kernel_rfl }
open Go.Lib in
theorem Tryz.internal_strconv_numDigits (u : Nat) (h1 : 1 ≤ u) (h2 : u < 18446744073709551616) (w : World) (htab : Lib.TabIs Tryz.prog w "internal/strconv.uint64pow10" .u64 Lib.pow10Tab) :
    Calls Tryz.prog 354 #[.int .u64 u] w fun e w'=>e=.returned (.int .i64 (Lib.nDigits u))∧w'=w:=Any.internal_strconv_numDigits Tryz.avR u h1 h2 w htab
def Tryz.anG:Go.Shelf.Ren:=⟨fun | 285=>355 | n=>n,fun | 37=>358 | 53=>309 | 3=>3 | 4=>4 | 51=>397 | 9=>9 | 5=>5 | 0=>0 | n=>n,fun | n=>n⟩
theorem Tryz.lays285:Go.Proofs.Lays.n285 Tryz.prog Tryz.anG:={
 mixed:=by kernel_rfl
 f285:=Tryz.func355.trans (congrArg some (by kernel_rfl))
 t0:=Tryz.underlying0
 a0:=Tryz.isAgg0
 z0:=Tryz.sizeOf0
 v0:=Tryz.zeroValue0
 t3:=Tryz.underlying3
 a3:=Tryz.isAgg3
 z3:=Tryz.sizeOf3
 v3:=Tryz.zeroValue3
 t4:=Tryz.underlying4
 a4:=Tryz.isAgg4
 z4:=Tryz.sizeOf4
 v4:=Tryz.zeroValue4
 t5:=Tryz.underlying5
 a5:=Tryz.isAgg5
 z5:=Tryz.sizeOf5
 v5:=Tryz.zeroValue5
 t9:=Tryz.underlying9
 a9:=Tryz.isAgg9
 z9:=Tryz.sizeOf9
 v9:=Tryz.zeroValue9
 t37:=Tryz.underlying358
 a37:=Tryz.isAgg358
 z37:=Tryz.sizeOf358
 v37:=Tryz.zeroValue358
 t51:=Tryz.underlying397
 a51:=Tryz.isAgg397
 z51:=Tryz.sizeOf397
 v51:=Tryz.zeroValue397
 t53:=Tryz.underlying309
 a53:=Tryz.isAgg309
 z53:=Tryz.sizeOf309
 v53:=Tryz.zeroValue309 }
open Go.RowKit Go.Sort Go.Lib in
theorem Tryz.internal_strconv_formatBase10 (blk off cap : Nat) (u : Nat) (d : Array UInt8) (w : World) (hH : Holds (fun (b : UInt8) => Value.int .u8 (b.toNat : Int)) w blk off d) (hu : u < 10 ^ d.size) (hu64 : u < 18446744073709551616) (hsz : d.size < 4611686018427387904) :
    Calls Tryz.prog 355 #[.slice (some ⟨blk,off,none⟩) d.size cap,.int .u64 u] w fun e w' =>
     e=.returned (.tuple #[])∧∃ (n v':Nat) (dk:Array UInt8),w'=(putRow (fun (b:UInt8)=>Value.int .u8 (b.toNat:Int)) w blk off dk).drewN n∧FmtInv d.size u 0 v' dk:=Any.internal_strconv_formatBase10 Tryz.lays285 blk off cap u d w hH hu hu64 hsz
def Tryz.al0:Go.Shelf.Ren:=⟨fun | 171=>301 | 243=>333 | 246=>352 | 283=>353 | 284=>354 | 285=>355 | 286=>356 | 129=>323 | 317=>376 | 318=>377 | 319=>378 | 320=>379 | 337=>390 | 338=>391 | n=>n,fun | 3=>3 | 9=>9 | 2=>2 | 4=>4 | 171=>393 | 0=>0 | 53=>309 | 37=>358 | 5=>5 | 173=>395 | 212=>417 | 51=>397 | 20=>20 | 213=>418 | 46=>369 | 232=>438 | 233=>439 | n=>n,fun | 17=>3 | 18=>6 | 19=>7 | n=>n⟩
theorem Tryz.avS:Go.Proofs.LaysM.n171 Tryz.prog Tryz.al0:={
 mixed:=by kernel_rfl
 f129:=Tryz.func323.trans (congrArg some (by kernel_rfl))
 f171:=Tryz.func301.trans (congrArg some (by kernel_rfl))
 f243:=Tryz.func333.trans (congrArg some (by kernel_rfl))
 f246:=Tryz.func352.trans (congrArg some (by kernel_rfl))
 f283:=Tryz.func353.trans (congrArg some (by kernel_rfl))
 f284:=Tryz.func354.trans (congrArg some (by kernel_rfl))
 f285:=Tryz.func355.trans (congrArg some (by kernel_rfl))
 f286:=Tryz.func356.trans (congrArg some (by kernel_rfl))
 f317:=Tryz.func376.trans (congrArg some (by kernel_rfl))
 f318:=Tryz.func377.trans (congrArg some (by kernel_rfl))
 f319:=Tryz.func378.trans (congrArg some (by kernel_rfl))
 f320:=Tryz.func379.trans (congrArg some (by kernel_rfl))
 f337:=Tryz.func390.trans (congrArg some (by kernel_rfl))
 f338:=Tryz.func391.trans (congrArg some (by kernel_rfl))
 t0:=Tryz.underlying0
 a0:=Tryz.isAgg0
 z0:=Tryz.sizeOf0
 v0:=Tryz.zeroValue0
 t2:=Tryz.underlying2
 a2:=Tryz.isAgg2
 z2:=Tryz.sizeOf2
 v2:=Tryz.zeroValue2
 t3:=Tryz.underlying3
 a3:=Tryz.isAgg3
 z3:=Tryz.sizeOf3
 v3:=Tryz.zeroValue3
 t4:=Tryz.underlying4
 a4:=Tryz.isAgg4
 z4:=Tryz.sizeOf4
 v4:=Tryz.zeroValue4
 t5:=Tryz.underlying5
 a5:=Tryz.isAgg5
 z5:=Tryz.sizeOf5
 v5:=Tryz.zeroValue5
 t9:=Tryz.underlying9
 a9:=Tryz.isAgg9
 z9:=Tryz.sizeOf9
 v9:=Tryz.zeroValue9
 t20:=Tryz.underlying20
 a20:=Tryz.isAgg20
 z20:=Tryz.sizeOf20
 v20:=Tryz.zeroValue20
 t37:=Tryz.underlying358
 a37:=Tryz.isAgg358
 z37:=Tryz.sizeOf358
 v37:=Tryz.zeroValue358
 t46:=Tryz.underlying369
 a46:=Tryz.isAgg369
 z46:=Tryz.sizeOf369
 v46:=Tryz.zeroValue369
 t51:=Tryz.underlying397
 a51:=Tryz.isAgg397
 z51:=Tryz.sizeOf397
 v51:=Tryz.zeroValue397
 t53:=Tryz.underlying309
 a53:=Tryz.isAgg309
 z53:=Tryz.sizeOf309
 v53:=Tryz.zeroValue309
 t171:=Tryz.underlying393
 a171:=Tryz.isAgg393
 z171:=Tryz.sizeOf393
 v171:=Tryz.zeroValue393
 t173:=Tryz.underlying395
 a173:=Tryz.isAgg395
 z173:=Tryz.sizeOf395
 v173:=Tryz.zeroValue395
 t212:=Tryz.underlying417
 a212:=Tryz.isAgg417
 z212:=Tryz.sizeOf417
 v212:=Tryz.zeroValue417
 t213:=Tryz.underlying418
 a213:=Tryz.isAgg418
 z213:=Tryz.sizeOf418
 t232:=Tryz.underlying438
 a232:=Tryz.isAgg438
 z232:=Tryz.sizeOf438
 v232:=Tryz.zeroValue438
 t233:=Tryz.underlying439
 a233:=Tryz.isAgg439
 z233:=Tryz.sizeOf439
 v233:=Tryz.zeroValue439
 g17:=by kernel_rfl
 g18:=by kernel_rfl
 g19:=by kernel_rfl
 i0:=by kernel_rfl
 i2:=by kernel_rfl
 i3:=by kernel_rfl
 i4:=by kernel_rfl
 i5:=by kernel_rfl
 i9:=by kernel_rfl
 i20:=by kernel_rfl
 i37:=by kernel_rfl
 i46:=by kernel_rfl
 i51:=by kernel_rfl
 i53:=by kernel_rfl
 i171:=by kernel_rfl
 i173:=by kernel_rfl
 i212:=by kernel_rfl
 i232:=by kernel_rfl
 i233:=by kernel_rfl
 m17:=by kernel_rfl
 m18:=by kernel_rfl
 m19:=by kernel_rfl }
open Go.RowKit Go.Sort Go.Lib in
theorem Tryz.strconv_Itoa (n : Int) (h0 : -9223372036854775808 ≤ n) (h1 : n ≤ 9223372036854775807) (w : World) (htab : Lib.TabIs Tryz.prog w "internal/strconv.uint64pow10" .u64 Lib.pow10Tab) :
    Calls Tryz.prog 301 #[.int .i64 n] w fun e w'=>e=.returned (.string ⟨(Lib.itoa n).toArray⟩)∧∃ k os,w'=grow (w.drewN k) os:=Any.strconv_Itoa Tryz.avS n h0 h1 w htab
def Tryz.al1:Go.Shelf.Ren:=⟨fun | 172=>310 | 244=>346 | 245=>347 | 247=>364 | 279=>365 | 280=>366 | 281=>367 | 282=>368 | 287=>383 | 316=>384 | 171=>301 | 205=>385 | 321=>392 | 322=>393 | 243=>333 | 246=>352 | 283=>353 | 284=>354 | 285=>355 | 286=>356 | 129=>323 | 317=>376 | 318=>377 | 319=>378 | 320=>379 | 337=>390 | 338=>391 | n=>n,fun | 9=>9 | 3=>3 | 75=>362 | 76=>363 | 4=>4 | 5=>5 | 167=>403 | 37=>358 | 0=>0 | 85=>404 | 2=>2 | 168=>406 | 53=>309 | 175=>422 | 46=>369 | 210=>426 | 127=>387 | 145=>436 | 143=>434 | 21=>21 | 171=>393 | 173=>395 | 212=>417 | 51=>397 | 20=>20 | 213=>418 | 232=>438 | 233=>439 | 80=>303 | n=>n,fun | 15=>4 | 16=>5 | 17=>3 | 18=>6 | 19=>7 | n=>n⟩
theorem Tryz.avT:Go.Proofs.LaysC.n172 Tryz.prog Tryz.al1:={
 mixed:=by kernel_rfl
 f129:=Tryz.func323.trans (congrArg some (by kernel_rfl))
 f171:=Tryz.func301.trans (congrArg some (by kernel_rfl))
 f172:=Tryz.func310.trans (congrArg some (by kernel_rfl))
 f205:=Tryz.func385.trans (congrArg some (by kernel_rfl))
 f243:=Tryz.func333.trans (congrArg some (by kernel_rfl))
 f244:=Tryz.func346.trans (congrArg some (by kernel_rfl))
 f245:=Tryz.func347.trans (congrArg some (by kernel_rfl))
 f246:=Tryz.func352.trans (congrArg some (by kernel_rfl))
 f247:=Tryz.func364.trans (congrArg some (by kernel_rfl))
 f279:=Tryz.func365.trans (congrArg some (by kernel_rfl))
 f280:=Tryz.func366.trans (congrArg some (by kernel_rfl))
 f281:=Tryz.func367.trans (congrArg some (by kernel_rfl))
 f282:=Tryz.func368.trans (congrArg some (by kernel_rfl))
 f283:=Tryz.func353.trans (congrArg some (by kernel_rfl))
 f284:=Tryz.func354.trans (congrArg some (by kernel_rfl))
 f285:=Tryz.func355.trans (congrArg some (by kernel_rfl))
 f286:=Tryz.func356.trans (congrArg some (by kernel_rfl))
 f287:=Tryz.func383.trans (congrArg some (by kernel_rfl))
 f316:=Tryz.func384.trans (congrArg some (by kernel_rfl))
 f317:=Tryz.func376.trans (congrArg some (by kernel_rfl))
 f318:=Tryz.func377.trans (congrArg some (by kernel_rfl))
 f319:=Tryz.func378.trans (congrArg some (by kernel_rfl))
 f320:=Tryz.func379.trans (congrArg some (by kernel_rfl))
 f321:=Tryz.func392.trans (congrArg some (by kernel_rfl))
 f322:=Tryz.func393.trans (congrArg some (by kernel_rfl))
 f337:=Tryz.func390.trans (congrArg some (by kernel_rfl))
 f338:=Tryz.func391.trans (congrArg some (by kernel_rfl))
 t0:=Tryz.underlying0
 a0:=Tryz.isAgg0
 z0:=Tryz.sizeOf0
 v0:=Tryz.zeroValue0
 t2:=Tryz.underlying2
 a2:=Tryz.isAgg2
 z2:=Tryz.sizeOf2
 v2:=Tryz.zeroValue2
 t3:=Tryz.underlying3
 a3:=Tryz.isAgg3
 z3:=Tryz.sizeOf3
 v3:=Tryz.zeroValue3
 t4:=Tryz.underlying4
 a4:=Tryz.isAgg4
 z4:=Tryz.sizeOf4
 v4:=Tryz.zeroValue4
 t5:=Tryz.underlying5
 a5:=Tryz.isAgg5
 z5:=Tryz.sizeOf5
 v5:=Tryz.zeroValue5
 t9:=Tryz.underlying9
 a9:=Tryz.isAgg9
 z9:=Tryz.sizeOf9
 v9:=Tryz.zeroValue9
 t20:=Tryz.underlying20
 a20:=Tryz.isAgg20
 z20:=Tryz.sizeOf20
 v20:=Tryz.zeroValue20
 t21:=Tryz.underlying21
 a21:=Tryz.isAgg21
 z21:=Tryz.sizeOf21
 v21:=Tryz.zeroValue21
 t37:=Tryz.underlying358
 a37:=Tryz.isAgg358
 z37:=Tryz.sizeOf358
 v37:=Tryz.zeroValue358
 t46:=Tryz.underlying369
 a46:=Tryz.isAgg369
 z46:=Tryz.sizeOf369
 v46:=Tryz.zeroValue369
 t51:=Tryz.underlying397
 a51:=Tryz.isAgg397
 z51:=Tryz.sizeOf397
 v51:=Tryz.zeroValue397
 t53:=Tryz.underlying309
 a53:=Tryz.isAgg309
 z53:=Tryz.sizeOf309
 v53:=Tryz.zeroValue309
 t75:=Tryz.underlying362
 a75:=Tryz.isAgg362
 z75:=Tryz.sizeOf362
 v75:=Tryz.zeroValue362
 t76:=Tryz.underlying363
 a76:=Tryz.isAgg363
 z76:=Tryz.sizeOf363
 v76:=Tryz.zeroValue363
 t85:=Tryz.underlying404
 a85:=Tryz.isAgg404
 z85:=Tryz.sizeOf404
 v85:=Tryz.zeroValue404
 t127:=Tryz.underlying387
 a127:=Tryz.isAgg387
 z127:=Tryz.sizeOf387
 v127:=Tryz.zeroValue387
 t143:=Tryz.underlying434
 a143:=Tryz.isAgg434
 z143:=Tryz.sizeOf434
 v143:=Tryz.zeroValue434
 t145:=Tryz.underlying436
 a145:=Tryz.isAgg436
 z145:=Tryz.sizeOf436
 v145:=Tryz.zeroValue436
 t167:=Tryz.underlying403
 a167:=Tryz.isAgg403
 z167:=Tryz.sizeOf403
 v167:=Tryz.zeroValue403
 t168:=Tryz.underlying406
 a168:=Tryz.isAgg406
 z168:=Tryz.sizeOf406
 v168:=Tryz.zeroValue406
 t171:=Tryz.underlying393
 a171:=Tryz.isAgg393
 z171:=Tryz.sizeOf393
 v171:=Tryz.zeroValue393
 t173:=Tryz.underlying395
 a173:=Tryz.isAgg395
 z173:=Tryz.sizeOf395
 v173:=Tryz.zeroValue395
 t175:=Tryz.underlying422
 a175:=Tryz.isAgg422
 z175:=Tryz.sizeOf422
 v175:=Tryz.zeroValue422
 t210:=Tryz.underlying426
 a210:=Tryz.isAgg426
 z210:=Tryz.sizeOf426
 v210:=Tryz.zeroValue426
 t212:=Tryz.underlying417
 a212:=Tryz.isAgg417
 z212:=Tryz.sizeOf417
 v212:=Tryz.zeroValue417
 t213:=Tryz.underlying418
 a213:=Tryz.isAgg418
 z213:=Tryz.sizeOf418
 t232:=Tryz.underlying438
 a232:=Tryz.isAgg438
 z232:=Tryz.sizeOf438
 v232:=Tryz.zeroValue438
 t233:=Tryz.underlying439
 a233:=Tryz.isAgg439
 z233:=Tryz.sizeOf439
 v233:=Tryz.zeroValue439
 g15:=by kernel_rfl
 g16:=by kernel_rfl
 g17:=by kernel_rfl
 g18:=by kernel_rfl
 g19:=by kernel_rfl
 t80:=Tryz.underlying303
 a80:=Tryz.isAgg303
 z80:=Tryz.sizeOf303
 v80:=Tryz.zeroValue303
 i0:=by kernel_rfl
 i2:=by kernel_rfl
 i3:=by kernel_rfl
 i4:=by kernel_rfl
 i5:=by kernel_rfl
 i9:=by kernel_rfl
 i20:=by kernel_rfl
 i21:=by kernel_rfl
 i37:=by kernel_rfl
 i46:=by kernel_rfl
 i51:=by kernel_rfl
 i53:=by kernel_rfl
 i75:=by kernel_rfl
 i76:=by kernel_rfl
 i80:=by kernel_rfl
 i85:=by kernel_rfl
 i127:=by kernel_rfl
 i143:=by kernel_rfl
 i145:=by kernel_rfl
 i167:=by kernel_rfl
 i168:=by kernel_rfl
 i171:=by kernel_rfl
 i173:=by kernel_rfl
 i175:=by kernel_rfl
 i210:=by kernel_rfl
 i212:=by kernel_rfl
 i232:=by kernel_rfl
 i233:=by kernel_rfl
 m15:=by kernel_rfl
 m16:=by kernel_rfl
 m17:=by kernel_rfl
 m18:=by kernel_rfl
 m19:=by kernel_rfl
 c0:=by kernel_rfl
 c2:=by kernel_rfl
 c3:=by kernel_rfl
 c4:=by kernel_rfl
 c5:=by kernel_rfl
 c9:=by kernel_rfl
 c20:=by kernel_rfl
 c21:=by kernel_rfl
 c37:=by kernel_rfl
 c46:=by kernel_rfl
 c51:=by kernel_rfl
 c53:=by kernel_rfl
 c75:=by kernel_rfl
 c76:=by kernel_rfl
 c80:=by kernel_rfl
 c85:=by kernel_rfl
 c127:=by kernel_rfl
 c143:=by kernel_rfl
 c145:=by kernel_rfl
 c167:=by kernel_rfl
 c168:=by kernel_rfl
 c171:=by kernel_rfl
 c173:=by kernel_rfl
 c175:=by kernel_rfl
 c210:=by kernel_rfl
 c212:=by kernel_rfl
 c213:=by kernel_rfl
 c232:=by kernel_rfl
 c233:=by kernel_rfl }
open Go.RowKit in
theorem Tryz.strconv_Atoi_ok (s : ByteArray) (hmax : s.size ≤ 9223372036854775806) (v : Int) (h : Lib.atoiAll s.data.toList = .ok v) (w : World) :
    Calls Tryz.prog 310 #[.string s] w fun e w'=>e=.returned (.tuple #[.int .i64 v,.nilIface])∧(w'=w∨∃ t,w'=Lib.bytesWorld w 5 t):=Any.strconv_Atoi_ok Tryz.avT s hmax v h w
def Tryz.anJ:Go.Shelf.Ren:=⟨fun | 219=>344 | 217=>360 | 225=>361 | 224=>362 | 267=>363 | 266=>381 | 314=>382 | n=>n,fun | 9=>9 | 3=>3 | 4=>4 | 5=>5 | 46=>369 | 146=>398 | 51=>397 | n=>n,fun | 1=>2 | n=>n⟩
theorem Tryz.lays219:Go.Proofs.Lays.n219 Tryz.prog Tryz.anJ:={
 mixed:=by kernel_rfl
 f217:=Tryz.func360.trans (congrArg some (by kernel_rfl))
 f219:=Tryz.func344.trans (congrArg some (by kernel_rfl))
 f224:=Tryz.func362.trans (congrArg some (by kernel_rfl))
 f225:=Tryz.func361.trans (congrArg some (by kernel_rfl))
 f266:=Tryz.func381.trans (congrArg some (by kernel_rfl))
 f267:=Tryz.func363.trans (congrArg some (by kernel_rfl))
 f314:=Tryz.func382.trans (congrArg some (by kernel_rfl))
 t3:=Tryz.underlying3
 a3:=Tryz.isAgg3
 z3:=Tryz.sizeOf3
 v3:=Tryz.zeroValue3
 t4:=Tryz.underlying4
 a4:=Tryz.isAgg4
 z4:=Tryz.sizeOf4
 v4:=Tryz.zeroValue4
 t5:=Tryz.underlying5
 a5:=Tryz.isAgg5
 z5:=Tryz.sizeOf5
 v5:=Tryz.zeroValue5
 t9:=Tryz.underlying9
 a9:=Tryz.isAgg9
 z9:=Tryz.sizeOf9
 v9:=Tryz.zeroValue9
 t46:=Tryz.underlying369
 a46:=Tryz.isAgg369
 z46:=Tryz.sizeOf369
 v46:=Tryz.zeroValue369
 t51:=Tryz.underlying397
 a51:=Tryz.isAgg397
 z51:=Tryz.sizeOf397
 v51:=Tryz.zeroValue397
 t146:=Tryz.underlying398
 a146:=Tryz.isAgg398
 z146:=Tryz.sizeOf398
 v146:=Tryz.zeroValue398
 g1:=by kernel_rfl }
open Go.RowKit Go.Lib in
theorem Tryz.stringslite_Index_one (s : ByteArray) (c : UInt8) (w : World) :
    Calls Tryz.prog 344 #[.string s,.string ⟨#[c]⟩] w fun e w'=>e=.returned (.int .i64 (Lib.indexByte s.data.toList c))∧w'=w:=Any.stringslite_Index_one Tryz.lays219 s c w
def Tryz.aqQ:Go.Shelf.Ren:=⟨fun | 99=>309 | 206=>345 | n=>n,fun | 9=>9 | 4=>4 | 3=>3 | n=>n,fun | n=>n⟩
theorem Tryz.lays99:Go.Proofs.Lays.n99 Tryz.prog Tryz.aqQ:={
 mixed:=by kernel_rfl
 f99:=Tryz.func309.trans (congrArg some (by kernel_rfl))
 f206:=Tryz.func345.trans (congrArg some (by kernel_rfl))
 t3:=Tryz.underlying3
 a3:=Tryz.isAgg3
 z3:=Tryz.sizeOf3
 v3:=Tryz.zeroValue3
 t4:=Tryz.underlying4
 a4:=Tryz.isAgg4
 z4:=Tryz.sizeOf4
 v4:=Tryz.zeroValue4
 t9:=Tryz.underlying9
 a9:=Tryz.isAgg9
 z9:=Tryz.sizeOf9
 v9:=Tryz.zeroValue9 }
open Go.RowKit Go.Lib in
theorem Tryz.strings_HasPrefix (s p : ByteArray) (w : World) :
    Calls Tryz.prog 309 #[.string s,.string p] w fun e w'=>e=.returned (.bool (Lib.hasPrefix s.data.toList p.data.toList))∧w'=w:=Any.strings_HasPrefix Tryz.lays99 s p w
def Tryz.anN:Go.Shelf.Ren:=⟨fun | 101=>274 | 208=>324 | 206=>345 | n=>n,fun | 9=>9 | 4=>4 | 3=>3 | n=>n,fun | n=>n⟩
theorem Tryz.lays101:Go.Proofs.Lays.n101 Tryz.prog Tryz.anN:={
 mixed:=by kernel_rfl
 f101:=Tryz.func274.trans (congrArg some (by kernel_rfl))
 f206:=Tryz.func345.trans (congrArg some (by kernel_rfl))
 f208:=Tryz.func324.trans (congrArg some (by kernel_rfl))
 t3:=Tryz.underlying3
 a3:=Tryz.isAgg3
 z3:=Tryz.sizeOf3
 v3:=Tryz.zeroValue3
 t4:=Tryz.underlying4
 a4:=Tryz.isAgg4
 z4:=Tryz.sizeOf4
 v4:=Tryz.zeroValue4
 t9:=Tryz.underlying9
 a9:=Tryz.isAgg9
 z9:=Tryz.sizeOf9
 v9:=Tryz.zeroValue9 }
open Go.RowKit Go.Lib in
theorem Tryz.strings_TrimPrefix (s p : ByteArray) (w : World) :
    Calls Tryz.prog 274 #[.string s,.string p] w fun e w'=>e=.returned (.string ⟨(Lib.trimPrefix s.data.toList p.data.toList).toArray⟩)∧w'=w:=Any.strings_TrimPrefix Tryz.lays101 s p w
def Tryz.ah8:Go.Shelf.Ren:=⟨fun | 105=>304 | 212=>339 | 99=>309 | 165=>340 | 166=>305 | 170=>341 | 169=>306 | 263=>357 | 264=>252 | 206=>345 | 240=>342 | 241=>358 | 276=>359 | 277=>380 | n=>n,fun | 9=>9 | 3=>3 | 4=>4 | 20=>20 | 0=>0 | 46=>369 | 109=>384 | 5=>5 | 72=>360 | 76=>363 | 51=>397 | 146=>398 | 53=>309 | 148=>310 | 70=>357 | 37=>358 | 75=>362 | 127=>387 | 164=>400 | 80=>303 | n=>n,fun | n=>n⟩
theorem Tryz.lays105:Go.Proofs.Lays.n105 Tryz.prog Tryz.ah8:={
 mixed:=by kernel_rfl
 f99:=Tryz.func309.trans (congrArg some (by kernel_rfl))
 f105:=Tryz.func304.trans (congrArg some (by kernel_rfl))
 f165:=Tryz.func340.trans (congrArg some (by kernel_rfl))
 f166:=Tryz.func305.trans (congrArg some (by kernel_rfl))
 f169:=Tryz.func306.trans (congrArg some (by kernel_rfl))
 f170:=Tryz.func341.trans (congrArg some (by kernel_rfl))
 f206:=Tryz.func345.trans (congrArg some (by kernel_rfl))
 f212:=Tryz.func339.trans (congrArg some (by kernel_rfl))
 f240:=Tryz.func342.trans (congrArg some (by kernel_rfl))
 f241:=Tryz.func358.trans (congrArg some (by kernel_rfl))
 f263:=Tryz.func357.trans (congrArg some (by kernel_rfl))
 f264:=Tryz.func252.trans (congrArg some (by kernel_rfl))
 f276:=Tryz.func359.trans (congrArg some (by kernel_rfl))
 f277:=Tryz.func380.trans (congrArg some (by kernel_rfl))
 t0:=Tryz.underlying0
 a0:=Tryz.isAgg0
 z0:=Tryz.sizeOf0
 v0:=Tryz.zeroValue0
 t3:=Tryz.underlying3
 a3:=Tryz.isAgg3
 z3:=Tryz.sizeOf3
 v3:=Tryz.zeroValue3
 t4:=Tryz.underlying4
 a4:=Tryz.isAgg4
 z4:=Tryz.sizeOf4
 v4:=Tryz.zeroValue4
 t5:=Tryz.underlying5
 a5:=Tryz.isAgg5
 z5:=Tryz.sizeOf5
 v5:=Tryz.zeroValue5
 t9:=Tryz.underlying9
 a9:=Tryz.isAgg9
 z9:=Tryz.sizeOf9
 v9:=Tryz.zeroValue9
 t20:=Tryz.underlying20
 a20:=Tryz.isAgg20
 z20:=Tryz.sizeOf20
 v20:=Tryz.zeroValue20
 t37:=Tryz.underlying358
 a37:=Tryz.isAgg358
 z37:=Tryz.sizeOf358
 v37:=Tryz.zeroValue358
 t46:=Tryz.underlying369
 a46:=Tryz.isAgg369
 z46:=Tryz.sizeOf369
 v46:=Tryz.zeroValue369
 t51:=Tryz.underlying397
 a51:=Tryz.isAgg397
 z51:=Tryz.sizeOf397
 v51:=Tryz.zeroValue397
 t53:=Tryz.underlying309
 a53:=Tryz.isAgg309
 z53:=Tryz.sizeOf309
 v53:=Tryz.zeroValue309
 t70:=Tryz.underlying357
 a70:=Tryz.isAgg357
 z70:=Tryz.sizeOf357
 v70:=Tryz.zeroValue357
 t72:=Tryz.underlying360
 a72:=Tryz.isAgg360
 z72:=Tryz.sizeOf360
 v72:=Tryz.zeroValue360
 t75:=Tryz.underlying362
 a75:=Tryz.isAgg362
 z75:=Tryz.sizeOf362
 v75:=Tryz.zeroValue362
 t76:=Tryz.underlying363
 a76:=Tryz.isAgg363
 z76:=Tryz.sizeOf363
 v76:=Tryz.zeroValue363
 t109:=Tryz.underlying384
 a109:=Tryz.isAgg384
 z109:=Tryz.sizeOf384
 v109:=Tryz.zeroValue384
 t127:=Tryz.underlying387
 a127:=Tryz.isAgg387
 z127:=Tryz.sizeOf387
 v127:=Tryz.zeroValue387
 t146:=Tryz.underlying398
 a146:=Tryz.isAgg398
 z146:=Tryz.sizeOf398
 v146:=Tryz.zeroValue398
 t148:=Tryz.underlying310
 a148:=Tryz.isAgg310
 z148:=Tryz.sizeOf310
 v148:=Tryz.zeroValue310
 t164:=Tryz.underlying400
 a164:=Tryz.isAgg400
 z164:=Tryz.sizeOf400
 v164:=Tryz.zeroValue400 }
theorem Tryz.agz:Builder.Extra Tryz.prog Tryz.ah8:={
 sizeBuilder:=by kernel_rfl
 liesBuilder:=by kernel_rfl
 t5:=Tryz.underlying5
 a5:=Tryz.isAgg5
 z5:=Tryz.sizeOf5
 v5:=Tryz.zeroValue5
 infoByte:=by kernel_rfl
 cellsByte:=by kernel_rfl
 sizeByte:=by kernel_rfl
 neB5:=by decide }
open Go.RowKit Go.Lib in
theorem Tryz.strings_Repeat (s : ByteArray) (c : Nat) (w : World) (hc : c ≤ 9223372036854775807) (hlen : s.size * c ≤ 140737488355328) :
    Calls Tryz.prog 304 #[.string s,.int .i64 c] w fun e w'=>e=.returned (.string ⟨(Lib.repeatL s.data.toList c).toArray⟩)∧Below w.heap.size w w':=Any.strings_Repeat Tryz.lays105 Tryz.agz s c w hc hlen
end Go.Proofs
namespace Go.Proofs
open Go.Shelf Go.RowKit Go.Sort Go.Lib
set_option maxHeartbeats 6400000 in
set_option maxRecDepth 100000 in
theorem Tryz.aec (u : Nat) (hu64 : u < 18446744073709551616) (w : World)
    (htab : Lib.TabIs Tryz.prog w "internal/strconv.uint64pow10" .u64 Lib.pow10Tab) :
    Calls Tryz.prog 338 #[.int .u64 u,.int .i64 10] w fun e w'=>e=.returned (.string ⟨(Lib.decDigits u).toArray⟩)∧∃ k os,w'=grow (w.drewN k) os:=by
 have e353:∀ args w,(callFunc 353 args).run Tryz.prog w=.ok (.enter 353 args) w:=enters_of Tryz.func353 (by kernel_rfl) rfl;have e354:∀ args w,(callFunc 354 args).run Tryz.prog w=.ok (.enter 354 args) w:=enters_of Tryz.func354 (by kernel_rfl) rfl;have e355:∀ args w,(callFunc 355 args).run Tryz.prog w=.ok (.enter 355 args) w:=enters_of Tryz.func355 (by kernel_rfl) rfl
 by_cases hs:u<100
 · go_enter Tryz.func338,Tryz.ntmps338
   go_wp2_with (go_at_fn 353; refine (Tryz.internal_strconv_small u hs _).mono ?_; rintro e w' ⟨rfl,rfl⟩)
   go_ret
   exact ⟨rfl,0,#[],by simp [World.drewN_zero]⟩
 · have hu1:1≤u:=by omega
   have hnd20:Lib.nDigits u≤20:=by have:=Lib.numDigits_eq u hu1 hu64; split at this <;> omega
   have hb3:Lib.nDigits u≤24:=by omega
   have hal:Tryz.prog.arrayLen 393=24:=by kernel_rfl
   have hsl1:∀ W,(Instr.sliceAt 393 (.pointer (some ⟨w.heap.size,0,none⟩)) none (some (.int .i64 (Lib.nDigits u:Int))) none).run Tryz.prog W=.ok (.slice (some ⟨w.heap.size,0,none⟩) (Lib.nDigits u) 24) W:=fun W=>by
    rw [run_sliceAt_array_h W 393 ⟨w.heap.size,0,none⟩ (by kernel_rfl) .i64 (Lib.nDigits u:Int) (by omega) (by rw [hal]; omega)]
    go_simp
   have hH0:=Lib.holds_zero0 w 393 (Lib.nDigits u) hb3;have hfmt:=Tryz.internal_strconv_formatBase10 w.heap.size 0 24 u (Array.replicate (Lib.nDigits u) 0) (w.alloc (.cells Lib.zeros24 393)) hH0 (by rw [Array.size_replicate]; exact Lib.lt_pow_nDigits u) hu64 (by rw [Array.size_replicate]; omega);rw [Array.size_replicate] at hfmt;have HH0:=Lib.hid hH0;clear hH0 hal
   go_enter Tryz.func338,Tryz.ntmps338
   go_wp2_with (first
    | (go_at_fn 354; refine (Tryz.internal_strconv_numDigits u hu1 hu64 _ (Lib.tabIs_alloc htab _)).mono ?_; rintro e w' ⟨rfl,rfl⟩))
   go_at_fn 355
   refine hfmt.mono ?_;rintro e w' ⟨rfl,k,v',dk,rfl,hF⟩;have hcv:(convert 358 9 (.slice (some ⟨w.heap.size,0,none⟩) (Lib.nDigits u) 24)).run Tryz.prog ((putRow (fun (b:UInt8)=>Value.int .u8 (b.toNat:Int)) (w.alloc (.cells Lib.zeros24 393)) w.heap.size 0 dk).drewN k)=.ok (.string ⟨(Lib.decDigits u).toArray⟩) ((putRow (fun (b:UInt8)=>Value.int .u8 (b.toNat:Int)) (w.alloc (.cells Lib.zeros24 393)) w.heap.size 0 dk).drewN k):=by
    have h:=run_convert_bytes_back (P:=Tryz.prog) ((putRow (fun (b:UInt8)=>Value.int .u8 (b.toNat:Int)) (w.alloc (.cells Lib.zeros24 393)) w.heap.size 0 dk).drewN k) 358 9 5 ⟨w.heap.size,0,none⟩ 24 (Lib.decDigits u) (by kernel_rfl) (by kernel_rfl) (by kernel_rfl) (fun j hj=>by
     rw [Lib.row_is_numeral hF j hj,Lib.add_plain,World.cell?_drewN];exact cell?_putRow (fun (b:UInt8)=>Value.int .u8 (b.toNat:Int)) _ w.heap.size 0 _ dk HH0.out (by rw [hF.size,Array.size_replicate]) j (by rw [hF.size]; rw [Lib.decDigits_length] at hj; exact hj))
    rw [Lib.decDigits_length] at h;exact h
   go_wp2
   go_ret
   obtain ⟨os,eo⟩:=Lib.fin_at w (.cells Lib.zeros24 393) dk k 0;exact ⟨rfl,k,os,eo⟩
end Go.Proofs
namespace Go.Abs
open Go.Proofs
theorem ahd {P:Program} {w:World} {Imm:Nat→Prop} (l:List UInt8):PVV P w Imm (.str (abC l)) (.string ⟨l.toArray⟩):=by
 simp only [PVV]; exact ⟨_,rfl,by simp [abC]⟩
theorem ahr {P:Program} {w:World} {Imm:Nat→Prop} {s:List Nat} {v:Value} (h:PVV P w Imm (.str s) v):∃ bs:ByteArray,v=.string bs∧s=abC bs.data.toList:=by
 simp only [PVV] at h;obtain ⟨bs,rfl,rfl⟩:=h;exact ⟨bs,rfl,rfl⟩
theorem apb {w:World} {Imm:Nat→Prop} {c:Nat} {v:Value} (h:PVV Tryz.prog w Imm (.str [c]) v):∃ b:UInt8,v=.string ⟨#[b]⟩∧c=b.toNat:=by
 obtain ⟨bs,rfl,h'⟩:=ahr h;clear h;have h:=h';clear h'
 match hb:bs.data.toList with
 | []=>rw [hb] at h; simp [abC] at h
 | [b] =>
  rw [hb] at h; simp [abC] at h;refine ⟨b,?_,h⟩;congr 1;cases bs with
  | mk d=>simp at hb ⊢; exact Array.ext' (by simpa using hb)
 | a::b::r=>rw [hb] at h; simp [abC] at h
theorem atp {w:World} {Imm:Nat→Prop} {v:Value} (h:PVV Tryz.prog w Imm (.str [45]) v):v=.string ⟨#[45]⟩:=by
 obtain ⟨b,rfl,h'⟩:=apb h;have:b=45:=UInt8.toNat_inj.1 h'.symm;rw [this]
theorem c_idx1 (s:List Nat) (c:Nat):aab Tryz.prog 344 [.str s,.str [c]] (.int .i64 (idxB c s 0)):=by
 refine abd (abe Tryz.func344 (by kernel_rfl)) fun w Imm cargs _ _ ha=>?_;obtain ⟨x,y,rfl,h1,h2⟩:=ad4 ha;obtain ⟨b,rfl,rfl⟩:=apb h2;obtain ⟨bs,rfl,rfl⟩:=ahr h1;refine (Tryz.stringslite_Index_one bs b w).mono ?_;rintro e w' ⟨rfl,rfl⟩;refine ⟨_,rfl,⟨Nat.le_refl _,fun _ _=>rfl,rfl,rfl⟩,fun w Imm=>?_⟩;have e1:=apw b bs.data.toList 0;simp only [PVV] at e1 ⊢;rw [e1]
 by_cases h:Lib.indexByte bs.data.toList b = -1 <;> simp [h]
theorem c_cutL (s:List Nat) (c:Nat) (h:s.length≤1048576):aab Tryz.prog 308 [.str s,.str [c]] (.tup [.str (cutN c s).1,.str (cutN c s).2.1,.bool (cutN c s).2.2]):=by
 refine aad nf axH mix (by simp [Tryz.f308]) ?_;simp [Tryz.f308];refine c2 (c_idx1 s c) ?_;rcases apx c s 0 with ⟨_,h2,h3⟩ | ⟨i,h1,h2,h3⟩
 · simp [h2,h3]
 · rw [Nat.zero_add] at h2;have w:=wi1 (i:=i) (by omega);have e1:((i:Int)+1).toNat=i+1:=by omega
   simp [h2,h3,w,e1];omega
theorem c_cut (s:List Nat) (c:Nat) (h:s.length≤1048576):aab Tryz.prog 250 [.str s,.str [c]] (.tup [.str (cutN c s).1,.str (cutN c s).2.1,.bool (cutN c s).2.2]):=by
 refine aad nf ax3 mix (by simp [Tryz.f250]) ?_;simp [Tryz.f250];refine c2 (c_cutL s c h) ?_;simp
theorem awz (s:List Nat):aab Tryz.prog 309 [.str s,.str [45]] (.bool (negT s)):=by
 refine abd (abe Tryz.func309 (by kernel_rfl)) fun w Imm cargs _ _ ha=>?_;obtain ⟨x,y,rfl,h1,h2⟩:=ad4 ha;obtain rfl:=atp h2;obtain ⟨bs,rfl,rfl⟩:=ahr h1;refine (Tryz.strings_HasPrefix bs _ w).mono ?_;rintro e w' ⟨rfl,rfl⟩;exact ⟨_,rfl,⟨Nat.le_refl _,fun _ _=>rfl,rfl,rfl⟩,fun w Imm=>by rw [← agl]; simp only [PVV]⟩
theorem amB (s:List Nat):aab Tryz.prog 274 [.str s,.str [45]] (.str (absT s)):=by
 refine abd (abe Tryz.func274 (by kernel_rfl)) fun w Imm cargs _ _ ha=>?_;obtain ⟨x,y,rfl,h1,h2⟩:=ad4 ha;obtain rfl:=atp h2;obtain ⟨bs,rfl,rfl⟩:=ahr h1;refine (Tryz.strings_TrimPrefix bs _ w).mono ?_;rintro e w' ⟨rfl,rfl⟩;exact ⟨_,rfl,⟨Nat.le_refl _,fun _ _=>rfl,rfl,rfl⟩,fun w Imm=>by rw [← ahp]; exact ahd _⟩
theorem awB (s:List Nat):aab Tryz.prog 315 [.str s,.str [45]] (.tup [.str (absT s),.bool (negT s)]):=by
 refine abd (abe Tryz.func315 (by kernel_rfl)) fun w Imm cargs _ _ ha=>?_;obtain ⟨x,y,rfl,h1,h2⟩:=ad4 ha;obtain rfl:=atp h2;obtain ⟨bs,rfl,rfl⟩:=ahr h1;refine (Tryz.strings_CutPrefix bs _ w).mono ?_;rintro e w' ⟨rfl,rfl⟩;refine ⟨_,rfl,⟨Nat.le_refl _,fun _ _=>rfl,rfl,rfl⟩,fun w Imm=>?_⟩;rw [← ahp,← agl];simp only [PVV,PVVl];refine ⟨[_,_],⟨_,_,rfl,?_,_,_,rfl,rfl,rfl⟩,rfl⟩;exact ⟨_,rfl,by simp [abC]⟩
theorem aw3 {w : World} {Imm : Nat → Prop} (hg : aeX Tryz.prog w Imm) : Lib.TabIs Tryz.prog w "internal/strconv.uint64pow10" .u64 Lib.pow10Tab := by
 obtain ⟨_,T,hT⟩:=hg.raw 3 _ rfl;have hn : Tryz.prog.globalNamed "internal/strconv.uint64pow10" = some 3 := by kernel_rfl
 simp only [Lib.TabIs,World.var?,hn,Option.bind_some,hT];rfl
theorem c_itoa (n:Int) (h0:-9223372036854775808≤n) (h1:n≤9223372036854775807):aab Tryz.prog 301 [.int .i64 n] (.str (txI n)):=by
 refine abd (abe Tryz.func301 (by kernel_rfl)) fun w Imm cargs _ hg ha=>?_;obtain ⟨x,rfl,h2⟩:=ahc ha;simp only [PVV] at h2;subst h2;refine (Tryz.strconv_Itoa n h0 h1 w (aw3 hg)).mono ?_;rintro e w' ⟨rfl,k,os,rfl⟩;refine ⟨_,rfl,⟨?_,fun k hk=>?_,rfl,rfl⟩,fun w Imm=>?_⟩
 · simp [Go.Sort.grow,World.drewN]
 · simp only [Go.Sort.grow];exact Array.getElem?_append_left hk
 · rw [← itoa_tx]; exact ahd _
theorem c_fuI (u:Nat) (hu:u<18446744073709551616):aab Tryz.prog 338 [.int .u64 u,.int .i64 10] (.str (txN u)):=by
 refine abd (abe Tryz.func338 (by kernel_rfl)) fun w Imm cargs _ hg ha=>?_;obtain ⟨x,y,rfl,h1,h2⟩:=ad4 ha;simp only [PVV] at h1 h2;subst h1 h2;refine (Tryz.aec u hu w (aw3 hg)).mono ?_;rintro e w' ⟨rfl,k,os,rfl⟩;refine ⟨_,rfl,⟨?_,fun k hk=>?_,rfl,rfl⟩,fun w Imm=>?_⟩
 · simp [Go.Sort.grow,World.drewN]
 · simp only [Go.Sort.grow];exact Array.getElem?_append_left hk
 · rw [← atN]; exact ahd _
theorem c_fu (u:Nat) (hu:u<18446744073709551616):aab Tryz.prog 303 [.int .u64 u,.int .i64 10] (.str (txN u)):=by
 refine aad nf axK mix (by simp [Tryz.f303]) ?_;simp [Tryz.f303];refine c2 (c_fuI u hu) ?_;simp
theorem c_rep (s:List Nat) (c:Nat) (hc:c≤9223372036854775807) (hl:s.length*c≤140737488355328):aab Tryz.prog 304 [.str s,.int .i64 c] (.str (repN s c)):=by
 refine abd (abe Tryz.func304 (by kernel_rfl)) fun w Imm cargs _ hg ha=>?_;obtain ⟨x,y,rfl,h1,h2⟩:=ad4 ha;obtain ⟨bs,rfl,rfl⟩:=ahr h1;simp only [PVV] at h2;subst h2;refine (Tryz.strings_Repeat bs c w hc (by simpa [abC] using hl)).mono ?_;rintro e w' ⟨rfl,hb⟩;exact ⟨_,rfl,⟨hb.size,hb.block,hb.os,hb.output⟩,fun w Imm=>by
  rw [aoZ]; exact ahd _⟩
theorem c_atoi (s:List Nat) (v:Int) (h:Lib.atoiAll (s.map UInt8.ofNat)=.ok v) (hl:s.length≤9223372036854775806):aab Tryz.prog 310 [.str s] (.tup [.int .i64 v,.nif]):=by
 refine abd (abe Tryz.func310 (by kernel_rfl)) fun w Imm cargs _ hg ha=>?_;obtain ⟨x,rfl,h1⟩:=ahc ha;obtain ⟨bs,rfl,rfl⟩:=ahr h1;rw [ant] at h;refine (Tryz.strconv_Atoi_ok bs (by simpa [abC] using hl) v h w).mono ?_;rintro e w' ⟨rfl,hw⟩;refine ⟨_,rfl,?_,fun w Imm=>by simp [PVV,PVVl]⟩;rcases hw with rfl | ⟨t,rfl⟩
 · exact ⟨Nat.le_refl _,fun _ _=>rfl,rfl,rfl⟩
 · have hb:=Lib.bytesWorld_below w 5 t;exact ⟨hb.size,hb.block,hb.os,hb.output⟩
def tB:Nat:=1000000000000000000
theorem arL:tB=10 ^ 18:=by decide
theorem apk:∀ i,low i 0=List.replicate i 48
 | 0=>rfl
 | i+1=>by rw [aeH,Nat.zero_div,apk i,List.replicate_succ']
theorem pad18 {r:Nat} (h:r<tB):List.replicate (18 - (txN r).length) 48 ++ txN r=low 18 r:=by
 rw [aeZ,txN];have h1:nd r≤18:=anv (by rw [← arL]; exact h);obtain ⟨k,hk⟩:∃ k,k=max 1 (nd r):=⟨_,rfl⟩
 have hk2:k≤18:=by omega
 have hk3:r<10 ^ k:=Nat.lt_of_lt_of_le (akl r) (Nat.pow_le_pow_right (by decide) (by omega));rw [← hk];have:=afd (18 - k) r (a:=k);have e:low 18 r=low (18 - k) (r / 10 ^ k) ++ low k r:=by
  have:=afd k r (18 - k);rw [show 18 - k+k=18 by omega] at this;exact this
 rw [e,Nat.div_eq_of_lt hk3,apk]
theorem ang {r:Nat} (h:r<tB):(txN r).length≤18:=by
 rw [aeZ];have h1:nd r≤18:=anv (by rw [← arL]; exact h);omega
theorem auT {m:Nat} (h:tB≤m):txN m=txN (m / tB) ++ low 18 (m % tB):=by
 rw [arL] at h ⊢;have e:=asZ (n:=m) (k:=18) h;have hp:0<nd (m / 10 ^ 18):=ape (Nat.div_pos h (Nat.pow_pos (by decide)));rw [txN,txN,show max 1 (nd m)=max 1 (nd (m / 10 ^ 18))+18 by omega,afd,anC m 18 18 (Nat.le_refl _)]
def txG (m:Nat) (ps:List (List Nat)):List Nat:=(if m=0 then [] else txN m) ++ ps.reverse.flatten
def abK (m:Nat):List Nat:=if m / tB=0 then txN m else low 18 (m % tB)
theorem aoF {m:Nat} (h:m≠0) (ps:List (List Nat)):txG (m / tB) (ps ++ [abK m])=txG m ps:=by
 rw [txG,txG,if_neg h,abK,List.reverse_append]
 by_cases h0:m / tB=0
 · rw [if_pos h0,if_pos h0]; simp
 · rw [if_neg h0,if_neg h0];have:tB≤m:=by
    rcases Nat.lt_or_ge m tB with h1 | h1
    · exact (h0 (Nat.div_eq_of_lt h1)).elim
    · exact h1
   rw [auT this]; simp
theorem auV (ps:List (List Nat)):txG 0 ps=ps.reverse.flatten:=by rw [txG,if_pos rfl]; rfl
theorem ajT (n:Nat):0<(txN n).length:=by rw [aeZ]; omega
theorem alO (m:Nat):abK m≠[]:=by
 intro h;have:(abK m).length=0:=by rw [h]; rfl
 rw [abK] at this
 split at this
 · have:=ajT m; omega
 · rw [afc] at this; omega
theorem alP (m:Nat):(abK m).length≤18:=by
 rw [abK]
 split
 · rename_i h;have hm:m<tB:=by
    rcases Nat.lt_or_ge m tB with h1 | h1
    · exact h1
    · have:=Nat.div_pos h1 (show 0<tB by decide); omega
   exact ang hm
 · rw [afc]; exact Nat.le_refl _
theorem apu {c:Nat} (h:isD c=true):c<256:=by
 simp only [isD,Bool.and_eq_true,decide_eq_true_eq] at h; omega
end Go.Abs
namespace Go.Proofs
open Go.Abs
theorem Tryz.arE:Tryz.prog.underlying 357=some (.pointer 360):=by kernel_rfl
theorem Tryz.aw0:Tryz.prog.underlying 400=some .unsafePointer:=by kernel_rfl
theorem Tryz.arX:(Tryz.prog.info? 360).map (·.size)=some 2:=by kernel_rfl
theorem Tryz.lies360:liesAt Tryz.prog Tryz.prog.depth 360 (2 / Tryz.prog.cellsOf 360) 0 360 1=true:=by kernel_rfl
set_option maxHeartbeats 1000000 in
set_option maxRecDepth 100000 in
theorem Tryz.ai9 (b : Nat) (w : World) (h0 : w.cell? ⟨b, 0, none⟩ = some (.pointer (some ⟨b, 0, none⟩))) :
    Calls Tryz.prog 342 #[.pointer (some ⟨b,0,none⟩)] w fun e w'=>e=.returned (.tuple #[])∧w'=w:=by
 obtain ⟨j,hj,_⟩:=Option.map_eq_some_iff.1 Tryz.arX
 go_enter Tryz.func342,Tryz.ntmps342
 go_wp2
 rw [Lib.run_neq_ptr_same w _ Tryz.arE hj]
 go_wp2
 go_end0
 exact ⟨rfl,rfl⟩
set_option maxHeartbeats 1000000 in
set_option maxRecDepth 100000 in
theorem Tryz.aiD (b : Nat) (w : World) (h0 : w.cell? ⟨b, 0, none⟩ = some (.pointer none)) (hsh : w.shape? b = some (360, 2)) (hfz : w.frozen? ⟨b, 0, none⟩ = false) :
    Calls Tryz.prog 342 #[.pointer (some ⟨b,0,none⟩)] w fun e w'=>e=.returned (.tuple #[])∧w'=w.setCell ⟨b,0,none⟩ (.pointer (some ⟨b,0,none⟩)):=by
 obtain ⟨j,hj,hjs⟩:=Option.map_eq_some_iff.1 Tryz.arX
 go_enter Tryz.func342,Tryz.ntmps342
 go_wp2
 rw [Lib.run_to_unsafe w ⟨b,0,none⟩ Tryz.arE Tryz.aw0 hj (by rw [hjs]; decide) hsh (Nat.zero_lt_succ 1)];simp only [Result.andThen];rw [Oper.upon_value]
 go_wp2
 rw [run_callFunc_extern Tryz.func359 (by kernel_rfl) (by kernel_rfl) (by kernel_rfl) (e:=Extern.AbiNoEscape.same) (by kernel_rfl)];rw [Lib.run_noEscape];simp only [Result.andThen];rw [Oper.upon_value]
 go_wp2
 rw [Lib.run_from_unsafe w ⟨b,0,none⟩ Tryz.aw0 Tryz.arE hj hsh Tryz.lies360];simp only [Result.andThen];rw [Oper.upon_value]
 go_wp2
 go_end0
 exact ⟨rfl,rfl⟩
end Go.Proofs
