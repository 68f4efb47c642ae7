import Derived.Test.YtanjnahmbanmaaaGreatDoorPH
/- Parts of a proof. -/
set_option linter.unusedSimpArgs false
set_option linter.unusedVariables false
set_option linter.unusedSectionVars false
namespace Go.Abs
open Go.Proofs
set_option maxHeartbeats 4000000
set_option maxRecDepth 100000
namespace Hk
def bigN:Nat:=9223372036854775808
def aoH:Nat:=1606938044258990275541962092341162602522202993782792835301376
def frcN {α:Type} (n:Nat) (f:Nat→α):α:=match n with
 | 0=>f 0
 | k+1=>f (k+1)
theorem aik {α:Type} (n:Nat) (f:Nat→α):frcN n f=f n:=by cases n <;> rfl
def frcI {α:Type} (z:Int) (f:Int→α):α:=match z with
 | .ofNat n=>frcN n fun n=>f (.ofNat n)
 | .negSucc n=>frcN n fun n=>f (.negSucc n)
theorem atA {α:Type} (z:Int) (f:Int→α):frcI z f=f z:=by cases z <;> simp [frcI,aik]
def smZ:Int→Bool
 | .ofNat n=>Nat.blt n bigN
 | .negSucc n=>Nat.blt (n+1) bigN
theorem amZ {z:Int}:smZ z=true↔z.natAbs<9223372036854775808:=by
 cases z with
 | ofNat n=>simp only [smZ,Nat.blt_eq,bigN]; exact Iff.rfl
 | negSucc n=>simp only [smZ,Nat.blt_eq,bigN]; exact Iff.rfl
def eqZ:Int→Int→Bool
 | .ofNat a,.ofNat b=>Nat.beq a b
 | .negSucc a,.negSucc b=>Nat.beq a b
 | _,_=>false
theorem apJ:∀ {a b:Int},eqZ a b=true→a=b
 | .ofNat a,.ofNat b,h=>by simp only [eqZ] at h; rw [Nat.eq_of_beq_eq_true h]
 | .negSucc a,.negSucc b,h=>by simp only [eqZ] at h; rw [Nat.eq_of_beq_eq_true h]
 | .ofNat a,.negSucc b,h=>by simp [eqZ] at h
 | .negSucc a,.ofNat b,h=>by simp [eqZ] at h
def encI (z:Int):Option PV:=bif smZ z then some (smI z) else bif Nat.beq z.natAbs bigN then none else some (bgI z)
theorem akC {z:Int} {p:PV} (h:encI z=some p) (m:Bool):eI ⟨z,m⟩=p:=by
 unfold encI at h;rw [acv];rcases hs:smZ z with _ | _
 · simp only [hs,cond_false] at h;rcases hb':Nat.beq z.natAbs bigN with _ | _
   case true=>rw [hb'] at h; cases h
   · have hb:¬ Nat.beq z.natAbs bigN=true:=by rw [hb']; decide
     rw [hb',cond_false] at h;simp only [Option.some.injEq] at h;have h1:¬ z.natAbs<9223372036854775808:=fun h=>by rw [amZ.2 h] at hs; cases hs
     have h2:z.natAbs≠9223372036854775808:=fun e=>hb (by rw [e]; rfl);rw [if_neg,h];simp only [NI.sm,Bool.or_eq_true,decide_eq_true_eq,Bool.and_eq_true,not_or,not_and];exact ⟨by omega,fun h=>by omega⟩
 · simp only [hs,cond_true,Option.some.injEq] at h;have h1:=amZ.1 hs;rw [if_pos,h];simp only [NI.sm,Bool.or_eq_true,decide_eq_true_eq,Bool.and_eq_true];exact .inl (by omega)
def wds:List PV→Option (List Nat)
 | []=>some []
 | .int .u64 (.ofNat x)::r=>match wds r with
  | some l=>some (x::l)
  | none=>none
 | _=>none
theorem awU:∀ {l:List PV} {ns:List Nat},wds l=some ns→l=ns.map fun x:Nat=>PV.int .u64 x
 | [],ns,h=>by simp only [wds,Option.some.injEq] at h; subst h; rfl
 | v::r,ns,h=>by
  unfold wds at h
  split at h
  · rename_i e; cases e
  · rename_i x r' e;cases e
    split at h
    · rename_i l hl;simp only [Option.some.injEq] at h; subst h;rw [awU hl]; rfl
    · cases h
  · cases h
def samN:List Nat→List Nat→Bool
 | [],[]=>true
 | x::a,y::b=>bif Nat.beq x y then samN a b else false
 | _,_=>false
theorem am7:∀ {a b:List Nat},samN a b=true→a=b
 | [],[],_=>rfl
 | [],_::_,h=>by simp [samN] at h
 | _::_,[],h=>by simp [samN] at h
 | x::a,y::b,h=>by
  simp only [samN,Bool.cond_eq_ite] at h
  split at h
  · rename_i hx; rw [Nat.eq_of_beq_eq_true hx,am7 h]
  · cases h
def decI:PV→Option Int
 | .st u [.int .i64 z,.nsl]=>bif Nat.beq u 128 then (bif smZ z then some z else none) else none
 | .st u [.int .i64 s,.seq l]=>match wds l with
  | some ns => frcN (valD wB ns) fun n => bif Nat.beq u 128 && (Nat.blt bigN n && samN (dig wB n) ns) then
      (bif eqZ s 1 then some (.ofNat n) else bif eqZ s (-1) then some (.negSucc (n - 1)) else none) else none
  | none=>none
 | _=>none
theorem atO {p:PV} {z:Int} (h:decI p=some z):p=eI ⟨z,false⟩:=by
 unfold decI at h
 split at h
 · rename_i u y;simp only [Bool.cond_eq_ite] at h
   split at h
   · rename_i hu
     split at h
     · rename_i hs;simp only [Option.some.injEq] at h; subst h;rw [Nat.eq_of_beq_eq_true hu];exact (akC (by rw [encI,hs]; rfl) false).symm
     · cases h
   · cases h
 · rename_i u s l
   split at h
   · rename_i ns hn;rw [aik] at h;have hl:=awU hn;generalize valD wB ns=n at h;simp only [Bool.cond_eq_ite] at h
     split at h
     · rename_i hc;simp only [Bool.and_eq_true,Nat.blt_eq] at hc;obtain ⟨h1,h2,h3⟩:=hc;have h4:=am7 h3;have h5:bigN=9223372036854775808:=rfl;rw [Nat.eq_of_beq_eq_true h1,hl,← h4];have key:∀ z:Int,z.natAbs=n→eI ⟨z,false⟩=bgI z:=fun z hz=>by
        refine akC ?_ false;have e1:smZ z=false:=by
         rcases hh:smZ z with _ | _
         · rfl
         · have:=amZ.1 hh; omega
        have e2:Nat.beq z.natAbs bigN=false:=by
         rcases hh:Nat.beq z.natAbs bigN with _ | _
         · rfl
         · have:=Nat.eq_of_beq_eq_true hh; omega
        rw [encI,e1,e2]; rfl
       split at h
       · rename_i hs;simp only [Option.some.injEq] at h; subst h;rw [apJ hs,key _ rfl,bgI,if_neg (by show ¬ ((n:Int)<0); omega)]; rfl
       · split at h
         · rename_i hs;simp only [Option.some.injEq] at h; subst h;rw [apJ hs,key _ (by show n - 1+1=n; omega),bgI,if_pos (by omega)];have:(Int.negSucc (n - 1)).natAbs=n:=by show n - 1+1=n; omega
           rw [this]; rfl
         · cases h
     · cases h
   · cases h
 · cases h
def okP2 (n:Int) (d:Nat):Bool:=Nat.blt 0 d && (Nat.blt n.natAbs aoH && (Nat.blt d aoH && Nat.beq (Nat.gcd n.natAbs d) 1))
def decF:PV→Option (Int×Nat)
 | .st u [a,b]=>match decI a,decI b with
  | some n,some (.ofNat d)=>bif Nat.beq u 130 && okP2 n d then some (n,d) else none
  | _,_=>none
 | _=>none
def fr (n:Int) (d:Nat):NF:=⟨Rat.divInt n d,false⟩
theorem arH:aoH=2 ^ 200:=by decide
theorem an2 {p:PV} {n:Int} {d:Nat} (h:decF p=some (n,d)):p=eF (fr n d)∧d≠0∧okR kB (fr n d).q:=by
 unfold decF at h
 split at h
 case h_2=>cases h
 rename_i u a b
 split at h
 case h_2=>cases h
 rename_i n' d' h1 h2;simp only [Bool.cond_eq_ite] at h
 split at h
 case isFalse=>cases h
 rename_i hc;simp only [Option.some.injEq,Prod.mk.injEq] at h;obtain ⟨rfl,rfl⟩:=h;simp only [okP2,Bool.and_eq_true,Nat.blt_eq] at hc;obtain ⟨c1,c2,c3,c4,c5⟩:=hc;have c6:=Nat.eq_of_beq_eq_true c5;have hd:d'≠0:=by omega
 obtain ⟨e1,e2⟩:=abf (n:=n') hd;rw [c6] at e1 e2;simp only [Int.natCast_one,Int.ediv_one,Nat.div_one] at e1 e2;rw [arH] at c3 c4;refine ⟨?_,hd,(aki hd c3 c4).mono (by decide)⟩;rw [Nat.eq_of_beq_eq_true c1,atO h1,atO h2,eF];have g1:(fr n' d').num=⟨n',false⟩:=by rw [NF.num,fr,e1]
 have g2:(fr n' d').den=⟨(d':Int),false⟩:=by rw [NF.den,fr,e2]; rfl
 rw [g1,g2]; rfl
def encR (n:Int) (d:Nat):Option PV :=
 frcN (Nat.gcd n.natAbs d) fun g=>frcI (n / g) fun n=>frcN (d / g) fun d=>match encI n,encI (.ofNat d) with
  | some a,some b=>some (.st 130 [a,b])
  | _,_=>none
theorem aer {n:Int} {d:Nat} {p:PV} (hd:d≠0) (h:encR n d=some p) (m:Bool):p=eF ⟨Rat.divInt n d,m⟩:=by
 obtain ⟨e1,e2⟩:=abf (n:=n) hd;simp only [encR,aik,atA] at h
 split at h
 case h_2=>cases h
 rename_i a b h1 h2;simp only [Option.some.injEq] at h; subst h;rw [eF];have g1:(NF.num ⟨Rat.divInt n d,m⟩)=⟨n / (Nat.gcd n.natAbs d:Nat),m⟩:=by rw [NF.num,e1]
 have g2:(NF.den ⟨Rat.divInt n d,m⟩)=⟨((d / Nat.gcd n.natAbs d:Nat):Int),false⟩:=by rw [NF.den,e2]; rfl
 rw [g1,g2,akC h1,← akC h2 false]; rfl
def two (op:Int→Nat→Int→Nat→Option PV) (a b:PV):Option PV:=match decF a,decF b with
 | some (n,d),some (m,e)=>op n d m e
 | _,_=>none
theorem ak7 {op : Int → Nat → Int → Nat → Option PV} {a b p : PV} (h : two op a b = some p) :
    ∃ n d m e,a=eF (fr n d)∧b=eF (fr m e)∧d≠0∧e≠0∧okR kB (fr n d).q∧okR kB (fr m e).q∧op n d m e=some p:=by
 unfold two at h
 split at h
 case h_2=>cases h
 rename_i n d m e h1 h2;obtain ⟨a1,a2,a3⟩:=an2 h1;obtain ⟨b1,b2,b3⟩:=an2 h2;exact ⟨n,d,m,e,a1,b1,a2,b2,a3,b3,h⟩
def oAdd (n:Int) (d:Nat) (m:Int) (e:Nat):Option PV:=encR (n*e+m*d) (d*e)
def oSub (n:Int) (d:Nat) (m:Int) (e:Nat):Option PV:=encR (n*e - m*d) (d*e)
def oMul (n:Int) (d:Nat) (m:Int) (e:Nat):Option PV:=encR (n*m) (d*e)
def sgnZ:Int→Int
 | .ofNat n=>bif Nat.beq n 0 then 0 else 1
 | .negSucc _=>-1
theorem ar1 (z:Int):sgnZ z=if z<0 then -1 else if z=0 then 0 else 1:=by
 cases z with
 | ofNat n =>
  rw [if_neg (by simp)];cases n with
  | zero=>rfl
  | succ n=>rw [if_neg (by simp; omega)]; rfl
 | negSucc n=>rw [if_pos (by omega)]; rfl
def oCmp (n:Int) (d:Nat) (m:Int) (e:Nat):Option PV:=some (.int .i64 (sgnZ (n*e - m*d)))
def oDiv (n:Int) (d:Nat) (m:Int) (e:Nat):Option PV:=match m with
 | .ofNat k=>bif Nat.beq k 0 then none else encR (n*e) (d*k)
 | .negSucc k=>encR (-(n*e)) (d*(k+1))
theorem dvne {d:Nat} (h:d≠0):(d:Int)≠0:=by omega
theorem c_oAdd {n m:Int} {d e:Nat} {p:PV} (hd:d≠0) (he:e≠0) (h:oAdd n d m e=some p):p=eF ((fr n d).add (fr m e)):=by
 rw [NF.add,fr,fr];dsimp only;rw [Rat.divInt_add_divInt _ _ (dvne hd) (dvne he)];have:=aer (Nat.mul_ne_zero hd he) h;rw [Int.natCast_mul] at this;exact this _
theorem c_oSub {n m:Int} {d e:Nat} {p:PV} (hd:d≠0) (he:e≠0) (h:oSub n d m e=some p):p=eF ((fr n d).sub (fr m e)):=by
 rw [NF.sub,NF.add,NF.neg,fr,fr];dsimp only;rw [Rat.neg_divInt,Rat.divInt_add_divInt _ _ (dvne hd) (dvne he)];have:=aer (Nat.mul_ne_zero hd he) h;rw [Int.natCast_mul] at this;rw [Int.neg_mul,← Int.sub_eq_add_neg];exact this _
theorem c_oMul {n m:Int} {d e:Nat} {p:PV} (hd:d≠0) (he:e≠0) (h:oMul n d m e=some p):p=eF ((fr n d).mul (fr m e)):=by
 rw [NF.mul,fr,fr];dsimp only;rw [Rat.divInt_mul_divInt];have:=aer (Nat.mul_ne_zero hd he) h;rw [Int.natCast_mul] at this;exact this _
theorem avy (x y:Rat):ordQ x y=if x - y<0 then -1 else if x - y=0 then 0 else 1:=by
 have h1:x - y<0↔x<y:=by
  constructor
  · intro h;have h2:=(Rat.add_lt_add_right (c:=y)).2 h
    rwa [Rat.sub_add_cancel,Rat.zero_add] at h2
  · intro h;refine (Rat.add_lt_add_right (c:=y)).1 ?_
    rwa [Rat.sub_add_cancel,Rat.zero_add]
 have h2:x - y=0↔x=y:=by
  constructor
  · intro h;have h3:=congrArg (·+y) h
    simpa [Rat.sub_add_cancel,Rat.zero_add] using h3
  · intro h; rw [h,Rat.sub_self]
 simp only [ordQ,h1,h2]
theorem ahv (n:Int) {d:Nat} (hd:d≠0):(if Rat.divInt n d<0 then (-1:Int) else if Rat.divInt n d=0 then 0 else 1)=sgnZ n:=by
 rw [asW,ar1];obtain ⟨e1,-⟩:=abf (n:=n) hd;have hg:0<Nat.gcd n.natAbs d:=Nat.gcd_pos_of_pos_right _ (by omega);have hdv:((Nat.gcd n.natAbs d:Nat):Int) ∣ n:=by
  rw [Int.ofNat_dvd_left]; exact Nat.gcd_dvd_left _ _
 obtain ⟨c,hc⟩:=hdv;rw [e1];generalize Nat.gcd n.natAbs d=g at *;have hgI:(0:Int)<g:=by omega
 subst hc;rw [Int.mul_ediv_cancel_left _ (by omega)];have a1:(g:Int)*c<0↔c<0:=by
  constructor
  · intro h;refine Int.not_le.1 fun h0=>?_;have:=Int.mul_nonneg (Int.le_of_lt hgI) h0;omega
  · intro h;exact Int.mul_neg_of_pos_of_neg hgI h
 have a2:(g:Int)*c=0↔c=0:=by
  rw [Int.mul_eq_zero];constructor
  · rintro (h | h)
    · omega
    · exact h
  · exact fun h=>.inr h
 simp only [a1,a2]
theorem c_oCmp {n m:Int} {d e:Nat} {p:PV} (hd:d≠0) (he:e≠0) (h:oCmp n d m e=some p):p=.int .i64 (ordQ (fr n d).q (fr m e).q):=by
 simp only [oCmp,Option.some.injEq] at h;rw [← h,avy,fr,fr];dsimp only;rw [Rat.divInt_sub_divInt _ _ (dvne hd) (dvne he),← Int.natCast_mul,ahv _ (Nat.mul_ne_zero hd he)]
theorem ay7 {n m:Int} {d e:Nat} {p:PV} (hd:d≠0) (he:e≠0) (h:oDiv n d m e=some p):p=eF ((fr n d).div (fr m e))∧(fr m e).q≠0:=by
 have hz:m≠0→(fr m e).q≠0:=fun hm hq=>by
  rw [fr] at hq;dsimp only at hq;have:=ahv m he;rw [hq,if_neg (by decide),if_pos rfl,ar1] at this
  split at this
  · omega
  · first
     | omega
     | (rw [if_neg hm] at this; omega)
 rw [NF.div,fr,fr];dsimp only;unfold oDiv at h;cases m with
 | ofNat k =>
  simp only [Bool.cond_eq_ite] at h
  split at h
  · cases h
  · rename_i hk;have hk0:k≠0:=fun e=>hk (by rw [e]; rfl);have:=aer (Nat.mul_ne_zero hd hk0) h;refine ⟨?_,hz (by show (k:Int)≠0; omega)⟩;have e:(Rat.divInt n d:Rat) / Rat.divInt (Int.ofNat k) e=Rat.divInt (n*e) (d*k):=by
     rw [Rat.div_def,Rat.inv_divInt,Rat.divInt_mul_divInt]; rfl
    rw [e];rw [Int.natCast_mul] at this;exact this _
 | negSucc k =>
  dsimp only at h;have:=aer (Nat.mul_ne_zero hd (Nat.succ_ne_zero k)) h;refine ⟨?_,hz (by omega)⟩;have e:(Rat.divInt n d:Rat) / Rat.divInt (Int.negSucc k) e=Rat.divInt (-(n*e)) ((d:Int)*((k+1:Nat):Int)):=by
   rw [Rat.div_def,Rat.inv_divInt,Rat.divInt_mul_divInt];rw [show Int.negSucc k = -((k+1:Nat):Int) from rfl,Int.mul_neg];rw [Rat.divInt_neg']
  rw [e];rw [Int.natCast_mul] at this;exact this _
def ndF:Nat→Nat→Nat
 | 0,_=>0
 | f+1,n=>bif Nat.beq n 0 then 0 else ndF f (n / 10)+1
theorem blt_of {a b:Nat} (h:a<b):Nat.blt a b=true:=by rw [Nat.blt_eq]; exact h
theorem blt2 {a b:Nat} (h:Nat.blt a b=true):a<b:=by rw [Nat.blt_eq] at h; exact h
theorem axl:∀ (f n:Nat),n<10 ^ f→ndF f n=nd n
 | 0,n,h=>by
  have:n=0:=by simpa using h
  subst this; rw [nd]; rfl
 | f+1,n,h=>by
  rw [ndF,nd]
  by_cases h0:n=0
  · subst h0; rfl
  · have hb:Nat.beq n 0=false:=by
     rcases hh:Nat.beq n 0 with _ | _
     · rfl
     · exact (h0 (Nat.eq_of_beq_eq_true hh)).elim
    rw [hb,cond_false,dif_neg h0,axl f (n / 10) (by rw [Nat.div_lt_iff_lt_mul (by omega)]; rw [Nat.pow_succ] at h; exact h)]
def txF (n:Nat):List Nat:=frcN (ndF 80 n) fun k=>bif Nat.blt 1 k then low k n else low 1 n
theorem arG {n:Nat} (h:n<10 ^ 80):txF n=txN n:=by
 rw [txF,aik,axl _ _ h,txN];rcases hb:Nat.blt 1 (nd n) with _ | _
 · have:¬ 1<nd n:=fun hh=>by rw [blt_of hh] at hb; cases hb
   rw [cond_false,Nat.max_eq_left (by omega)]
 · have:1<nd n:=blt2 hb;rw [cond_true,Nat.max_eq_right (by omega)]
def txZ:Int→List Nat
 | .ofNat n=>txF n
 | .negSucc n=>45::txF (n+1)
theorem txZ_eq {z:Int} (h:z.natAbs<10 ^ 80):txZ z=txI z:=by
 cases z with
 | ofNat n=>rw [txI,if_neg (by show ¬ ((n:Int)<0); omega)]; exact arG h
 | negSucc n=>rw [txI,if_pos (by omega)]; exact congrArg (45::·) (arG h)
def txR (n:Int) (d:Nat):List Nat:=bif Nat.beq d 1 then txZ n else txZ n ++ 47::txF d
theorem apE {n:Int} {d:Nat} (hd:d≠0) (hg:Nat.gcd n.natAbs d=1):(fr n d).q.num=n∧(fr n d).q.den=d:=by
 obtain ⟨e1,e2⟩:=abf (n:=n) hd;rw [hg] at e1 e2;simp only [Int.natCast_one,Int.ediv_one,Nat.div_one] at e1 e2;exact ⟨e1,e2⟩
theorem apO {p:PV} {n:Int} {d:Nat} (h:decF p=some (n,d)):Nat.gcd n.natAbs d=1∧n.natAbs<10 ^ 80∧d<10 ^ 80:=by
 unfold decF at h
 split at h
 case h_2=>cases h
 split at h
 case h_2=>cases h
 simp only [Bool.cond_eq_ite] at h
 split at h
 case isFalse=>cases h
 rename_i hc;simp only [Option.some.injEq,Prod.mk.injEq] at h;obtain ⟨rfl,rfl⟩:=h;simp only [okP2,Bool.and_eq_true,Nat.blt_eq] at hc;obtain ⟨c1,c2,c3,c4,c5⟩:=hc;have h2:aoH<10 ^ 80:=by decide
 exact ⟨Nat.eq_of_beq_eq_true c5,by omega,by omega⟩
theorem txR_eq {p:PV} {n:Int} {d:Nat} (h:decF p=some (n,d)) (hd:d≠0):txR n d=txQ (fr n d).q:=by
 obtain ⟨hg,h1,h2⟩:=apO h;obtain ⟨e1,e2⟩:=apE hd hg;rw [txR,txQ,e1,e2,txZ_eq h1,arG h2];rcases hb:Nat.beq d 1 with _ | _
 · rw [cond_false,if_neg (fun e=>by rw [e] at hb; cases hb)]
 · rw [cond_true,if_pos (Nat.eq_of_beq_eq_true hb)]
def byB:List Nat→Nat→Bool
 | [],_=>true
 | c::r,f=>match f with
  | 0=>false
  | f+1=>bif Nat.blt c 256 then byB r f else false
theorem amH:∀ {s:List Nat} {f:Nat},byB s f=true→s.length≤f∧∀ c∈s,c<256
 | [],_,_=>⟨Nat.zero_le _,fun c hc=>by cases hc⟩
 | c::r,0,h=>by simp [byB] at h
 | c::r,f+1,h=>by
  simp only [byB,Bool.cond_eq_ite] at h
  split at h
  · rename_i hc;obtain ⟨h1,h2⟩:=amH h;refine ⟨by simp; omega,fun x hx=>?_⟩;rcases List.mem_cons.1 hx with rfl | hx
    · exact blt2 hc
    · exact h2 x hx
  · cases h
def isZ (z:Int):Bool:=match z with
 | .ofNat n=>Nat.beq n 0
 | _=>false
theorem isZ_eq {z:Int} (h:isZ z=true):z=0:=by
 cases z with
 | ofNat n=>rw [Nat.eq_of_beq_eq_true (show Nat.beq n 0=true from h)]; rfl
 | negSucc n=>cases h
def encD (n:Int) (d:Nat):Option PV:=bif Nat.beq d 0 then none else encR n d
theorem encD_ok {n:Int} {d:Nat} {p:PV} (h:encD n d=some p) (m:Bool):p=eF ⟨Rat.divInt n d,m⟩:=by
 unfold encD at h;rcases hd:Nat.beq d 0 with _ | _
 · rw [hd] at h;exact aer (fun e=>by rw [e] at hd; cases hd) h m
 · rw [hd] at h; cases h
def encT (s:List Nat):Option PV:=bif isZ (chk s) && byB s 1000 then
 frcI (if negT s=true then -(valT (numP s):Int) else valT (numP s)) fun n=>frcN (if frT s=true then valT (denP s) else 1) fun d=>encD n d else none
theorem encT_ok {s:List Nat} {p:PV} (h:encT s=some p):p=eF ⟨valQ s,false⟩∧chk s=0∧s.length≤1048576:=by
 unfold encT at h;simp only [Bool.cond_eq_ite,atA,aik] at h
 split at h
 case isFalse=>cases h
 rename_i hc;rw [Bool.and_eq_true] at hc;obtain ⟨c1,c2⟩:=hc;obtain ⟨h1,h2⟩:=amH c2;refine ⟨?_,isZ_eq c1,by omega⟩;rw [valQ];exact encD_ok h false
def i64B:Int→Bool
 | .ofNat n=>Nat.blt n bigN
 | .negSucc n=>Nat.blt n bigN
theorem i64B_ok {z:Int} (h:i64B z=true):-9223372036854775808≤z∧z≤9223372036854775807:=by
 cases z with
 | ofNat n=>have:n < 9223372036854775808:=blt2 h; refine ⟨?_,?_⟩ <;> show _≤_ <;> simp only [Int.ofNat_eq_natCast] <;> omega
 | negSucc n=>have:n<9223372036854775808:=blt2 h; omega
def one1 (f:Nat) (a:PV):Option PV:=match a with
 | .int .i64 z=>bif Nat.beq f 116 && i64B z then encR z 1 else none
 | .str s=>bif Nat.beq f 166 then encT s else bif Nat.beq f 263 && byB s 1000 then some (.int .i64 (chk s)) else none
 | .st u [.str x,.str y]=>bif Nat.beq f 75 && (Nat.beq u 23 && (byB x 1000 && byB y 1000)) then some (.int .i64 (chkP ⟨x,y⟩)) else none
 | .st u [c,e]=>match decF (.st u [c,e]) with
  | some (n,d)=>bif Nat.beq f 163 then encR (-n) d else
   bif Nat.beq f 171 then some (.int .i64 (sgnZ n)) else
   bif Nat.beq f 162 then oDiv 1 1 n d else
   bif Nat.beq f 164 then some (.str (txR n d)) else
   bif Nat.beq f 106 then some (.bool false) else none
  | none=>none
 | _=>none
def two1 (f:Nat) (a b:PV):Option PV :=
 bif Nat.beq f 190 then two oAdd a b else
 bif Nat.beq f 167 then two oSub a b else
 bif Nat.beq f 170 then two oMul a b else
 bif Nat.beq f 117 then two oDiv a b else
 bif Nat.beq f 80 then two oCmp a b else none
def hk (f:Nat):List PV→Option PV
 | [a]=>one1 f a
 | [a,b]=>two1 f a b
 | _=>none
theorem dv1 (z:Int):Rat.divInt z ((1:Nat):Int)=(z:Rat):=by
 rw [show ((1:Nat):Int)=1 from rfl,Rat.divInt_eq_div];rw [show ((1:Int):Rat)=1 from rfl,Rat.div_def,show (1:Rat)⁻¹=1 from by decide +kernel,Rat.mul_one]
theorem bq {a b:Nat} (h:Nat.beq a b=true):a=b:=Nat.eq_of_beq_eq_true h
theorem one1_ok {f:Nat} {a v:PV} (h:one1 f a=some v):aab Tryz.prog f [a] v:=by
 unfold one1 at h
 split at h
 · rename_i z;simp only [Bool.cond_eq_ite] at h
   split at h
   · rename_i hc;rw [Bool.and_eq_true] at hc;obtain ⟨r1,r2⟩:=i64B_ok hc.2;rw [bq hc.1,aer (by decide) h true];have:=c_F z r1 r2;rw [NF.int] at this;rw [dv1];exact this
   · cases h
 · rename_i s;simp only [Bool.cond_eq_ite] at h
   split at h
   · rename_i hf;obtain ⟨e1,e2,e3⟩:=encT_ok h;rw [bq hf,e1];exact auA s e2 e3
   · split at h
     · rename_i hc;rw [Bool.and_eq_true] at hc;obtain ⟨h1,h2⟩:=amH hc.2;simp only [Option.some.injEq] at h; subst h;rw [bq hc.1];exact auB s (by omega) h2
     · cases h
 · rename_i u x y;simp only [Bool.cond_eq_ite] at h
   split at h
   · rename_i hc;simp only [Bool.and_eq_true] at hc;obtain ⟨c1,c2,c3,c4⟩:=hc;obtain ⟨h1,h2⟩:=amH c3;obtain ⟨h3,h4⟩:=amH c4;simp only [Option.some.injEq] at h; subst h;rw [bq c1,bq c2];exact abV ⟨x,y⟩ ⟨⟨by show x.length≤_; omega,h2⟩,⟨by show y.length≤_; omega,h4⟩⟩
   · cases h
 · rename_i u c e _
   split at h
   case h_2=>cases h
   rename_i n d hd;obtain ⟨p1,p2,p3⟩:=an2 hd;rw [p1];simp only [Bool.cond_eq_ite] at h
   split at h
   · rename_i hf;rw [bq hf,aer p2 h false,← Rat.neg_divInt];exact apY _ p3
   split at h
   · rename_i hf;simp only [Option.some.injEq] at h; subst h;rw [bq hf,← ahv n p2];exact aod _
   split at h
   · rename_i hf;obtain ⟨e1,e2⟩:=ay7 (by decide) p2 h;have e3:(fr 1 1).div (fr n d)=(fr n d).inv:=by
      rw [NF.div,NF.inv,fr,fr];dsimp only;rw [dv1,Rat.div_def];rw [show ((1:Int):Rat)=1 from rfl,Rat.one_mul]
     rw [bq hf,e1,e3];exact apZ _ p3 e2
   split at h
   · rename_i hf;simp only [Option.some.injEq] at h; subst h;rw [bq hf,txR_eq hd p2];exact ajN _ p3
   split at h
   · rename_i hf;simp only [Option.some.injEq] at h; subst h;rw [bq hf];have hl:=akR _ p3;obtain ⟨hg,h1,h2⟩:=apO hd;obtain ⟨e1,e2⟩:=apE p2 hg;have hn:∀ k,k<10 ^ 80→lgN k=false:=fun k hk=>by
      rw [lgN,decide_eq_false_iff_not];have h80:nd k≤80:=Nat.not_lt.1 fun hh=>by have:=(akk _ _).1 hh; omega
      rw [aeZ];omega
     rw [lgQ,e1,e2,hn _ h1,hn _ h2] at hl;exact hl
   · cases h
 · cases h
theorem two1_ok {f:Nat} {a b v:PV} (h:two1 f a b=some v):aab Tryz.prog f [a,b] v:=by
 unfold two1 at h;simp only [Bool.cond_eq_ite] at h
 split at h
 · rename_i hf;obtain ⟨n,d,m,e,rfl,rfl,hd,he,o1,o2,ho⟩:=ak7 h;rw [bq hf,c_oAdd hd he ho]; exact aur _ _ o1 o2
 split at h
 · rename_i hf;obtain ⟨n,d,m,e,rfl,rfl,hd,he,o1,o2,ho⟩:=ak7 h;rw [bq hf,c_oSub hd he ho]; exact amD _ _ o1 o2
 split at h
 · rename_i hf;obtain ⟨n,d,m,e,rfl,rfl,hd,he,o1,o2,ho⟩:=ak7 h;rw [bq hf,c_oMul hd he ho]; exact agO _ _ o1 o2
 split at h
 · rename_i hf;obtain ⟨n,d,m,e,rfl,rfl,hd,he,o1,o2,ho⟩:=ak7 h;obtain ⟨e1,e2⟩:=ay7 hd he ho;rw [bq hf,e1]; exact aza _ _ o1 o2 e2
 split at h
 · rename_i hf;obtain ⟨n,d,m,e,rfl,rfl,hd,he,o1,o2,ho⟩:=ak7 h;rw [bq hf,c_oCmp hd he ho]; exact auq _ _ o1 o2
 · cases h
theorem hk_ok {f:Nat} {vs:List PV} {v:PV} (h:hk f vs=some v):aab Tryz.prog f vs v:=by
 unfold hk at h
 split at h
 · exact one1_ok h
 · exact two1_ok h
 · cases h
end Hk
namespace Hk
mutual
def samV:PV→PV→Bool
 | .int .i64 a,.int .i64 b=>eqZ a b
 | .int .u64 a,.int .u64 b=>eqZ a b
 | .bool a,.bool b=>a == b
 | .str a,.str b=>samN a b
 | .nsl,.nsl=>true
 | .nmap,.nmap=>true
 | .lst f a,.lst g b=>bif f == g then samL a b else false
 | .seq a,.seq b=>samL a b
 | .fmap a,.fmap b=>samM a b
 | .st u a,.st v b=>bif Nat.beq u v then samL a b else false
 | .tup a,.tup b=>samL a b
 | .func f a b,.func g c d=>bif Nat.beq f g then (bif samL a c then samL b d else false) else false
 | .fptr a,.fptr b=>samV a b
 | _,_=>false
def samL:List PV→List PV→Bool
 | [],[]=>true
 | a::l,b::m=>bif samV a b then samL l m else false
 | _,_=>false
def samM:List (PV×PV)→List (PV×PV)→Bool
 | [],[]=>true
 | (a,c)::l,(b,d)::m=>bif samV a b then (bif samV c d then samM l m else false) else false
 | _,_=>false
end
mutual
theorem ahy:∀ {a b:PV},samV a b=true→a=b
 | a,b,h=>by
  unfold samV at h
  split at h
  · rw [apJ h]
  · rw [apJ h]
  · rw [eq_of_beq h]
  · rw [am7 h]
  · rfl
  · rfl
  · rename_i f a g b;cases hf:f == g
    · rw [hf] at h; cases h
    · rw [hf,cond_true] at h; rw [eq_of_beq hf,aeh h]
  · rw [aeh h]
  · rw [ar3 h]
  · simp only [Bool.cond_eq_ite] at h
    split at h
    · rename_i hu; rw [Nat.eq_of_beq_eq_true hu,aeh h]
    · cases h
  · rw [aeh h]
  · simp only [Bool.cond_eq_ite] at h
    split at h
    · rename_i hu
      split at h
      · rename_i hv; rw [Nat.eq_of_beq_eq_true hu,aeh hv,aeh h]
      · cases h
    · cases h
  · rw [ahy h]
  · cases h
theorem aeh:∀ {a b:List PV},samL a b=true→a=b
 | [],[],_=>rfl
 | [],_::_,h=>by simp [samL] at h
 | _::_,[],h=>by simp [samL] at h
 | a::l,b::m,h=>by
  simp only [samL,Bool.cond_eq_ite] at h
  split at h
  · rename_i hv; rw [ahy hv,aeh h]
  · cases h
theorem ar3:∀ {a b:List (PV×PV)},samM a b=true→a=b
 | [],[],_=>rfl
 | [],_::_,h=>by simp [samM] at h
 | _::_,[],h=>by simp [samM] at h
 | (a,c)::l,(b,d)::m,h=>by
  simp only [samM,Bool.cond_eq_ite] at h
  split at h
  · rename_i hv
    split at h
    · rename_i hw; rw [ahy hv,ahy hw,ar3 h]
    · cases h
  · cases h
end
def al3:List (FuncId×List PV×PV)→FuncId→List PV→Option PV
 | [],f,vs=>hk f vs
 | (g,us,v)::r,f,vs=>bif Nat.beq g f then (bif samL us vs then some v else al3 r f vs) else al3 r f vs
def AllG:List (FuncId×List PV×PV)→Prop
 | []=>True
 | (g,us,v)::r=>aab Tryz.prog g us v∧AllG r
theorem afY:∀ {l m:List (FuncId×List PV×PV)},AllG l→AllG m→AllG (l ++ m)
 | [],_,_,h=>h
 | _::_,_,h,h'=>⟨h.1,afY h.2 h'⟩
theorem ah9:∀ {l:List (FuncId×List PV×PV)},AllG l→∀ f vs v,al3 l f vs=some v→aab Tryz.prog f vs v
 | [],_,f,vs,v,h=>hk_ok h
 | (g,us,w)::r,ha,f,vs,v,h=>by
  simp only [al3,Bool.cond_eq_ite] at h
  split at h
  · rename_i hg
    split at h
    · rename_i hs;simp only [Option.some.injEq] at h;subst h;rw [← aeh hs,← Nat.eq_of_beq_eq_true hg]; exact ha.1
    · exact ah9 ha.2 f vs v h
  · exact ah9 ha.2 f vs v h
def isR (v:PV):Option PV→Bool
 | some w=>samV v w
 | none=>false
theorem isR_eq {v:PV} {o:Option PV} (h:isR v o=true):o=some v:=by
 cases o with
 | none=>cases h
 | some w=>rw [ahy h]
def pol0:FuncId→FuncId→Nat:=fun _ _=>0
theorem aau (l:List (FuncId×List PV×PV)) (hl:AllG l) {f:FuncId} {vs:List PV} {v:PV} (h:isR v (run0 (al3 l) pol0 f vs)=true):aab Tryz.prog f vs v:=asb (ah9 hl) (isR_eq h)
end Hk
namespace Aw4
def T:PV:=.st 54 [.lst true [.st 178 [.int .i64 0,.int .i64 0],.st 178 [.int .i64 2000,.int .i64 0],.st 178 [.int .i64 2000,.int .i64 1000],.st 178 [.int .i64 0,.int .i64 1000]],.int .i64 30,.lst true [.st 160 [.str [97],.int .i64 0,.str [48],.str [49,47,50,48]],.st 160 [.str [99],.int .i64 1,.str [57,47,50,48],.str [49,49,47,50,48]]],.nsl]
def B:PV:=.lst true [.st 123 [.str [99,117,101],.st 23 [.str [53,48,48],.str [53,48,48]]],.st 123 [.str [111,110,101],.st 23 [.str [49,48,48,48],.str [53,48,48]]],.st 123 [.str [116,119,111],.st 23 [.str [49,48,48,48],.str [55,48,48]]]]
def cue:PV:=.str [99,117,101]
def one:PV:=.str [111,110,101]
def X:PV:=.st 80 [T,B,cue,one]
def Y:PV:=.st 196 [.st 194 [T,B,.fmap [(.str [99,117,101],.st 132 [.st 130 [.st 128 [.int .i64 500,.nsl],.st 128 [.int .i64 1,.nsl]],.st 130 [.st 128 [.int .i64 500,.nsl],.st 128 [.int .i64 1,.nsl]]]),(.str [111,110,101],.st 132 [.st 130 [.st 128 [.int .i64 1000,.nsl],.st 128 [.int .i64 1,.nsl]],.st 130 [.st 128 [.int .i64 500,.nsl],.st 128 [.int .i64 1,.nsl]]]),(.str [116,119,111],.st 132 [.st 130 [.st 128 [.int .i64 1000,.nsl],.st 128 [.int .i64 1,.nsl]],.st 130 [.st 128 [.int .i64 700,.nsl],.st 128 [.int .i64 1,.nsl]]])],.st 130 [.st 128 [.int .i64 3600,.nsl],.st 128 [.int .i64 1,.nsl]]],.st 80 [T,B,.str [99,117,101],.str [111,110,101]]]
def WR:PV:=.lst false (.int .i64 0::[.int .i64 1,.int .i64 2,.int .i64 3,.int .i64 4,.int .i64 5,.int .i64 6,.int .i64 7,.int .i64 8,.int .i64 9,.int .i64 10,.int .i64 11,.int .i64 12,.int .i64 13,.int .i64 14,.int .i64 15,.int .i64 16,.int .i64 17,.int .i64 18,.int .i64 19,.int .i64 20,.int .i64 21,.int .i64 22,.int .i64 23,.int .i64 24,.int .i64 25,.int .i64 26,.int .i64 27,.int .i64 28,.int .i64 29,.int .i64 30,.int .i64 31,.int .i64 32] ++ [.int .i64 33,.int .i64 34,.int .i64 35,.int .i64 36,.int .i64 37,.int .i64 38,.int .i64 39,.int .i64 40,.int .i64 41,.int .i64 42,.int .i64 43,.int .i64 44,.int .i64 45,.int .i64 46,.int .i64 47,.int .i64 48,.int .i64 49,.int .i64 50,.int .i64 51,.int .i64 52,.int .i64 53,.int .i64 54,.int .i64 55,.int .i64 56,.int .i64 57,.int .i64 58,.int .i64 59,.int .i64 60,.int .i64 61,.int .i64 62,.int .i64 63,.int .i64 64])
def k0:List (FuncId×List PV×PV):=[]
theorem k0_ok:Hk.AllG k0:=trivial
theorem g1:aab Tryz.prog 99 [T] (.int .i64 0):=Hk.aau k0 k0_ok (by kernel_rfl)
theorem g2:aab Tryz.prog 131 [T,B] (.int .i64 0):=Hk.aau k0 k0_ok (by kernel_rfl)
def k1:List (FuncId×List PV×PV):=[(99,[T],.int .i64 0),(131,[T,B],.int .i64 0)]
theorem k1_ok:Hk.AllG k1:=⟨g1,g2,trivial⟩
theorem g3:aab Tryz.prog 126 [X] (.tup [Y,.int .i64 0]):=Hk.aau k1 k1_ok (by kernel_rfl)
def k2:List (FuncId×List PV×PV):=[(126,[X],.tup [Y,.int .i64 0])] ++ k1
theorem abv:Hk.AllG k2:=Hk.afY (l:=[(126,[X],.tup [Y,.int .i64 0])]) ⟨g3,trivial⟩ k1_ok
end Aw4
end Go.Abs
