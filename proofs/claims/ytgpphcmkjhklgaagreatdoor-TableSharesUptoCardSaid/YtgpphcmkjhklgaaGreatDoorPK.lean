import Derived.Test.YtgpphcmkjhklgaaGreatDoorPH
import Derived.Test.YtgpphcmkjhklgaaGreatDoorPJ
import Derived.Test.YtgpphcmkjhklgaaGreatDoorPG
import Derived.Shelf.Strings.Builder1
import Derived.Shelf.Strings.Builder2
import Derived.Shelf.Strings.OnBuilder
import Derived.Shelf.Strings.Trim
import Derived.Shelf.Small.Utf8
import Derived.Shelf.Small.Bits
import Derived.Shelf.Small.Strs
import Derived.Shelf.Small.Wraps
import Derived.Shelf.Strings.BuilderF
import Derived.Shelf.Utf8.RuneCount
import Derived.Shelf.Strings.Builder2Cap
import Derived.Shelf.Strconv.Atoi
import Derived.Shelf.Strconv.Itoa0
import Derived.Shelf.Strconv.Itoa1
import Derived.Shelf.LaysM
import Derived.Shelf.Strconv.Itoa2
import Derived.Shelf.Strconv.Itoa3
import Derived.Shelf.Strconv.AtoiErrFast
import Derived.Shelf.Strconv.ParseIntEmpty
import Derived.Shelf.Strconv.AtoiFail
import Derived.Shelf.Strconv.Clone
import Derived.Shelf.Strconv.SyntaxError
import Derived.Shelf.LaysC
import Derived.Shelf.Strconv.ToError
import Derived.Shelf.Strconv.Lower
import Derived.Shelf.Strconv.ParseUint10
import Derived.Shelf.Strconv.ParseUint10Empty
import Derived.Shelf.Strconv.ParseUint10Any
import Derived.Shelf.Strconv.ParseInt10
import Derived.Shelf.Strconv.AtoiLong
import Derived.Shelf.Strconv.AtoiInnerAll
import Derived.Shelf.Strconv.RangeError
import Derived.Shelf.Strconv.ToErrorRange
import Derived.Shelf.Strconv.AtoiAll
import Derived.Shelf.Strconv.ParseUintEmpty
import Derived.Shelf.Strings.Search1
import Derived.Shelf.Strings.Search2
import Derived.Shelf.Strings.Search3
import Derived.Shelf.Strings.Cut
import Derived.Shelf.Strings.Count
import Derived.Shelf.Strings.Shaped
import Derived.Shelf.Strings.Prefix
import Derived.Shelf.Strings.Split
import Derived.Shelf.Strings.SplitShaped
import Derived.Shelf.Unicode.Decode
import Derived.Shelf.Strings.Runes
import Derived.Shelf.Strings.RuneCount
import Derived.Shelf.Strings.AsciiSet
import Derived.Shelf.Strings.Explode
import Derived.Shelf.Bits.Mul64
import Derived.Shelf.Strings.Repeat
import Derived.Shelf.Unicode.DecodeSlow
import Derived.Shelf.Unicode.DecodeAny
import Derived.Shelf.Unicode.DecodeLast
import Derived.Shelf.Slices.Turned
import Derived.Ground.Names2Prog
import Derived.Shelf.Slices.SearchI
import Derived.Test.YtgpphcmkjhklgaaGreatDoorProg
import Derived.Shelf.SlGeneric
import Derived.Shelf.Spec.SlicesGrow
/- Parts of a proof. -/
set_option linter.unusedSimpArgs false
set_option linter.unusedVariables false
set_option linter.unusedSectionVars false
open Go.Proofs.Tryz
open Bool renaming cond_eq_ite->ab, and_eq_true->ac, or_eq_true->am
open Go renaming DataW->ao, FuncId->ap, World->av, Field->ax, Calls->ay
open Go.IntKind renaming i64->aT
open Go.Shelf renaming Ren->a1
open Go.Utf8 renaming decode->a6
open Int renaming natCast_mul->a7, tmod_eq_emod_of_nonneg->a8, negSucc->bb, natCast_emod->be, natCast_one->bi, natAbs_mul->bl, mul_nonneg->bo, ediv_one->bv
open List renaming getElem?_eq_getElem->b0, mem_of_getElem?->b1, getD_eq_getElem?_getD->b2, map_cons->b3, any_eq_true->b4, map_nil->b5, zip_cons_cons->cb, zip_nil_left->cc, getElem?_take->ce, findIdx?_eq_some_iff_getElem->ck, mem_map->cv, mem_range->cx, findIdx?_eq_none_iff->cy, mem_iff_getElem->c6, range->c9, range_succ->da, mem_cons->db
open Nat renaming eq_of_beq_eq_true->dg, beq->dk, mul_ne_zero->dl, blt->dp, blt_eq->dq, gcd->dz, lt_of_lt_of_le->ea, div_one->eb
open Option.some renaming injEq->ec
open Rat renaming divInt->ed, divInt_mul_divInt->ee, sub_add_cancel->ei, div_def->ej, zero_add->en, divInt_add_divInt->eo, add_lt_add_right->eq, neg_divInt->ew, mul_nonneg->ey, inv_divInt->e6
namespace Go.al
open Go.Proofs
set_option maxHeartbeats 4000000
set_option maxRecDepth 100000
namespace Hk
def jO:Nat:=9223372036854775808
def yf:Nat:=1606938044258990275541962092341162602522202993782792835301376
def oU{α:Type}(n:Nat)(f:Nat->α):α:=match n with
 |0=>f 0
 |k+1=>f (k+1)
theorem uT{α:Type}(n:Nat)(f:Nat->α):oU n f=f n:=by cases n<;>rfl
def yX{α:Type}(z:Int)(f:Int->α):α:=match z with
 | .ofNat n=>oU n fun n=>f (.ofNat n)
 | .negSucc n=>oU n fun n=>f (.negSucc n)
theorem KM{α:Type}(z:Int)(f:Int->α):yX z f=f z:=by cases z<;>simp[yX,uT]
def nC:Int->Bool
 | .ofNat n=>dp n jO
 | .negSucc n=>dp (n+1) jO
theorem yb{z:Int}:nC z=true↔z.natAbs<9223372036854775808:=by
 cases z with
 |ofNat n=>simp only[nC,dq,jO];exact Iff.rfl
 |negSucc n=>simp only[nC,dq,jO];exact Iff.rfl
def nw:Int->Int->Bool
 | .ofNat a,.ofNat b=>dk a b
 | .negSucc a,.negSucc b=>dk a b
 |_,_=>false
theorem yr:∀{a b:Int},nw a b=true->a=b
 | .ofNat a,.ofNat b,h=>by simp only[nw]at h;rw[dg h]
 | .negSucc a,.negSucc b,h=>by simp only[nw]at h;rw[dg h]
 | .ofNat a,.negSucc b,h=>by simp[nw]at h
 | .negSucc a,.ofNat b,h=>by simp[nw]at h
def sX(z:Int):Option PV:=bif nC z then some (eO z)else bif dk z.natAbs jO then none else some (jN z)
theorem xN{z:Int}{p:PV}(h:sX z=some p)(m:Bool):eI ⟨z,m⟩=p:=by
 unfold sX at h;rw[iF];rcases hs:nC z with _|_
 ·simp only[hs,cond_false]at h;rcases a:dk z.natAbs jO with _|_
  case true=>rw[a]at h;cases h
  ·have c:¬dk z.natAbs jO=true:=by rw[a];decide
   rw[a,cond_false]at h;simp only[ec]at h;have b:¬z.natAbs<9223372036854775808:=fun h=>by rw[yb.2 h]at hs;cases hs
   have d:z.natAbs≠9223372036854775808:=fun e=>c (by rw[e];rfl);rw[if_neg,h];simp only[NI.sm,am,decide_eq_true_eq,ac,not_or,not_and];exact⟨by omega,fun h=>by omega⟩
 ·simp only[hs,cond_true,ec]at h;have b:=yb.1 hs;rw[if_pos,h];simp only[NI.sm,am,decide_eq_true_eq,ac];exact .inl (by omega)
def vT:List PV->Option (List Nat)
 |[]=>some []
 | .int .u64 (.ofNat x)::r=>match vT r with
  |some l=>some (x::l)
  |none=>none
 |_=>none
theorem Lw:∀{l:List PV}{a:List Nat},vT l=some a->l=a.map fun x:Nat=>PV.int .u64 x
 |[],a,h=>by simp only[vT,ec]at h;subst h;rfl
 |v::r,a,h=>by
  unfold vT at h
  split at h
  ·rename_i e;cases e
  ·rename_i x c e;cases e
   split at h
   ·rename_i l b;simp only[ec]at h;subst h;rw[Lw b];rfl
   ·cases h
  ·cases h
def qY:List Nat->List Nat->Bool
 |[],[]=>true
 |x::a,y::b=>bif dk x y then qY a b else false
 |_,_=>false
theorem BD:∀{a b:List Nat},qY a b=true->a=b
 |[],[],_=>rfl
 |[],_::_,h=>by simp[qY]at h
 |_::_,[],h=>by simp[qY]at h
 |x::a,y::b,h=>by
  simp only[qY,ab]at h
  split at h
  ·rename_i hx;rw[dg hx,BD h]
  ·cases h
def yU:PV->Option Int
 | .st u [.int .i64 z,.aR]=>bif dk u 130 then(bif nC z then some z else none)else none
 | .st u [.int .i64 s,.seq l]=>match vT l with
  |some a=>oU (ij wB a) fun n=>bif dk u 130&&(dp jO n&&qY (aq wB n) a)then
   (bif nw s 1 then some (.ofNat n)else bif nw s (-1)then some (.negSucc (n-1))else none)else none
  |none=>none
 |_=>none
theorem KR{p:PV}{z:Int}(h:yU p=some z):p=eI ⟨z,false⟩:=by
 unfold yU at h
 split at h
 ·rename_i u y;simp only[ab]at h
  split at h
  ·rename_i g
   split at h
   ·rename_i hs;simp only[ec]at h;subst h;rw[dg g];exact(xN (by rw[sX,hs];rfl) false).symm
   ·cases h
  ·cases h
 ·rename_i u s l
  split at h
  ·rename_i i f;rw[uT]at h;have e:=Lw f;generalize ij wB i=n at h;simp only[ab]at h
   split at h
   ·rename_i hc;simp only[ac,dq]at hc;obtain⟨b,j,c⟩:=hc;have d:=BD c;have k:jO=9223372036854775808:=rfl;rw[dg b,e,<-d];have key:∀z:Int,z.natAbs=n->eI ⟨z,false⟩=jN z:=fun z m=>by
     refine xN ?_ false;have e1:nC z=false:=by
      rcases a:nC z with _|_
      ·rfl
      ·have:=yb.1 a;omega
     have e2:dk z.natAbs jO=false:=by
      rcases a:dk z.natAbs jO with _|_
      ·rfl
      ·have:=dg a;omega
     rw[sX,e1,e2];rfl
    split at h
    ·rename_i hs;simp only[ec]at h;subst h;rw[yr hs,key _ rfl,jN,if_neg (by show¬((n:Int)<0);omega)];rfl
    ·split at h
     ·rename_i hs;simp only[ec]at h;subst h;rw[yr hs,key _ (by show n-1+1=n;omega),jN,if_pos (by omega)];have:(bb (n-1)).natAbs=n:=by show n-1+1=n;omega
      rw[this];rfl
     ·cases h
   ·cases h
  ·cases h
 ·cases h
def Dl(n:Int)(d:Nat):Bool:=dp 0 d&&(dp n.natAbs yf&&(dp d yf&&dk (dz n.natAbs d) 1))
def oP:PV->Option (Int×Nat)
 | .st u [a,b]=>match yU a,yU b with
  |some n,some (.ofNat d)=>bif dk u 132&&Dl n d then some (n,d)else none
  |_,_=>none
 |_=>none
def fr(n:Int)(d:Nat):NF:=⟨ed n d,false⟩
theorem Tm:yf=2^200:=by decide
theorem BH{p:PV}{n:Int}{d:Nat}(h:oP p=some (n,d)):p=eF (fr n d)/\d≠0/\bE kB (fr n d).q:=by
 unfold oP at h
 split at h
 case h_2=>cases h
 rename_i u a b
 split at h
 case h_2=>cases h
 rename_i c d' j k;simp only[ab]at h
 split at h
 case isFalse=>cases h
 rename_i hc;simp only[ec,Prod.mk.injEq]at h;obtain⟨rfl,rfl⟩:=h;simp only[Dl,ac,dq]at hc;obtain⟨c1,c2,c3,c4,c5⟩:=hc;have f:=dg c5;have e:d'≠0:=by omega
 obtain⟨e1,e2⟩:=kN (n:=c) e;rw[f]at e1 e2;simp only[bi,bv,eb]at e1 e2;rw[Tm]at c3 c4;refine⟨?_,e,(Bm e c3 c4).mono (by decide)⟩;rw[dg c1,KR j,KR k,eF];have g:(fr c d').num=⟨c,false⟩:=by rw[NF.num,fr,e1]
 have i:(fr c d').den=⟨(d':Int),false⟩:=by rw[NF.den,fr,e2];rfl
 rw[g,i];rfl
def mq(n:Int)(d:Nat):Option PV:=
 oU (dz n.natAbs d) fun g=>yX (n/g) fun n=>oU (d/g) fun d=>match sX n,sX (.ofNat d)with
  |some a,some b=>some (.st 132 [a,b])
  |_,_=>none
theorem oi{n:Int}{d:Nat}{p:PV}(i:d≠0)(h:mq n d=some p)(m:Bool):p=eF ⟨ed n d,m⟩:=by
 obtain⟨e1,e2⟩:=kN (n:=n) i;simp only[mq,uT,KM]at h
 split at h
 case h_2=>cases h
 rename_i a b f g;simp only[ec]at h;subst h;rw[eF];have c:(NF.num ⟨ed n d,m⟩)=⟨n/(dz n.natAbs d:Nat),m⟩:=by rw[NF.num,e1]
 have e:(NF.den ⟨ed n d,m⟩)=⟨((d/dz n.natAbs d:Nat):Int),false⟩:=by rw[NF.den,e2];rfl
 rw[c,e,xN f,<-xN g false];rfl
def two(op:Int->Nat->Int->Nat->Option PV)(a b:PV):Option PV:=match oP a,oP b with
 |some (n,d),some (m,e)=>op n d m e
 |_,_=>none
theorem uX{op:Int->Nat->Int->Nat->Option PV}{a b p:PV}(h:two op a b=some p):
 ∃n d m e,a=eF (fr n d)/\b=eF (fr m e)/\d≠0/\e≠0/\bE kB (fr n d).q/\bE kB (fr m e).q/\op n d m e=some p:=by
 unfold two at h
 split at h
 case h_2=>cases h
 rename_i n d m e j k;obtain⟨c,a2,a3⟩:=BH j;obtain⟨f,g,i⟩:=BH k;exact⟨n,d,m,e,c,f,a2,g,a3,i,h⟩
def OH(n:Int)(d:Nat)(m:Int)(e:Nat):Option PV:=mq (n*e+m*d) (d*e)
def OJ(n:Int)(d:Nat)(m:Int)(e:Nat):Option PV:=mq (n*e-m*d) (d*e)
def OI(n:Int)(d:Nat)(m:Int)(e:Nat):Option PV:=mq (n*m) (d*e)
def zj:Int->Int
 | .ofNat n=>bif dk n 0 then 0 else 1
 | .negSucc _=>-1
theorem J8(z:Int):zj z=if z<0 then -1 else if z=0 then 0 else 1:=by
 cases z with
 |ofNat n=>
  rw[if_neg (by simp)];cases n with
  |zero=>rfl
  |succ n=>rw[if_neg (by simp;omega)];rfl
 |negSucc n=>rw[if_pos (by omega)];rfl
def Di(n:Int)(d:Nat)(m:Int)(e:Nat):Option PV:=some (.int .i64 (zj (n*e-m*d)))
def za(n:Int)(d:Nat)(m:Int)(e:Nat):Option PV:=match m with
 | .ofNat k=>bif dk k 0 then none else mq (n*e) (d*k)
 | .negSucc k=>mq (-(n*e)) (d*(k+1))
theorem sW{d:Nat}(h:d≠0):(d:Int)≠0:=by omega
theorem WI{n m:Int}{d e:Nat}{p:PV}(a:d≠0)(b:e≠0)(h:OH n d m e=some p):p=eF ((fr n d).add (fr m e)):=by
 rw[NF.add,fr,fr];dsimp only;rw[eo _ _ (sW a) (sW b)];have:=oi (dl a b) h;rw[a7]at this;exact this _
theorem WL{n m:Int}{d e:Nat}{p:PV}(a:d≠0)(b:e≠0)(h:OJ n d m e=some p):p=eF ((fr n d).sub (fr m e)):=by
 rw[NF.sub,NF.add,NF.neg,fr,fr];dsimp only;rw[ew,eo _ _ (sW a) (sW b)];have:=oi (dl a b) h;rw[a7]at this;rw[Int.neg_mul,<-Int.sub_eq_add_neg];exact this _
theorem WK{n m:Int}{d e:Nat}{p:PV}(a:d≠0)(b:e≠0)(h:OI n d m e=some p):p=eF ((fr n d).mul (fr m e)):=by
 rw[NF.mul,fr,fr];dsimp only;rw[ee];have:=oi (dl a b) h;rw[a7]at this;exact this _
theorem VJ(x y:Rat):du x y=if x-y<0 then -1 else if x-y=0 then 0 else 1:=by
 have b:x-y<0↔x<y:=by
  constructor
  ·intro h;have a:=(eq (c:=y)).2 h
   rwa [ei,en]at a
  ·intro h;refine(eq (c:=y)).1 ?_
   rwa [ei,en]
 have a:x-y=0↔x=y:=by
  constructor
  ·intro h;have d:=congrArg (·+y) h
   simpa[ei,en]using d
  ·intro h;rw[h,Rat.sub_self]
 simp only[du,b,a]
theorem AO(n:Int){d:Nat}(i:d≠0):(if ed n d<0 then(-1:Int)else if ed n d=0 then 0 else 1)=zj n:=by
 rw[Cm,J8];obtain⟨e1,-⟩:=kN (n:=n) i;have k:0<dz n.natAbs d:=Nat.gcd_pos_of_pos_right _ (by omega);have j:((dz n.natAbs d:Nat):Int)∣n:=by
  rw[Int.ofNat_dvd_left];exact Nat.gcd_dvd_left _ _
 obtain⟨c,hc⟩:=j;rw[e1];generalize dz n.natAbs d=g at*;have a:(0:Int)<g:=by omega
 subst hc;rw[Int.mul_ediv_cancel_left _ (by omega)];have b:(g:Int)*c<0↔c<0:=by
  constructor
  ·intro h;refine Int.not_le.1 fun f=>?_;have:=bo (Int.le_of_lt a) f;omega
  ·intro h;exact Int.mul_neg_of_pos_of_neg a h
 have e:(g:Int)*c=0↔c=0:=by
  rw[Int.mul_eq_zero];constructor
  ·rintro(h|h)
   ·omega
   ·exact h
  ·exact fun h=>.inr h
 simp only[b,e]
theorem WJ{n m:Int}{d e:Nat}{p:PV}(a:d≠0)(b:e≠0)(h:Di n d m e=some p):p=.int .i64 (du (fr n d).q (fr m e).q):=by
 simp only[Di,ec]at h;rw[<-h,VJ,fr,fr];dsimp only;rw[Rat.divInt_sub_divInt _ _ (sW a) (sW b),<-a7,AO _ (dl a b)]
theorem Me{n m:Int}{d e:Nat}{p:PV}(a:d≠0)(c:e≠0)(h:za n d m e=some p):p=eF ((fr n d).div (fr m e))/\(fr m e).q≠0:=by
 have b:m≠0->(fr m e).q≠0:=fun g hq=>by
  rw[fr]at hq;dsimp only at hq;have:=AO m c;rw[hq,if_neg (by decide),if_pos rfl,J8]at this
  split at this
  ·omega
  ·first
     |omega
     |(rw[if_neg g]at this;omega)
 rw[NF.div,fr,fr];dsimp only;unfold za at h;cases m with
 |ofNat k=>
  simp only[ab]at h
  split at h
  ·cases h
  ·rename_i hk;have f:k≠0:=fun e=>hk (by rw[e];rfl);have:=oi (dl a f) h;refine⟨?_,b (by show(k:Int)≠0;omega)⟩;have e:(ed n d:Rat)/ed (Int.ofNat k) e=ed (n*e) (d*k):=by
    rw[ej,e6,ee];rfl
   rw[e];rw[a7]at this;exact this _
 |negSucc k=>
  dsimp only at h;have:=oi (dl a (Nat.succ_ne_zero k)) h;refine⟨?_,b (by omega)⟩;have e:(ed n d:Rat)/ed (bb k) e=ed (-(n*e)) ((d:Int)*((k+1:Nat):Int)):=by
   rw[ej,e6,ee];rw[show bb k= -((k+1:Nat):Int)from rfl,Int.mul_neg];rw[Rat.divInt_neg']
  rw[e];rw[a7]at this;exact this _
def y9:Nat->Nat->Nat
 |0,_=>0
 |f+1,n=>bif dk n 0 then 0 else y9 f (n/10)+1
theorem Wl{a b:Nat}(h:a<b):dp a b=true:=by rw[dq];exact h
theorem yS{a b:Nat}(h:dp a b=true):a<b:=by rw[dq]at h;exact h
theorem L4:∀(f n:Nat),n<10^f->y9 f n=nd n
 |0,n,h=>by
  have:n=0:=by simpa using h
  subst this;rw[nd];rfl
 |f+1,n,h=>by
  rw[y9,nd]
  by_cases a:n=0
  ·subst a;rfl
  ·have b:dk n 0=false:=by
    rcases c:dk n 0 with _|_
    ·rfl
    ·exact(a (dg c)).elim
   rw[b,cond_false,dif_neg a,L4 f (n/10) (by rw[Nat.div_lt_iff_lt_mul (by omega)];rw[Nat.pow_succ]at h;exact h)]
def tv(n:Nat):List Nat:=oU (y9 80 n) fun k=>bif dp 1 k then low k n else low 1 n
theorem yw{n:Nat}(h:n<10^80):tv n=aW n:=by
 rw[tv,uT,L4 _ _ h,aW];rcases a:dp 1 (nd n)with _|_
 ·have:¬1<nd n:=fun b=>by rw[Wl b]at a;cases a
  rw[cond_false,Nat.max_eq_left (by omega)]
 ·have:1<nd n:=yS a;rw[cond_true,Nat.max_eq_right (by omega)]
def DB:Int->List Nat
 | .ofNat n=>tv n
 | .negSucc n=>45::tv (n+1)
theorem aDH{z:Int}(h:z.natAbs<10^80):DB z=bD z:=by
 cases z with
 |ofNat n=>rw[bD,if_neg (by show¬((n:Int)<0);omega)];exact yw h
 |negSucc n=>rw[bD,if_pos (by omega)];exact congrArg (45::·) (yw h)
def DA(n:Int)(d:Nat):List Nat:=bif dk d 1 then DB n else DB n++47::tv d
theorem Jq{n:Int}{d:Nat}(a:d≠0)(b:dz n.natAbs d=1):(fr n d).q.num=n/\(fr n d).q.den=d:=by
 obtain⟨e1,e2⟩:=kN (n:=n) a;rw[b]at e1 e2;simp only[bi,bv,eb]at e1 e2;exact⟨e1,e2⟩
theorem Jv{p:PV}{n:Int}{d:Nat}(h:oP p=some (n,d)):dz n.natAbs d=1/\n.natAbs<10^80/\d<10^80:=by
 unfold oP at h
 split at h
 case h_2=>cases h
 split at h
 case h_2=>cases h
 simp only[ab]at h
 split at h
 case isFalse=>cases h
 rename_i hc;simp only[ec,Prod.mk.injEq]at h;obtain⟨rfl,rfl⟩:=h;simp only[Dl,ac,dq]at hc;obtain⟨c1,c2,c3,c4,c5⟩:=hc;have a:yf<10^80:=by decide
 exact⟨dg c5,by omega,by omega⟩
theorem aDE{p:PV}{n:Int}{d:Nat}(h:oP p=some (n,d))(f:d≠0):DA n d=bf (fr n d).q:=by
 obtain⟨g,b,c⟩:=Jv h;obtain⟨e1,e2⟩:=Jq f g;rw[DA,bf,e1,e2,aDH b,yw c];rcases a:dk d 1 with _|_
 ·rw[cond_false,if_neg (fun e=>by rw[e]at a;cases a)]
 ·rw[cond_true,if_pos (dg a)]
def oO:List Nat->Nat->Bool
 |[],_=>true
 |c::r,f=>match f with
  |0=>false
  |f+1=>bif dp c 256 then oO r f else false
theorem u4:∀{s:List Nat}{f:Nat},oO s f=true->s.length<=f/\∀c∈s,c<256
 |[],_,_=>⟨Nat.zero_le _,fun c hc=>by cases hc⟩
 |c::r,0,h=>by simp[oO]at h
 |c::r,f+1,h=>by
  simp only[oO,ab]at h
  split at h
  ·rename_i hc;obtain⟨b,a⟩:=u4 h;refine⟨by simp;omega,fun x hx=>?_⟩;rcases db.1 hx with rfl|hx
   ·exact yS hc
   ·exact a x hx
  ·cases h
def OC(z:Int):Bool:=match z with
 | .ofNat n=>dk n 0
 |_=>false
theorem ayd{z:Int}(h:OC z=true):z=0:=by
 cases z with
 |ofNat n=>rw[dg (show dk n 0=true from h)];rfl
 |negSucc n=>cases h
def CW(n:Int)(d:Nat):Option PV:=bif dk d 0 then none else mq n d
theorem XO{n:Int}{d:Nat}{p:PV}(h:CW n d=some p)(m:Bool):p=eF ⟨ed n d,m⟩:=by
 unfold CW at h;rcases a:dk d 0 with _|_
 ·rw[a]at h;exact oi (fun e=>by rw[e]at a;cases a) h m
 ·rw[a]at h;cases h
def CX(s:List Nat):Option PV:=bif OC (bI s)&&oO s 1000 then
 yX (if bP s=true then -(aV (bA s):Int)else aV (bA s)) fun n=>oU (if dP s=true then aV (bJ s)else 1) fun d=>CW n d else none
theorem XP{s:List Nat}{p:PV}(h:CX s=some p):p=eF ⟨aL s,false⟩/\bI s=0/\s.length<=1048576:=by
 unfold CX at h;simp only[ab,KM,uT]at h
 split at h
 case isFalse=>cases h
 rename_i hc;rw[ac]at hc;obtain⟨c1,c2⟩:=hc;obtain⟨a,b⟩:=u4 c2;refine⟨?_,ayd c1,by omega⟩;rw[aL];exact XO h false
def Nz:Int->Bool
 | .ofNat n=>dp n jO
 | .negSucc n=>dp n jO
theorem Ye{z:Int}(h:Nz z=true):-9223372036854775808<=z/\z<=9223372036854775807:=by
 cases z with
 |ofNat n=>have:n<9223372036854775808:=yS h;refine⟨?_,?_⟩<;>show _<=_<;>simp only[Int.ofNat_eq_natCast]<;>omega
 |negSucc n=>have:n<9223372036854775808:=yS h;omega
def Dn(f:Nat)(a:PV):Option PV:=match a with
 | .int .i64 z=>bif dk f 68&&Nz z then mq z 1 else none
 | .str s=>bif dk f 93 then CX s else bif dk f 174&&oO s 1000 then some (.int .i64 (bI s))else none
 | .st u [.str x,.str y]=>bif dk f 106&&(dk u 41&&(oO x 1000&&oO y 1000))then some (.int .i64 (dA ⟨x,y⟩))else none
 | .st u [c,e]=>match oP (.st u [c,e])with
  |some (n,d)=>bif dk f 206 then mq (-n) d else
   bif dk f 109 then some (.int .i64 (zj n))else
   bif dk f 169 then za 1 1 n d else
   bif dk f 168 then some (.str (DA n d))else
   bif dk f 167 then some (.bool false)else none
  |none=>none
 |_=>none
def tu(f:Nat)(a b:PV):Option PV:=
 bif dk f 70 then two OH a b else
 bif dk f 166 then two OJ a b else
 bif dk f 165 then two OI a b else
 bif dk f 73 then two za a b else
 bif dk f 110 then two Di a b else none
def hk(f:Nat):List PV->Option PV
 |[a]=>Dn f a
 |[a,b]=>tu f a b
 |_=>none
theorem Nl(z:Int):ed z ((1:Nat):Int)=(z:Rat):=by
 rw[show((1:Nat):Int)=1 from rfl,Rat.divInt_eq_div];rw[show((1:Int):Rat)=1 from rfl,ej,show(1:Rat)⁻¹=1 from by decide+kernel,Rat.mul_one]
theorem bq{a b:Nat}(h:dk a b=true):a=b:=dg h
theorem azZ{f:Nat}{a v:PV}(h:Dn f a=some v):az prog f [a] v:=by
 unfold Dn at h
 split at h
 ·rename_i z;simp only[ab]at h
  split at h
  ·rename_i hc;rw[ac]at hc;obtain⟨w,A⟩:=Ye hc.2;rw[bq hc.1,oi (by decide) h true];have:=vA z w A;rw[NF.int]at this;rw[Nl];exact this
  ·cases h
 ·rename_i s;simp only[ab]at h
  split at h
  ·rename_i hf;obtain⟨e1,e2,e3⟩:=XP h;rw[bq hf,e1];exact lE s e2 e3
  ·split at h
   ·rename_i hc;rw[ac]at hc;obtain⟨j,b⟩:=u4 hc.2;simp only[ec]at h;subst h;rw[bq hc.1];exact vt s (by omega) b
   ·cases h
 ·rename_i u x y;simp only[ab]at h
  split at h
  ·rename_i hc;simp only[ac]at hc;obtain⟨c1,c2,c3,c4⟩:=hc;obtain⟨j,b⟩:=u4 c3;obtain⟨B,p⟩:=u4 c4;simp only[ec]at h;subst h;rw[bq c1,bq c2];exact wz ⟨x,y⟩ ⟨⟨by show x.length<=_;omega,b⟩,⟨by show y.length<=_;omega,p⟩⟩
  ·cases h
 ·rename_i u c e _
  split at h
  case h_2=>cases h
  rename_i n d l;obtain⟨t,g,i⟩:=BH l;rw[t];simp only[ab]at h
  split at h
  ·rename_i hf;rw[bq hf,oi g h false,<-ew];exact JE _ i
  split at h
  ·rename_i hf;simp only[ec]at h;subst h;rw[bq hf,<-AO n g];exact vc _
  split at h
  ·rename_i hf;obtain⟨e1,e2⟩:=Me (by decide) g h;have e3:(fr 1 1).div (fr n d)=(fr n d).inv:=by
    rw[NF.div,NF.inv,fr,fr];dsimp only;rw[Nl,ej];rw[show((1:Int):Rat)=1 from rfl,Rat.one_mul]
   rw[bq hf,e1,e3];exact JF _ i e2
  split at h
  ·rename_i hf;simp only[ec]at h;subst h;rw[bq hf,aDE l g];exact xJ _ i
  split at h
  ·rename_i hf;simp only[ec]at h;subst h;rw[bq hf];have m:=xQ _ i;obtain⟨q,j,b⟩:=Jv l;obtain⟨e1,e2⟩:=Jq g q;have o:∀k,k<10^80->jT k=false:=fun k hk=>by
    rw[jT,decide_eq_false_iff_not];have C:nd k<=80:=Nat.not_lt.1 fun r=>by have:=(mi _ _).1 r;omega
    rw[pN];omega
   rw[vK,e1,e2,o _ j,o _ b]at m;exact m
  ·cases h
 ·cases h
theorem aDt{f:Nat}{a b v:PV}(h:tu f a b=some v):az prog f [a,b] v:=by
 unfold tu at h;simp only[ab]at h
 split at h
 ·rename_i hf;obtain⟨n,d,m,e,rfl,rfl,c,g,j,k,i⟩:=uX h;rw[bq hf,WI c g i];exact vw _ _ j k
 split at h
 ·rename_i hf;obtain⟨n,d,m,e,rfl,rfl,c,g,j,k,i⟩:=uX h;rw[bq hf,WL c g i];exact xZ _ _ j k
 split at h
 ·rename_i hf;obtain⟨n,d,m,e,rfl,rfl,c,g,j,k,i⟩:=uX h;rw[bq hf,WK c g i];exact oC _ _ j k
 split at h
 ·rename_i hf;obtain⟨n,d,m,e,rfl,rfl,c,g,j,k,i⟩:=uX h;obtain⟨e1,e2⟩:=Me c g i;rw[bq hf,e1];exact MN _ _ j k e2
 split at h
 ·rename_i hf;obtain⟨n,d,m,e,rfl,rfl,c,g,j,k,i⟩:=uX h;rw[bq hf,WJ c g i];exact sT _ _ j k
 ·cases h
theorem Ya{f:Nat}{vs:List PV}{v:PV}(h:hk f vs=some v):az prog f vs v:=by
 unfold hk at h
 split at h
 ·exact azZ h
 ·exact aDt h
 ·cases h
end Hk
theorem aDK{n:Nat}(h:n<10^80):bf ((n:Nat):Rat)=Hk.tv n:=by
 rw[Hk.yw h,bf,if_pos (by rfl),bD,if_neg (by show¬((n:Int)<0);omega)];rfl
structure dK where
 x:Int
 y:Int
 deriving DecidableEq
structure dG where
 name:List Nat
 eC:Int
 a:List Nat
 b:List Nat
structure dN where
 name:List Nat
 pt:fy
structure aw where
 cs:List dK
 b7:Int
 ba:List dG
 aC:List dN
def cB(p:dK):PV:=.st 107 [.int .i64 p.x,.int .i64 p.y]
def fa(p:dG):PV:=.st 52 [.str p.name,.int .i64 p.eC,.str p.a,.str p.b]
def dv(p:dN):PV:=.st 74 [.str p.name,ff p.pt]
def cN(t:aw):PV:=.st 25 [.seq (t.cs.map cB),.int .i64 t.b7,.seq (t.ba.map fa),.seq (t.aC.map dv)]
@[simp] theorem aHP(p:dK):aJ (cB p)=.agg 107:=rfl
@[simp] theorem aFX(p:dK):cj (cB p)=[.int .i64 p.x,.int .i64 p.y]:=rfl
@[simp] theorem aHq(p:dG):aJ (fa p)=.agg 52:=rfl
@[simp] theorem aFU(p:dG):cj (fa p)=[.str p.name,.int .i64 p.eC,.str p.a,.str p.b]:=rfl
@[simp] theorem aIf(p:dN):aJ (dv p)=.agg 74:=rfl
@[simp] theorem aFY(p:dN):cj (dv p)=[.str p.name,ff p.pt]:=rfl
@[simp] theorem aIl(t:aw):aJ (cN t)=.agg 25:=rfl
@[simp] theorem aF4(t:aw):cj (cN t)=[.seq (t.cs.map cB),.int .i64 t.b7,.seq (t.ba.map fa),.seq (t.aC.map dv)]:=rfl
@[simp] theorem aFm:prog.cellsOf 107=2:=by kernel_rfl
@[simp] theorem aFl:prog.cellsOf 52=4:=by kernel_rfl
@[simp] theorem aFn:prog.cellsOf 74=3:=by kernel_rfl
def fw(p:dK):Bool:=decide (10000<max p.x p.y)||decide (min p.x p.y< -10000)
theorem WC(p:dK):az prog 74 [cB p] (.bool (fw p)):=by
 obtain⟨x,y⟩:=p;refine aM nf Oc mix (by simp[f74]) ?_;have e1:max x y=if x<y then y else x:=by split<;>omega
 have e2:min x y=if y<x then y else x:=by split<;>omega
 rw[fw,e1,e2]
 by_cases h:(if x<y then y else x)<=10000
 ·have a:¬10000<(if x<y then y else x):=by omega
  by_cases b:(if y<x then y else x)< -10000
  ·simp[f74,ad,h,a,b]
  ·simp[f74,ad,h,a,b]
 ·have a:10000<(if x<y then y else x):=by omega
  simp[f74,ad,h,a]
def eH(p:dK):Prop:=-10000<=p.x/\p.x<=10000/\-10000<=p.y/\p.y<=10000
theorem DZ{p:dK}(h:fw p=false):eH p:=by
 simp only[fw,Bool.or_eq_false_iff,decide_eq_false_iff_not]at h;unfold eH;omega
def hJ(a b c:dK):Int:=(b.x-a.x)*(c.y-a.y)-(b.y-a.y)*(c.x-a.x)
theorem vW{a b:Int}{A B:Int}(c:-A<=a)(d:a<=A)(e:-B<=b)(f:b<=B):-(A*B)<=a*b/\a*b<=A*B:=by
 have k1:a.natAbs<=A.natAbs:=by omega
 have k2:b.natAbs<=B.natAbs:=by omega
 have k3:=Nat.mul_le_mul k1 k2;rw[<-bl,<-bl]at k3;have k4:0<=A*B:=bo (by omega) (by omega);omega
theorem P0(a b c:dK)(i:eH a)(j:eH b)(hc:eH c):az prog 170 [cB a,cB b,cB c] (.int .i64 (hJ a b c)):=by
 obtain⟨d,e⟩:=a;obtain⟨bx,f⟩:=b;obtain⟨g,h⟩:=c;simp only[eH]at i j hc;have k:aT.wrap (bx-d)=bx-d:=aN _ (by omega) (by omega);have l:aT.wrap (h-e)=h-e:=aN _ (by omega) (by omega);have m:aT.wrap (f-e)=f-e:=aN _ (by omega) (by omega)
 have n:aT.wrap (g-d)=g-d:=aN _ (by omega) (by omega);have r:=vW (a:=bx-d) (b:=h-e) (A:=20000) (B:=20000) (by omega) (by omega) (by omega) (by omega);have s:=vW (a:=f-e) (b:=g-d) (A:=20000) (B:=20000) (by omega) (by omega) (by omega) (by omega);have o:aT.wrap ((bx-d)*(h-e))=(bx-d)*(h-e):=aN _ (by omega) (by omega);have p:aT.wrap ((f-e)*(g-d))=(f-e)*(g-d):=aN _ (by omega) (by omega);have q:aT.wrap ((bx-d)*(h-e)-(f-e)*(g-d))=(bx-d)*(h-e)-(f-e)*(g-d):=aN _ (by omega) (by omega);refine aM nf MC mix (by simp[f170]) ?_;rw[hJ];simp[f170,ad,k,l,m,n,o,p,q]
def aw.nx(t:aw)(i:Nat):Nat:=(i+1)% t.cs.length
def aw.at(t:aw)(i:Nat):dK:=t.cs.getD i ⟨0,0⟩
theorem aw.get{t:aw}{i:Nat}(h:i<t.cs.length):t.cs[i]?=some (t.at i):=by
 rw[aw.at,b2,b0 h];rfl
@[simp] theorem aw.aK{t:aw}{i:Nat}(h:i<t.cs.length):t.cs[i]'h=t.at i:=by
 rw[aw.at,b2,b0 h];rfl
theorem aw.jz{t:aw}(h:0<t.cs.length)(i:Nat):t.nx i<t.cs.length:=Nat.mod_lt _ h
theorem zI(t:aw)(i:Nat)(h:i<t.cs.length)(g:t.cs.length<=1000000):az prog 56 [cN t,.int .i64 i] (cB (t.at (t.nx i))):=by
 have f:aT.wrap ((i:Int)+1)=(i:Int)+1:=aN _ (by omega) (by omega);have c:=t.jz (by omega) i;have e1:((i:Int)+1).tmod (t.cs.length:Int)=((t.nx i:Nat):Int):=by
  rw[aw.nx,be,a8 (by omega)];rfl
 have b:=aw.get c;have d:¬t.cs.length=0:=by omega
 have a:¬t.cs=[]:=by intro e;rw[e]at h;simp at h
 refine aM nf N2 mix (by simp[f56]) ?_;simp[f56,ad,f,e1,b,d,a]
def aw.mz(t:aw)(i:Nat)(m:Nat):Prop:=∀k,k<m->k≠i->k≠t.nx i->0<hJ (t.at i) (t.at (t.nx i)) (t.at k)
instance(t:aw)(i m:Nat):Decidable (t.mz i m):=inferInstanceAs (Decidable (∀k,k<m->_))
def aw.dS(t:aw):Bool:=decide (∀i,i<t.cs.length->t.mz i t.cs.length)
theorem aw.fx{t:aw}(h:∀p∈t.cs,eH p){i:Nat}(hi:i<t.cs.length):eH (t.at i):=h _ (b1 (aw.get hi))
theorem P9(t:aw)(x:t.cs.length<=1000000)(m:∀p∈t.cs,eH p):az prog 75 [cN t] (.bool t.dS):=by
 refine aM nf Od mix (by simp[f75]) ?_;generalize a:t.cs.length=n at*;simp[f75,ad,a];refine lp (α:=Nat) (fun i=>⟨[(4,.p (.int .i64 i)),(3,.p (.int .i64 n)),(1,.ptr 0 [])],[.box false (.p (cN t))]⟩) (fun i=>i<=n/\∀j,j<i->t.mz j n) (fun i=>n-i) 0 (by simp) ?_;rintro i ⟨v,q⟩
 by_cases hi:i<n
 ·simp[hi];refine lp (α:=Nat) (fun k=>⟨[(5,.p (.int .i64 k)),(4,.p (.int .i64 i)),(3,.p (.int .i64 n)),(1,.ptr 0 [])],[.box false (.p (cN t))]⟩) (fun k=>k<=n/\t.mz i k) (fun k=>n-k) 0 (by simp[aw.mz]) ?_;rintro k ⟨g1,g2⟩
  by_cases hk:k<n
  ·have r:=zI t i (by omega) (by omega);have y:t.nx i<n:=by rw[<-a];exact t.jz (by omega) i
   have d:=cH (i:=i) (by omega);have e:=cH (i:=k) (by omega);have e1:((i:Int)+1).tmod (n:Int)=((t.nx i:Nat):Int):=by
    rw[aw.nx,a,be,a8 (by omega)];rfl
   have s:=P0 (t.at i) (t.at (t.nx i)) (t.at k) (aw.fx m (by omega)) (aw.fx m (by omega)) (aw.fx m (by omega));have f:=aw.get (t:=t) (i:=i) (by omega);have gk:=aw.get (t:=t) (i:=k) (by omega);have o:¬n=0:=by omega
   by_cases c1:k=i
   ·subst c1;simp[hk,e];exact rd (k+1) ⟨hk,fun j g=>by
     by_cases l:j=k
     ·intro h;exact(h l).elim
     ·exact g2 j (by omega)⟩
   ·have b:¬(k:Int)=(i:Int):=by omega
    by_cases c2:k=t.nx i
    ·rw[<-c2]at e1;simp[hk,b,d,e,e1,o];exact rd (k+1) ⟨hk,fun j g=>by
      by_cases l:j=k
      ·intro _ h;exact(h (by omega)).elim
      ·exact g2 j (by omega)⟩
    ·have c:¬(k:Int)=((t.nx i:Nat):Int):=by omega
     by_cases c3:hJ (t.at i) (t.at (t.nx i)) (t.at k)<=0
     ·simp[hk,b,c,d,e,e1,o,f,gk,a,ad];refine Go.al.e2 r ?_;simp[hk,a,f,gk,b,c,ad];refine Go.al.e3 s ?_;simp[c3,b,c];have:t.dS=false:=by
       rw[aw.dS,decide_eq_false_iff_not];intro h;have:=h i (by omega) k (by omega) c1 c2;omega
      rw[this]
     ·simp[hk,b,c,d,e,e1,o,f,gk,a,ad];refine Go.al.e2 r ?_;simp[hk,a,f,gk,b,c,ad];refine Go.al.e3 s ?_;simp[c3,e,b,c];exact rd (k+1) ⟨hk,fun j g=>by
       by_cases l:j=k
       ·subst l;intro _ _;omega
       ·exact g2 j (by omega)⟩
  ·have:k=n:=by omega
   subst this;have d:=cH (i:=i) (by omega);simp[d];exact rd (i+1) ⟨hi,fun j g=>by
    by_cases u:j=i
    ·subst u;exact g2
    ·exact q j (by omega)⟩
 ·have w:i=n:=by omega
  have:t.dS=true:=by
   rw[aw.dS,decide_eq_true_eq,a];intro j g;exact q j (by omega)
  simp[hi,this]
def c8(p:dK):V2:=⟨(p.x:Rat),(p.y:Rat)⟩
theorem jd{p:dK}(h:eH p):cr 14 (c8 p):=by
 simp only[eH]at h;exact⟨Bl (by omega) (by decide),Bl (by omega) (by decide)⟩
theorem vX(p:dK)(h:eH p):az prog 55 [cB p] (eV (c8 p)):=by
 have c:=h;simp only[eH]at h;have a:=Cb p.x (by omega) (by omega);have b:=Cb p.y (by omega) (by omega);refine aM nf N1 mix (by simp[f55]) ?_;rw[c8,CU];simp[f55,ad];refine e1 a ?_;simp[ad];refine e1 b ?_;simp[ad]
def aw.dW(t:aw)(i:Nat):V2:=(c8 (t.at (t.nx i))).sub (c8 (t.at i))
def aw.side(t:aw)(i:Nat)(v:V2):Int:=dx ((t.dW i).fj (v.sub (c8 (t.at i))))
theorem aw.okW{t:aw}(h:∀p∈t.cs,eH p){i:Nat}(hi:i<t.cs.length):cr 29 (t.dW i):=kx (jd (aw.fx h (t.jz (by omega) i))) (jd (aw.fx h hi))
theorem Ww(t:aw)(i:Nat)(v:V2)(e:t.cs.length<=1000000)(b:∀p∈t.cs,eH p)(hi:i<t.cs.length)(d:cr 3000 v):az prog 112 [cN t,.int .i64 i,eV v] (.int .i64 (t.side i v)):=by
 have a:=aw.get hi;have c:=jd (aw.fx b hi);have n:=jd (aw.fx b (t.jz (by omega) i));have f:=vX (t.at i) (aw.fx b hi);have g:=zI t i hi e;have h:=vX (t.at (t.nx i)) (aw.fx b (t.jz (by omega) i));have j:=vy (c8 (t.at (t.nx i))) (c8 (t.at i)) (n.mono (by decide)) (c.mono (by decide));have k:=vy v (c8 (t.at i)) (d.mono (by decide)) (c.mono (by decide));have l:=PE (t.dW i) (v.sub (c8 (t.at i))) ((aw.okW b hi).mono (by decide)) ((kx d c).mono (by decide));have m:=sH ((t.dW i).fj (v.sub (c8 (t.at i)))) ((PA (aw.okW b hi) (kx d c)).mono (by decide));refine aM nf EU mix (by simp[f112]) ?_;rw[aw.side];simp[f112,ad,a,hi];refine e1 f ?_;simp[ad,a,hi];refine e2 g ?_;simp[ad,a,hi];refine e1 h ?_;simp[ad,a,hi];refine⟨by repeat' first|rfl|apply And.intro,?_⟩;refine e2 j ?_;simp[ad,a,hi];refine e2 k ?_;simp[ad,a,hi];refine e2 l ?_;simp[ad,a,hi];refine e1 m ?_;simp[ad,a,hi]
def aw.jr(t:aw)(v:V2)(m:Nat):Int:=(c9 m).foldl (fun o i=>min o (t.side i v)) 1
theorem aw.tG(t:aw)(v:V2)(m:Nat):t.jr v (m+1)=min (t.jr v m) (t.side m v):=by
 rw[aw.jr,da,List.foldl_append];rfl
def aw.on(t:aw)(v:V2):Int:=t.jr v t.cs.length
theorem Ek(a b:Int):min a b=if b<a then b else a:=by split<;>omega
theorem MX(t:aw)(v:V2)(b:t.cs.length<=1000000)(c:∀p∈t.cs,eH p)(d:cr 3000 v):az prog 42 [cN t,eV v] (.int .i64 (t.on v)):=by
 refine aM nf NW mix (by simp[f42]) ?_;simp[f42,ad];refine lp (α:=Nat) (fun i=>⟨[(6,.p (.int .i64 i)),(5,.p (.int .i64 (t.jr v i))),(3,.ptr 1 []),(2,.ptr 0 [])],[.box false (.p (cN t)),.box false (.p (eV v))]⟩) (fun i=>i<=t.cs.length) (fun i=>t.cs.length-i) 0 (by simp) ?_ (hh:=by simp[aw.jr]) (he:=by simp[aw.jr]);rintro i f
 by_cases hi:i<t.cs.length
 ·have a:=Ww t i v b c hi d;have e:=cH (i:=i) (by omega);have hs:=aw.tG t v i;rw[Ek]at hs;simp[hi,ad];refine c3 a ?_;simp[e,<-hs];exact rd (i+1) hi
 ·have:i=t.cs.length:=by omega
  subst this;simp[aw.on,ad]
def isLet(c:Int):Bool:=(decide (97<=c)&&decide (c<=122))||(decide (65<=c)&&decide (c<=90))
def iC(c:Int):Bool:=decide (48<=c)&&decide (c<=57)
def lH:Nat->List Nat->Bool
 |_,[]=>true
 |i,c::r=>(isLet c||(decide (i≠0)&&(iC c||decide ((c:Int)=95))))&&lH (i+1) r
def isName(s:List Nat):Bool:=decide (1<=s.length)&&decide (s.length<=24)&&lH 0 s
theorem cls(c:Int):(97<=c/\c<=122)\/(¬97<=c/\65<=c/\c<=90)\/(¬97<=c/\¬65<=c/\¬48<=c/\¬c=95)\/(¬97<=c/\¬65<=c/\48<=c/\c<=57/\¬c=95)\/(¬97<=c/\¬65<=c/\48<=c/\¬c<=57/\¬c=95)\/
 (¬97<=c/\65<=c/\¬c<=90/\48<=c/\¬c<=57/\c=95)\/(¬97<=c/\65<=c/\¬c<=90/\48<=c/\¬c<=57/\¬c=95)\/(97<=c/\¬c<=122/\65<=c/\¬c<=90/\48<=c/\¬c<=57/\¬c=95):=by omega
theorem DU(c:Int):az prog 211 [.int .i32 c] (.bool (isLet c)):=by
 refine aM nf Eh mix (by simp[f211]) ?_;rcases cls c with⟨a,b⟩|⟨a,b,d⟩|⟨a,b,d,e⟩|⟨a,b,d,e,f⟩|⟨a,b,d,e,f⟩|⟨a,b,d,e,f,g⟩|⟨a,b,d,e,f,g⟩|⟨a,b,d,e,f,g,h⟩<;>simp[f211,isLet, *]
theorem DQ{s:List Nat}{i:Nat}(hi:i<s.length):lH i (s.drop i)=((isLet s[i]||(decide (i≠0)&&(iC s[i]||decide ((s[i]:Int)=95))))&&lH (i+1) (s.drop (i+1))):=by
 rw[List.drop_eq_getElem_cons hi,lH]
theorem zz(s:List Nat)(h:s.length<=1048576):az prog 77 [.str s] (.bool (isName s)):=by
 refine aM nf Of mix (by simp[f77]) ?_;rcases zA s.length 1 with⟨g1,m⟩|⟨g1,m⟩
 ·have:s.length=0:=by omega
  simp[f77,g1,isName,this]
 rcases zA 24 s.length with⟨g2,n⟩|⟨g2,n⟩
 ·have:¬s.length<=24:=by omega
  simp[f77,g1,g2,isName,this]
 simp[f77,g1,g2];have e0:isName s=lH 0 s:=by simp[isName];omega
 refine lp (α:=Nat) (fun i=>⟨[(3,.p (.int .i64 i)),(0,.p (.str s))],[]⟩) (fun i=>i<=s.length/\isName s=lH i (s.drop i)) (fun i=>s.length-i) 0 (by simp[e0]) ?_;rintro i ⟨k1,k2⟩
 by_cases hi:i<s.length
 ·rw[DQ hi]at k2;have k:=cH (i:=i) (by omega);generalize hc:(s[i]:Int)=c at*
  by_cases j:i=0
  ·subst j;have l:aT.wrap 1=1:=aN 1 (by omega) (by omega);rcases cls c with⟨a,b⟩|⟨a,b,d⟩|⟨a,b,d,e⟩|⟨a,b,d,e,f⟩|⟨a,b,d,e,f⟩|⟨a,b,d,e,f,g⟩|⟨a,b,d,e,f,g⟩|⟨a,b,d,e,f,g,h⟩
   ·simp[isLet,a,b]at k2;simp[hi,hc,a,b,l];exact rd 1 ⟨hi,by simpa using k2⟩
   ·simp[isLet,a,b,d]at k2;simp[hi,hc,a,b,d,l];exact rd 1 ⟨hi,by simpa using k2⟩
   all_goals
    simp[isLet, *]at k2;simp[hi,hc, *]
  ·rcases cls c with⟨a,b⟩|⟨a,b,d⟩|⟨a,b,d,e⟩|⟨a,b,d,e,f⟩|⟨a,b,d,e,f⟩|⟨a,b,d,e,f,g⟩|⟨a,b,d,e,f,g⟩|⟨a,b,d,e,f,g,h⟩
   ·simp[isLet,a,b]at k2;simp[hi,hc,a,b,k];exact rd (i+1) ⟨hi,k2⟩
   ·simp[isLet,a,b,d]at k2;simp[hi,hc,a,b,d,k];exact rd (i+1) ⟨hi,k2⟩
   ·simp[isLet,iC,a,b,d,e]at k2;simp[hi,hc,j,a,b,d,e,k2]
   ·simp[isLet,iC,a,b,d,e,j]at k2;simp[hi,hc,j,a,b,d,e,k];exact rd (i+1) ⟨hi,k2⟩
   ·simp[isLet,iC,a,b,d,e,f]at k2;simp[hi,hc,j,a,b,d,e,f,k2]
   ·subst g;simp[isLet,iC,j]at k2;simp[hi,hc,j,k];exact rd (i+1) ⟨hi,k2⟩
   ·simp[isLet,iC,a,b,d,e,f,g]at k2;simp[hi,hc,j,a,b,d,e,f,g,k2]
   ·simp[isLet,iC,a,b,d,e,f,g,h]at k2;simp[hi,hc,j,a,b,d,e,f,g,h,k2]
 ·have:i=s.length:=by omega
  subst this;simp[lH]at k2;simp[k2]
theorem DO(s:List Nat):(fR s).size=s.length:=by
 show(s.map UInt8.ofNat).toArray.size=_;simp
theorem D9(s:List Nat)(b:∀c∈s,c<256)(i:Nat)(h:i<s.length)(a:i<(fR s).size):((fR s)[i]'a).toNat=s[i]:=by
 have e:(fR s)[i]'a=UInt8.ofNat s[i]:=by
  have:(fR s)[i]'a=(s.map UInt8.ofNat).toArray[i]'(by simpa using h):=rfl;rw[this];simp
 rw[e];have:=b s[i] (List.getElem_mem h);simp;omega
theorem XC{s:List Nat}(d:∀c∈s,c<256){i:Nat}(h:i<s.length)(b:s[i]<128):a6 (fR s) i=(s[i],1):=by
 have a:i<(fR s).size:=by rw[DO];exact h
 have e:=D9 s d i h a;rw[decode_ascii (fR s) i a (by rw[e];exact b),e]
theorem XB{s:List Nat}(b:∀c∈s,c<256){i:Nat}(h:i<s.length)(d:¬s[i]<128):128<=(a6 (fR s) i).1/\1<=(a6 (fR s) i).2:=by
 have a:i<(fR s).size:=by rw[DO];exact h
 have e:=D9 s b i h a;exact decode_high (fR s) i a (by rw[e];omega)
theorem D4(s:List Nat)(h:s.length<=1048576):az prog 133 [.str s] (.bool (isName s)):=by
 refine Qc fun l=>?_;have l:∀c∈s,c<256:=by simpa[lh,dM]using l
 refine aM nf FH mix (by simp[f133]) ?_;simp[f133];refine lp (α:=Nat) (fun i=>⟨[(6,.ptr 0 []),(0,.p (.str s))],[.dd s i]⟩) (fun i=>i<=s.length/\lH 0 s=lH i (s.drop i)) (fun i=>s.length-i) 0 (by simp) ?_;rintro i ⟨k1,k2⟩
 by_cases hi:i<s.length
 ·rw[DQ hi]at k2
  by_cases n:s[i]<128
  ·have m:=XC l hi n;simp[hi,m];refine c1 (DU _) ?_;generalize hc:(s[i]:Int)=c at*
   by_cases j:i=0
   ·rcases cls c with⟨a,b⟩|⟨a,b,d⟩|⟨a,b,d,e⟩|⟨a,b,d,e,f⟩|⟨a,b,d,e,f⟩|⟨a,b,d,e,f,g⟩|⟨a,b,d,e,f,g⟩|⟨a,b,d,e,f,g,h⟩
    ·simp[isLet,a,b]at k2;simp[isLet,a,b];exact rd (i+1) ⟨hi,k2⟩
    ·simp[isLet,a,b,d]at k2;simp[isLet,a,b,d];exact rd (i+1) ⟨hi,k2⟩
    all_goals
     simp[isLet,isName, *]at k2;simp[isLet,isName, *]
   ·rcases cls c with⟨a,b⟩|⟨a,b,d⟩|⟨a,b,d,e⟩|⟨a,b,d,e,f⟩|⟨a,b,d,e,f⟩|⟨a,b,d,e,f,g⟩|⟨a,b,d,e,f,g⟩|⟨a,b,d,e,f,g,h⟩
    ·simp[isLet,a,b]at k2;simp[isLet,a,b];exact rd (i+1) ⟨hi,k2⟩
    ·simp[isLet,a,b,d]at k2;simp[isLet,a,b,d];exact rd (i+1) ⟨hi,k2⟩
    ·simp[isLet,iC,a,b,d,e]at k2;have d2:c<48:=by omega
     simp[isLet,isName,a,b,e,j,d2,k2]
    ·simp[isLet,iC,a,b,d,e,f,j]at k2;have d2:¬c<48:=by omega
     have e2:¬57<c:=by omega
     simp[isLet,a,b,d2,e2,f,j];exact rd (i+1) ⟨hi,k2⟩
    ·simp[isLet,iC,a,b,d,e,f]at k2;have d2:¬c<48:=by omega
     have e2:57<c:=by omega
     simp[isLet,isName,a,b,d2,e2,f,j,k2]
    ·subst g;simp[isLet,iC,j]at k2;simp[isLet,j];exact rd (i+1) ⟨hi,k2⟩
    ·simp[isLet,iC,a,b,d,e,f,g]at k2;have d2:¬c<48:=by omega
     have e2:57<c:=by omega
     simp[isLet,isName,a,b,d,d2,e2,g,j,k2]
    ·simp[isLet,iC,a,b,d,e,f,g,h]at k2;have d2:¬c<48:=by omega
     have e2:57<c:=by omega
     simp[isLet,isName,a,b,d,e,d2,e2,h,j,k2]
  ·obtain⟨m,_⟩:=XB l hi n;have y:isLet (s[i]:Int)=false:=by simp[isLet];omega
   have x:iC (s[i]:Int)=false:=by simp[iC];omega
   have w:¬(s[i]:Int)=95:=by omega
   simp[y,x,w]at k2;rcases o:a6 (fR s) i with⟨c,d⟩
   rw[o]at m;have q:isLet (c:Int)=false:=by simp[isLet];omega
   have t:¬(c:Int)=95:=by omega
   have u:¬(c:Int)<48:=by omega
   have v:57<(c:Int):=by omega
   simp[hi,o];refine c1 (DU _) ?_
   by_cases j:i=0
   ·simp[q,j,isName,k2]
   ·simp[q,j,t,u,v,isName,k2]
 ·have:i=s.length:=by omega
  subst this;simp[lH]at k2;cases hs:s with
  |nil=>simp[isName]
  |cons a r=>
   rw[hs]at k2;rcases zA 24 s.length with⟨g,k⟩|⟨g,k⟩
   ·rw[hs]at g k;have:¬(r.length+1)<=24:=by simp at g;omega
    simp at k;simp[isName,k2,this];omega
   ·rw[hs]at g k;have:(r.length+1)<=24:=by simp at k;omega
    simp at k;simp[isName,k2,this];omega
theorem gn{s:List Nat}(h:bI s=0):bE 2000 (aL s):=by
 obtain⟨b,c⟩:=Ex h;have a:(10:Nat)^mD<=2^2000:=by decide+kernel
 exact⟨ea b a,ea c a⟩
theorem aDJ:bf 1=[49]:=aDK (n:=1) (by decide)
def dB(q:Rat):Int:=if dx q<0\/0<du q 1 then 3 else 0
def vZ(s:List Nat):Int:=if bI s=0 then dB (aL s)else bI s
theorem DX(s:List Nat)(hs:fB s):az prog 113 [.str s] (.int .i64 (vZ s)):=by
 have d:=vf s hs;refine aM nf ET mix (by simp[f113]) ?_;rw[vZ]
 by_cases c:bI s=0
 ·have o:=gn c;have f:=sH (aL s) (o.mono (by decide));have g:=o6 (aL s) 1 (o.mono (by decide)) (by exact⟨by decide+kernel,by decide+kernel⟩);rw[(fX c).1]at f g;rw[aDJ]at g;rw[if_pos c,dB];rw[c]at d;generalize dx (aL s)=x at*;generalize du (aL s) 1=y at*
  by_cases a:x<0
  ·simp[f113,ad];refine c1 d ?_;simp[ad];refine c1 f ?_;simp[a,ad]
  ·by_cases b:0<y
   ·simp[f113,ad];refine c1 d ?_;simp[ad];refine c1 f ?_;simp[a,ad];refine c2 g ?_;simp[a,b,ad]
   ·simp[f113,ad];refine c1 d ?_;simp[ad];refine c1 f ?_;simp[a,ad];refine c2 g ?_;simp[a,b,ad]
 ·rw[if_neg c];generalize bI s=e at*;simp[f113,ad];refine c1 d ?_;simp[c,ad]
def gp(o p:dG):Bool:=decide (o.eC=p.eC)&&(decide (du (aL o.a) (aL p.b)<=0)&&decide (du (aL p.a) (aL o.b)<=0))
def gQ(n:Nat)(c:List dG)(p:dG):Int:=
 if isName p.name=false then 8
 else if c.any (fun o=>decide (o.name=p.name))=true then 9
 else if p.eC<0\/(n:Int)<=p.eC then 10
 else if bI p.a≠0 then bI p.a
 else if bI p.b≠0 then bI p.b
 else if max (dB (aL p.a)) (dB (aL p.b))≠0 then max (dB (aL p.a)) (dB (aL p.b))
 else if 0<du (aL p.a) (aL p.b)then 11
 else if c.any (fun o=>gp o p)=true then 17 else 0
def qS(p:dG):Prop:=fB p.name/\fB p.a/\fB p.b
def aw.pk(t:aw)(i:Nat):dG:=t.ba.getD i ⟨[],0,[],[]⟩
@[simp] theorem aw.OW{t:aw}{i:Nat}(h:i<t.ba.length):t.ba[i]'h=t.pk i:=by
 rw[aw.pk,b2,b0 h];rfl
theorem aw.kz{t:aw}{i:Nat}(h:i<t.ba.length):t.ba[i]?=some (t.pk i):=by rw[b0 h,aw.OW]
theorem tF{α:Type}{f:α->Bool}{l:List α}{i:Nat}{x:α}(h:l[i]?=some x):(l.take (i+1)).any f=((l.take i).any f||f x):=by
 rw[List.take_add_one,h];simp
theorem PI(t:aw)(i:Nat)(hi:i<t.ba.length)(U:t.ba.length<=1000000)(hc:t.cs.length<=1000000)(P:∀p∈t.ba,qS p)(Q:∀j,j<i->bI (t.pk j).a=0/\bI (t.pk j).b=0):
 az prog 76 [cN t,.int .i64 i] (.int .i64 (gQ t.cs.length (t.ba.take i) (t.pk i))):=by
 have v:=aw.kz hi;obtain⟨R,E,F⟩:=P _ (b1 v);have m:=zz (t.pk i).name R.1;have N:=vf (t.pk i).a E;have O:=vf (t.pk i).b F;refine aM nf Oe mix (by simp[f76]) ?_;rw[gQ];cases B:isName (t.pk i).name
 ·rw[B]at m;simp[f76,ad,v,hi];refine c1 m ?_;simp[ad]
 rw[B]at m;rw[if_neg (by decide)];simp[f76,ad,v,hi];refine c1 m ?_;simp[ad];refine lp (α:=Nat) (fun j=>⟨[(6,.p (.int .i64 j)),(5,.ptr 1 []),(2,.ptr 0 []),(1,.p (.int .i64 i))],[.box false (.p (cN t)),.box false (.p (fa (t.pk i)))]⟩) (fun j=>j<=i/\(t.ba.take j).any (fun o=>decide (o.name=(t.pk i).name))=false) (fun j=>i-j) 0 (by simp) ?_;rintro j ⟨V,D⟩
 by_cases q:j<i
 ·have z:j<t.ba.length:=by omega
  have g:=aw.kz z;have f:=cH (i:=j) (by omega)
  by_cases n:(t.pk j).name=(t.pk i).name
  ·have:(t.ba.take i).any (fun o=>decide (o.name=(t.pk i).name))=true:=by
    rw[b4];exact⟨t.pk j,b1 (i:=j) (by rw[ce,if_pos q];exact g),by simp[n]⟩
   rw[if_pos this];simp[q,z,g,n,ad]
  ·simp[q,z,g,n,f,ad];exact rd (j+1) ⟨q,by rw[tF g,D];simp[n]⟩
 have:j=i:=by omega
 subst this;rw[D,if_neg (by decide)];have u:((t.pk j).eC<0\/(t.cs.length:Int)<=(t.pk j).eC)\/(¬(t.pk j).eC<0/\¬(t.cs.length:Int)<=(t.pk j).eC):=by omega
 rcases u with u|⟨K,L⟩
 ·rw[if_pos u]
  by_cases e1:(t.pk j).eC<0
  ·simp[e1,ad]
  ·have e2:(t.cs.length:Int)<=(t.pk j).eC:=by omega
   simp[e1,e2,ad]
 rw[if_neg (by omega)];have d0:¬j<j:=by omega
 simp[K,L,d0,ad];refine c1 N ?_
 by_cases c:bI (t.pk j).a=0
 case neg=>
  rw[if_pos c];simp[c,ad]
 rw[if_neg (by simp[c])];simp[c,ad];refine c1 O ?_
 by_cases d:bI (t.pk j).b=0
 case neg=>
  rw[if_pos d];simp[d,ad]
 rw[if_neg (by simp[d])];simp[d,ad];have G:=gn c;have H:=gn d;have x:=DX (t.pk j).a E;have y:=DX (t.pk j).b F;rw[vZ,if_pos c]at x;rw[vZ,if_pos d]at y;have A:=o6 (aL (t.pk j).a) (aL (t.pk j).b) (G.mono (by decide)) (H.mono (by decide));rw[(fX c).1,(fX d).1]at A;refine e1 x ?_;simp[ad];refine e1 y ?_;have em:max (dB (aL (t.pk j).a)) (dB (aL (t.pk j).b))=if dB (aL (t.pk j).a)<dB (aL (t.pk j).b)then dB (aL (t.pk j).b)else dB (aL (t.pk j).a):=by split<;>omega
 simp[ad,<-em];clear em x y;generalize max (dB (aL (t.pk j).a)) (dB (aL (t.pk j).b))=M at*
 by_cases hm:M=0
 case neg=>
  simp[hm,ad]
 subst hm;simp[ad];refine c2 A ?_
 by_cases s:0<du (aL (t.pk j).a) (aL (t.pk j).b)
 ·rw[if_pos s];simp[s,ad]
 rw[if_neg s];simp[s,ad];refine lp (α:=Nat) (fun k=>⟨[(8,.p (.int .i64 k)),(5,.ptr 1 []),(2,.ptr 0 []),(1,.p (.int .i64 j))],[.box false (.p (cN t)),.box false (.p (fa (t.pk j)))]⟩) (fun k=>k<=j/\(t.ba.take k).any (fun o=>gp o (t.pk j))=false) (fun k=>j-k) 0 (by simp) ?_;rintro k ⟨k1,k2⟩
 by_cases hk:k<j
 ·have e:k<t.ba.length:=by omega
  have gk:=aw.kz e;have f:=cH (i:=k) (by omega);obtain⟨I,J⟩:=Q k hk;have S:=gn I;have T:=gn J;have l:=o6 (aL (t.pk k).a) (aL (t.pk j).b) (S.mono (by decide)) (H.mono (by decide));have w:=o6 (aL (t.pk j).a) (aL (t.pk k).b) (G.mono (by decide)) (T.mono (by decide));rw[(fX I).1,(fX d).1]at l;rw[(fX c).1,(fX J).1]at w;have C:gp (t.pk k) (t.pk j)=true->(t.ba.take j).any (fun o=>gp o (t.pk j))=true:=fun h=>by
   rw[b4];exact⟨t.pk k,b1 (i:=k) (by rw[ce,if_pos hk];exact gk),h⟩
  have r:gp (t.pk k) (t.pk j)=false->(t.ba.take (k+1)).any (fun o=>gp o (t.pk j))=false:=fun h=>by
   rw[tF gk,k2,h];rfl
  rw[gp]at C r
  by_cases e1:(t.pk k).eC=(t.pk j).eC
  ·by_cases e2:du (aL (t.pk k).a) (aL (t.pk j).b)<=0
   ·by_cases e3:du (aL (t.pk j).a) (aL (t.pk k).b)<=0
    ·rw[if_pos (C (by simp[e1,e2,e3]))];simp[hk,e,gk,e1,ad];refine c2 l ?_;simp[e1,e2,ad];refine c2 w ?_;simp[e1,e2,e3,ad]
    ·simp[hk,e,gk,e1,ad];refine c2 l ?_;simp[e1,e2,ad];refine c2 w ?_;simp[e1,e2,e3,f,ad];exact rd (k+1) ⟨hk,r (by simp[e3])⟩
   ·simp[hk,e,gk,e1,ad];refine c2 l ?_;simp[e1,e2,f,ad];exact rd (k+1) ⟨hk,r (by simp[e2])⟩
  ·simp[hk,e,gk,e1,f,ad];exact rd (k+1) ⟨hk,r (by simp[e1])⟩
 ·have:k=j:=by omega
  subst this;rw[k2,if_neg (by decide)];simp[ad]
structure NV where
 x:NF
 y:NF
def NV.q(v:NV):V2:=⟨v.x.q,v.y.q⟩
def NV.add(v w:NV):NV:=⟨v.x.add w.x,v.y.add w.y⟩
def NV.sub(v w:NV):NV:=⟨v.x.sub w.x,v.y.sub w.y⟩
def NV.times(v:NV)(k:NF):NV:=⟨v.x.mul k,v.y.mul k⟩
def NV.dot(v w:NV):NF:=(v.x.mul w.x).add (v.y.mul w.y)
def NV.fj(v w:NV):NF:=(v.x.mul w.y).sub (v.y.mul w.x)
theorem NV.lD(v w:NV):(v.sub w).q=v.q.sub w.q:=by simp only[NV.sub,NV.q,V2.sub,NF.lD]
theorem NV.F6(v w:NV):(v.add w).q=v.q.add w.q:=rfl
theorem NV.D5(v:NV)(k:NF):(v.times k).q=v.q.mul k.q:=rfl
theorem NV.DV(v w:NV):(v.fj w).q=v.q.fj w.q:=NF.lD _ _
def NV.from(p:fy):NV:=⟨⟨aL p.x,false⟩,⟨aL p.y,false⟩⟩
structure NS where
 a:NF
 b:NF
 d:NF
def NS.q(s:NS):S3:=⟨s.a.q,s.b.q,s.d.q⟩
def Dk(k:Nat)(s:NS):Prop:=bE k s.a.q/\bE k s.b.q/\bE k s.d.q
theorem De{q:Rat}(h:bE 1800 q):vK q=false:=by
 have a:(aW q.num.natAbs).length<=600:=qK (K:=1800) (k:=600) h.1 (by decide) (by decide);have b:(aW q.den).length<=600:=qK (K:=1800) (k:=600) h.2 (by decide) (by decide);rw[vK,jT,jT,decide_eq_false (by omega),decide_eq_false (by omega)];rfl
def NF.width(r:Int):NF:=.int (4*r*r)
structure NM where
 w:NV
 d:NV
 root:NF
def NM.of(width:NF)(p d b:NV):NM:=⟨b.sub p,d,(((b.sub p).dot d).mul ((b.sub p).dot d)).sub ((d.dot d).mul (((b.sub p).dot (b.sub p)).sub width))⟩
theorem kY:∀l:List Int,bN l=0↔∀e∈l,e=0
 |[]=>by simp[bN]
 |e::r=>by
  rw[bN]
  by_cases h:e=0
  ·rw[if_pos h,kY r];simp[h]
  ·rw[if_neg h];simp[h]
theorem nY{p:fy}(h:dA p=0):bI p.x=0/\bI p.y=0:=by
 have:=(kY _).1 h;exact⟨this _ (by simp),this _ (by simp)⟩
def vP(p:fy):V2:=⟨aL p.x,aL p.y⟩
theorem Cw(p:fy):(NV.from p).q=vP p:=rfl
theorem sq_nonneg(a:Rat):0<=a*a:=by
 rcases Rat.le_total (a:=0) (b:=a)with h|h
 ·exact ey h h
 ·have c:0<=-a:=by
   have:=Rat.neg_le_neg h
   rwa [Rat.neg_zero]at this
  have:=ey c c
  rwa [Rat.neg_mul,Rat.mul_neg,Rat.neg_neg]at this
theorem aCK{a b:Rat}(h:a*a+b*b=0):a=0/\b=0:=by
 have key:∀x y:Rat,x*x+y*y=0->x=0:=fun x y h=>by
  have c:=sq_nonneg x;have d:=sq_nonneg y;have e:x*x<=0:=by
   have f:x*x+0<=x*x+y*y:=(Rat.add_le_add_left).2 d
   rwa [Rat.add_zero,h]at f
  have g:x*x=0:=Rat.le_antisymm e c;rcases Rat.mul_eq_zero.1 g with h|h<;>exact h
 exact⟨key a b h,key b a (by rw[Rat.add_comm];exact h)⟩
theorem zV{k:Nat}{p:fy}(h:cr k (vP p)):cr k (NV.from p).q:=h
structure NB where
 a:NV
 b:NV
 d:NF
def NB.q(n:NB):P4:=⟨⟨n.a.x.q,n.b.x.q,n.d.q⟩,⟨n.a.y.q,n.b.y.q,n.d.q⟩⟩
def okB(k:Nat)(n:NB):Prop:=cr k n.a.q/\cr k n.b.q/\bE k n.d.q
theorem okB.mono{k l:Nat}{n:NB}(h:okB k n)(a:k<=l):okB l n:=⟨h.1.mono a,h.2.1.mono a,h.2.2.mono a⟩
theorem MR(e:Int):∀l:List Int,bN (l++[e])=if bN l=0 then e else bN l
 |[]=>by by_cases h:e=0<;>simp[bN,h]
 |x::l=>by
  simp only[List.cons_append,bN,MR e l]
  by_cases hx:x=0
  ·simp[hx]
  ·simp[hx]
theorem MK{q:Rat}{k:Nat}(h:bE k q)(hk:k<=1800):fB (bf q)/\bI (bf q)=0:=by
 have a:(aW q.num.natAbs).length<=600:=qK (K:=1800) (k:=600) (h.mono hk).1 (by decide) (by decide);have b:(aW q.den).length<=600:=qK (K:=1800) (k:=600) (h.mono hk).2 (by decide) (by decide);have d:=DJ q;exact⟨⟨by omega,fun c hc=>Nat.lt_trans (PC q c hc) (by decide)⟩,W8 a b⟩
theorem aCq{q:Rat}(h:q<0):dx q= -1:=by rw[dx,if_pos h]
theorem aAe{x y:Rat}(h:y<x):du x y=1:=by
 rw[du,if_neg (by grind),if_neg (by grind)]
def qV(v:V2):fy:=⟨bf v.x,bf v.y⟩
theorem XL(v:V2):eV v=ff (qV v):=rfl
theorem DF(v:V2):vP (qV v)=v:=by
 obtain⟨x,y⟩:=v;simp only[vP,qV,BX]
theorem DN{v:V2}{k:Nat}(h:cr k v)(hk:k<=1800):lI (qV v)/\dA (qV v)=0:=by
 obtain⟨a,a2⟩:=MK h.1 hk;obtain⟨b,c⟩:=MK h.2 hk;refine⟨⟨a,b⟩,?_⟩;rw[dA];simp only[qV,bN,a2,c,if_true]
def gR{α:Type}(a:List α->α->Int)(l:List α)(i:Nat):Int:=match l[i]? with
 |some x=>a (l.take i) x
 |none=>0
def jy{α:Type}(a:List α->α->Int)(l:List α):Int:=bN ((c9 l.length).map (gR a l))
theorem DR{f:Nat->Int}:∀(n i:Nat),(∀j,j<i->f j=0)->i<n->f i≠0->bN ((c9 n).map f)=f i
 |0,i,_,h,_=>by omega
 |n+1,i,a,g,b=>by
  rw[da,List.map_append,b3,b5,MR]
  by_cases hi:i<n
  ·rw[DR n i a hi b,if_neg b]
  ·have:i=n:=by omega
   subst this;rw[(kY _).2 (by intro e c;obtain⟨j,d,rfl⟩:=cv.1 c;exact a j (cx.1 d)),if_pos rfl]
theorem tJ{α:Type}{a:List α->α->Int}{l:List α}{i:Nat}{x:α}(h:∀j,j<i->gR a l j=0)(hx:l[i]?=some x)(b:a (l.take i) x≠0):jy a l=a (l.take i) x:=by
 have hi:=(List.getElem?_eq_some_iff.1 hx).1;have e:gR a l i=a (l.take i) x:=by rw[gR,hx]
 rw[jy,DR _ i h hi (by rw[e];exact b),e]
theorem rk{α:Type}{b:List α->α->Int}{l:List α}:jy b l=0↔∀j,j<l.length->gR b l j=0:=by
 rw[jy,kY];constructor
 ·intro h j a;exact h _ (cv.2 ⟨j,cx.2 a,rfl⟩)
 ·intro h e c;obtain⟨j,a,rfl⟩:=cv.1 c;exact h j (cx.1 a)
theorem tI{α:Type}{a:List α->α->Int}{l:List α}{i:Nat}{x:α}(h:∀j,j<i->gR a l j=0)(hx:l[i]?=some x)(c:a (l.take i) x=0):∀j,j<i+1->gR a l j=0:=by
 intro j d
 by_cases b:j=i
 ·subst b;rw[gR,hx];exact c
 ·exact h j (by omega)
def iB(t:aw)(bef:List dN)(s:dN):Int:=
 if isName s.name=false then 8
 else if bef.any (fun o=>decide (o.name=s.name))=true then 9
 else if dA s.pt≠0 then dA s.pt
 else if t.on (vP s.pt)<0 then 16 else 0
def er(t:aw):Int:=
 if t.cs.length<3 then 2
 else if 12<t.cs.length then 5
 else if t.cs.any fw=true then 3
 else if t.dS=false then 15
 else if t.b7<1\/1000<t.b7 then 3
 else if 12<t.ba.length then 5
 else if jy (gQ t.cs.length) t.ba≠0 then jy (gQ t.cs.length) t.ba
 else if 256<t.aC.length then 5
 else jy (iB t) t.aC
def qU(p:dN):Prop:=fB p.name/\lI p.pt
def aw.sp(t:aw)(i:Nat):dN:=t.aC.getD i ⟨[],⟨[],[]⟩⟩
@[simp] theorem aw.tt{t:aw}{i:Nat}(h:i<t.aC.length):t.aC[i]'h=t.sp i:=by
 rw[aw.sp,b2,b0 h];rfl
theorem aw.gH{t:aw}{i:Nat}(h:i<t.aC.length):t.aC[i]?=some (t.sp i):=by rw[b0 h,aw.tt]
structure kH(t:aw):Prop where
 cl:t.cs.length<=1000000
 pl:t.ba.length<=1000000
 sl:t.aC.length<=1000000
 pk:∀p∈t.ba,qS p
 sp:∀s∈t.aC,qU s
def my(t:aw)(name:List Nat):Int:=match t.aC.findIdx? (fun s=>decide (s.name=name))with
 |some i=>i
 |none=>-1
theorem D3{n:Nat}{c:List dG}{p:dG}(h:gQ n c p=0):bI p.a=0/\bI p.b=0:=by
 rw[gQ]at h
 split at h
 ·omega
 split at h
 ·omega
 split at h
 ·omega
 split at h
 ·contradiction
 split at h
 ·contradiction
 rename_i d e;exact⟨Decidable.not_not.1 d,Decidable.not_not.1 e⟩
theorem Wx(t:aw)(name:List Nat)(h:t.aC.length<=1000000):az prog 37 [cN t,.str name] (.int .i64 (my t name)):=by
 refine aM nf NU mix (by simp[f37]) ?_;simp[f37,ad];refine lp (α:=Nat) (fun i=>⟨[(5,.p (.int .i64 i)),(2,.ptr 0 []),(1,.p (.str name))],[.box false (.p (cN t))]⟩) (fun i=>i<=t.aC.length/\∀j,j<i->¬(t.sp j).name=name) (fun i=>t.aC.length-i) 0 (by simp) ?_;rintro i ⟨g,c⟩
 by_cases hi:i<t.aC.length
 ·have d:=aw.gH hi;have f:=cH (i:=i) (by omega)
  by_cases a:(t.sp i).name=name
  ·have:my t name=i:=by
    have:t.aC.findIdx? (fun s=>decide (s.name=name))=some i:=by
     rw[ck];refine⟨hi,by rw[aw.tt];simp[a],fun j b=>?_⟩;rw[aw.tt];simp[c j b]
    rw[my,this]
   simp[hi,d,a,this,ad]
  ·simp[hi,d,a,f,ad];exact rd (i+1) ⟨hi,fun j b=>by
    by_cases e:j=i
    ·subst e;exact a
    ·exact c j (by omega)⟩
 ·have:i=t.aC.length:=by omega
  subst this;have:my t name= -1:=by
   have:t.aC.findIdx? (fun s=>decide (s.name=name))=none:=by
    rw[cy];intro s hs;obtain⟨j,b,rfl⟩:=c6.1 hs;rw[aw.tt];simp[c j b]
   rw[my,this]
  simp[this,ad]
theorem aCG{t:aw}{i:Nat}(hi:i<t.aC.length):my t (t.sp i).name<i↔(t.aC.take i).any (fun o=>decide (o.name=(t.sp i).name))=true:=by
 obtain⟨k,hk⟩:∃k,t.aC.findIdx? (fun s=>decide (s.name=(t.sp i).name))=some k:=by
  cases h:t.aC.findIdx? (fun s=>decide (s.name=(t.sp i).name))with
  |some k=>exact⟨k,rfl⟩
  |none=>
   rw[cy]at h;have:=h _ (b1 (aw.gH hi));simp at this
 rw[my,hk];rw[ck]at hk;obtain⟨k1,k2,k3⟩:=hk;rw[b4];constructor
 ·intro h;have h:k<i:=by simp only at h;omega
  exact⟨t.aC[k],b1 (i:=k) (by rw[ce,if_pos h,b0 k1]),k2⟩
 ·rintro⟨o,b,a⟩;obtain⟨j,c,rfl⟩:=c6.1 b;simp only[List.length_take]at c;simp only;rw[List.getElem_take]at a;have:¬j<k:=fun d=>by
   have:=k3 j d;rw[a]at this;simp at this
  omega
theorem PF(t:aw)(L:kH t):az prog 15 [cN t] (.int .i64 (er t)):=by
 obtain⟨s,M,N,J,K⟩:=L;refine aM nf NH mix (by simp[f15]) ?_;rw[er]
 by_cases c1:t.cs.length<3
 ·have cI:(t.cs.length:Int)<3:=by omega
  rw[if_pos c1];simp[f15,ad,cI]
 have v:¬(t.cs.length:Int)<3:=by omega
 rw[if_neg c1]
 by_cases c2:12<t.cs.length
 ·have cI:(12:Int)<t.cs.length:=by omega
  rw[if_pos c2];simp[f15,ad,v,cI]
 have A:¬(12:Int)<t.cs.length:=by omega
 rw[if_neg c2];simp[f15,ad,v,A];refine lp (α:=Nat) (fun i=>⟨[(3,.p (.int .i64 i)),(1,.ptr 0 [])],[.box false (.p (cN t))]⟩) (fun i=>i<=t.cs.length/\(t.cs.take i).any fw=false) (fun i=>t.cs.length-i) 0 (by simp) ?_;rintro i ⟨i1,i2⟩
 by_cases hi:i<t.cs.length
 ·have k:=aw.get hi;have f:=cH (i:=i) (by omega);have l:=WC (t.at i);cases hf:fw (t.at i)
  ·rw[hf]at l;simp[hi,k,ad];refine Go.al.c1 l ?_;simp[f,ad];exact rd (i+1) ⟨hi,by rw[tF k,i2,hf];rfl⟩
  ·rw[hf]at l;have:t.cs.any fw=true:=b4.2 ⟨t.at i,b1 k,hf⟩;rw[if_pos this];simp[hi,k,ad];refine Go.al.c1 l ?_;simp[ad]
 have:i=t.cs.length:=by omega
 subst this;rw[List.take_length]at i2;have x:∀p∈t.cs,eH p:=fun p I=>DZ (by
  cases h:fw p
  ·rfl
  ·rw[b4.2 ⟨p,I,h⟩]at i2;cases i2)
 have E:=P9 t s x;rw[i2,if_neg (by decide)];simp[ad];refine Go.al.c1 E ?_;cases R:t.dS
 ·simp[ad]
 rw[if_neg (by decide)];have u:(t.b7<1\/1000<t.b7)\/(¬t.b7<1/\¬1000<t.b7):=by omega
 rcases u with u|⟨y,z⟩
 ·rw[if_pos u]
  by_cases e1:t.b7<1
  ·simp[e1,ad]
  ·have e2:1000<t.b7:=by omega
   simp[e1,e2,ad]
 rw[if_neg (by omega)]
 by_cases c3:12<t.ba.length
 ·have cI:(12:Int)<t.ba.length:=by omega
  rw[if_pos c3];simp[y,z,cI,ad]
 have B:¬(12:Int)<t.ba.length:=by omega
 rw[if_neg c3];simp[y,z,B,ad];refine lp (α:=Nat) (fun i=>⟨[(4,.p (.int .i64 i)),(1,.ptr 0 [])],[.box false (.p (cN t))]⟩) (fun i=>i<=t.ba.length/\∀j,j<i->gR (gQ t.cs.length) t.ba j=0) (fun i=>t.ba.length-i) 0 (by simp) ?_;rintro i ⟨k1,k2⟩
 by_cases hk:i<t.ba.length
 ·have gk:=aw.kz hk;have f:=cH (i:=i) (by omega);have b:=PI t i hk M s J (fun j H=>by
   have:=k2 j H;rw[gR,aw.kz (by omega)]at this;exact D3 this)
  by_cases he:gQ t.cs.length (t.ba.take i) (t.pk i)=0
  ·rw[he]at b;simp[hk,ad];refine Go.al.c2 b ?_;simp[f,ad];exact rd (i+1) ⟨hk,tI k2 gk he⟩
  ·have G:=tJ k2 gk he;rw[G,if_pos he];simp[hk,ad];refine Go.al.c2 b ?_;simp[he,ad]
 have:i=t.ba.length:=by omega
 subst this;have F:=rk.2 k2;rw[F,if_neg (by decide)]
 by_cases c4:256<t.aC.length
 ·have cI:(256:Int)<t.aC.length:=by omega
  rw[if_pos c4];simp[cI,ad]
 have C:¬(256:Int)<t.aC.length:=by omega
 rw[if_neg c4];simp[C,ad];refine lp (α:=Nat) (fun i=>⟨[(6,.p (.int .i64 i)),(1,.ptr 0 [])],[.box false (.p (cN t))]⟩) (fun i=>i<=t.aC.length/\∀j,j<i->gR (iB t) t.aC j=0) (fun i=>t.aC.length-i) 0 (by simp) ?_;rintro i ⟨s1,s2⟩
 by_cases hs:i<t.aC.length
 ·have a:=aw.gH hs;have f:=cH (i:=i) (by omega);obtain⟨P,Q⟩:=K _ (b1 a);have c:=zz (t.sp i).name P.1;have m:=Wx t (t.sp i).name N;have b:=wE (t.sp i).pt Q;have w:=aCG hs;have g:iB t (t.aC.take i) (t.sp i)≠0->jy (iB t) t.aC=iB t (t.aC.take i) (t.sp i):=tJ s2 a;have O:iB t (t.aC.take i) (t.sp i)=0->∀j,j<i+1->gR (iB t) t.aC j=0:=tI s2 a;have ev:iB t (t.aC.take i) (t.sp i)=if isName (t.sp i).name=false then 8 else if(t.aC.take i).any (fun o=>decide (o.name=(t.sp i).name))=true then 9 else if dA (t.sp i).pt≠0 then dA (t.sp i).pt else if t.on (vP (t.sp i).pt)<0 then 16 else 0:=rfl
  cases n:isName (t.sp i).name
  ·rw[n]at c;rw[n,if_pos rfl]at ev;rw[g (by rw[ev];decide),ev];simp[hs,a,ad];refine Go.al.c1 c ?_;simp[ad]
  rw[n]at c;rw[n,if_neg (by decide)]at ev
  by_cases e:my t (t.sp i).name<i
  ·rw[if_pos (w.1 e)]at ev;rw[g (by rw[ev];decide),ev];simp[hs,a,ad];refine Go.al.c1 c ?_;simp[ad];refine Go.al.c2 m ?_;simp[e,ad]
  rw[if_neg (fun h=>e (w.2 h))]at ev
  by_cases d:dA (t.sp i).pt=0
  case neg=>
   rw[if_pos d]at ev;rw[g (by rw[ev];exact d),ev];simp[hs,a,ad];refine Go.al.c1 c ?_;simp[ad];refine Go.al.c2 m ?_;simp[e,ad];refine Go.al.c1 b ?_;simp[d,ad]
  rw[if_neg (by simp[d])]at ev;obtain⟨g1,g2⟩:=nY d;have r:=MX t (vP (t.sp i).pt) s x ⟨(gn g1).mono (by decide),(gn g2).mono (by decide)⟩;have D:eV (vP (t.sp i).pt)=ff (t.sp i).pt:=by
   rw[eV,vP];dsimp only;rw[(fX g1).1,(fX g2).1]
  rw[D]at r;rw[d]at b
  by_cases q:t.on (vP (t.sp i).pt)<0
  ·rw[if_pos q]at ev;rw[g (by rw[ev];decide),ev];simp[hs,a,ad];refine Go.al.c1 c ?_;simp[ad];refine Go.al.c2 m ?_;simp[e,ad];refine Go.al.c1 b ?_;simp[ad];refine Go.al.c2 r ?_;simp[q,ad]
  ·rw[if_neg q]at ev;simp[hs,a,ad];refine Go.al.c1 c ?_;simp[ad];refine Go.al.c2 m ?_;simp[e,ad];refine Go.al.c1 b ?_;simp[ad];refine Go.al.c2 r ?_;simp[q,f,ad];exact rd (i+1) ⟨hs,O ev⟩
 ·have:i=t.aC.length:=by omega
  subst this;rw[rk.2 s2];simp[ad]
open Go.Proofs Go.Proofs.YtgpphcmkjhklgaaGreatDoor
section
variable{H:Type}{W:av}{aa:Nat->Prop}
theorem zy:∀d:ao H,1<=Rows.uptoBulk d:=by
 intro d;cases d with
 |lit l=>cases l<;>simp[Rows.uptoBulk]
 |_=>simp[Rows.uptoBulk]
theorem zE{α:Type}{n:Nat}{t e:TypeId}{F:α->PV}{ok:α->Prop}(g:prog.underlying t=some (.slice e))
 (p:∀(d:ao H),(∃c,aU prog W aa (bC prog n e d) c)->Rows.uptoBulk d<=1048576->∃a,bC prog n e d=F a/\ok a/\2<=Rows.uptoBulk d)
 {d:ao H}(h:∃cs,aU prog W aa (bC prog (n+1) t d) cs)(k:Rows.uptoBulk d<=1048576):∃l:List α,bC prog (n+1) t d=.seq (l.map F)/\(∀a∈l,ok a)/\l.length<=1000000:=by
 obtain⟨cs,h⟩:=h;cases d with
 |nil=>exact⟨[],by simp[bC,g],(fun _ h=>nomatch h),by simp⟩
 |slice f sp=>
  simp only[bC,g,aU]at h⊢;have i:∀e'∈f.map (bC prog n e),∃c,aU prog W aa e' c:=by
   rcases h with⟨h,_⟩|⟨_,_,_,_,w,h,_⟩
   ·rw[h];intro _ h;cases h
   ·exact Ea h
  have key:∀f:List (ao H),(∀e'∈f.map (bC prog n e),∃c,aU prog W aa e' c)->Rows.uptoBulkAll f<=1048576->∃l:List α,f.map (bC prog n e)=l.map F/\(∀a∈l,ok a)/\2*l.length<=Rows.uptoBulkAll f:=by
   intro f
   induction f with
   |nil=>intro _ _;exact⟨[],rfl,(fun _ h=>nomatch h),by simp⟩
   |cons d r v=>
    intro i k;rw[Rows.uptoBulkAll]at k⊢;obtain⟨a,q,u,m⟩:=p d (i _ List.mem_cons_self) (by omega);obtain⟨l,j,o,y⟩:=v (fun e' s=>i e' (List.mem_cons_of_mem _ s)) (by omega);refine⟨a::l,by simp only[b3];rw[q,j],fun x hx=>?_,by rw[List.length_cons];omega⟩;rcases db.1 hx with rfl|hx
    ·exact u
    ·exact o x hx
  rw[Rows.uptoBulk]at k;obtain⟨l,j,m,o⟩:=key f i (by omega);exact⟨l,by rw[j],m,by omega⟩
 |lit l=>simp only[bC,g,aU]at h
 |ptr d=>simp only[bC,g,aU]at h
 |agg l=>simp only[bC,g,aU]at h
 |iface a b=>simp only[bC,g,aU]at h
 |map l=>simp only[bC,g,aU]at h
 |held a=>simp only[bC,g,aU]at h
theorem D6{n:Nat}{d:ao H}(h:∃cs,aU prog W aa (bC prog (n+1) 9 d) cs)(a:Rows.uptoBulk d<=1048576):∃s:List Nat,bC prog (n+1) 9 d=.str s/\fB s:=by
 obtain⟨cs,h⟩:=h;cases d with
 |lit l=>
  cases l with
  |string bytes=>
   refine⟨bytes.map (·.toNat),by simp only[bC,DE],?_,?_⟩
   ·rw[Rows.uptoBulk]at a;rw[List.length_map];omega
   ·intro c hc;obtain⟨u,_,rfl⟩:=cv.1 hc;exact u.toNat_lt
  |_=>simp only[bC,DE,aU]at h
 |_=>simp only[bC,DE,aU]at h
theorem aDV:∃a b:ax,prog.underlying 108=some (.struct #[a,b])/\a.type=3/\b.type=3:=⟨_,_,underlying108,rfl,rfl⟩
theorem Pe:prog.underlyingId 108=107:=by kernel_rfl
theorem Qb{m n:Nat}(j:m=n+1){d:ao H}(h:∃cs,aU prog W aa (bC prog (m+1) 108 d) cs)(o:Rows.uptoBulk d<=1048576):∃p:dK,bC prog (m+1) 108 d=cB p/\True/\2<=Rows.uptoBulk d:=by
 obtain⟨cs,h⟩:=h;obtain⟨f0,f1,f,t0,t1⟩:=aDV;cases d with
 |agg l=>
  simp only[bC,f,aU]at h⊢;obtain⟨q,k,e,c,_⟩:=h;rw[Pe,aC7]at e;cases e
  match l,c with
  |[],c=>simp[aY]at c
  |[x],c=>simp[aY]at c
  |x::y::r,c=>
   have:=zy x;simp only[cb,b3,aY,cc,b5,t0,t1]at c⊢;obtain⟨c0,_,_,g1,_,c1,_,_,g2,_⟩:=c;subst j;obtain⟨a,g⟩:=tK (n:=n) x c0 g1;obtain⟨b,i⟩:=tK (n:=n) y c1 g2;refine⟨⟨a,b⟩,by rw[g,i,Pe];rfl,trivial,?_⟩;rw[Rows.uptoBulk,Rows.uptoBulkAll];omega
 |_=>simp only[bC,f,aU]at h
theorem aDT:∃a b f2 f3:ax,prog.underlying 53=some (.struct #[a,b,f2,f3])/\a.type=9/\b.type=3/\f2.type=29/\f3.type=29:=⟨_,_,_,_,underlying53,rfl,rfl,rfl,rfl⟩
theorem Pc:prog.underlyingId 53=52:=by kernel_rfl
theorem PQ{m n:Nat}(q:m=n+1){d:ao H}(h:∃cs,aU prog W aa (bC prog (m+1) 53 d) cs)(o:Rows.uptoBulk d<=1048576):∃p:dG,bC prog (m+1) 53 d=fa p/\qS p/\2<=Rows.uptoBulk d:=by
 obtain⟨cs,h⟩:=h;obtain⟨f0,f1,f2,f3,g,t0,t1,t2,t3⟩:=aDT;cases d with
 |agg l=>
  have e:∀x∈l,Rows.uptoBulk x<=1048576:=fun x hx=>by
   have:=qL.vp hx;rw[Rows.uptoBulk]at o;omega
  simp only[bC,g,aU]at h⊢;obtain⟨B,A,f,c,_⟩:=h;rw[Pc,aDc]at f;cases f
  match l,c with
  |[],c=>simp[aY]at c
  |[x],c=>simp[aY]at c
  |[x,y],c=>simp[aY]at c
  |[x,y,z],c=>simp[aY]at c
  |x::y::z::w::r,c=>
   have:=zy x;simp only[cb,b3,aY,cc,b5,t0,t1,t2,t3]at c⊢;obtain⟨c0,_,_,g0,_,c1,_,_,g1,_,c2,_,_,g2,_,c3,_,_,g3,_⟩:=c;subst q;obtain⟨a,i,k⟩:=D6 (n:=n) ⟨c0,g0⟩ (e x (by simp));obtain⟨b,j⟩:=tK (n:=n) y c1 g1;obtain⟨u,eu,s⟩:=sU (n:=n) ⟨c2,g2⟩ (e z (by simp));obtain⟨v,ev,t⟩:=sU (n:=n) ⟨c3,g3⟩ (e w (by simp));refine⟨⟨a,b,u,v⟩,by rw[i,j,eu,ev,Pc];rfl,⟨k,s,t⟩,?_⟩;rw[Rows.uptoBulk,Rows.uptoBulkAll];omega
 |_=>simp only[bC,g,aU]at h
theorem aDW:∃a b:ax,prog.underlying 75=some (.struct #[a,b])/\a.type=9/\b.type=42:=⟨_,_,underlying75,rfl,rfl⟩
theorem Pf:prog.underlyingId 75=74:=by kernel_rfl
theorem Qa{m n:Nat}(s:m=n+2){d:ao H}(h:∃cs,aU prog W aa (bC prog (m+1) 75 d) cs)(o:Rows.uptoBulk d<=1048576):∃p:dN,bC prog (m+1) 75 d=dv p/\qU p/\2<=Rows.uptoBulk d:=by
 obtain⟨cs,h⟩:=h;obtain⟨f0,f1,g,t0,t1⟩:=aDW;cases d with
 |agg l=>
  have f:∀x∈l,Rows.uptoBulk x<=1048576:=fun x hx=>by
   have:=qL.vp hx;rw[Rows.uptoBulk]at o;omega
  simp only[bC,g,aU]at h⊢;obtain⟨u,t,e,c,_⟩:=h;rw[Pf,aDl]at e;cases e
  match l,c with
  |[],c=>simp[aY]at c
  |[x],c=>simp[aY]at c
  |x::y::r,c=>
   have:=zy x;simp only[cb,b3,aY,cc,b5,t0,t1]at c⊢;obtain⟨c0,_,_,g1,_,c1,_,_,g2,_⟩:=c;subst s;obtain⟨a,i,k⟩:=D6 (n:=n+1) ⟨c0,g1⟩ (f x (by simp));obtain⟨b,j,q⟩:=Q2 (n:=n) ⟨c1,g2⟩ (f y (by simp));refine⟨⟨a,b⟩,by rw[i,j,Pf];rfl,⟨k,q⟩,?_⟩;rw[Rows.uptoBulk,Rows.uptoBulkAll];omega
 |_=>simp only[bC,g,aU]at h
theorem aD5:∃a b f2 f3:ax,prog.underlying 26=some (.struct #[a,b,f2,f3])/\a.type=22/\b.type=3/\f2.type=23/\f3.type=24:=⟨_,_,_,_,underlying26,rfl,rfl,rfl,rfl⟩
theorem Pg:prog.underlyingId 26=25:=by kernel_rfl
theorem aDo{m n:Nat}(p:m=n+4){d:ao H}(h:∃cs,aU prog W aa (bC prog (m+1) 26 d) cs)(e:Rows.uptoBulk d<=1048576):∃t:aw,bC prog (m+1) 26 d=cN t/\True/\kH t:=by
 obtain⟨cs,h⟩:=h;obtain⟨f0,f1,f2,f3,j,t0,t1,t2,t3⟩:=aD5;cases d with
 |agg l=>
  have g:∀x∈l,Rows.uptoBulk x<=1048576:=fun x hx=>by
   have:=qL.vp hx;rw[Rows.uptoBulk]at e;omega
  simp only[bC,j,aU]at h⊢;obtain⟨E,D,i,c,_⟩:=h;rw[Pg,aC8]at i;cases i
  match l,c with
  |[],c=>simp[aY]at c
  |[x],c=>simp[aY]at c
  |[x,y],c=>simp[aY]at c
  |[x,y,z],c=>simp[aY]at c
  |x::y::z::w::r,c=>
   simp only[cb,b3,aY,cc,b5,t0,t1,t2,t3]at c⊢;obtain⟨c0,_,_,g0,_,c1,_,_,g1,_,c2,_,_,g2,_,c3,_,_,g3,_⟩:=c;subst p;obtain⟨a,k,_,A⟩:=zE (n:=n+3) aDQ (F:=cB) (ok:=fun _=>True) (fun d f e=>Qb (n:=n+1) rfl f e) ⟨c0,g0⟩ (g x (by simp));obtain⟨b,o⟩:=tK (n:=n+3) y c1 g1;obtain⟨u,eu,q,B⟩:=zE (n:=n+3) aDR (F:=fa) (ok:=qS) (fun d f e=>PQ (n:=n+1) rfl f e) ⟨c2,g2⟩ (g z (by simp));obtain⟨v,ev,s,C⟩:=zE (n:=n+3) aDS (F:=dv) (ok:=qU) (fun d f e=>Qa (n:=n) rfl f e) ⟨c3,g3⟩ (g w (by simp));exact⟨⟨a,b,u,v⟩,by rw[k,o,eu,ev,Pg];rfl,trivial,A,B,C,q,s⟩
 |_=>simp only[bC,j,aU]at h
theorem aDn{d:ao H}(h:∃cs,aU prog W aa (bC prog 8 26 d) cs)(a:Rows.uptoBulk d<=1048576):∃t:aw,bC prog 8 26 d=cN t/\True/\kH t:=aDo (n:=3) rfl h a
end
section
variable{H:Type}{W:av}{aa:Nat->Prop}
theorem aDP:prog.underlyingId 103=103:=by kernel_rfl
structure zw where
 a:List Nat
 b:List Nat
def Nq(w:zw):PV:=.st 103 [.str w.a,.str w.b]
theorem aAi{m:Nat}(j:m=7){d:ao H}(h:∃cs,aU prog W aa (bC prog (m+1) 103 d) cs)(i:Rows.uptoBulk d<=1048576):∃w:zw,bC prog (m+1) 103 d=Nq w/\True/\fB w.a/\fB w.b:=by
 obtain⟨cs,h⟩:=h;cases d with
 |agg l=>
  have e:∀x∈l,Rows.uptoBulk x<=1048576:=fun x hx=>by
   have:=qL.vp hx;rw[Rows.uptoBulk]at i;omega
  simp only[bC,Ph,aDP,aU,aC4]at h⊢;obtain⟨p,o,g,c,_⟩:=h;cases g
  match l,c with
  |[],c=>simp[aY]at c
  |[_],c=>simp[aY]at c
  |_::_::_::_,c=>simp[aY]at c
  |[a,b],c=>
   simp only[b3,b5,aY]at c⊢;obtain⟨c0,_,_,g0,_,c1,_,_,g1,_⟩:=c;subst j;obtain⟨x,ex,hx⟩:=sU (n:=6) ⟨c0,g0⟩ (e a (by simp));obtain⟨y,f,k⟩:=sU (n:=6) ⟨c1,g1⟩ (e b (by simp));exact⟨⟨x,y⟩,by rw[ex,f];rfl,trivial,hx,k⟩
 |_=>simp only[bC,Ph,aU]at h
theorem aAh{d:ao H}(h:∃cs,aU prog W aa (bC prog 8 103 d) cs)(c:Rows.uptoBulk d<=1048576):∃w:zw,bC prog 8 103 d=Nq w/\True/\fB w.a/\fB w.b:=aAi rfl h c
end
namespace Hk
mutual
def qZ:PV->PV->Bool
 | .int .i64 a,.int .i64 b=>nw a b
 | .int .u64 a,.int .u64 b=>nw a b
 | .bool a,.bool b=>a==b
 | .str a,.str b=>qY a b
 | .aR,.aR=>true
 | .fh,.fh=>true
 | .bH f a,.bH g b=>bif f==g then kA a b else false
 | .seq a,.seq b=>kA a b
 | .eL a,.eL b=>th a b
 | .st u a,.st v b=>bif dk u v then kA a b else false
 | .aE a,.aE b=>kA a b
 | .func f a b,.func g c d=>bif dk f g then(bif kA a c then kA b d else false)else false
 | .b6 a,.b6 b=>qZ a b
 |_,_=>false
def kA:List PV->List PV->Bool
 |[],[]=>true
 |a::l,b::m=>bif qZ a b then kA l m else false
 |_,_=>false
def th:List (PV×PV)->List (PV×PV)->Bool
 |[],[]=>true
 |(a,c)::l,(b,d)::m=>bif qZ a b then(bif qZ c d then th l m else false)else false
 |_,_=>false
end
mutual
theorem uJ:∀{a b:PV},qZ a b=true->a=b
 |a,b,h=>by
  unfold qZ at h
  split at h
  ·rw[yr h]
  ·rw[yr h]
  ·rw[eq_of_beq h]
  ·rw[BD h]
  ·rfl
  ·rfl
  ·rename_i f a g b;cases hf:f==g
   ·rw[hf]at h;cases h
   ·rw[hf,cond_true]at h;rw[eq_of_beq hf,n8 h]
  ·rw[n8 h]
  ·rw[J9 h]
  ·simp only[ab]at h
   split at h
   ·rename_i i;rw[dg i,n8 h]
   ·cases h
  ·rw[n8 h]
  ·simp only[ab]at h
   split at h
   ·rename_i i
    split at h
    ·rename_i e;rw[dg i,n8 e,n8 h]
    ·cases h
   ·cases h
  ·rw[uJ h]
  ·cases h
theorem n8:∀{a b:List PV},kA a b=true->a=b
 |[],[],_=>rfl
 |[],_::_,h=>by simp[kA]at h
 |_::_,[],h=>by simp[kA]at h
 |a::l,b::m,h=>by
  simp only[kA,ab]at h
  split at h
  ·rename_i e;rw[uJ e,n8 h]
  ·cases h
theorem J9:∀{a b:List (PV×PV)},th a b=true->a=b
 |[],[],_=>rfl
 |[],_::_,h=>by simp[th]at h
 |_::_,[],h=>by simp[th]at h
 |(a,c)::l,(b,d)::m,h=>by
  simp only[th,ab]at h
  split at h
  ·rename_i e
   split at h
   ·rename_i j;rw[uJ e,uJ j,J9 h]
   ·cases h
  ·cases h
end
def sJ:List (ap×List PV×PV)->ap->List PV->Option PV
 |[],f,vs=>hk f vs
 |(g,us,v)::r,f,vs=>bif dk g f then(bif kA us vs then some v else sJ r f vs)else sJ r f vs
def kG:List (ap×List PV×PV)->Prop
 |[]=>True
 |(g,us,v)::r=>az prog g us v/\kG r
theorem Ak:∀{l m:List (ap×List PV×PV)},kG l->kG m->kG (l++m)
 |[],_,_,h=>h
 |_::_,_,h,a=>⟨h.1,Ak h.2 a⟩
theorem xB:∀{l:List (ap×List PV×PV)},kG l->∀f vs v,sJ l f vs=some v->az prog f vs v
 |[],_,f,vs,v,h=>Ya h
 |(g,us,w)::r,a,f,vs,v,h=>by
  simp only[sJ,ab]at h
  split at h
  ·rename_i b
   split at h
   ·rename_i hs;simp only[ec]at h;subst h;rw[<-n8 hs,<-dg b];exact a.1
   ·exact xB a.2 f vs v h
  ·exact xB a.2 f vs v h
def Db(v:PV):Option PV->Bool
 |some w=>qZ v w
 |none=>false
theorem Fq{v:PV}{o:Option PV}(h:Db v o=true):o=some v:=by
 cases o with
 |none=>cases h
 |some w=>rw[uJ h]
def aAL:ap->ap->Nat:=fun _ _=>0
theorem fL(l:List (ap×List PV×PV))(a:kG l){f:ap}{vs:List PV}{v:PV}(h:Db v (O4 (sJ l) aAL f vs)=true):az prog f vs v:=Kz (xB a) (Fq h)
end Hk
end Go.al
namespace Go.Proofs
open Go.Shelf
def Tryz.FK:a1:=⟨fun|156=>226|165=>279|166=>151|169=>229|240=>225|241=>322|276=>278|277=>361|n=>n,fun|31=>287|9=>9|3=>3|4=>4|0=>0|20=>20|72=>225|76=>228|70=>222|37=>223|75=>227|127=>329|164=>325|5=>5|80=>289|n=>n,fun|n=>n⟩
theorem Tryz.FF:Go.Proofs.Lays.n156 prog FK:={
 mixed:=by kernel_rfl
 f156:=func226.trans (congrArg some (by kernel_rfl))
 f165:=func279.trans (congrArg some (by kernel_rfl))
 f166:=func151.trans (congrArg some (by kernel_rfl))
 f169:=func229.trans (congrArg some (by kernel_rfl))
 f240:=func225.trans (congrArg some (by kernel_rfl))
 f241:=func322.trans (congrArg some (by kernel_rfl))
 f276:=func278.trans (congrArg some (by kernel_rfl))
 f277:=func361.trans (congrArg some (by kernel_rfl))
 t0:=underlying0
 a0:=isAgg0
 z0:=sizeOf0
 v0:=zeroValue0
 t3:=underlying3
 a3:=isAgg3
 z3:=sizeOf3
 v3:=zeroValue3
 t4:=underlying4
 a4:=isAgg4
 z4:=sizeOf4
 v4:=zeroValue4
 t9:=underlying9
 a9:=isAgg9
 z9:=sizeOf9
 v9:=zeroValue9
 t20:=underlying20
 a20:=isAgg20
 z20:=sizeOf20
 v20:=zeroValue20
 t31:=underlying287
 a31:=isAgg287
 z31:=sizeOf287
 v31:=zeroValue287
 t37:=underlying223
 a37:=isAgg223
 z37:=sizeOf223
 v37:=zeroValue223
 t70:=underlying222
 a70:=isAgg222
 z70:=sizeOf222
 v70:=zeroValue222
 t72:=underlying225
 a72:=isAgg225
 z72:=sizeOf225
 v72:=zeroValue225
 t75:=underlying227
 a75:=isAgg227
 z75:=sizeOf227
 v75:=zeroValue227
 t76:=underlying228
 a76:=isAgg228
 z76:=sizeOf228
 v76:=zeroValue228
 t127:=underlying329
 a127:=isAgg329
 z127:=sizeOf329
 v127:=zeroValue329
 t164:=underlying325
 a164:=isAgg325
 z164:=sizeOf325
 v164:=zeroValue325}
theorem Tryz.FJ:Builder.Extra prog FK:={
 sizeBuilder:=by kernel_rfl
 liesBuilder:=by kernel_rfl
 t5:=underlying5
 a5:=isAgg5
 z5:=sizeOf5
 v5:=zeroValue5
 infoByte:=by kernel_rfl
 cellsByte:=by kernel_rfl
 sizeByte:=by kernel_rfl
 neB5:=by decide}
open Go.RowKit in
theorem Tryz.strings_Join_none(a:Option Addr)(c:Nat)(sep:ByteArray)(w:av):
 ay prog 226 #[.slice a 0 c,.string sep] w fun e w'=>e=.returned (.string ⟨#[]⟩)/\w'=w:=Any.strings_Join_none FF FJ a c sep w
open Go.RowKit in
theorem Tryz.strings_Join(bk o c:Nat)(xs:List ByteArray)(sep:ByteArray)(w:av)(hcells:∀(j:Nat) x,xs[j]?=some x->w.cell? ⟨bk,o+j,none⟩=some (.string x))(hbk:bk<w.heap.size)(hN:xs.length<=140737488355328)(hcap:xs.length<=c)(hlen:(Lib.join (xs.map (·.data.toList)) sep.data.toList).length<=140737488355328):
 ay prog 226 #[.slice (some ⟨bk,o,none⟩) xs.length c,.string sep] w fun e w'=>e=.returned (.string ⟨(Lib.join (xs.map (·.data.toList)) sep.data.toList).toArray⟩)/\Below w.heap.size w w':=Any.strings_Join FF FJ bk o c xs sep w hcells hbk hN hcap hlen
def Tryz.Qq:a1:=⟨fun|106=>224|213=>277|265=>321|n=>n,fun|9=>9|3=>3|n=>n,fun|n=>n⟩
theorem Tryz.azy:Go.Proofs.Lays.n106 prog Qq:={
 mixed:=by kernel_rfl
 f106:=func224.trans (congrArg some (by kernel_rfl))
 f213:=func277.trans (congrArg some (by kernel_rfl))
 f265:=func321.trans (congrArg some (by kernel_rfl))
 t3:=underlying3
 a3:=isAgg3
 z3:=sizeOf3
 v3:=zeroValue3
 t9:=underlying9
 a9:=isAgg9
 z9:=sizeOf9
 v9:=zeroValue9}
open Go.RowKit in
theorem Tryz.strings_Compare(a b:ByteArray)(w:av):
 ay prog 224 #[.string a,.string b] w fun e w'=>e=.returned (.int .i64 (Lib.compareBytes a.data.toList b.data.toList))/\w'=w:=Any.strings_Compare azy a b w
def Tryz.Qp:a1:=⟨fun|138=>328|195=>366|218=>368|143=>329|219=>296|217=>343|225=>344|224=>345|267=>346|266=>373|314=>374|n=>n,fun|9=>9|3=>3|4=>4|5=>5|0=>0|46=>323|146=>400|51=>355|n=>n,fun|1=>0|n=>n⟩
theorem Tryz.azB:Go.Proofs.Lays.n138 prog Qp:={
 mixed:=by kernel_rfl
 f138:=func328.trans (congrArg some (by kernel_rfl))
 f143:=func329.trans (congrArg some (by kernel_rfl))
 f195:=func366.trans (congrArg some (by kernel_rfl))
 f217:=func343.trans (congrArg some (by kernel_rfl))
 f218:=func368.trans (congrArg some (by kernel_rfl))
 f219:=func296.trans (congrArg some (by kernel_rfl))
 f224:=func345.trans (congrArg some (by kernel_rfl))
 f225:=func344.trans (congrArg some (by kernel_rfl))
 f266:=func373.trans (congrArg some (by kernel_rfl))
 f267:=func346.trans (congrArg some (by kernel_rfl))
 f314:=func374.trans (congrArg some (by kernel_rfl))
 t0:=underlying0
 a0:=isAgg0
 z0:=sizeOf0
 v0:=zeroValue0
 t3:=underlying3
 a3:=isAgg3
 z3:=sizeOf3
 v3:=zeroValue3
 t4:=underlying4
 a4:=isAgg4
 z4:=sizeOf4
 v4:=zeroValue4
 t5:=underlying5
 a5:=isAgg5
 z5:=sizeOf5
 v5:=zeroValue5
 t9:=underlying9
 a9:=isAgg9
 z9:=sizeOf9
 v9:=zeroValue9
 t46:=underlying323
 a46:=isAgg323
 z46:=sizeOf323
 v46:=zeroValue323
 t51:=underlying355
 a51:=isAgg355
 z51:=sizeOf355
 v51:=zeroValue355
 t146:=underlying400
 a146:=isAgg400
 z146:=sizeOf400
 v146:=zeroValue400
 g1:=by kernel_rfl}
open Go.RowKit Go.Lib in
theorem Tryz.strings_Count_one(s:ByteArray)(c:UInt8)(w:av):
 ay prog 328 #[.string s,.string ⟨#[c]⟩] w fun e w'=>e=.returned (.int .i64 (Lib.countByte s.data.toList c))/\w'=w:=Any.strings_Count_one azB s c w
end Go.Proofs
namespace Go.Proofs
def Tryz.Fx:a1:=⟨fun|4=>272|n=>n,fun|22=>22|25=>108|3=>3|4=>4|9=>9|20=>20|0=>0|2=>3|n=>n,fun|n=>n⟩
theorem Tryz.X6:Go.Proofs.Lays8.n4 prog Fx:={
 mixed:=by kernel_rfl
 f4:=⟨f272.name,by decide,func272.trans (congrArg some (by kernel_rfl))⟩
 t0:=underlying0
 a0:=isAgg0
 z0:=sizeOf0
 v0:=zeroValue0
 t3:=underlying3
 a3:=isAgg3
 z3:=sizeOf3
 v3:=zeroValue3
 t4:=underlying4
 a4:=isAgg4
 z4:=sizeOf4
 v4:=zeroValue4
 t9:=underlying9
 a9:=isAgg9
 z9:=sizeOf9
 v9:=zeroValue9
 t20:=underlying20
 a20:=isAgg20
 z20:=sizeOf20
 v20:=zeroValue20
 t22:=underlying22
 a22:=isAgg22
 z22:=sizeOf22
 v22:=zeroValue22}
end Go.Proofs
