import Derived.Test.YtgpphcmkjhklgaaGreatDoorPH
import Derived.Test.YtgpphcmkjhklgaaGreatDoorPJ
import Derived.Test.YtgpphcmkjhklgaaGreatDoorPG
import Derived.Shelf.Strings.Builder1
import Derived.Shelf.Strings.Builder2
import Derived.Shelf.Strings.OnBuilder
import Derived.Shelf.Strings.Trim
import Derived.Shelf.Small.Utf8
import Derived.Shelf.Small.Bits
import Derived.Shelf.Small.Strs
import Derived.Shelf.Small.Wraps
import Derived.Shelf.Strings.BuilderF
import Derived.Shelf.Utf8.RuneCount
import Derived.Shelf.Strings.Builder2Cap
import Derived.Shelf.Strconv.Atoi
import Derived.Shelf.Strconv.Itoa0
import Derived.Shelf.Strconv.Itoa1
import Derived.Shelf.LaysM
import Derived.Shelf.Strconv.Itoa2
import Derived.Shelf.Strconv.Itoa3
import Derived.Shelf.Strconv.AtoiErrFast
import Derived.Shelf.Strconv.ParseIntEmpty
import Derived.Shelf.Strconv.AtoiFail
import Derived.Shelf.Strconv.Clone
import Derived.Shelf.Strconv.SyntaxError
import Derived.Shelf.LaysC
import Derived.Shelf.Strconv.ToError
import Derived.Shelf.Strconv.Lower
import Derived.Shelf.Strconv.ParseUint10
import Derived.Shelf.Strconv.ParseUint10Empty
import Derived.Shelf.Strconv.ParseUint10Any
import Derived.Shelf.Strconv.ParseInt10
import Derived.Shelf.Strconv.AtoiLong
import Derived.Shelf.Strconv.AtoiInnerAll
import Derived.Shelf.Strconv.RangeError
import Derived.Shelf.Strconv.ToErrorRange
import Derived.Shelf.Strconv.AtoiAll
import Derived.Shelf.Strconv.ParseUintEmpty
import Derived.Shelf.Strings.Search1
import Derived.Shelf.Strings.Search2
import Derived.Shelf.Strings.Search3
import Derived.Shelf.Strings.Cut
import Derived.Shelf.Strings.Count
import Derived.Shelf.Strings.Shaped
import Derived.Shelf.Strings.Prefix
import Derived.Shelf.Strings.Split
import Derived.Shelf.Strings.SplitShaped
import Derived.Shelf.Unicode.Decode
import Derived.Shelf.Strings.Runes
import Derived.Shelf.Strings.RuneCount
import Derived.Shelf.Strings.AsciiSet
import Derived.Shelf.Strings.Explode
import Derived.Shelf.Bits.Mul64
import Derived.Shelf.Strings.Repeat
import Derived.Shelf.Unicode.DecodeSlow
import Derived.Shelf.Unicode.DecodeAny
import Derived.Shelf.Unicode.DecodeLast
import Derived.Shelf.Slices.Turned
import Derived.Ground.Names2Prog
import Derived.Shelf.Slices.SearchI
import Derived.Test.YtgpphcmkjhklgaaGreatDoorProg
import Derived.Shelf.SlGeneric
import Derived.Shelf.Spec.SlicesGrow
/- Parts of a proof. -/
set_option linter.unusedSimpArgs false
set_option linter.unusedVariables false
set_option linter.unusedSectionVars false
open Go.Proofs.Tryz
open Bool renaming cond_eq_ite->ab, and_eq_true->ac, or_eq_true->am
open Go renaming FuncId->an, DataW->ao, World->ap, Field->av, Calls->ax
open Go.IntKind renaming i64->ay
open Go.Shelf renaming Ren->aT
open Go.Utf8 renaming decode->a1
open Int renaming natCast_mul->a6, tmod_eq_emod_of_nonneg->a7, negSucc->a8, natCast_emod->bb, natCast_one->be, natAbs_mul->bi, mul_nonneg->bl, ediv_one->bo
open List renaming getElem?_eq_getElem->bv, mem_of_getElem?->b0, getD_eq_getElem?_getD->b1, any_eq_true->b2, map_cons->b3, zip_cons_cons->b4, zip_nil_left->b5, map_nil->cb, getElem?_take->cc, findIdx?_eq_some_iff_getElem->ce, mem_map->ck, mem_range->cv, findIdx?_eq_none_iff->cx, mem_iff_getElem->cy, range->c6, range_succ->c9, mem_cons->da
open Nat renaming eq_of_beq_eq_true->db, beq->dg, mul_ne_zero->dk, blt->dl, blt_eq->dp, gcd->dq, lt_of_lt_of_le->dz, div_one->ea
open Option.some renaming injEq->eb
open Rat renaming divInt->ec, divInt_mul_divInt->ed, div_def->ee, sub_add_cancel->ei, zero_add->ej, divInt_add_divInt->en, add_lt_add_right->eo, divInt_eq_div->eq, neg_divInt->ew, mul_nonneg->e6, inv_divInt->e7
namespace Go.ag
open Go.Proofs
set_option maxHeartbeats 4000000
set_option maxRecDepth 100000
namespace Hk
def kG:Nat:=9223372036854775808
def Az:Nat:=1606938044258990275541962092341162602522202993782792835301376
def qV{α:Type}(n:Nat)(f:Nat->α):α:=match n with
 |0=>f 0
 |k+1=>f (k+1)
theorem xB{α:Type}(n:Nat)(f:Nat->α):qV n f=f n:=by cases n<;>rfl
def Bo{α:Type}(z:Int)(f:Int->α):α:=match z with
 | .ofNat n=>qV n fun n=>f (.ofNat n)
 | .negSucc n=>qV n fun n=>f (.negSucc n)
theorem Nl{α:Type}(z:Int)(f:Int->α):Bo z f=f z:=by cases z<;>simp[Bo,xB]
def pC:Int->Bool
 | .ofNat n=>dl n kG
 | .negSucc n=>dl (n+1) kG
theorem Av{z:Int}:pC z=true↔z.natAbs<9223372036854775808:=by
 cases z with
 |ofNat n=>simp only[pC,dp,kG];exact Iff.rfl
 |negSucc n=>simp only[pC,dp,kG];exact Iff.rfl
def oK:Int->Int->Bool
 | .ofNat a,.ofNat b=>dg a b
 | .negSucc a,.negSucc b=>dg a b
 |_,_=>false
theorem AO:∀{a b:Int},oK a b=true->a=b
 | .ofNat a,.ofNat b,h=>by simp only[oK]at h;rw[db h]
 | .negSucc a,.negSucc b,h=>by simp only[oK]at h;rw[db h]
 | .ofNat a,.negSucc b,h=>by simp[oK]at h
 | .negSucc a,.ofNat b,h=>by simp[oK]at h
def vc(z:Int):Option PV:=bif pC z then some (fj z)else bif dg z.natAbs kG then none else some (kD z)
theorem Ae{z:Int}{p:PV}(h:vc z=some p)(m:Bool):eI ⟨z,m⟩=p:=by
 unfold vc at h;rw[jd];rcases hs:pC z with _|_
 ·simp only[hs,cond_false]at h;rcases a:dg z.natAbs kG with _|_
  case true=>rw[a]at h;cases h
  ·have c:¬dg z.natAbs kG=true:=by rw[a];decide
   rw[a,cond_false]at h;simp only[eb]at h;have b:¬z.natAbs<9223372036854775808:=fun h=>by rw[Av.2 h]at hs;cases hs
   have d:z.natAbs≠9223372036854775808:=fun e=>c (by rw[e];rfl);rw[if_neg,h];simp only[NI.sm,am,decide_eq_true_eq,ac,not_or,not_and];exact⟨by omega,fun h=>by omega⟩
 ·simp only[hs,cond_true,eb]at h;have b:=Av.1 hs;rw[if_pos,h];simp only[NI.sm,am,decide_eq_true_eq,ac];exact .inl (by omega)
def yG:List PV->Option (List Nat)
 |[]=>some []
 | .int .u64 (.ofNat x)::r=>match yG r with
  |some l=>some (x::l)
  |none=>none
 |_=>none
theorem Ob:∀{l:List PV}{a:List Nat},yG l=some a->l=a.map fun x:Nat=>PV.int .u64 x
 |[],a,h=>by simp only[yG,eb]at h;subst h;rfl
 |v::r,a,h=>by
  unfold yG at h
  split at h
  ·rename_i e;cases e
  ·rename_i x c e;cases e
   split at h
   ·rename_i l b;simp only[eb]at h;subst h;rw[Ob b];rfl
   ·cases h
  ·cases h
def tg:List Nat->List Nat->Bool
 |[],[]=>true
 |x::a,y::b=>bif dg x y then tg a b else false
 |_,_=>false
theorem DL:∀{a b:List Nat},tg a b=true->a=b
 |[],[],_=>rfl
 |[],_::_,h=>by simp[tg]at h
 |_::_,[],h=>by simp[tg]at h
 |x::a,y::b,h=>by
  simp only[tg,ab]at h
  split at h
  ·rename_i hx;rw[db hx,DL h]
  ·cases h
def Bm:PV->Option Int
 | .st u [.int .i64 z,.aW]=>bif dg u 130 then(bif pC z then some z else none)else none
 | .st u [.int .i64 s,.seq l]=>match yG l with
  |some a=>qV (iI wB a) fun n=>bif dg u 130&&(dl kG n&&tg (au wB n) a)then
   (bif oK s 1 then some (.ofNat n)else bif oK s (-1)then some (.negSucc (n-1))else none)else none
  |none=>none
 |_=>none
theorem Nq{p:PV}{z:Int}(h:Bm p=some z):p=eI ⟨z,false⟩:=by
 unfold Bm at h
 split at h
 ·rename_i u y;simp only[ab]at h
  split at h
  ·rename_i g
   split at h
   ·rename_i hs;simp only[eb]at h;subst h;rw[db g];exact(Ae (by rw[vc,hs];rfl) false).symm
   ·cases h
  ·cases h
 ·rename_i u s l
  split at h
  ·rename_i i f;rw[xB]at h;have e:=Ob f;generalize iI wB i=n at h;simp only[ab]at h
   split at h
   ·rename_i hc;simp only[ac,dp]at hc;obtain⟨b,j,c⟩:=hc;have d:=DL c;have k:kG=9223372036854775808:=rfl;rw[db b,e,<-d];have key:∀z:Int,z.natAbs=n->eI ⟨z,false⟩=kD z:=fun z m=>by
     refine Ae ?_ false;have e1:pC z=false:=by
      rcases a:pC z with _|_
      ·rfl
      ·have:=Av.1 a;omega
     have e2:dg z.natAbs kG=false:=by
      rcases a:dg z.natAbs kG with _|_
      ·rfl
      ·have:=db a;omega
     rw[vc,e1,e2];rfl
    split at h
    ·rename_i hs;simp only[eb]at h;subst h;rw[AO hs,key _ rfl,kD,if_neg (by show¬((n:Int)<0);omega)];rfl
    ·split at h
     ·rename_i hs;simp only[eb]at h;subst h;rw[AO hs,key _ (by show n-1+1=n;omega),kD,if_pos (by omega)];have:(a8 (n-1)).natAbs=n:=by show n-1+1=n;omega
      rw[this];rfl
     ·cases h
   ·cases h
  ·cases h
 ·cases h
def FC(n:Int)(d:Nat):Bool:=dl 0 d&&(dl n.natAbs Az&&(dl d Az&&dg (dq n.natAbs d) 1))
def qP:PV->Option (Int×Nat)
 | .st u [a,b]=>match Bm a,Bm b with
  |some n,some (.ofNat d)=>bif dg u 132&&FC n d then some (n,d)else none
  |_,_=>none
 |_=>none
def fr(n:Int)(d:Nat):NF:=⟨ec n d,false⟩
theorem V7:Az=2^200:=by decide
theorem DP{p:PV}{n:Int}{d:Nat}(h:qP p=some (n,d)):p=eF (fr n d)/\d≠0/\bI kB (fr n d).q:=by
 unfold qP at h
 split at h
 case h_2=>cases h
 rename_i u a b
 split at h
 case h_2=>cases h
 rename_i c d' j k;simp only[ab]at h
 split at h
 case isFalse=>cases h
 rename_i hc;simp only[eb,Prod.mk.injEq]at h;obtain⟨rfl,rfl⟩:=h;simp only[FC,ac,dp]at hc;obtain⟨c1,c2,c3,c4,c5⟩:=hc;have f:=db c5;have e:d'≠0:=by omega
 obtain⟨e1,e2⟩:=l7 (n:=c) e;rw[f]at e1 e2;simp only[be,bo,ea]at e1 e2;rw[V7]at c3 c4;refine⟨?_,e,(Dw e c3 c4).mono (by decide)⟩;rw[db c1,Nq j,Nq k,eF];have g:(fr c d').num=⟨c,false⟩:=by rw[NF.num,fr,e1]
 have i:(fr c d').den=⟨(d':Int),false⟩:=by rw[NF.den,fr,e2];rfl
 rw[g,i];rfl
def nB(n:Int)(d:Nat):Option PV:=
 qV (dq n.natAbs d) fun g=>Bo (n/g) fun n=>qV (d/g) fun d=>match vc n,vc (.ofNat d)with
  |some a,some b=>some (.st 132 [a,b])
  |_,_=>none
theorem qp{n:Int}{d:Nat}{p:PV}(i:d≠0)(h:nB n d=some p)(m:Bool):p=eF ⟨ec n d,m⟩:=by
 obtain⟨e1,e2⟩:=l7 (n:=n) i;simp only[nB,xB,Nl]at h
 split at h
 case h_2=>cases h
 rename_i a b f g;simp only[eb]at h;subst h;rw[eF];have c:(NF.num ⟨ec n d,m⟩)=⟨n/(dq n.natAbs d:Nat),m⟩:=by rw[NF.num,e1]
 have e:(NF.den ⟨ec n d,m⟩)=⟨((d/dq n.natAbs d:Nat):Int),false⟩:=by rw[NF.den,e2];rfl
 rw[c,e,Ae f,<-Ae g false];rfl
def two(op:Int->Nat->Int->Nat->Option PV)(a b:PV):Option PV:=match qP a,qP b with
 |some (n,d),some (m,e)=>op n d m e
 |_,_=>none
theorem xF{op:Int->Nat->Int->Nat->Option PV}{a b p:PV}(h:two op a b=some p):
 ∃n d m e,a=eF (fr n d)/\b=eF (fr m e)/\d≠0/\e≠0/\bI kB (fr n d).q/\bI kB (fr m e).q/\op n d m e=some p:=by
 unfold two at h
 split at h
 case h_2=>cases h
 rename_i n d m e j k;obtain⟨c,a2,a3⟩:=DP j;obtain⟨f,g,i⟩:=DP k;exact⟨n,d,m,e,c,f,a2,g,a3,i,h⟩
def Ri(n:Int)(d:Nat)(m:Int)(e:Nat):Option PV:=nB (n*e+m*d) (d*e)
def Rk(n:Int)(d:Nat)(m:Int)(e:Nat):Option PV:=nB (n*e-m*d) (d*e)
def Rj(n:Int)(d:Nat)(m:Int)(e:Nat):Option PV:=nB (n*m) (d*e)
def BF:Int->Int
 | .ofNat n=>bif dg n 0 then 0 else 1
 | .negSucc _=>-1
theorem MC(z:Int):BF z=if z<0 then -1 else if z=0 then 0 else 1:=by
 cases z with
 |ofNat n=>
  rw[if_neg (by simp)];cases n with
  |zero=>rfl
  |succ n=>rw[if_neg (by simp;omega)];rfl
 |negSucc n=>rw[if_pos (by omega)];rfl
def Fz(n:Int)(d:Nat)(m:Int)(e:Nat):Option PV:=some (.int .i64 (BF (n*e-m*d)))
def Bw(n:Int)(d:Nat)(m:Int)(e:Nat):Option PV:=match m with
 | .ofNat k=>bif dg k 0 then none else nB (n*e) (d*k)
 | .negSucc k=>nB (-(n*e)) (d*(k+1))
theorem u9{d:Nat}(h:d≠0):(d:Int)≠0:=by omega
theorem Zj{n m:Int}{d e:Nat}{p:PV}(a:d≠0)(b:e≠0)(h:Ri n d m e=some p):p=eF ((fr n d).add (fr m e)):=by
 rw[NF.add,fr,fr];dsimp only;rw[en _ _ (u9 a) (u9 b)];have:=qp (dk a b) h;rw[a6]at this;exact this _
theorem Zm{n m:Int}{d e:Nat}{p:PV}(a:d≠0)(b:e≠0)(h:Rk n d m e=some p):p=eF ((fr n d).sub (fr m e)):=by
 rw[NF.sub,NF.add,NF.neg,fr,fr];dsimp only;rw[ew,en _ _ (u9 a) (u9 b)];have:=qp (dk a b) h;rw[a6]at this;rw[Int.neg_mul,<-Int.sub_eq_add_neg];exact this _
theorem Zl{n m:Int}{d e:Nat}{p:PV}(a:d≠0)(b:e≠0)(h:Rj n d m e=some p):p=eF ((fr n d).mul (fr m e)):=by
 rw[NF.mul,fr,fr];dsimp only;rw[ed];have:=qp (dk a b) h;rw[a6]at this;exact this _
theorem Yo(x y:Rat):cT x y=if x-y<0 then -1 else if x-y=0 then 0 else 1:=by
 have b:x-y<0↔x<y:=by
  constructor
  ·intro h;have a:=(eo (c:=y)).2 h
   rwa [ei,ej]at a
  ·intro h;refine(eo (c:=y)).1 ?_
   rwa [ei,ej]
 have a:x-y=0↔x=y:=by
  constructor
  ·intro h;have d:=congrArg (·+y) h
   simpa[ei,ej]using d
  ·intro h;rw[h,Rat.sub_self]
 simp only[cT,b,a]
theorem C3(n:Int){d:Nat}(i:d≠0):(if ec n d<0 then(-1:Int)else if ec n d=0 then 0 else 1)=BF n:=by
 rw[Eu,MC];obtain⟨e1,-⟩:=l7 (n:=n) i;have k:0<dq n.natAbs d:=Nat.gcd_pos_of_pos_right _ (by omega);have j:((dq n.natAbs d:Nat):Int)∣n:=by
  rw[Int.ofNat_dvd_left];exact Nat.gcd_dvd_left _ _
 obtain⟨c,hc⟩:=j;rw[e1];generalize dq n.natAbs d=g at*;have a:(0:Int)<g:=by omega
 subst hc;rw[Int.mul_ediv_cancel_left _ (by omega)];have b:(g:Int)*c<0↔c<0:=by
  constructor
  ·intro h;refine Int.not_le.1 fun f=>?_;have:=bl (Int.le_of_lt a) f;omega
  ·intro h;exact Int.mul_neg_of_pos_of_neg a h
 have e:(g:Int)*c=0↔c=0:=by
  rw[Int.mul_eq_zero];constructor
  ·rintro(h|h)
   ·omega
   ·exact h
  ·exact fun h=>.inr h
 simp only[b,e]
theorem Zk{n m:Int}{d e:Nat}{p:PV}(a:d≠0)(b:e≠0)(h:Fz n d m e=some p):p=.int .i64 (cT (fr n d).q (fr m e).q):=by
 simp only[Fz,eb]at h;rw[<-h,Yo,fr,fr];dsimp only;rw[Rat.divInt_sub_divInt _ _ (u9 a) (u9 b),<-a6,C3 _ (dk a b)]
theorem OT{n m:Int}{d e:Nat}{p:PV}(a:d≠0)(c:e≠0)(h:Bw n d m e=some p):p=eF ((fr n d).div (fr m e))/\(fr m e).q≠0:=by
 have b:m≠0->(fr m e).q≠0:=fun g hq=>by
  rw[fr]at hq;dsimp only at hq;have:=C3 m c;rw[hq,if_neg (by decide),if_pos rfl,MC]at this
  split at this
  ·omega
  ·first
     |omega
     |(rw[if_neg g]at this;omega)
 rw[NF.div,fr,fr];dsimp only;unfold Bw at h;cases m with
 |ofNat k=>
  simp only[ab]at h
  split at h
  ·cases h
  ·rename_i hk;have f:k≠0:=fun e=>hk (by rw[e];rfl);have:=qp (dk a f) h;refine⟨?_,b (by show(k:Int)≠0;omega)⟩;have e:(ec n d:Rat)/ec (Int.ofNat k) e=ec (n*e) (d*k):=by
    rw[ee,e7,ed];rfl
   rw[e];rw[a6]at this;exact this _
 |negSucc k=>
  dsimp only at h;have:=qp (dk a (Nat.succ_ne_zero k)) h;refine⟨?_,b (by omega)⟩;have e:(ec n d:Rat)/ec (a8 k) e=ec (-(n*e)) ((d:Int)*((k+1:Nat):Int)):=by
   rw[ee,e7,ed];rw[show a8 k= -((k+1:Nat):Int)from rfl,Int.mul_neg];rw[Rat.divInt_neg']
  rw[e];rw[a6]at this;exact this _
def Bv:Nat->Nat->Nat
 |0,_=>0
 |f+1,n=>bif dg n 0 then 0 else Bv f (n/10)+1
theorem YX{a b:Nat}(h:a<b):dl a b=true:=by rw[dp];exact h
theorem Bk{a b:Nat}(h:dl a b=true):a<b:=by rw[dp]at h;exact h
theorem OJ:∀(f n:Nat),n<10^f->Bv f n=nd n
 |0,n,h=>by
  have:n=0:=by simpa using h
  subst this;rw[nd];rfl
 |f+1,n,h=>by
  rw[Bv,nd]
  by_cases a:n=0
  ·subst a;rfl
  ·have b:dg n 0=false:=by
    rcases c:dg n 0 with _|_
    ·rfl
    ·exact(a (db c)).elim
   rw[b,cond_false,dif_neg a,OJ f (n/10) (by rw[Nat.div_lt_iff_lt_mul (by omega)];rw[Nat.pow_succ]at h;exact h)]
def vt(n:Nat):List Nat:=qV (Bv 80 n) fun k=>bif dl 1 k then low k n else low 1 n
theorem AU{n:Nat}(h:n<10^80):vt n=bc n:=by
 rw[vt,xB,OJ _ _ h,bc];rcases a:dl 1 (nd n)with _|_
 ·have:¬1<nd n:=fun b=>by rw[YX b]at a;cases a
  rw[cond_false,Nat.max_eq_left (by omega)]
 ·have:1<nd n:=Bk a;rw[cond_true,Nat.max_eq_right (by omega)]
def FT:Int->List Nat
 | .ofNat n=>vt n
 | .negSucc n=>45::vt (n+1)
theorem aHi{z:Int}(h:z.natAbs<10^80):FT z=bL z:=by
 cases z with
 |ofNat n=>rw[bL,if_neg (by show¬((n:Int)<0);omega)];exact AU h
 |negSucc n=>rw[bL,if_pos (by omega)];exact congrArg (45::·) (AU h)
def FR(n:Int)(d:Nat):List Nat:=bif dg d 1 then FT n else FT n++47::vt d
theorem LQ{n:Int}{d:Nat}(a:d≠0)(b:dq n.natAbs d=1):(fr n d).q.num=n/\(fr n d).q.den=d:=by
 obtain⟨e1,e2⟩:=l7 (n:=n) a;rw[b]at e1 e2;simp only[be,bo,ea]at e1 e2;exact⟨e1,e2⟩
theorem LW{p:PV}{n:Int}{d:Nat}(h:qP p=some (n,d)):dq n.natAbs d=1/\n.natAbs<10^80/\d<10^80:=by
 unfold qP at h
 split at h
 case h_2=>cases h
 split at h
 case h_2=>cases h
 simp only[ab]at h
 split at h
 case isFalse=>cases h
 rename_i hc;simp only[eb,Prod.mk.injEq]at h;obtain⟨rfl,rfl⟩:=h;simp only[FC,ac,dp]at hc;obtain⟨c1,c2,c3,c4,c5⟩:=hc;have a:Az<10^80:=by decide
 exact⟨db c5,by omega,by omega⟩
theorem aHh{p:PV}{n:Int}{d:Nat}(h:qP p=some (n,d))(f:d≠0):FR n d=bn (fr n d).q:=by
 obtain⟨g,b,c⟩:=LW h;obtain⟨e1,e2⟩:=LQ f g;rw[FR,bn,e1,e2,aHi b,AU c];rcases a:dg d 1 with _|_
 ·rw[cond_false,if_neg (fun e=>by rw[e]at a;cases a)]
 ·rw[cond_true,if_pos (db a)]
def qN:List Nat->Nat->Bool
 |[],_=>true
 |c::r,f=>match f with
  |0=>false
  |f+1=>bif dl c 256 then qN r f else false
theorem xM:∀{s:List Nat}{f:Nat},qN s f=true->s.length<=f/\∀c∈s,c<256
 |[],_,_=>⟨Nat.zero_le _,fun c hc=>by cases hc⟩
 |c::r,0,h=>by simp[qN]at h
 |c::r,f+1,h=>by
  simp only[qN,ab]at h
  split at h
  ·rename_i hc;obtain⟨b,a⟩:=xM h;refine⟨by simp;omega,fun x hx=>?_⟩;rcases da.1 hx with rfl|hx
   ·exact Bk hc
   ·exact a x hx
  ·cases h
def Re(z:Int):Bool:=match z with
 | .ofNat n=>dg n 0
 |_=>false
theorem aDo{z:Int}(h:Re z=true):z=0:=by
 cases z with
 |ofNat n=>rw[db (show dg n 0=true from h)];rfl
 |negSucc n=>cases h
def E7(n:Int)(d:Nat):Option PV:=bif dg d 0 then none else nB n d
theorem aiN{n:Int}{d:Nat}{p:PV}(h:E7 n d=some p)(m:Bool):p=eF ⟨ec n d,m⟩:=by
 unfold E7 at h;rcases a:dg d 0 with _|_
 ·rw[a]at h;exact qp (fun e=>by rw[e]at a;cases a) h m
 ·rw[a]at h;cases h
def E8(s:List Nat):Option PV:=bif Re (bK s)&&qN s 1000 then
 Bo (if bZ s=true then -(aZ (bH s):Int)else aZ (bH s)) fun n=>qV (if et s=true then aZ (bQ s)else 1) fun d=>E7 n d else none
theorem ai0{s:List Nat}{p:PV}(h:E8 s=some p):p=eF ⟨aL s,false⟩/\bK s=0/\s.length<=1048576:=by
 unfold E8 at h;simp only[ab,Nl,xB]at h
 split at h
 case isFalse=>cases h
 rename_i hc;rw[ac]at hc;obtain⟨c1,c2⟩:=hc;obtain⟨a,b⟩:=xM c2;refine⟨?_,aDo c1,by omega⟩;rw[aL];exact aiN h false
def P9:Int->Bool
 | .ofNat n=>dl n kG
 | .negSucc n=>dl n kG
theorem aug{z:Int}(h:P9 z=true):-9223372036854775808<=z/\z<=9223372036854775807:=by
 cases z with
 |ofNat n=>have:n<9223372036854775808:=Bk h;refine⟨?_,?_⟩<;>show _<=_<;>simp only[Int.ofNat_eq_natCast]<;>omega
 |negSucc n=>have:n<9223372036854775808:=Bk h;omega
def FE(f:Nat)(a:PV):Option PV:=match a with
 | .int .i64 z=>bif dg f 68&&P9 z then nB z 1 else none
 | .str s=>bif dg f 93 then E8 s else bif dg f 174&&qN s 1000 then some (.int .i64 (bK s))else none
 | .st u [.str x,.str y]=>bif dg f 106&&(dg u 41&&(qN x 1000&&qN y 1000))then some (.int .i64 (bX ⟨x,y⟩))else none
 | .st u [c,e]=>match qP (.st u [c,e])with
  |some (n,d)=>bif dg f 206 then nB (-n) d else
   bif dg f 109 then some (.int .i64 (BF n))else
   bif dg f 169 then Bw 1 1 n d else
   bif dg f 168 then some (.str (FR n d))else
   bif dg f 167 then some (.bool false)else none
  |none=>none
 |_=>none
def vr(f:Nat)(a b:PV):Option PV:=
 bif dg f 70 then two Ri a b else
 bif dg f 166 then two Rk a b else
 bif dg f 165 then two Rj a b else
 bif dg f 73 then two Bw a b else
 bif dg f 110 then two Fz a b else none
def hk(f:Nat):List PV->Option PV
 |[a]=>FE f a
 |[a,b]=>vr f a b
 |_=>none
theorem PX(z:Int):ec z ((1:Nat):Int)=(z:Rat):=by
 rw[show((1:Nat):Int)=1 from rfl,eq];rw[show((1:Int):Rat)=1 from rfl,ee,show(1:Rat)⁻¹=1 from by decide+kernel,Rat.mul_one]
theorem bq{a b:Nat}(h:dg a b=true):a=b:=db h
theorem aEZ{f:Nat}{a v:PV}(h:FE f a=some v):aA prog f [a] v:=by
 unfold FE at h
 split at h
 ·rename_i z;simp only[ab]at h
  split at h
  ·rename_i hc;rw[ac]at hc;obtain⟨w,A⟩:=aug hc.2;rw[bq hc.1,qp (by decide) h true];have:=qO z w A;rw[NF.int]at this;rw[PX];exact this
  ·cases h
 ·rename_i s;simp only[ab]at h
  split at h
  ·rename_i hf;obtain⟨e1,e2,e3⟩:=ai0 h;rw[bq hf,e1];exact jP s e2 e3
  ·split at h
   ·rename_i hc;rw[ac]at hc;obtain⟨j,b⟩:=xM hc.2;simp only[eb]at h;subst h;rw[bq hc.1];exact yg s (by omega) b
   ·cases h
 ·rename_i u x y;simp only[ab]at h
  split at h
  ·rename_i hc;simp only[ac]at hc;obtain⟨c1,c2,c3,c4⟩:=hc;obtain⟨j,b⟩:=xM c3;obtain⟨B,p⟩:=xM c4;simp only[eb]at h;subst h;rw[bq c1,bq c2];exact ru ⟨x,y⟩ ⟨⟨by show x.length<=_;omega,b⟩,⟨by show y.length<=_;omega,p⟩⟩
  ·cases h
 ·rename_i u c e _
  split at h
  case h_2=>cases h
  rename_i n d l;obtain⟨t,g,i⟩:=DP l;rw[t];simp only[ab]at h
  split at h
  ·rename_i hf;rw[bq hf,qp g h false,<-ew];exact L8 _ i
  split at h
  ·rename_i hf;simp only[eb]at h;subst h;rw[bq hf,<-C3 n g];exact xV _
  split at h
  ·rename_i hf;obtain⟨e1,e2⟩:=OT (by decide) g h;have e3:(fr 1 1).div (fr n d)=(fr n d).inv:=by
    rw[NF.div,NF.inv,fr,fr];dsimp only;rw[PX,ee];rw[show((1:Int):Rat)=1 from rfl,Rat.one_mul]
   rw[bq hf,e1,e3];exact L9 _ i e2
  split at h
  ·rename_i hf;simp only[eb]at h;subst h;rw[bq hf,aHh l g];exact z8 _ i
  split at h
  ·rename_i hf;simp only[eb]at h;subst h;rw[bq hf];have m:=Ah _ i;obtain⟨q,j,b⟩:=LW l;obtain⟨e1,e2⟩:=LQ g q;have o:∀k,k<10^80->kN k=false:=fun k hk=>by
    rw[kN,decide_eq_false_iff_not];have C:nd k<=80:=Nat.not_lt.1 fun r=>by have:=(nv _ _).1 r;omega
    rw[rQ];omega
   rw[yy,e1,e2,o _ j,o _ b]at m;exact m
  ·cases h
 ·cases h
theorem aGZ{f:Nat}{a b v:PV}(h:vr f a b=some v):aA prog f [a,b] v:=by
 unfold vr at h;simp only[ab]at h
 split at h
 ·rename_i hf;obtain⟨n,d,m,e,rfl,rfl,c,g,j,k,i⟩:=xF h;rw[bq hf,Zj c g i];exact u5 _ _ j k
 split at h
 ·rename_i hf;obtain⟨n,d,m,e,rfl,rfl,c,g,j,k,i⟩:=xF h;rw[bq hf,Zm c g i];exact As _ _ j k
 split at h
 ·rename_i hf;obtain⟨n,d,m,e,rfl,rfl,c,g,j,k,i⟩:=xF h;rw[bq hf,Zl c g i];exact qA _ _ j k
 split at h
 ·rename_i hf;obtain⟨n,d,m,e,rfl,rfl,c,g,j,k,i⟩:=xF h;obtain⟨e1,e2⟩:=OT c g i;rw[bq hf,e1];exact EU _ _ j k e2
 split at h
 ·rename_i hf;obtain⟨n,d,m,e,rfl,rfl,c,g,j,k,i⟩:=xF h;rw[bq hf,Zk c g i];exact oI _ _ j k
 ·cases h
theorem as0{f:Nat}{vs:List PV}{v:PV}(h:hk f vs=some v):aA prog f vs v:=by
 unfold hk at h
 split at h
 ·exact aEZ h
 ·exact aGZ h
 ·cases h
end Hk
theorem aHk{n:Nat}(h:n<10^80):bn ((n:Nat):Rat)=Hk.vt n:=by
 rw[Hk.AU h,bn,if_pos (by rfl),bL,if_neg (by show¬((n:Int)<0);omega)];rfl
structure dR where
 x:Int
 y:Int
 deriving DecidableEq
structure dc where
 name:List Nat
 dI:Int
 a:List Nat
 b:List Nat
structure cF where
 name:List Nat
 pt:dU
structure ar where
 cs:List dR
 br:Int
 aP:List dc
 aB:List cF
def cQ(p:dR):PV:=.st 107 [.int .i64 p.x,.int .i64 p.y]
def ff(p:dc):PV:=.st 52 [.str p.name,.int .i64 p.dI,.str p.a,.str p.b]
def bO(p:cF):PV:=.st 74 [.str p.name,du p.pt]
def ch(t:ar):PV:=.st 25 [.seq (t.cs.map cQ),.int .i64 t.br,.seq (t.aP.map ff),.seq (t.aB.map bO)]
@[simp] theorem aL9(p:dR):aM (cQ p)=.agg 107:=rfl
@[simp] theorem aK1(p:dR):cH (cQ p)=[.int .i64 p.x,.int .i64 p.y]:=rfl
@[simp] theorem aL6(p:dc):aM (ff p)=.agg 52:=rfl
@[simp] theorem aKY(p:dc):cH (ff p)=[.str p.name,.int .i64 p.dI,.str p.a,.str p.b]:=rfl
@[simp] theorem aMa(p:cF):aM (bO p)=.agg 74:=rfl
@[simp] theorem aK2(p:cF):cH (bO p)=[.str p.name,du p.pt]:=rfl
@[simp] theorem aMf(t:ar):aM (ch t)=.agg 25:=rfl
@[simp] theorem aK6(t:ar):cH (ch t)=[.seq (t.cs.map cQ),.int .i64 t.br,.seq (t.aP.map ff),.seq (t.aB.map bO)]:=rfl
@[simp] theorem aKp:prog.cellsOf 107=2:=by kernel_rfl
@[simp] theorem aKo:prog.cellsOf 52=4:=by kernel_rfl
@[simp] theorem aKq:prog.cellsOf 74=3:=by kernel_rfl
theorem ahU(x y:Int):cQ ⟨x,y⟩=.st 107 [.int .i64 x,.int .i64 y]:=rfl
def fM(p:dR):Bool:=decide (10000<max p.x p.y)||decide (min p.x p.y< -10000)
theorem Ze(p:dR):aA prog 74 [cQ p] (.bool (fM p)):=by
 obtain⟨x,y⟩:=p;refine aG nf QO mix (by simp[f74]) ?_;have e1:max x y=if x<y then y else x:=by split<;>omega
 have e2:min x y=if y<x then y else x:=by split<;>omega
 rw[fM,e1,e2]
 by_cases h:(if x<y then y else x)<=10000
 ·have a:¬10000<(if x<y then y else x):=by omega
  by_cases b:(if y<x then y else x)< -10000
  ·simp[f74,aa,h,a,b]
  ·simp[f74,aa,h,a,b]
 ·have a:10000<(if x<y then y else x):=by omega
  simp[f74,aa,h,a]
def dL(p:dR):Prop:=-10000<=p.x/\p.x<=10000/\-10000<=p.y/\p.y<=10000
theorem Gb{p:dR}(h:fM p=false):dL p:=by
 simp only[fM,Bool.or_eq_false_iff,decide_eq_false_iff_not]at h;unfold dL;omega
def lh(a b c:dR):Int:=(b.x-a.x)*(c.y-a.y)-(b.y-a.y)*(c.x-a.x)
theorem tv{a b:Int}{A B:Int}(c:-A<=a)(d:a<=A)(e:-B<=b)(f:b<=B):-(A*B)<=a*b/\a*b<=A*B:=by
 have k1:a.natAbs<=A.natAbs:=by omega
 have k2:b.natAbs<=B.natAbs:=by omega
 have k3:=Nat.mul_le_mul k1 k2;rw[<-bi,<-bi]at k3;have k4:0<=A*B:=bl (by omega) (by omega);omega
theorem SF(a b c:dR)(i:dL a)(j:dL b)(hc:dL c):aA prog 170 [cQ a,cQ b,cQ c] (.int .i64 (lh a b c)):=by
 obtain⟨d,e⟩:=a;obtain⟨bx,f⟩:=b;obtain⟨g,h⟩:=c;simp only[dL]at i j hc;have k:ay.wrap (bx-d)=bx-d:=aO _ (by omega) (by omega);have l:ay.wrap (h-e)=h-e:=aO _ (by omega) (by omega);have m:ay.wrap (f-e)=f-e:=aO _ (by omega) (by omega)
 have n:ay.wrap (g-d)=g-d:=aO _ (by omega) (by omega);have r:=tv (a:=bx-d) (b:=h-e) (A:=20000) (B:=20000) (by omega) (by omega) (by omega) (by omega);have s:=tv (a:=f-e) (b:=g-d) (A:=20000) (B:=20000) (by omega) (by omega) (by omega) (by omega);have o:ay.wrap ((bx-d)*(h-e))=(bx-d)*(h-e):=aO _ (by omega) (by omega);have p:ay.wrap ((f-e)*(g-d))=(f-e)*(g-d):=aO _ (by omega) (by omega);have q:ay.wrap ((bx-d)*(h-e)-(f-e)*(g-d))=(bx-d)*(h-e)-(f-e)*(g-d):=aO _ (by omega) (by omega);refine aG nf Pk mix (by simp[f170]) ?_;rw[lh];simp[f170,aa,k,l,m,n,o,p,q]
def ar.nx(t:ar)(i:Nat):Nat:=(i+1)% t.cs.length
def ar.at(t:ar)(i:Nat):dR:=t.cs.getD i ⟨0,0⟩
theorem ar.get{t:ar}{i:Nat}(h:i<t.cs.length):t.cs[i]?=some (t.at i):=by
 rw[ar.at,b1,bv h];rfl
@[simp] theorem ar.aN{t:ar}{i:Nat}(h:i<t.cs.length):t.cs[i]'h=t.at i:=by
 rw[ar.at,b1,bv h];rfl
theorem ar.iJ{t:ar}(h:0<t.cs.length)(i:Nat):t.nx i<t.cs.length:=Nat.mod_lt _ h
theorem vR(t:ar)(i:Nat)(h:i<t.cs.length)(g:t.cs.length<=1000000):aA prog 56 [ch t,.int .i64 i] (cQ (t.at (t.nx i))):=by
 have f:ay.wrap ((i:Int)+1)=(i:Int)+1:=aO _ (by omega) (by omega);have c:=t.iJ (by omega) i;have e1:((i:Int)+1).tmod (t.cs.length:Int)=((t.nx i:Nat):Int):=by
  rw[ar.nx,bb,a7 (by omega)];rfl
 have b:=ar.get c;have d:¬t.cs.length=0:=by omega
 have a:¬t.cs=[]:=by intro e;rw[e]at h;simp at h
 refine aG nf QE mix (by simp[f56]) ?_;simp[f56,aa,f,e1,b,d,a]
def ar.nI(t:ar)(i:Nat)(m:Nat):Prop:=∀k,k<m->k≠i->k≠t.nx i->0<lh (t.at i) (t.at (t.nx i)) (t.at k)
instance(t:ar)(i m:Nat):Decidable (t.nI i m):=inferInstanceAs (Decidable (∀k,k<m->_))
def ar.fD(t:ar):Bool:=decide (∀i,i<t.cs.length->t.nI i t.cs.length)
theorem ar.dY{t:ar}(h:∀p∈t.cs,dL p){i:Nat}(hi:i<t.cs.length):dL (t.at i):=h _ (b0 (ar.get hi))
theorem SL(t:ar)(x:t.cs.length<=1000000)(m:∀p∈t.cs,dL p):aA prog 75 [ch t] (.bool t.fD):=by
 refine aG nf QP mix (by simp[f75]) ?_;generalize a:t.cs.length=n at*;simp[f75,aa,a];refine lp (α:=Nat) (fun i=>⟨[(4,.p (.int .i64 i)),(3,.p (.int .i64 n)),(1,.ptr 0 [])],[.box false (.p (ch t))]⟩) (fun i=>i<=n/\∀j,j<i->t.nI j n) (fun i=>n-i) 0 (by simp) ?_;rintro i ⟨v,q⟩
 by_cases hi:i<n
 ·simp[hi];refine lp (α:=Nat) (fun k=>⟨[(5,.p (.int .i64 k)),(4,.p (.int .i64 i)),(3,.p (.int .i64 n)),(1,.ptr 0 [])],[.box false (.p (ch t))]⟩) (fun k=>k<=n/\t.nI i k) (fun k=>n-k) 0 (by simp[ar.nI]) ?_;rintro k ⟨g1,g2⟩
  by_cases hk:k<n
  ·have r:=vR t i (by omega) (by omega);have y:t.nx i<n:=by rw[<-a];exact t.iJ (by omega) i
   have d:=ct (i:=i) (by omega);have e:=ct (i:=k) (by omega);have e1:((i:Int)+1).tmod (n:Int)=((t.nx i:Nat):Int):=by
    rw[ar.nx,a,bb,a7 (by omega)];rfl
   have s:=SF (t.at i) (t.at (t.nx i)) (t.at k) (ar.dY m (by omega)) (ar.dY m (by omega)) (ar.dY m (by omega));have f:=ar.get (t:=t) (i:=i) (by omega);have gk:=ar.get (t:=t) (i:=k) (by omega);have o:¬n=0:=by omega
   by_cases c1:k=i
   ·subst c1;simp[hk,e];exact rd (k+1) ⟨hk,fun j g=>by
     by_cases l:j=k
     ·intro h;exact(h l).elim
     ·exact g2 j (by omega)⟩
   ·have b:¬(k:Int)=(i:Int):=by omega
    by_cases c2:k=t.nx i
    ·rw[<-c2]at e1;simp[hk,b,d,e,e1,o];exact rd (k+1) ⟨hk,fun j g=>by
      by_cases l:j=k
      ·intro _ h;exact(h (by omega)).elim
      ·exact g2 j (by omega)⟩
    ·have c:¬(k:Int)=((t.nx i:Nat):Int):=by omega
     by_cases c3:lh (t.at i) (t.at (t.nx i)) (t.at k)<=0
     ·simp[hk,b,c,d,e,e1,o,f,gk,a,aa];refine Go.ag.e2 r ?_;simp[hk,a,f,gk,b,c,aa];refine Go.ag.e3 s ?_;simp[c3,b,c];have:t.fD=false:=by
       rw[ar.fD,decide_eq_false_iff_not];intro h;have:=h i (by omega) k (by omega) c1 c2;omega
      rw[this]
     ·simp[hk,b,c,d,e,e1,o,f,gk,a,aa];refine Go.ag.e2 r ?_;simp[hk,a,f,gk,b,c,aa];refine Go.ag.e3 s ?_;simp[c3,e,b,c];exact rd (k+1) ⟨hk,fun j g=>by
       by_cases l:j=k
       ·subst l;intro _ _;omega
       ·exact g2 j (by omega)⟩
  ·have:k=n:=by omega
   subst this;have d:=ct (i:=i) (by omega);simp[d];exact rd (i+1) ⟨hi,fun j g=>by
    by_cases u:j=i
    ·subst u;exact g2
    ·exact q j (by omega)⟩
 ·have w:i=n:=by omega
  have:t.fD=true:=by
   rw[ar.fD,decide_eq_true_eq,a];intro j g;exact q j (by omega)
  simp[hi,this]
def eO(p:dR):V2:=⟨(p.x:Rat),(p.y:Rat)⟩
theorem iy{p:dR}(h:dL p):bS 14 (eO p):=by
 simp only[dL]at h;exact⟨xG (by omega) (by decide),xG (by omega) (by decide)⟩
theorem tA(p:dR)(h:dL p):aA prog 55 [cQ p] (eV (eO p)):=by
 have c:=h;simp only[dL]at h;have a:=Ei p.x (by omega) (by omega);have b:=Ei p.y (by omega) (by omega);refine aG nf QD mix (by simp[f55]) ?_;rw[eO,xR];simp[f55,aa];refine e1 a ?_;simp[aa];refine e1 b ?_;simp[aa]
def ar.eP(t:ar)(i:Nat):V2:=(eO (t.at (t.nx i))).sub (eO (t.at i))
def ar.side(t:ar)(i:Nat)(v:V2):Int:=eg ((t.eP i).fw (v.sub (eO (t.at i))))
theorem ar.okW{t:ar}(h:∀p∈t.cs,dL p){i:Nat}(hi:i<t.cs.length):bS 29 (t.eP i):=mz (iy (ar.dY h (t.iJ (by omega) i))) (iy (ar.dY h hi))
theorem Ic(t:ar)(i:Nat)(v:V2)(e:t.cs.length<=1000000)(b:∀p∈t.cs,dL p)(hi:i<t.cs.length)(d:bS 3000 v):aA prog 112 [ch t,.int .i64 i,eV v] (.int .i64 (t.side i v)):=by
 have a:=ar.get hi;have c:=iy (ar.dY b hi);have n:=iy (ar.dY b (t.iJ (by omega) i));have f:=tA (t.at i) (ar.dY b hi);have g:=vR t i hi e;have h:=tA (t.at (t.nx i)) (ar.dY b (t.iJ (by omega) i));have j:=u6 (eO (t.at (t.nx i))) (eO (t.at i)) (n.mono (by decide)) (c.mono (by decide));have k:=u6 v (eO (t.at i)) (d.mono (by decide)) (c.mono (by decide));have l:=Sl (t.eP i) (v.sub (eO (t.at i))) ((ar.okW b hi).mono (by decide)) ((mz d c).mono (by decide));have m:=uQ ((t.eP i).fw (v.sub (eO (t.at i)))) ((FZ (ar.okW b hi) (mz d c)).mono (by decide));refine aG nf G9 mix (by simp[f112]) ?_;rw[ar.side];simp[f112,aa,a,hi];refine e1 f ?_;simp[aa,a,hi];refine e2 g ?_;simp[aa,a,hi];refine e1 h ?_;simp[aa,a,hi];refine⟨by repeat' first|rfl|apply And.intro,?_⟩;refine e2 j ?_;simp[aa,a,hi];refine e2 k ?_;simp[aa,a,hi];refine e2 l ?_;simp[aa,a,hi];refine e1 m ?_;simp[aa,a,hi]
def ar.qX(t:ar)(v:V2)(m:Nat):Int:=(c6 m).foldl (fun o i=>min o (t.side i v)) 1
theorem ar.Ga(t:ar)(v:V2)(m:Nat):t.qX v (m+1)=min (t.qX v m) (t.side m v):=by
 rw[ar.qX,c9,List.foldl_append];rfl
def ar.on(t:ar)(v:V2):Int:=t.qX v t.cs.length
theorem Gu(a b:Int):min a b=if b<a then b else a:=by split<;>omega
theorem wy(t:ar)(v:V2)(b:t.cs.length<=1000000)(c:∀p∈t.cs,dL p)(d:bS 3000 v):aA prog 42 [ch t,eV v] (.int .i64 (t.on v)):=by
 refine aG nf Qy mix (by simp[f42]) ?_;simp[f42,aa];refine lp (α:=Nat) (fun i=>⟨[(6,.p (.int .i64 i)),(5,.p (.int .i64 (t.qX v i))),(3,.ptr 1 []),(2,.ptr 0 [])],[.box false (.p (ch t)),.box false (.p (eV v))]⟩) (fun i=>i<=t.cs.length) (fun i=>t.cs.length-i) 0 (by simp) ?_ (hh:=by simp[ar.qX]) (he:=by simp[ar.qX]);rintro i f
 by_cases hi:i<t.cs.length
 ·have a:=Ic t i v b c hi d;have e:=ct (i:=i) (by omega);have hs:=ar.Ga t v i;rw[Gu]at hs;simp[hi,aa];refine c3 a ?_;simp[e,<-hs];exact rd (i+1) hi
 ·have:i=t.cs.length:=by omega
  subst this;simp[ar.on,aa]
def isLet(c:Int):Bool:=(decide (97<=c)&&decide (c<=122))||(decide (65<=c)&&decide (c<=90))
def ja(c:Int):Bool:=decide (48<=c)&&decide (c<=57)
def mF:Nat->List Nat->Bool
 |_,[]=>true
 |i,c::r=>(isLet c||(decide (i≠0)&&(ja c||decide ((c:Int)=95))))&&mF (i+1) r
def isName(s:List Nat):Bool:=decide (1<=s.length)&&decide (s.length<=24)&&mF 0 s
theorem cls(c:Int):(97<=c/\c<=122)\/(¬97<=c/\65<=c/\c<=90)\/(¬97<=c/\¬65<=c/\¬48<=c/\¬c=95)\/(¬97<=c/\¬65<=c/\48<=c/\c<=57/\¬c=95)\/(¬97<=c/\¬65<=c/\48<=c/\¬c<=57/\¬c=95)\/
 (¬97<=c/\65<=c/\¬c<=90/\48<=c/\¬c<=57/\c=95)\/(¬97<=c/\65<=c/\¬c<=90/\48<=c/\¬c<=57/\¬c=95)\/(97<=c/\¬c<=122/\65<=c/\¬c<=90/\48<=c/\¬c<=57/\¬c=95):=by omega
theorem F9(c:Int):aA prog 211 [.int .i32 c] (.bool (isLet c)):=by
 refine aG nf Gs mix (by simp[f211]) ?_;rcases cls c with⟨a,b⟩|⟨a,b,d⟩|⟨a,b,d,e⟩|⟨a,b,d,e,f⟩|⟨a,b,d,e,f⟩|⟨a,b,d,e,f,g⟩|⟨a,b,d,e,f,g⟩|⟨a,b,d,e,f,g,h⟩<;>simp[f211,isLet, *]
theorem F5{s:List Nat}{i:Nat}(hi:i<s.length):mF i (s.drop i)=((isLet s[i]||(decide (i≠0)&&(ja s[i]||decide ((s[i]:Int)=95))))&&mF (i+1) (s.drop (i+1))):=by
 rw[List.drop_eq_getElem_cons hi,mF]
theorem BP(s:List Nat)(h:s.length<=1048576):aA prog 77 [.str s] (.bool (isName s)):=by
 refine aG nf QR mix (by simp[f77]) ?_;rcases BQ s.length 1 with⟨g1,m⟩|⟨g1,m⟩
 ·have:s.length=0:=by omega
  simp[f77,g1,isName,this]
 rcases BQ 24 s.length with⟨g2,n⟩|⟨g2,n⟩
 ·have:¬s.length<=24:=by omega
  simp[f77,g1,g2,isName,this]
 simp[f77,g1,g2];have e0:isName s=mF 0 s:=by simp[isName];omega
 refine lp (α:=Nat) (fun i=>⟨[(3,.p (.int .i64 i)),(0,.p (.str s))],[]⟩) (fun i=>i<=s.length/\isName s=mF i (s.drop i)) (fun i=>s.length-i) 0 (by simp[e0]) ?_;rintro i ⟨k1,k2⟩
 by_cases hi:i<s.length
 ·rw[F5 hi]at k2;have k:=ct (i:=i) (by omega);generalize hc:(s[i]:Int)=c at*
  by_cases j:i=0
  ·subst j;have l:ay.wrap 1=1:=aO 1 (by omega) (by omega);rcases cls c with⟨a,b⟩|⟨a,b,d⟩|⟨a,b,d,e⟩|⟨a,b,d,e,f⟩|⟨a,b,d,e,f⟩|⟨a,b,d,e,f,g⟩|⟨a,b,d,e,f,g⟩|⟨a,b,d,e,f,g,h⟩
   ·simp[isLet,a,b]at k2;simp[hi,hc,a,b,l];exact rd 1 ⟨hi,by simpa using k2⟩
   ·simp[isLet,a,b,d]at k2;simp[hi,hc,a,b,d,l];exact rd 1 ⟨hi,by simpa using k2⟩
   all_goals
    simp[isLet, *]at k2;simp[hi,hc, *]
  ·rcases cls c with⟨a,b⟩|⟨a,b,d⟩|⟨a,b,d,e⟩|⟨a,b,d,e,f⟩|⟨a,b,d,e,f⟩|⟨a,b,d,e,f,g⟩|⟨a,b,d,e,f,g⟩|⟨a,b,d,e,f,g,h⟩
   ·simp[isLet,a,b]at k2;simp[hi,hc,a,b,k];exact rd (i+1) ⟨hi,k2⟩
   ·simp[isLet,a,b,d]at k2;simp[hi,hc,a,b,d,k];exact rd (i+1) ⟨hi,k2⟩
   ·simp[isLet,ja,a,b,d,e]at k2;simp[hi,hc,j,a,b,d,e,k2]
   ·simp[isLet,ja,a,b,d,e,j]at k2;simp[hi,hc,j,a,b,d,e,k];exact rd (i+1) ⟨hi,k2⟩
   ·simp[isLet,ja,a,b,d,e,f]at k2;simp[hi,hc,j,a,b,d,e,f,k2]
   ·subst g;simp[isLet,ja,j]at k2;simp[hi,hc,j,k];exact rd (i+1) ⟨hi,k2⟩
   ·simp[isLet,ja,a,b,d,e,f,g]at k2;simp[hi,hc,j,a,b,d,e,f,g,k2]
   ·simp[isLet,ja,a,b,d,e,f,g,h]at k2;simp[hi,hc,j,a,b,d,e,f,g,h,k2]
 ·have:i=s.length:=by omega
  subst this;simp[mF]at k2;simp[k2]
theorem F4(s:List Nat):(gp s).size=s.length:=by
 show(s.map UInt8.ofNat).toArray.size=_;simp
theorem Gi(s:List Nat)(b:∀c∈s,c<256)(i:Nat)(h:i<s.length)(a:i<(gp s).size):((gp s)[i]'a).toNat=s[i]:=by
 have e:(gp s)[i]'a=UInt8.ofNat s[i]:=by
  have:(gp s)[i]'a=(s.map UInt8.ofNat).toArray[i]'(by simpa using h):=rfl;rw[this];simp
 rw[e];have:=b s[i] (List.getElem_mem h);simp;omega
theorem aea{s:List Nat}(d:∀c∈s,c<256){i:Nat}(h:i<s.length)(b:s[i]<128):a1 (gp s) i=(s[i],1):=by
 have a:i<(gp s).size:=by rw[F4];exact h
 have e:=Gi s d i h a;rw[decode_ascii (gp s) i a (by rw[e];exact b),e]
theorem ad1{s:List Nat}(b:∀c∈s,c<256){i:Nat}(h:i<s.length)(d:¬s[i]<128):128<=(a1 (gp s) i).1/\1<=(a1 (gp s) i).2:=by
 have a:i<(gp s).size:=by rw[F4];exact h
 have e:=Gi s b i h a;exact decode_high (gp s) i a (by rw[e];omega)
theorem BU(s:List Nat)(h:s.length<=1048576):aA prog 133 [.str s] (.bool (isName s)):=by
 refine SP fun l=>?_;have l:∀c∈s,c<256:=by simpa[ml,dX]using l
 refine aG nf HZ mix (by simp[f133]) ?_;simp[f133];refine lp (α:=Nat) (fun i=>⟨[(6,.ptr 0 []),(0,.p (.str s))],[.dA s i]⟩) (fun i=>i<=s.length/\mF 0 s=mF i (s.drop i)) (fun i=>s.length-i) 0 (by simp) ?_;rintro i ⟨k1,k2⟩
 by_cases hi:i<s.length
 ·rw[F5 hi]at k2
  by_cases n:s[i]<128
  ·have m:=aea l hi n;simp[hi,m];refine c1 (F9 _) ?_;generalize hc:(s[i]:Int)=c at*
   by_cases j:i=0
   ·rcases cls c with⟨a,b⟩|⟨a,b,d⟩|⟨a,b,d,e⟩|⟨a,b,d,e,f⟩|⟨a,b,d,e,f⟩|⟨a,b,d,e,f,g⟩|⟨a,b,d,e,f,g⟩|⟨a,b,d,e,f,g,h⟩
    ·simp[isLet,a,b]at k2;simp[isLet,a,b];exact rd (i+1) ⟨hi,k2⟩
    ·simp[isLet,a,b,d]at k2;simp[isLet,a,b,d];exact rd (i+1) ⟨hi,k2⟩
    all_goals
     simp[isLet,isName, *]at k2;simp[isLet,isName, *]
   ·rcases cls c with⟨a,b⟩|⟨a,b,d⟩|⟨a,b,d,e⟩|⟨a,b,d,e,f⟩|⟨a,b,d,e,f⟩|⟨a,b,d,e,f,g⟩|⟨a,b,d,e,f,g⟩|⟨a,b,d,e,f,g,h⟩
    ·simp[isLet,a,b]at k2;simp[isLet,a,b];exact rd (i+1) ⟨hi,k2⟩
    ·simp[isLet,a,b,d]at k2;simp[isLet,a,b,d];exact rd (i+1) ⟨hi,k2⟩
    ·simp[isLet,ja,a,b,d,e]at k2;have d2:c<48:=by omega
     simp[isLet,isName,a,b,e,j,d2,k2]
    ·simp[isLet,ja,a,b,d,e,f,j]at k2;have d2:¬c<48:=by omega
     have e2:¬57<c:=by omega
     simp[isLet,a,b,d2,e2,f,j];exact rd (i+1) ⟨hi,k2⟩
    ·simp[isLet,ja,a,b,d,e,f]at k2;have d2:¬c<48:=by omega
     have e2:57<c:=by omega
     simp[isLet,isName,a,b,d2,e2,f,j,k2]
    ·subst g;simp[isLet,ja,j]at k2;simp[isLet,j];exact rd (i+1) ⟨hi,k2⟩
    ·simp[isLet,ja,a,b,d,e,f,g]at k2;have d2:¬c<48:=by omega
     have e2:57<c:=by omega
     simp[isLet,isName,a,b,d,d2,e2,g,j,k2]
    ·simp[isLet,ja,a,b,d,e,f,g,h]at k2;have d2:¬c<48:=by omega
     have e2:57<c:=by omega
     simp[isLet,isName,a,b,d,e,d2,e2,h,j,k2]
  ·obtain⟨m,_⟩:=ad1 l hi n;have y:isLet (s[i]:Int)=false:=by simp[isLet];omega
   have x:ja (s[i]:Int)=false:=by simp[ja];omega
   have w:¬(s[i]:Int)=95:=by omega
   simp[y,x,w]at k2;rcases o:a1 (gp s) i with⟨c,d⟩
   rw[o]at m;have q:isLet (c:Int)=false:=by simp[isLet];omega
   have t:¬(c:Int)=95:=by omega
   have u:¬(c:Int)<48:=by omega
   have v:57<(c:Int):=by omega
   simp[hi,o];refine c1 (F9 _) ?_
   by_cases j:i=0
   ·simp[q,j,isName,k2]
   ·simp[q,j,t,u,v,isName,k2]
 ·have:i=s.length:=by omega
  subst this;simp[mF]at k2;cases hs:s with
  |nil=>simp[isName]
  |cons a r=>
   rw[hs]at k2;rcases BQ 24 s.length with⟨g,k⟩|⟨g,k⟩
   ·rw[hs]at g k;have:¬(r.length+1)<=24:=by simp at g;omega
    simp at k;simp[isName,k2,this];omega
   ·rw[hs]at g k;have:(r.length+1)<=24:=by simp at k;omega
    simp at k;simp[isName,k2,this];omega
theorem dW{s:List Nat}(h:bK s=0):bI 2000 (aL s):=by
 obtain⟨b,c⟩:=GK h;have a:(10:Nat)^mD<=2^2000:=by decide+kernel
 exact⟨dz b a,dz c a⟩
theorem RN:bn 1=[49]:=aHk (n:=1) (by decide)
def dH(q:Rat):Int:=if eg q<0\/0<cT q 1 then 3 else 0
def vM(s:List Nat):Int:=if bK s=0 then dH (aL s)else bK s
theorem BS(s:List Nat)(hs:fW s):aA prog 113 [.str s] (.int .i64 (vM s)):=by
 have d:=uS s hs;refine aG nf G8 mix (by simp[f113]) ?_;rw[vM]
 by_cases c:bK s=0
 ·have o:=dW c;have f:=uQ (aL s) (o.mono (by decide));have g:=nK (aL s) 1 (o.mono (by decide)) (by exact⟨by decide+kernel,by decide+kernel⟩);rw[(fU c).1]at f g;rw[RN]at g;rw[if_pos c,dH];rw[c]at d;generalize eg (aL s)=x at*;generalize cT (aL s) 1=y at*
  by_cases a:x<0
  ·simp[f113,aa];refine c1 d ?_;simp[aa];refine c1 f ?_;simp[a,aa]
  ·by_cases b:0<y
   ·simp[f113,aa];refine c1 d ?_;simp[aa];refine c1 f ?_;simp[a,aa];refine c2 g ?_;simp[a,b,aa]
   ·simp[f113,aa];refine c1 d ?_;simp[aa];refine c1 f ?_;simp[a,aa];refine c2 g ?_;simp[a,b,aa]
 ·rw[if_neg c];generalize bK s=e at*;simp[f113,aa];refine c1 d ?_;simp[c,aa]
def gI(o p:dc):Bool:=decide (o.dI=p.dI)&&(decide (cT (aL o.a) (aL p.b)<=0)&&decide (cT (aL p.a) (aL o.b)<=0))
def fS(n:Nat)(c:List dc)(p:dc):Int:=
 if isName p.name=false then 8
 else if c.any (fun o=>decide (o.name=p.name))=true then 9
 else if p.dI<0\/(n:Int)<=p.dI then 10
 else if bK p.a≠0 then bK p.a
 else if bK p.b≠0 then bK p.b
 else if max (dH (aL p.a)) (dH (aL p.b))≠0 then max (dH (aL p.a)) (dH (aL p.b))
 else if 0<cT (aL p.a) (aL p.b)then 11
 else if c.any (fun o=>gI o p)=true then 17 else 0
def s8(p:dc):Prop:=fW p.name/\fW p.a/\fW p.b
def ar.pk(t:ar)(i:Nat):dc:=t.aP.getD i ⟨[],0,[],[]⟩
@[simp] theorem ar.FK{t:ar}{i:Nat}(h:i<t.aP.length):t.aP[i]'h=t.pk i:=by
 rw[ar.pk,b1,bv h];rfl
theorem ar.iY{t:ar}{i:Nat}(h:i<t.aP.length):t.aP[i]?=some (t.pk i):=by rw[bv h,ar.FK]
theorem tu{α:Type}{f:α->Bool}{l:List α}{i:Nat}{x:α}(h:l[i]?=some x):(l.take (i+1)).any f=((l.take i).any f||f x):=by
 rw[List.take_add_one,h];simp
theorem So(t:ar)(i:Nat)(hi:i<t.aP.length)(U:t.aP.length<=1000000)(hc:t.cs.length<=1000000)(P:∀p∈t.aP,s8 p)(Q:∀j,j<i->bK (t.pk j).a=0/\bK (t.pk j).b=0):
 aA prog 76 [ch t,.int .i64 i] (.int .i64 (fS t.cs.length (t.aP.take i) (t.pk i))):=by
 have v:=ar.iY hi;obtain⟨R,E,F⟩:=P _ (b0 v);have m:=BP (t.pk i).name R.1;have N:=uS (t.pk i).a E;have O:=uS (t.pk i).b F;refine aG nf QQ mix (by simp[f76]) ?_;rw[fS];cases B:isName (t.pk i).name
 ·rw[B]at m;simp[f76,aa,v,hi];refine c1 m ?_;simp[aa]
 rw[B]at m;rw[if_neg (by decide)];simp[f76,aa,v,hi];refine c1 m ?_;simp[aa];refine lp (α:=Nat) (fun j=>⟨[(6,.p (.int .i64 j)),(5,.ptr 1 []),(2,.ptr 0 []),(1,.p (.int .i64 i))],[.box false (.p (ch t)),.box false (.p (ff (t.pk i)))]⟩) (fun j=>j<=i/\(t.aP.take j).any (fun o=>decide (o.name=(t.pk i).name))=false) (fun j=>i-j) 0 (by simp) ?_;rintro j ⟨V,D⟩
 by_cases q:j<i
 ·have z:j<t.aP.length:=by omega
  have g:=ar.iY z;have f:=ct (i:=j) (by omega)
  by_cases n:(t.pk j).name=(t.pk i).name
  ·have:(t.aP.take i).any (fun o=>decide (o.name=(t.pk i).name))=true:=by
    rw[b2];exact⟨t.pk j,b0 (i:=j) (by rw[cc,if_pos q];exact g),by simp[n]⟩
   rw[if_pos this];simp[q,z,g,n,aa]
  ·simp[q,z,g,n,f,aa];exact rd (j+1) ⟨q,by rw[tu g,D];simp[n]⟩
 have:j=i:=by omega
 subst this;rw[D,if_neg (by decide)];have u:((t.pk j).dI<0\/(t.cs.length:Int)<=(t.pk j).dI)\/(¬(t.pk j).dI<0/\¬(t.cs.length:Int)<=(t.pk j).dI):=by omega
 rcases u with u|⟨K,L⟩
 ·rw[if_pos u]
  by_cases e1:(t.pk j).dI<0
  ·simp[e1,aa]
  ·have e2:(t.cs.length:Int)<=(t.pk j).dI:=by omega
   simp[e1,e2,aa]
 rw[if_neg (by omega)];have d0:¬j<j:=by omega
 simp[K,L,d0,aa];refine c1 N ?_
 by_cases c:bK (t.pk j).a=0
 case neg=>
  rw[if_pos c];simp[c,aa]
 rw[if_neg (by simp[c])];simp[c,aa];refine c1 O ?_
 by_cases d:bK (t.pk j).b=0
 case neg=>
  rw[if_pos d];simp[d,aa]
 rw[if_neg (by simp[d])];simp[d,aa];have G:=dW c;have H:=dW d;have x:=BS (t.pk j).a E;have y:=BS (t.pk j).b F;rw[vM,if_pos c]at x;rw[vM,if_pos d]at y;have A:=nK (aL (t.pk j).a) (aL (t.pk j).b) (G.mono (by decide)) (H.mono (by decide));rw[(fU c).1,(fU d).1]at A;refine e1 x ?_;simp[aa];refine e1 y ?_;have em:max (dH (aL (t.pk j).a)) (dH (aL (t.pk j).b))=if dH (aL (t.pk j).a)<dH (aL (t.pk j).b)then dH (aL (t.pk j).b)else dH (aL (t.pk j).a):=by split<;>omega
 simp[aa,<-em];clear em x y;generalize max (dH (aL (t.pk j).a)) (dH (aL (t.pk j).b))=M at*
 by_cases hm:M=0
 case neg=>
  simp[hm,aa]
 subst hm;simp[aa];refine c2 A ?_
 by_cases s:0<cT (aL (t.pk j).a) (aL (t.pk j).b)
 ·rw[if_pos s];simp[s,aa]
 rw[if_neg s];simp[s,aa];refine lp (α:=Nat) (fun k=>⟨[(8,.p (.int .i64 k)),(5,.ptr 1 []),(2,.ptr 0 []),(1,.p (.int .i64 j))],[.box false (.p (ch t)),.box false (.p (ff (t.pk j)))]⟩) (fun k=>k<=j/\(t.aP.take k).any (fun o=>gI o (t.pk j))=false) (fun k=>j-k) 0 (by simp) ?_;rintro k ⟨k1,k2⟩
 by_cases hk:k<j
 ·have e:k<t.aP.length:=by omega
  have gk:=ar.iY e;have f:=ct (i:=k) (by omega);obtain⟨I,J⟩:=Q k hk;have S:=dW I;have T:=dW J;have l:=nK (aL (t.pk k).a) (aL (t.pk j).b) (S.mono (by decide)) (H.mono (by decide));have w:=nK (aL (t.pk j).a) (aL (t.pk k).b) (G.mono (by decide)) (T.mono (by decide));rw[(fU I).1,(fU d).1]at l;rw[(fU c).1,(fU J).1]at w;have C:gI (t.pk k) (t.pk j)=true->(t.aP.take j).any (fun o=>gI o (t.pk j))=true:=fun h=>by
   rw[b2];exact⟨t.pk k,b0 (i:=k) (by rw[cc,if_pos hk];exact gk),h⟩
  have r:gI (t.pk k) (t.pk j)=false->(t.aP.take (k+1)).any (fun o=>gI o (t.pk j))=false:=fun h=>by
   rw[tu gk,k2,h];rfl
  rw[gI]at C r
  by_cases e1:(t.pk k).dI=(t.pk j).dI
  ·by_cases e2:cT (aL (t.pk k).a) (aL (t.pk j).b)<=0
   ·by_cases e3:cT (aL (t.pk j).a) (aL (t.pk k).b)<=0
    ·rw[if_pos (C (by simp[e1,e2,e3]))];simp[hk,e,gk,e1,aa];refine c2 l ?_;simp[e1,e2,aa];refine c2 w ?_;simp[e1,e2,e3,aa]
    ·simp[hk,e,gk,e1,aa];refine c2 l ?_;simp[e1,e2,aa];refine c2 w ?_;simp[e1,e2,e3,f,aa];exact rd (k+1) ⟨hk,r (by simp[e3])⟩
   ·simp[hk,e,gk,e1,aa];refine c2 l ?_;simp[e1,e2,f,aa];exact rd (k+1) ⟨hk,r (by simp[e2])⟩
  ·simp[hk,e,gk,e1,f,aa];exact rd (k+1) ⟨hk,r (by simp[e1])⟩
 ·have:k=j:=by omega
  subst this;rw[k2,if_neg (by decide)];simp[aa]
structure NV where
 x:NF
 y:NF
def NV.q(v:NV):V2:=⟨v.x.q,v.y.q⟩
def NV.add(v w:NV):NV:=⟨v.x.add w.x,v.y.add w.y⟩
def NV.sub(v w:NV):NV:=⟨v.x.sub w.x,v.y.sub w.y⟩
def NV.times(v:NV)(k:NF):NV:=⟨v.x.mul k,v.y.mul k⟩
def NV.dot(v w:NV):NF:=(v.x.mul w.x).add (v.y.mul w.y)
def NV.fw(v w:NV):NF:=(v.x.mul w.y).sub (v.y.mul w.x)
theorem NV.kz(v w:NV):(v.sub w).q=v.q.sub w.q:=by simp only[NV.sub,NV.q,V2.sub,NF.kz]
theorem NV.Cp(v w:NV):(v.add w).q=v.q.add w.q:=rfl
theorem NV.Ge(v:NV)(k:NF):(v.times k).q=v.q.mul k.q:=rfl
theorem NV.PW(v w:NV):(v.dot w).q=v.q.dot w.q:=rfl
theorem NV.yM(v w:NV):(v.fw w).q=v.q.fw w.q:=NF.kz _ _
def NV.from(p:dU):NV:=⟨⟨aL p.x,false⟩,⟨aL p.y,false⟩⟩
structure NS where
 a:NF
 b:NF
 d:NF
def NS.q(s:NS):S3:=⟨s.a.q,s.b.q,s.d.q⟩
def FB(k:Nat)(s:NS):Prop:=bI k s.a.q/\bI k s.b.q/\bI k s.d.q
theorem Fv{q:Rat}(h:bI 1800 q):yy q=false:=by
 have a:(bc q.num.natAbs).length<=600:=ym (K:=1800) (k:=600) h.1 (by decide) (by decide);have b:(bc q.den).length<=600:=ym (K:=1800) (k:=600) h.2 (by decide) (by decide);rw[yy,kN,kN,decide_eq_false (by omega),decide_eq_false (by omega)];rfl
def NF.width(r:Int):NF:=.int (4*r*r)
structure NM where
 w:NV
 d:NV
 root:NF
def NM.of(width:NF)(p d b:NV):NM:=⟨b.sub p,d,(((b.sub p).dot d).mul ((b.sub p).dot d)).sub ((d.dot d).mul (((b.sub p).dot (b.sub p)).sub width))⟩
theorem jK:∀l:List Int,bt l=0↔∀e∈l,e=0
 |[]=>by simp[bt]
 |e::r=>by
  rw[bt]
  by_cases h:e=0
  ·rw[if_pos h,jK r];simp[h]
  ·rw[if_neg h];simp[h]
theorem gB{p:dU}(h:bX p=0):bK p.x=0/\bK p.y=0:=by
 have:=(jK _).1 h;exact⟨this _ (by simp),this _ (by simp)⟩
def vP(p:dU):V2:=⟨aL p.x,aL p.y⟩
theorem mA(p:dU):(NV.from p).q=vP p:=rfl
theorem sq_nonneg(a:Rat):0<=a*a:=by
 rcases Rat.le_total (a:=0) (b:=a)with h|h
 ·exact e6 h h
 ·have c:0<=-a:=by
   have:=Rat.neg_le_neg h
   rwa [Rat.neg_zero]at this
  have:=e6 c c
  rwa [Rat.neg_mul,Rat.mul_neg,Rat.neg_neg]at this
theorem aGy{a b:Rat}(h:a*a+b*b=0):a=0/\b=0:=by
 have key:∀x y:Rat,x*x+y*y=0->x=0:=fun x y h=>by
  have c:=sq_nonneg x;have d:=sq_nonneg y;have e:x*x<=0:=by
   have f:x*x+0<=x*x+y*y:=(Rat.add_le_add_left).2 d
   rwa [Rat.add_zero,h]at f
  have g:x*x=0:=Rat.le_antisymm e c;rcases Rat.mul_eq_zero.1 g with h|h<;>exact h
 exact⟨key a b h,key b a (by rw[Rat.add_comm];exact h)⟩
theorem rB{k:Nat}{p:dU}(h:bS k (vP p)):bS k (NV.from p).q:=h
theorem TM(n d:Int):iW n d=(n:Rat)*((d:Int):Rat)⁻¹:=by
 rw[iW,eq,ee]
theorem PF(x y:List Nat):aA prog 24 [.str x,.str y] (.st 41 [.str x,.str y]):=by
 refine aG nf Ql mix (by simp[f24]) ?_;simp[f24,aa]
theorem aEU{a b:Nat}{x y:NF}(h:bI a x.q)(c:bI b y.q):bI (a+b) (x.div y).q:=N1 h c
structure NB where
 a:NV
 b:NV
 d:NF
def NB.q(n:NB):P4:=⟨⟨n.a.x.q,n.b.x.q,n.d.q⟩,⟨n.a.y.q,n.b.y.q,n.d.q⟩⟩
def okB(k:Nat)(n:NB):Prop:=bS k n.a.q/\bS k n.b.q/\bI k n.d.q
theorem okB.mono{k l:Nat}{n:NB}(h:okB k n)(a:k<=l):okB l n:=⟨h.1.mono a,h.2.1.mono a,h.2.2.mono a⟩
theorem Pz(e:Int):∀l:List Int,bt (l++[e])=if bt l=0 then e else bt l
 |[]=>by by_cases h:e=0<;>simp[bt,h]
 |x::l=>by
  simp only[List.cons_append,bt,Pz e l]
  by_cases hx:x=0
  ·simp[hx]
  ·simp[hx]
theorem aGj{q:Rat}(h:q<0):eg q= -1:=by rw[eg,if_pos h]
theorem Cc{x y:Rat}(h:y<x):cT x y=1:=by
 rw[cT,if_neg (by grind),if_neg (by grind)]
def ga{α:Type}(a:List α->α->Int)(l:List α)(i:Nat):Int:=match l[i]? with
 |some x=>a (l.take i) x
 |none=>0
def j0{α:Type}(a:List α->α->Int)(l:List α):Int:=bt ((c6 l.length).map (ga a l))
theorem F6{f:Nat->Int}:∀(n i:Nat),(∀j,j<i->f j=0)->i<n->f i≠0->bt ((c6 n).map f)=f i
 |0,i,_,h,_=>by omega
 |n+1,i,a,g,b=>by
  rw[c9,List.map_append,b3,cb,Pz]
  by_cases hi:i<n
  ·rw[F6 n i a hi b,if_neg b]
  ·have:i=n:=by omega
   subst this;rw[(jK _).2 (by intro e c;obtain⟨j,d,rfl⟩:=ck.1 c;exact a j (cv.1 d)),if_pos rfl]
theorem tD{α:Type}{a:List α->α->Int}{l:List α}{i:Nat}{x:α}(h:∀j,j<i->ga a l j=0)(hx:l[i]?=some x)(b:a (l.take i) x≠0):j0 a l=a (l.take i) x:=by
 have hi:=(List.getElem?_eq_some_iff.1 hx).1;have e:ga a l i=a (l.take i) x:=by rw[ga,hx]
 rw[j0,F6 _ i h hi (by rw[e];exact b),e]
theorem nJ{α:Type}{b:List α->α->Int}{l:List α}:j0 b l=0↔∀j,j<l.length->ga b l j=0:=by
 rw[j0,jK];constructor
 ·intro h j a;exact h _ (ck.2 ⟨j,cv.2 a,rfl⟩)
 ·intro h e c;obtain⟨j,a,rfl⟩:=ck.1 c;exact h j (cv.1 a)
theorem tC{α:Type}{a:List α->α->Int}{l:List α}{i:Nat}{x:α}(h:∀j,j<i->ga a l j=0)(hx:l[i]?=some x)(c:a (l.take i) x=0):∀j,j<i+1->ga a l j=0:=by
 intro j d
 by_cases b:j=i
 ·subst b;rw[ga,hx];exact c
 ·exact h j (by omega)
def iA(t:ar)(bef:List cF)(s:cF):Int:=
 if isName s.name=false then 8
 else if bef.any (fun o=>decide (o.name=s.name))=true then 9
 else if bX s.pt≠0 then bX s.pt
 else if t.on (vP s.pt)<0 then 16 else 0
def cG(t:ar):Int:=
 if t.cs.length<3 then 2
 else if 12<t.cs.length then 5
 else if t.cs.any fM=true then 3
 else if t.fD=false then 15
 else if t.br<1\/1000<t.br then 3
 else if 12<t.aP.length then 5
 else if j0 (fS t.cs.length) t.aP≠0 then j0 (fS t.cs.length) t.aP
 else if 256<t.aB.length then 5
 else j0 (iA t) t.aB
def kT(p:cF):Prop:=fW p.name/\jk p.pt
def ar.sp(t:ar)(i:Nat):cF:=t.aB.getD i ⟨[],⟨[],[]⟩⟩
@[simp] theorem ar.nG{t:ar}{i:Nat}(h:i<t.aB.length):t.aB[i]'h=t.sp i:=by
 rw[ar.sp,b1,bv h];rfl
theorem ar.ft{t:ar}{i:Nat}(h:i<t.aB.length):t.aB[i]?=some (t.sp i):=by rw[bv h,ar.nG]
structure gJ(t:ar):Prop where
 cl:t.cs.length<=1000000
 pl:t.aP.length<=1000000
 sl:t.aB.length<=1000000
 pk:∀p∈t.aP,s8 p
 sp:∀s∈t.aB,kT s
def lg(t:ar)(name:List Nat):Int:=match t.aB.findIdx? (fun s=>decide (s.name=name))with
 |some i=>i
 |none=>-1
theorem BT{n:Nat}{c:List dc}{p:dc}(h:fS n c p=0):bK p.a=0/\bK p.b=0:=by
 rw[fS]at h
 split at h
 ·omega
 split at h
 ·omega
 split at h
 ·omega
 split at h
 ·contradiction
 split at h
 ·contradiction
 rename_i d e;exact⟨Decidable.not_not.1 d,Decidable.not_not.1 e⟩
theorem Iw(t:ar)(name:List Nat)(h:t.aB.length<=1000000):aA prog 37 [ch t,.str name] (.int .i64 (lg t name)):=by
 refine aG nf Qw mix (by simp[f37]) ?_;simp[f37,aa];refine lp (α:=Nat) (fun i=>⟨[(5,.p (.int .i64 i)),(2,.ptr 0 []),(1,.p (.str name))],[.box false (.p (ch t))]⟩) (fun i=>i<=t.aB.length/\∀j,j<i->¬(t.sp j).name=name) (fun i=>t.aB.length-i) 0 (by simp) ?_;rintro i ⟨g,c⟩
 by_cases hi:i<t.aB.length
 ·have d:=ar.ft hi;have f:=ct (i:=i) (by omega)
  by_cases a:(t.sp i).name=name
  ·have:lg t name=i:=by
    have:t.aB.findIdx? (fun s=>decide (s.name=name))=some i:=by
     rw[ce];refine⟨hi,by rw[ar.nG];simp[a],fun j b=>?_⟩;rw[ar.nG];simp[c j b]
    rw[lg,this]
   simp[hi,d,a,this,aa]
  ·simp[hi,d,a,f,aa];exact rd (i+1) ⟨hi,fun j b=>by
    by_cases e:j=i
    ·subst e;exact a
    ·exact c j (by omega)⟩
 ·have:i=t.aB.length:=by omega
  subst this;have:lg t name= -1:=by
   have:t.aB.findIdx? (fun s=>decide (s.name=name))=none:=by
    rw[cx];intro s hs;obtain⟨j,b,rfl⟩:=cy.1 hs;rw[ar.nG];simp[c j b]
   rw[lg,this]
  simp[this,aa]
theorem aGx{t:ar}{i:Nat}(hi:i<t.aB.length):lg t (t.sp i).name<i↔(t.aB.take i).any (fun o=>decide (o.name=(t.sp i).name))=true:=by
 obtain⟨k,hk⟩:∃k,t.aB.findIdx? (fun s=>decide (s.name=(t.sp i).name))=some k:=by
  cases h:t.aB.findIdx? (fun s=>decide (s.name=(t.sp i).name))with
  |some k=>exact⟨k,rfl⟩
  |none=>
   rw[cx]at h;have:=h _ (b0 (ar.ft hi));simp at this
 rw[lg,hk];rw[ce]at hk;obtain⟨k1,k2,k3⟩:=hk;rw[b2];constructor
 ·intro h;have h:k<i:=by simp only at h;omega
  exact⟨t.aB[k],b0 (i:=k) (by rw[cc,if_pos h,bv k1]),k2⟩
 ·rintro⟨o,b,a⟩;obtain⟨j,c,rfl⟩:=cy.1 b;simp only[List.length_take]at c;simp only;rw[List.getElem_take]at a;have:¬j<k:=fun d=>by
   have:=k3 j d;rw[a]at this;simp at this
  omega
theorem vI(t:ar)(L:gJ t):aA prog 15 [ch t] (.int .i64 (cG t)):=by
 obtain⟨s,M,N,J,K⟩:=L;refine aG nf Qe mix (by simp[f15]) ?_;rw[cG]
 by_cases c1:t.cs.length<3
 ·have cI:(t.cs.length:Int)<3:=by omega
  rw[if_pos c1];simp[f15,aa,cI]
 have v:¬(t.cs.length:Int)<3:=by omega
 rw[if_neg c1]
 by_cases c2:12<t.cs.length
 ·have cI:(12:Int)<t.cs.length:=by omega
  rw[if_pos c2];simp[f15,aa,v,cI]
 have A:¬(12:Int)<t.cs.length:=by omega
 rw[if_neg c2];simp[f15,aa,v,A];refine lp (α:=Nat) (fun i=>⟨[(3,.p (.int .i64 i)),(1,.ptr 0 [])],[.box false (.p (ch t))]⟩) (fun i=>i<=t.cs.length/\(t.cs.take i).any fM=false) (fun i=>t.cs.length-i) 0 (by simp) ?_;rintro i ⟨i1,i2⟩
 by_cases hi:i<t.cs.length
 ·have k:=ar.get hi;have f:=ct (i:=i) (by omega);have l:=Ze (t.at i);cases hf:fM (t.at i)
  ·rw[hf]at l;simp[hi,k,aa];refine Go.ag.c1 l ?_;simp[f,aa];exact rd (i+1) ⟨hi,by rw[tu k,i2,hf];rfl⟩
  ·rw[hf]at l;have:t.cs.any fM=true:=b2.2 ⟨t.at i,b0 k,hf⟩;rw[if_pos this];simp[hi,k,aa];refine Go.ag.c1 l ?_;simp[aa]
 have:i=t.cs.length:=by omega
 subst this;rw[List.take_length]at i2;have x:∀p∈t.cs,dL p:=fun p I=>Gb (by
  cases h:fM p
  ·rfl
  ·rw[b2.2 ⟨p,I,h⟩]at i2;cases i2)
 have E:=SL t s x;rw[i2,if_neg (by decide)];simp[aa];refine Go.ag.c1 E ?_;cases R:t.fD
 ·simp[aa]
 rw[if_neg (by decide)];have u:(t.br<1\/1000<t.br)\/(¬t.br<1/\¬1000<t.br):=by omega
 rcases u with u|⟨y,z⟩
 ·rw[if_pos u]
  by_cases e1:t.br<1
  ·simp[e1,aa]
  ·have e2:1000<t.br:=by omega
   simp[e1,e2,aa]
 rw[if_neg (by omega)]
 by_cases c3:12<t.aP.length
 ·have cI:(12:Int)<t.aP.length:=by omega
  rw[if_pos c3];simp[y,z,cI,aa]
 have B:¬(12:Int)<t.aP.length:=by omega
 rw[if_neg c3];simp[y,z,B,aa];refine lp (α:=Nat) (fun i=>⟨[(4,.p (.int .i64 i)),(1,.ptr 0 [])],[.box false (.p (ch t))]⟩) (fun i=>i<=t.aP.length/\∀j,j<i->ga (fS t.cs.length) t.aP j=0) (fun i=>t.aP.length-i) 0 (by simp) ?_;rintro i ⟨k1,k2⟩
 by_cases hk:i<t.aP.length
 ·have gk:=ar.iY hk;have f:=ct (i:=i) (by omega);have b:=So t i hk M s J (fun j H=>by
   have:=k2 j H;rw[ga,ar.iY (by omega)]at this;exact BT this)
  by_cases he:fS t.cs.length (t.aP.take i) (t.pk i)=0
  ·rw[he]at b;simp[hk,aa];refine Go.ag.c2 b ?_;simp[f,aa];exact rd (i+1) ⟨hk,tC k2 gk he⟩
  ·have G:=tD k2 gk he;rw[G,if_pos he];simp[hk,aa];refine Go.ag.c2 b ?_;simp[he,aa]
 have:i=t.aP.length:=by omega
 subst this;have F:=nJ.2 k2;rw[F,if_neg (by decide)]
 by_cases c4:256<t.aB.length
 ·have cI:(256:Int)<t.aB.length:=by omega
  rw[if_pos c4];simp[cI,aa]
 have C:¬(256:Int)<t.aB.length:=by omega
 rw[if_neg c4];simp[C,aa];refine lp (α:=Nat) (fun i=>⟨[(6,.p (.int .i64 i)),(1,.ptr 0 [])],[.box false (.p (ch t))]⟩) (fun i=>i<=t.aB.length/\∀j,j<i->ga (iA t) t.aB j=0) (fun i=>t.aB.length-i) 0 (by simp) ?_;rintro i ⟨s1,s2⟩
 by_cases hs:i<t.aB.length
 ·have a:=ar.ft hs;have f:=ct (i:=i) (by omega);obtain⟨P,Q⟩:=K _ (b0 a);have c:=BP (t.sp i).name P.1;have m:=Iw t (t.sp i).name N;have b:=wC (t.sp i).pt Q;have w:=aGx hs;have g:iA t (t.aB.take i) (t.sp i)≠0->j0 (iA t) t.aB=iA t (t.aB.take i) (t.sp i):=tD s2 a;have O:iA t (t.aB.take i) (t.sp i)=0->∀j,j<i+1->ga (iA t) t.aB j=0:=tC s2 a;have ev:iA t (t.aB.take i) (t.sp i)=if isName (t.sp i).name=false then 8 else if(t.aB.take i).any (fun o=>decide (o.name=(t.sp i).name))=true then 9 else if bX (t.sp i).pt≠0 then bX (t.sp i).pt else if t.on (vP (t.sp i).pt)<0 then 16 else 0:=rfl
  cases n:isName (t.sp i).name
  ·rw[n]at c;rw[n,if_pos rfl]at ev;rw[g (by rw[ev];decide),ev];simp[hs,a,aa];refine Go.ag.c1 c ?_;simp[aa]
  rw[n]at c;rw[n,if_neg (by decide)]at ev
  by_cases e:lg t (t.sp i).name<i
  ·rw[if_pos (w.1 e)]at ev;rw[g (by rw[ev];decide),ev];simp[hs,a,aa];refine Go.ag.c1 c ?_;simp[aa];refine Go.ag.c2 m ?_;simp[e,aa]
  rw[if_neg (fun h=>e (w.2 h))]at ev
  by_cases d:bX (t.sp i).pt=0
  case neg=>
   rw[if_pos d]at ev;rw[g (by rw[ev];exact d),ev];simp[hs,a,aa];refine Go.ag.c1 c ?_;simp[aa];refine Go.ag.c2 m ?_;simp[e,aa];refine Go.ag.c1 b ?_;simp[d,aa]
  rw[if_neg (by simp[d])]at ev;obtain⟨g1,g2⟩:=gB d;have r:=wy t (vP (t.sp i).pt) s x ⟨(dW g1).mono (by decide),(dW g2).mono (by decide)⟩;have D:eV (vP (t.sp i).pt)=du (t.sp i).pt:=by
   rw[eV,vP];dsimp only;rw[(fU g1).1,(fU g2).1]
  rw[D]at r;rw[d]at b
  by_cases q:t.on (vP (t.sp i).pt)<0
  ·rw[if_pos q]at ev;rw[g (by rw[ev];decide),ev];simp[hs,a,aa];refine Go.ag.c1 c ?_;simp[aa];refine Go.ag.c2 m ?_;simp[e,aa];refine Go.ag.c1 b ?_;simp[aa];refine Go.ag.c2 r ?_;simp[q,aa]
  ·rw[if_neg q]at ev;simp[hs,a,aa];refine Go.ag.c1 c ?_;simp[aa];refine Go.ag.c2 m ?_;simp[e,aa];refine Go.ag.c1 b ?_;simp[aa];refine Go.ag.c2 r ?_;simp[q,f,aa];exact rd (i+1) ⟨hs,O ev⟩
 ·have:i=t.aB.length:=by omega
  subst this;rw[nJ.2 s2];simp[aa]
open Go.Proofs Go.Proofs.YtgpphcmkjhklgaaGreatDoor
section
variable{H:Type}{W:ap}{ad:Nat->Prop}
theorem vJ:∀d:ao H,1<=Rows.uptoBulk d:=by
 intro d;cases d with
 |lit l=>cases l<;>simp[Rows.uptoBulk]
 |_=>simp[Rows.uptoBulk]
theorem yQ{α:Type}{n:Nat}{t e:TypeId}{F:α->PV}{ok:α->Prop}(g:prog.underlying t=some (.slice e))
 (p:∀(d:ao H),(∃c,aS prog W ad (bF prog n e d) c)->Rows.uptoBulk d<=1048576->∃a,bF prog n e d=F a/\ok a/\2<=Rows.uptoBulk d)
 {d:ao H}(h:∃cs,aS prog W ad (bF prog (n+1) t d) cs)(k:Rows.uptoBulk d<=1048576):∃l:List α,bF prog (n+1) t d=.seq (l.map F)/\(∀a∈l,ok a)/\l.length<=1000000:=by
 obtain⟨cs,h⟩:=h;cases d with
 |nil=>exact⟨[],by simp[bF,g],(fun _ h=>nomatch h),by simp⟩
 |slice f sp=>
  simp only[bF,g,aS]at h⊢;have i:∀e'∈f.map (bF prog n e),∃c,aS prog W ad e' c:=by
   rcases h with⟨h,_⟩|⟨_,_,_,_,w,h,_⟩
   ·rw[h];intro _ h;cases h
   ·exact Gj h
  have key:∀f:List (ao H),(∀e'∈f.map (bF prog n e),∃c,aS prog W ad e' c)->Rows.uptoBulkAll f<=1048576->∃l:List α,f.map (bF prog n e)=l.map F/\(∀a∈l,ok a)/\2*l.length<=Rows.uptoBulkAll f:=by
   intro f
   induction f with
   |nil=>intro _ _;exact⟨[],rfl,(fun _ h=>nomatch h),by simp⟩
   |cons d r v=>
    intro i k;rw[Rows.uptoBulkAll]at k⊢;obtain⟨a,q,u,m⟩:=p d (i _ List.mem_cons_self) (by omega);obtain⟨l,j,o,y⟩:=v (fun e' s=>i e' (List.mem_cons_of_mem _ s)) (by omega);refine⟨a::l,by simp only[b3];rw[q,j],fun x hx=>?_,by rw[List.length_cons];omega⟩;rcases da.1 hx with rfl|hx
    ·exact u
    ·exact o x hx
  rw[Rows.uptoBulk]at k;obtain⟨l,j,m,o⟩:=key f i (by omega);exact⟨l,by rw[j],m,by omega⟩
 |lit l=>simp only[bF,g,aS]at h
 |ptr d=>simp only[bF,g,aS]at h
 |agg l=>simp only[bF,g,aS]at h
 |iface a b=>simp only[bF,g,aS]at h
 |map l=>simp only[bF,g,aS]at h
 |held a=>simp only[bF,g,aS]at h
theorem yP{n:Nat}{d:ao H}(h:∃cs,aS prog W ad (bF prog (n+1) 9 d) cs)(a:Rows.uptoBulk d<=1048576):∃s:List Nat,bF prog (n+1) 9 d=.str s/\fW s:=by
 obtain⟨cs,h⟩:=h;cases d with
 |lit l=>
  cases l with
  |string bytes=>
   refine⟨bytes.map (·.toNat),by simp only[bF,FW],?_,?_⟩
   ·rw[Rows.uptoBulk]at a;rw[List.length_map];omega
   ·intro c hc;obtain⟨u,_,rfl⟩:=ck.1 hc;exact u.toNat_lt
  |_=>simp only[bF,FW,aS]at h
 |_=>simp only[bF,FW,aS]at h
theorem aJP:∃a b:av,prog.underlying 108=some (.struct #[a,b])/\a.type=3/\b.type=3:=⟨_,_,underlying108,rfl,rfl⟩
theorem RR:prog.underlyingId 108=107:=by kernel_rfl
theorem SO{m n:Nat}(j:m=n+1){d:ao H}(h:∃cs,aS prog W ad (bF prog (m+1) 108 d) cs)(o:Rows.uptoBulk d<=1048576):∃p:dR,bF prog (m+1) 108 d=cQ p/\True/\2<=Rows.uptoBulk d:=by
 obtain⟨cs,h⟩:=h;obtain⟨f0,f1,f,t0,t1⟩:=aJP;cases d with
 |agg l=>
  simp only[bF,f,aS]at h⊢;obtain⟨q,k,e,c,_⟩:=h;rw[RR,aGM]at e;cases e
  match l,c with
  |[],c=>simp[bd]at c
  |[x],c=>simp[bd]at c
  |x::y::r,c=>
   have:=vJ x;simp only[b4,b3,bd,b5,cb,t0,t1]at c⊢;obtain⟨c0,_,_,g1,_,c1,_,_,g2,_⟩:=c;subst j;obtain⟨a,g⟩:=vN (n:=n) x c0 g1;obtain⟨b,i⟩:=vN (n:=n) y c1 g2;refine⟨⟨a,b⟩,by rw[g,i,RR];rfl,trivial,?_⟩;rw[Rows.uptoBulk,Rows.uptoBulkAll];omega
 |_=>simp only[bF,f,aS]at h
theorem aJN:∃a b f2 f3:av,prog.underlying 53=some (.struct #[a,b,f2,f3])/\a.type=9/\b.type=3/\f2.type=29/\f3.type=29:=⟨_,_,_,_,underlying53,rfl,rfl,rfl,rfl⟩
theorem RP:prog.underlyingId 53=52:=by kernel_rfl
theorem Sw{m n:Nat}(q:m=n+1){d:ao H}(h:∃cs,aS prog W ad (bF prog (m+1) 53 d) cs)(o:Rows.uptoBulk d<=1048576):∃p:dc,bF prog (m+1) 53 d=ff p/\s8 p/\2<=Rows.uptoBulk d:=by
 obtain⟨cs,h⟩:=h;obtain⟨f0,f1,f2,f3,g,t0,t1,t2,t3⟩:=aJN;cases d with
 |agg l=>
  have e:∀x∈l,Rows.uptoBulk x<=1048576:=fun x hx=>by
   have:=lK.u3 hx;rw[Rows.uptoBulk]at o;omega
  simp only[bF,g,aS]at h⊢;obtain⟨B,A,f,c,_⟩:=h;rw[RP,aGP]at f;cases f
  match l,c with
  |[],c=>simp[bd]at c
  |[x],c=>simp[bd]at c
  |[x,y],c=>simp[bd]at c
  |[x,y,z],c=>simp[bd]at c
  |x::y::z::w::r,c=>
   have:=vJ x;simp only[b4,b3,bd,b5,cb,t0,t1,t2,t3]at c⊢;obtain⟨c0,_,_,g0,_,c1,_,_,g1,_,c2,_,_,g2,_,c3,_,_,g3,_⟩:=c;subst q;obtain⟨a,i,k⟩:=yP (n:=n) ⟨c0,g0⟩ (e x (by simp));obtain⟨b,j⟩:=vN (n:=n) y c1 g1;obtain⟨u,eu,s⟩:=yj (n:=n) ⟨c2,g2⟩ (e z (by simp));obtain⟨v,ev,t⟩:=yj (n:=n) ⟨c3,g3⟩ (e w (by simp));refine⟨⟨a,b,u,v⟩,by rw[i,j,eu,ev,RP];rfl,⟨k,s,t⟩,?_⟩;rw[Rows.uptoBulk,Rows.uptoBulkAll];omega
 |_=>simp only[bF,g,aS]at h
theorem aJQ:∃a b:av,prog.underlying 75=some (.struct #[a,b])/\a.type=9/\b.type=42:=⟨_,_,underlying75,rfl,rfl⟩
theorem RS:prog.underlyingId 75=74:=by kernel_rfl
theorem SM{m n:Nat}(s:m=n+2){d:ao H}(h:∃cs,aS prog W ad (bF prog (m+1) 75 d) cs)(o:Rows.uptoBulk d<=1048576):∃p:cF,bF prog (m+1) 75 d=bO p/\kT p/\2<=Rows.uptoBulk d:=by
 obtain⟨cs,h⟩:=h;obtain⟨f0,f1,g,t0,t1⟩:=aJQ;cases d with
 |agg l=>
  have f:∀x∈l,Rows.uptoBulk x<=1048576:=fun x hx=>by
   have:=lK.u3 hx;rw[Rows.uptoBulk]at o;omega
  simp only[bF,g,aS]at h⊢;obtain⟨u,t,e,c,_⟩:=h;rw[RS,RL]at e;cases e
  match l,c with
  |[],c=>simp[bd]at c
  |[x],c=>simp[bd]at c
  |x::y::r,c=>
   have:=vJ x;simp only[b4,b3,bd,b5,cb,t0,t1]at c⊢;obtain⟨c0,_,_,g1,_,c1,_,_,g2,_⟩:=c;subst s;obtain⟨a,i,k⟩:=yP (n:=n+1) ⟨c0,g1⟩ (f x (by simp));obtain⟨b,j,q⟩:=Ak (n:=n) ⟨c1,g2⟩ (f y (by simp));refine⟨⟨a,b⟩,by rw[i,j,RS];rfl,⟨k,q⟩,?_⟩;rw[Rows.uptoBulk,Rows.uptoBulkAll];omega
 |_=>simp only[bF,g,aS]at h
theorem aJS:∃a b f2 f3:av,prog.underlying 26=some (.struct #[a,b,f2,f3])/\a.type=22/\b.type=3/\f2.type=23/\f3.type=24:=⟨_,_,_,_,underlying26,rfl,rfl,rfl,rfl⟩
theorem RU:prog.underlyingId 26=25:=by kernel_rfl
theorem aGW{m n:Nat}(p:m=n+4){d:ao H}(h:∃cs,aS prog W ad (bF prog (m+1) 26 d) cs)(e:Rows.uptoBulk d<=1048576):∃t:ar,bF prog (m+1) 26 d=ch t/\True/\gJ t:=by
 obtain⟨cs,h⟩:=h;obtain⟨f0,f1,f2,f3,j,t0,t1,t2,t3⟩:=aJS;cases d with
 |agg l=>
  have g:∀x∈l,Rows.uptoBulk x<=1048576:=fun x hx=>by
   have:=lK.u3 hx;rw[Rows.uptoBulk]at e;omega
  simp only[bF,j,aS]at h⊢;obtain⟨E,D,i,c,_⟩:=h;rw[RU,aGN]at i;cases i
  match l,c with
  |[],c=>simp[bd]at c
  |[x],c=>simp[bd]at c
  |[x,y],c=>simp[bd]at c
  |[x,y,z],c=>simp[bd]at c
  |x::y::z::w::r,c=>
   simp only[b4,b3,bd,b5,cb,t0,t1,t2,t3]at c⊢;obtain⟨c0,_,_,g0,_,c1,_,_,g1,_,c2,_,_,g2,_,c3,_,_,g3,_⟩:=c;subst p;obtain⟨a,k,_,A⟩:=yQ (n:=n+3) aHn (F:=cQ) (ok:=fun _=>True) (fun d f e=>SO (n:=n+1) rfl f e) ⟨c0,g0⟩ (g x (by simp));obtain⟨b,o⟩:=vN (n:=n+3) y c1 g1;obtain⟨u,eu,q,B⟩:=yQ (n:=n+3) aHo (F:=ff) (ok:=s8) (fun d f e=>Sw (n:=n+1) rfl f e) ⟨c2,g2⟩ (g z (by simp));obtain⟨v,ev,s,C⟩:=yQ (n:=n+3) aHq (F:=bO) (ok:=kT) (fun d f e=>SM (n:=n) rfl f e) ⟨c3,g3⟩ (g w (by simp));exact⟨⟨a,b,u,v⟩,by rw[k,o,eu,ev,RU];rfl,trivial,A,B,C,q,s⟩
 |_=>simp only[bF,j,aS]at h
theorem vZ{d:ao H}(h:∃cs,aS prog W ad (bF prog 8 26 d) cs)(a:Rows.uptoBulk d<=1048576):∃t:ar,bF prog 8 26 d=ch t/\True/\gJ t:=aGW (n:=3) rfl h a
end
namespace Hk
mutual
def th:PV->PV->Bool
 | .int .i64 a,.int .i64 b=>oK a b
 | .int .u64 a,.int .u64 b=>oK a b
 | .bool a,.bool b=>a==b
 | .str a,.str b=>tg a b
 | .aW,.aW=>true
 | .fC,.fC=>true
 | .bP f a,.bP g b=>bif f==g then lQ a b else false
 | .seq a,.seq b=>lQ a b
 | .fg a,.fg b=>vo a b
 | .st u a,.st v b=>bif dg u v then lQ a b else false
 | .aE a,.aE b=>lQ a b
 | .func f a b,.func g c d=>bif dg f g then(bif lQ a c then lQ b d else false)else false
 | .cw a,.cw b=>th a b
 |_,_=>false
def lQ:List PV->List PV->Bool
 |[],[]=>true
 |a::l,b::m=>bif th a b then lQ l m else false
 |_,_=>false
def vo:List (PV×PV)->List (PV×PV)->Bool
 |[],[]=>true
 |(a,c)::l,(b,d)::m=>bif th a b then(bif th c d then vo l m else false)else false
 |_,_=>false
end
mutual
theorem xm:∀{a b:PV},th a b=true->a=b
 |a,b,h=>by
  unfold th at h
  split at h
  ·rw[AO h]
  ·rw[AO h]
  ·rw[eq_of_beq h]
  ·rw[DL h]
  ·rfl
  ·rfl
  ·rename_i f a g b;cases hf:f==g
   ·rw[hf]at h;cases h
   ·rw[hf,cond_true]at h;rw[eq_of_beq hf,qj h]
  ·rw[qj h]
  ·rw[MD h]
  ·simp only[ab]at h
   split at h
   ·rename_i i;rw[db i,qj h]
   ·cases h
  ·rw[qj h]
  ·simp only[ab]at h
   split at h
   ·rename_i i
    split at h
    ·rename_i e;rw[db i,qj e,qj h]
    ·cases h
   ·cases h
  ·rw[xm h]
  ·cases h
theorem qj:∀{a b:List PV},lQ a b=true->a=b
 |[],[],_=>rfl
 |[],_::_,h=>by simp[lQ]at h
 |_::_,[],h=>by simp[lQ]at h
 |a::l,b::m,h=>by
  simp only[lQ,ab]at h
  split at h
  ·rename_i e;rw[xm e,qj h]
  ·cases h
theorem MD:∀{a b:List (PV×PV)},vo a b=true->a=b
 |[],[],_=>rfl
 |[],_::_,h=>by simp[vo]at h
 |_::_,[],h=>by simp[vo]at h
 |(a,c)::l,(b,d)::m,h=>by
  simp only[vo,ab]at h
  split at h
  ·rename_i e
   split at h
   ·rename_i j;rw[xm e,xm j,MD h]
   ·cases h
  ·cases h
end
def uR:List (an×List PV×PV)->an->List PV->Option PV
 |[],f,vs=>hk f vs
 |(g,us,v)::r,f,vs=>bif dg g f then(bif lQ us vs then some v else uR r f vs)else uR r f vs
def lT:List (an×List PV×PV)->Prop
 |[]=>True
 |(g,us,v)::r=>aA prog g us v/\lT r
theorem CE:∀{l m:List (an×List PV×PV)},lT l->lT m->lT (l++m)
 |[],_,_,h=>h
 |_::_,_,h,a=>⟨h.1,CE h.2 a⟩
theorem zU:∀{l:List (an×List PV×PV)},lT l->∀f vs v,uR l f vs=some v->aA prog f vs v
 |[],_,f,vs,v,h=>as0 h
 |(g,us,w)::r,a,f,vs,v,h=>by
  simp only[uR,ab]at h
  split at h
  ·rename_i b
   split at h
   ·rename_i hs;simp only[eb]at h;subst h;rw[<-qj hs,<-db b];exact a.1
   ·exact zU a.2 f vs v h
  ·exact zU a.2 f vs v h
def Fs(v:PV):Option PV->Bool
 |some w=>th v w
 |none=>false
theorem HI{v:PV}{o:Option PV}(h:Fs v o=true):o=some v:=by
 cases o with
 |none=>cases h
 |some w=>rw[xm h]
def aFD:an->an->Nat:=fun _ _=>0
theorem gf(l:List (an×List PV×PV))(a:lT l){f:an}{vs:List PV}{v:PV}(h:Fs v (RD (uR l) aFD f vs)=true):aA prog f vs v:=M7 (zU a) (HI h)
end Hk
end Go.ag
namespace Go.Proofs
open Go.Shelf
def Tryz.H9:aT:=⟨fun|156=>226|165=>279|166=>151|169=>229|240=>225|241=>322|276=>278|277=>361|n=>n,fun|31=>287|9=>9|3=>3|4=>4|0=>0|20=>20|72=>225|76=>228|70=>222|37=>223|75=>227|127=>329|164=>325|5=>5|80=>289|n=>n,fun|n=>n⟩
theorem Tryz.HX:Go.Proofs.Lays.n156 prog H9:={
 mixed:=by kernel_rfl
 f156:=func226.trans (congrArg some (by kernel_rfl))
 f165:=func279.trans (congrArg some (by kernel_rfl))
 f166:=func151.trans (congrArg some (by kernel_rfl))
 f169:=func229.trans (congrArg some (by kernel_rfl))
 f240:=func225.trans (congrArg some (by kernel_rfl))
 f241:=func322.trans (congrArg some (by kernel_rfl))
 f276:=func278.trans (congrArg some (by kernel_rfl))
 f277:=func361.trans (congrArg some (by kernel_rfl))
 t0:=underlying0
 a0:=isAgg0
 z0:=sizeOf0
 v0:=zeroValue0
 t3:=underlying3
 a3:=isAgg3
 z3:=sizeOf3
 v3:=zeroValue3
 t4:=underlying4
 a4:=isAgg4
 z4:=sizeOf4
 v4:=zeroValue4
 t9:=underlying9
 a9:=isAgg9
 z9:=sizeOf9
 v9:=zeroValue9
 t20:=underlying20
 a20:=isAgg20
 z20:=sizeOf20
 v20:=zeroValue20
 t31:=underlying287
 a31:=isAgg287
 z31:=sizeOf287
 v31:=zeroValue287
 t37:=underlying223
 a37:=isAgg223
 z37:=sizeOf223
 v37:=zeroValue223
 t70:=underlying222
 a70:=isAgg222
 z70:=sizeOf222
 v70:=zeroValue222
 t72:=underlying225
 a72:=isAgg225
 z72:=sizeOf225
 v72:=zeroValue225
 t75:=underlying227
 a75:=isAgg227
 z75:=sizeOf227
 v75:=zeroValue227
 t76:=underlying228
 a76:=isAgg228
 z76:=sizeOf228
 v76:=zeroValue228
 t127:=underlying329
 a127:=isAgg329
 z127:=sizeOf329
 v127:=zeroValue329
 t164:=underlying325
 a164:=isAgg325
 z164:=sizeOf325
 v164:=zeroValue325}
theorem Tryz.H8:Builder.Extra prog H9:={
 sizeBuilder:=by kernel_rfl
 liesBuilder:=by kernel_rfl
 t5:=underlying5
 a5:=isAgg5
 z5:=sizeOf5
 v5:=zeroValue5
 infoByte:=by kernel_rfl
 cellsByte:=by kernel_rfl
 sizeByte:=by kernel_rfl
 neB5:=by decide}
open Go.RowKit in
theorem Tryz.strings_Join_none(a:Option Addr)(c:Nat)(sep:ByteArray)(w:ap):
 ax prog 226 #[.slice a 0 c,.string sep] w fun e w'=>e=.returned (.string ⟨#[]⟩)/\w'=w:=Any.strings_Join_none HX H8 a c sep w
open Go.RowKit in
theorem Tryz.strings_Join(bk o c:Nat)(xs:List ByteArray)(sep:ByteArray)(w:ap)(hcells:∀(j:Nat) x,xs[j]?=some x->w.cell? ⟨bk,o+j,none⟩=some (.string x))(hbk:bk<w.heap.size)(hN:xs.length<=140737488355328)(hcap:xs.length<=c)(hlen:(Lib.join (xs.map (·.data.toList)) sep.data.toList).length<=140737488355328):
 ax prog 226 #[.slice (some ⟨bk,o,none⟩) xs.length c,.string sep] w fun e w'=>e=.returned (.string ⟨(Lib.join (xs.map (·.data.toList)) sep.data.toList).toArray⟩)/\Below w.heap.size w w':=Any.strings_Join HX H8 bk o c xs sep w hcells hbk hN hcap hlen
def Tryz.S9:aT:=⟨fun|106=>224|213=>277|265=>321|n=>n,fun|9=>9|3=>3|n=>n,fun|n=>n⟩
theorem Tryz.aDJ:Go.Proofs.Lays.n106 prog S9:={
 mixed:=by kernel_rfl
 f106:=func224.trans (congrArg some (by kernel_rfl))
 f213:=func277.trans (congrArg some (by kernel_rfl))
 f265:=func321.trans (congrArg some (by kernel_rfl))
 t3:=underlying3
 a3:=isAgg3
 z3:=sizeOf3
 v3:=zeroValue3
 t9:=underlying9
 a9:=isAgg9
 z9:=sizeOf9
 v9:=zeroValue9}
open Go.RowKit in
theorem Tryz.strings_Compare(a b:ByteArray)(w:ap):
 ax prog 224 #[.string a,.string b] w fun e w'=>e=.returned (.int .i64 (Lib.compareBytes a.data.toList b.data.toList))/\w'=w:=Any.strings_Compare aDJ a b w
def Tryz.S8:aT:=⟨fun|138=>328|195=>366|218=>368|143=>329|219=>296|217=>343|225=>344|224=>345|267=>346|266=>373|314=>374|n=>n,fun|9=>9|3=>3|4=>4|5=>5|0=>0|46=>323|146=>400|51=>355|n=>n,fun|1=>0|n=>n⟩
theorem Tryz.aDM:Go.Proofs.Lays.n138 prog S8:={
 mixed:=by kernel_rfl
 f138:=func328.trans (congrArg some (by kernel_rfl))
 f143:=func329.trans (congrArg some (by kernel_rfl))
 f195:=func366.trans (congrArg some (by kernel_rfl))
 f217:=func343.trans (congrArg some (by kernel_rfl))
 f218:=func368.trans (congrArg some (by kernel_rfl))
 f219:=func296.trans (congrArg some (by kernel_rfl))
 f224:=func345.trans (congrArg some (by kernel_rfl))
 f225:=func344.trans (congrArg some (by kernel_rfl))
 f266:=func373.trans (congrArg some (by kernel_rfl))
 f267:=func346.trans (congrArg some (by kernel_rfl))
 f314:=func374.trans (congrArg some (by kernel_rfl))
 t0:=underlying0
 a0:=isAgg0
 z0:=sizeOf0
 v0:=zeroValue0
 t3:=underlying3
 a3:=isAgg3
 z3:=sizeOf3
 v3:=zeroValue3
 t4:=underlying4
 a4:=isAgg4
 z4:=sizeOf4
 v4:=zeroValue4
 t5:=underlying5
 a5:=isAgg5
 z5:=sizeOf5
 v5:=zeroValue5
 t9:=underlying9
 a9:=isAgg9
 z9:=sizeOf9
 v9:=zeroValue9
 t46:=underlying323
 a46:=isAgg323
 z46:=sizeOf323
 v46:=zeroValue323
 t51:=underlying355
 a51:=isAgg355
 z51:=sizeOf355
 v51:=zeroValue355
 t146:=underlying400
 a146:=isAgg400
 z146:=sizeOf400
 v146:=zeroValue400
 g1:=by kernel_rfl}
open Go.RowKit Go.Lib in
theorem Tryz.strings_Count_one(s:ByteArray)(c:UInt8)(w:ap):
 ax prog 328 #[.string s,.string ⟨#[c]⟩] w fun e w'=>e=.returned (.int .i64 (Lib.countByte s.data.toList c))/\w'=w:=Any.strings_Count_one aDM s c w
end Go.Proofs
namespace Go.Proofs
def Tryz.HO:aT:=⟨fun|4=>272|n=>n,fun|22=>22|25=>108|3=>3|4=>4|9=>9|20=>20|0=>0|2=>3|n=>n,fun|n=>n⟩
theorem Tryz.arX:Go.Proofs.Lays8.n4 prog HO:={
 mixed:=by kernel_rfl
 f4:=⟨f272.name,by decide,func272.trans (congrArg some (by kernel_rfl))⟩
 t0:=underlying0
 a0:=isAgg0
 z0:=sizeOf0
 v0:=zeroValue0
 t3:=underlying3
 a3:=isAgg3
 z3:=sizeOf3
 v3:=zeroValue3
 t4:=underlying4
 a4:=isAgg4
 z4:=sizeOf4
 v4:=zeroValue4
 t9:=underlying9
 a9:=isAgg9
 z9:=sizeOf9
 v9:=zeroValue9
 t20:=underlying20
 a20:=isAgg20
 z20:=sizeOf20
 v20:=zeroValue20
 t22:=underlying22
 a22:=isAgg22
 z22:=sizeOf22
 v22:=zeroValue22}
end Go.Proofs
