import Derived.Test.YtenbmieafgdjaaaGreatDoorPH
import Derived.Test.YtenbmieafgdjaaaGreatDoorPJ
import Derived.Test.YtenbmieafgdjaaaGreatDoorPG
import Derived.Shelf.Strings.Builder1
import Derived.Shelf.Strings.Builder2
import Derived.Shelf.Strings.OnBuilder
import Derived.Shelf.Strings.Trim
import Derived.Shelf.Small.Utf8
import Derived.Shelf.Small.Bits
import Derived.Shelf.Small.Strs
import Derived.Shelf.Small.Wraps
import Derived.Shelf.Strings.BuilderF
import Derived.Shelf.Strconv.Atoi
import Derived.Shelf.Strconv.Itoa0
import Derived.Shelf.Strconv.Itoa1
import Derived.Shelf.LaysM
import Derived.Shelf.Strconv.Itoa2
import Derived.Shelf.Strconv.Itoa3
import Derived.Shelf.Strconv.AtoiErrFast
import Derived.Shelf.Strconv.ParseIntEmpty
import Derived.Shelf.Strconv.AtoiFail
import Derived.Shelf.Strconv.Clone
import Derived.Shelf.Strconv.SyntaxError
import Derived.Shelf.LaysC
import Derived.Shelf.Strconv.ToError
import Derived.Shelf.Strconv.Lower
import Derived.Shelf.Strconv.ParseUint10
import Derived.Shelf.Strconv.ParseUint10Empty
import Derived.Shelf.Strconv.ParseUint10Any
import Derived.Shelf.Strconv.ParseInt10
import Derived.Shelf.Strconv.AtoiLong
import Derived.Shelf.Strconv.AtoiInnerAll
import Derived.Shelf.Strconv.RangeError
import Derived.Shelf.Strconv.ToErrorRange
import Derived.Shelf.Strconv.AtoiAll
import Derived.Shelf.Strings.Search1
import Derived.Shelf.Strings.Search2
import Derived.Shelf.Strings.Search3
import Derived.Shelf.Strings.Cut
import Derived.Shelf.Strings.Count
import Derived.Shelf.Strings.Shaped
import Derived.Shelf.Strings.Prefix
import Derived.Shelf.Strings.Split
import Derived.Shelf.Strings.Runes
import Derived.Shelf.Strings.AsciiSet
import Derived.Shelf.Bits.Mul64
import Derived.Shelf.Strings.Repeat
import Derived.Shelf.Unicode.DecodeSlow
import Derived.Test.YtenbmieafgdjaaaGreatDoorProg
import Derived.Shelf.SlGeneric
import Derived.Shelf.Spec.SlicesGrow
/- Parts of a proof. -/
set_option linter.unusedSimpArgs false
set_option linter.unusedVariables false
set_option linter.unusedSectionVars false
open Go.Proofs.Tryz
open Bool renaming cond_eq_ite->ab, and_eq_true->ac, or_eq_true->am
open Go renaming DataW->an, FuncId->ao, World->ap, Field->ar, Calls->av
open Go.IntKind renaming i64->ax
open Go.Shelf renaming Ren->ay
open Go.Utf8 renaming decode->aT
open Int renaming natCast_mul->a1, tmod_eq_emod_of_nonneg->a6, negSucc->a7, natCast_emod->a8, natCast_one->bb, natAbs_mul->be, mul_nonneg->bi, ediv_one->bl
open List renaming getElem?_eq_getElem->bo, mem_of_getElem?->bv, getD_eq_getElem?_getD->b0, any_eq_true->b1, map_cons->b2, zip_cons_cons->b3, zip_nil_left->b4, map_nil->b5, getElem?_take->cb, findIdx?_eq_some_iff_getElem->cc, mem_map->ce, mem_range->ck, findIdx?_eq_none_iff->cv, mem_iff_getElem->cx, range->cy, range_succ->cA, mem_cons->cB
open Nat renaming eq_of_beq_eq_true->cC, beq->cN, mul_ne_zero->c6, blt->c9, blt_eq->da, gcd->db, lt_of_lt_of_le->dg, div_one->dk
open Option.some renaming injEq->dl
open Rat renaming divInt->dp, divInt_mul_divInt->dq, div_def->dz, sub_add_cancel->ea, zero_add->eb, divInt_add_divInt->ec, add_lt_add_right->ed, divInt_eq_div->ee, neg_divInt->ei, mul_nonneg->ej, inv_divInt->en
namespace Go.au
open Go.Proofs
set_option maxHeartbeats 4000000
set_option maxRecDepth 100000
namespace Hk
def kz:Nat:=9223372036854775808
def zS:Nat:=1606938044258990275541962092341162602522202993782792835301376
def qt{α:Type}(n:Nat)(f:Nat->α):α:=match n with
 |0=>f 0
 |k+1=>f (k+1)
theorem wQ{α:Type}(n:Nat)(f:Nat->α):qt n f=f n:=by cases n<;>rfl
def AO{α:Type}(z:Int)(f:Int->α):α:=match z with
 | .ofNat n=>qt n fun n=>f (.ofNat n)
 | .negSucc n=>qt n fun n=>f (.negSucc n)
theorem Nz{α:Type}(z:Int)(f:Int->α):AO z f=f z:=by cases z<;>simp[AO,wQ]
def oQ:Int->Bool
 | .ofNat n=>c9 n kz
 | .negSucc n=>c9 (n+1) kz
theorem zO{z:Int}:oQ z=true↔z.natAbs<9223372036854775808:=by
 cases z with
 |ofNat n=>simp only[oQ,da,kz];exact Iff.rfl
 |negSucc n=>simp only[oQ,da,kz];exact Iff.rfl
def oJ:Int->Int->Bool
 | .ofNat a,.ofNat b=>cN a b
 | .negSucc a,.negSucc b=>cN a b
 |_,_=>false
theorem Aa:∀{a b:Int},oJ a b=true->a=b
 | .ofNat a,.ofNat b,h=>by simp only[oJ]at h;rw[cC h]
 | .negSucc a,.negSucc b,h=>by simp only[oJ]at h;rw[cC h]
 | .ofNat a,.negSucc b,h=>by simp[oJ]at h
 | .negSucc a,.ofNat b,h=>by simp[oJ]at h
def uL(z:Int):Option PV:=bif oQ z then some (fq z)else bif cN z.natAbs kz then none else some (ky z)
theorem zw{z:Int}{p:PV}(h:uL z=some p)(m:Bool):eI ⟨z,m⟩=p:=by
 unfold uL at h;rw[jk];rcases hs:oQ z with _|_
 ·simp only[hs,cond_false]at h;rcases a:cN z.natAbs kz with _|_
  case true=>rw[a]at h;cases h
  ·have c:¬cN z.natAbs kz=true:=by rw[a];decide
   rw[a,cond_false]at h;simp only[dl]at h;have b:¬z.natAbs<9223372036854775808:=fun h=>by rw[zO.2 h]at hs;cases hs
   have d:z.natAbs≠9223372036854775808:=fun e=>c (by rw[e];rfl);rw[if_neg,h];simp only[NI.sm,am,decide_eq_true_eq,ac,not_or,not_and];exact⟨by omega,fun h=>by omega⟩
 ·simp only[hs,cond_true,dl]at h;have b:=zO.1 hs;rw[if_pos,h];simp only[NI.sm,am,decide_eq_true_eq,ac];exact .inl (by omega)
def xM:List PV->Option (List Nat)
 |[]=>some []
 | .int .u64 (.ofNat x)::r=>match xM r with
  |some l=>some (x::l)
  |none=>none
 |_=>none
theorem Ot:∀{l:List PV}{a:List Nat},xM l=some a->l=a.map fun x:Nat=>PV.int .u64 x
 |[],a,h=>by simp only[xM,dl]at h;subst h;rfl
 |v::r,a,h=>by
  unfold xM at h
  split at h
  ·rename_i e;cases e
  ·rename_i x c e;cases e
   split at h
   ·rename_i l b;simp only[dl]at h;subst h;rw[Ot b];rfl
   ·cases h
  ·cases h
def sM:List Nat->List Nat->Bool
 |[],[]=>true
 |x::a,y::b=>bif cN x y then sM a b else false
 |_,_=>false
theorem Dh:∀{a b:List Nat},sM a b=true->a=b
 |[],[],_=>rfl
 |[],_::_,h=>by simp[sM]at h
 |_::_,[],h=>by simp[sM]at h
 |x::a,y::b,h=>by
  simp only[sM,ab]at h
  split at h
  ·rename_i hx;rw[cC hx,Dh h]
  ·cases h
def AM:PV->Option Int
 | .st u [.int .i64 z,.aP]=>bif cN u 129 then(bif oQ z then some z else none)else none
 | .st u [.int .i64 s,.seq l]=>match xM l with
  |some a=>qt (iU wB a) fun n=>bif cN u 129&&(c9 kz n&&sM (az wB n) a)then
   (bif oJ s 1 then some (.ofNat n)else bif oJ s (-1)then some (.negSucc (n-1))else none)else none
  |none=>none
 |_=>none
theorem ND{p:PV}{z:Int}(h:AM p=some z):p=eI ⟨z,false⟩:=by
 unfold AM at h
 split at h
 ·rename_i u y;simp only[ab]at h
  split at h
  ·rename_i g
   split at h
   ·rename_i hs;simp only[dl]at h;subst h;rw[cC g];exact(zw (by rw[uL,hs];rfl) false).symm
   ·cases h
  ·cases h
 ·rename_i u s l
  split at h
  ·rename_i i f;rw[wQ]at h;have e:=Ot f;generalize iU wB i=n at h;simp only[ab]at h
   split at h
   ·rename_i hc;simp only[ac,da]at hc;obtain⟨b,j,c⟩:=hc;have d:=Dh c;have k:kz=9223372036854775808:=rfl;rw[cC b,e,<-d];have key:∀z:Int,z.natAbs=n->eI ⟨z,false⟩=ky z:=fun z m=>by
     refine zw ?_ false;have e1:oQ z=false:=by
      rcases a:oQ z with _|_
      ·rfl
      ·have:=zO.1 a;omega
     have e2:cN z.natAbs kz=false:=by
      rcases a:cN z.natAbs kz with _|_
      ·rfl
      ·have:=cC a;omega
     rw[uL,e1,e2];rfl
    split at h
    ·rename_i hs;simp only[dl]at h;subst h;rw[Aa hs,key _ rfl,ky,if_neg (by show¬((n:Int)<0);omega)];rfl
    ·split at h
     ·rename_i hs;simp only[dl]at h;subst h;rw[Aa hs,key _ (by show n-1+1=n;omega),ky,if_pos (by omega)];have:(a7 (n-1)).natAbs=n:=by show n-1+1=n;omega
      rw[this];rfl
     ·cases h
   ·cases h
  ·cases h
 ·cases h
def Fs(n:Int)(d:Nat):Bool:=c9 0 d&&(c9 n.natAbs zS&&(c9 d zS&&cN (db n.natAbs d) 1))
def qo:PV->Option (Int×Nat)
 | .st u [a,b]=>match AM a,AM b with
  |some n,some (.ofNat d)=>bif cN u 131&&Fs n d then some (n,d)else none
  |_,_=>none
 |_=>none
def fr(n:Int)(d:Nat):NF:=⟨dp n d,false⟩
theorem Wn:zS=2^200:=by decide
theorem Dl{p:PV}{n:Int}{d:Nat}(h:qo p=some (n,d)):p=eF (fr n d)/\d≠0/\bK kB (fr n d).q:=by
 unfold qo at h
 split at h
 case h_2=>cases h
 rename_i u a b
 split at h
 case h_2=>cases h
 rename_i c d' j k;simp only[ab]at h
 split at h
 case isFalse=>cases h
 rename_i hc;simp only[dl,Prod.mk.injEq]at h;obtain⟨rfl,rfl⟩:=h;simp only[Fs,ac,da]at hc;obtain⟨c1,c2,c3,c4,c5⟩:=hc;have f:=cC c5;have e:d'≠0:=by omega
 obtain⟨e1,e2⟩:=lX (n:=c) e;rw[f]at e1 e2;simp only[bb,bl,dk]at e1 e2;rw[Wn]at c3 c4;refine⟨?_,e,(C2 e c3 c4).mono (by decide)⟩;rw[cC c1,ND j,ND k,eF];have g:(fr c d').num=⟨c,false⟩:=by rw[NF.num,fr,e1]
 have i:(fr c d').den=⟨(d':Int),false⟩:=by rw[NF.den,fr,e2];rfl
 rw[g,i];rfl
def nv(n:Int)(d:Nat):Option PV:=
 qt (db n.natAbs d) fun g=>AO (n/g) fun n=>qt (d/g) fun d=>match uL n,uL (.ofNat d)with
  |some a,some b=>some (.st 131 [a,b])
  |_,_=>none
theorem pL{n:Int}{d:Nat}{p:PV}(i:d≠0)(h:nv n d=some p)(m:Bool):p=eF ⟨dp n d,m⟩:=by
 obtain⟨e1,e2⟩:=lX (n:=n) i;simp only[nv,wQ,Nz]at h
 split at h
 case h_2=>cases h
 rename_i a b f g;simp only[dl]at h;subst h;rw[eF];have c:(NF.num ⟨dp n d,m⟩)=⟨n/(db n.natAbs d:Nat),m⟩:=by rw[NF.num,e1]
 have e:(NF.den ⟨dp n d,m⟩)=⟨((d/db n.natAbs d:Nat):Int),false⟩:=by rw[NF.den,e2];rfl
 rw[c,e,zw f,<-zw g false];rfl
def two(op:Int->Nat->Int->Nat->Option PV)(a b:PV):Option PV:=match qo a,qo b with
 |some (n,d),some (m,e)=>op n d m e
 |_,_=>none
theorem wU{op:Int->Nat->Int->Nat->Option PV}{a b p:PV}(h:two op a b=some p):
 ∃n d m e,a=eF (fr n d)/\b=eF (fr m e)/\d≠0/\e≠0/\bK kB (fr n d).q/\bK kB (fr m e).q/\op n d m e=some p:=by
 unfold two at h
 split at h
 case h_2=>cases h
 rename_i n d m e j k;obtain⟨c,a2,a3⟩:=Dl j;obtain⟨f,g,i⟩:=Dl k;exact⟨n,d,m,e,c,f,a2,g,a3,i,h⟩
def Rm(n:Int)(d:Nat)(m:Int)(e:Nat):Option PV:=nv (n*e+m*d) (d*e)
def Ro(n:Int)(d:Nat)(m:Int)(e:Nat):Option PV:=nv (n*e-m*d) (d*e)
def Rn(n:Int)(d:Nat)(m:Int)(e:Nat):Option PV:=nv (n*m) (d*e)
def A9:Int->Int
 | .ofNat n=>bif cN n 0 then 0 else 1
 | .negSucc _=>-1
theorem MO(z:Int):A9 z=if z<0 then -1 else if z=0 then 0 else 1:=by
 cases z with
 |ofNat n=>
  rw[if_neg (by simp)];cases n with
  |zero=>rfl
  |succ n=>rw[if_neg (by simp;omega)];rfl
 |negSucc n=>rw[if_pos (by omega)];rfl
def Fo(n:Int)(d:Nat)(m:Int)(e:Nat):Option PV:=some (.int .i64 (A9 (n*e-m*d)))
def A1(n:Int)(d:Nat)(m:Int)(e:Nat):Option PV:=match m with
 | .ofNat k=>bif cN k 0 then none else nv (n*e) (d*k)
 | .negSucc k=>nv (-(n*e)) (d*(k+1))
theorem uK{d:Nat}(h:d≠0):(d:Int)≠0:=by omega
theorem Zy{n m:Int}{d e:Nat}{p:PV}(a:d≠0)(b:e≠0)(h:Rm n d m e=some p):p=eF ((fr n d).add (fr m e)):=by
 rw[NF.add,fr,fr];dsimp only;rw[ec _ _ (uK a) (uK b)];have:=pL (c6 a b) h;rw[a1]at this;exact this _
theorem ZC{n m:Int}{d e:Nat}{p:PV}(a:d≠0)(b:e≠0)(h:Ro n d m e=some p):p=eF ((fr n d).sub (fr m e)):=by
 rw[NF.sub,NF.add,NF.neg,fr,fr];dsimp only;rw[ei,ec _ _ (uK a) (uK b)];have:=pL (c6 a b) h;rw[a1]at this;rw[Int.neg_mul,<-Int.sub_eq_add_neg];exact this _
theorem ZA{n m:Int}{d e:Nat}{p:PV}(a:d≠0)(b:e≠0)(h:Rn n d m e=some p):p=eF ((fr n d).mul (fr m e)):=by
 rw[NF.mul,fr,fr];dsimp only;rw[dq];have:=pL (c6 a b) h;rw[a1]at this;exact this _
theorem YD(x y:Rat):fc x y=if x-y<0 then -1 else if x-y=0 then 0 else 1:=by
 have b:x-y<0↔x<y:=by
  constructor
  ·intro h;have a:=(ed (c:=y)).2 h
   rwa [ea,eb]at a
  ·intro h;refine(ed (c:=y)).1 ?_
   rwa [ea,eb]
 have a:x-y=0↔x=y:=by
  constructor
  ·intro h;have d:=congrArg (·+y) h
   simpa[ea,eb]using d
  ·intro h;rw[h,Rat.sub_self]
 simp only[fc,b,a]
theorem CA(n:Int){d:Nat}(i:d≠0):(if dp n d<0 then(-1:Int)else if dp n d=0 then 0 else 1)=A9 n:=by
 rw[D1,MO];obtain⟨e1,-⟩:=lX (n:=n) i;have k:0<db n.natAbs d:=Nat.gcd_pos_of_pos_right _ (by omega);have j:((db n.natAbs d:Nat):Int)∣n:=by
  rw[Int.ofNat_dvd_left];exact Nat.gcd_dvd_left _ _
 obtain⟨c,hc⟩:=j;rw[e1];generalize db n.natAbs d=g at*;have a:(0:Int)<g:=by omega
 subst hc;rw[Int.mul_ediv_cancel_left _ (by omega)];have b:(g:Int)*c<0↔c<0:=by
  constructor
  ·intro h;refine Int.not_le.1 fun f=>?_;have:=bi (Int.le_of_lt a) f;omega
  ·intro h;exact Int.mul_neg_of_pos_of_neg a h
 have e:(g:Int)*c=0↔c=0:=by
  rw[Int.mul_eq_zero];constructor
  ·rintro(h|h)
   ·omega
   ·exact h
  ·exact fun h=>.inr h
 simp only[b,e]
theorem Zz{n m:Int}{d e:Nat}{p:PV}(a:d≠0)(b:e≠0)(h:Fo n d m e=some p):p=.int .i64 (fc (fr n d).q (fr m e).q):=by
 simp only[Fo,dl]at h;rw[<-h,YD,fr,fr];dsimp only;rw[Rat.divInt_sub_divInt _ _ (uK a) (uK b),<-a1,CA _ (c6 a b)]
theorem Pb{n m:Int}{d e:Nat}{p:PV}(a:d≠0)(c:e≠0)(h:A1 n d m e=some p):p=eF ((fr n d).div (fr m e))/\(fr m e).q≠0:=by
 have b:m≠0->(fr m e).q≠0:=fun g hq=>by
  rw[fr]at hq;dsimp only at hq;have:=CA m c;rw[hq,if_neg (by decide),if_pos rfl,MO]at this
  split at this
  ·omega
  ·first
     |omega
     |(rw[if_neg g]at this;omega)
 rw[NF.div,fr,fr];dsimp only;unfold A1 at h;cases m with
 |ofNat k=>
  simp only[ab]at h
  split at h
  ·cases h
  ·rename_i hk;have f:k≠0:=fun e=>hk (by rw[e];rfl);have:=pL (c6 a f) h;refine⟨?_,b (by show(k:Int)≠0;omega)⟩;have e:(dp n d:Rat)/dp (Int.ofNat k) e=dp (n*e) (d*k):=by
    rw[dz,en,dq];rfl
   rw[e];rw[a1]at this;exact this _
 |negSucc k=>
  dsimp only at h;have:=pL (c6 a (Nat.succ_ne_zero k)) h;refine⟨?_,b (by omega)⟩;have e:(dp n d:Rat)/dp (a7 k) e=dp (-(n*e)) ((d:Int)*((k+1:Nat):Int)):=by
   rw[dz,en,dq];rw[show a7 k= -((k+1:Nat):Int)from rfl,Int.mul_neg];rw[Rat.divInt_neg']
  rw[e];rw[a1]at this;exact this _
def A0:Nat->Nat->Nat
 |0,_=>0
 |f+1,n=>bif cN n 0 then 0 else A0 f (n/10)+1
theorem Zd{a b:Nat}(h:a<b):c9 a b=true:=by rw[da];exact h
theorem AJ{a b:Nat}(h:c9 a b=true):a<b:=by rw[da]at h;exact h
theorem OY:∀(f n:Nat),n<10^f->A0 f n=nd n
 |0,n,h=>by
  have:n=0:=by simpa using h
  subst this;rw[nd];rfl
 |f+1,n,h=>by
  rw[A0,nd]
  by_cases a:n=0
  ·subst a;rfl
  ·have b:cN n 0=false:=by
    rcases c:cN n 0 with _|_
    ·rfl
    ·exact(a (cC c)).elim
   rw[b,cond_false,dif_neg a,OY f (n/10) (by rw[Nat.div_lt_iff_lt_mul (by omega)];rw[Nat.pow_succ]at h;exact h)]
def uX(n:Nat):List Nat:=qt (A0 80 n) fun k=>bif c9 1 k then low k n else low 1 n
theorem Ae{n:Nat}(h:n<10^80):uX n=aZ n:=by
 rw[uX,wQ,OY _ _ h,aZ];rcases a:c9 1 (nd n)with _|_
 ·have:¬1<nd n:=fun b=>by rw[Zd b]at a;cases a
  rw[cond_false,Nat.max_eq_left (by omega)]
 ·have:1<nd n:=AJ a;rw[cond_true,Nat.max_eq_right (by omega)]
def FH:Int->List Nat
 | .ofNat n=>uX n
 | .negSucc n=>45::uX (n+1)
theorem aKe{z:Int}(h:z.natAbs<10^80):FH z=bL z:=by
 cases z with
 |ofNat n=>rw[bL,if_neg (by show¬((n:Int)<0);omega)];exact Ae h
 |negSucc n=>rw[bL,if_pos (by omega)];exact congrArg (45::·) (Ae h)
def FG(n:Int)(d:Nat):List Nat:=bif cN d 1 then FH n else FH n++47::uX d
theorem L3{n:Int}{d:Nat}(a:d≠0)(b:db n.natAbs d=1):(fr n d).q.num=n/\(fr n d).q.den=d:=by
 obtain⟨e1,e2⟩:=lX (n:=n) a;rw[b]at e1 e2;simp only[bb,bl,dk]at e1 e2;exact⟨e1,e2⟩
theorem L8{p:PV}{n:Int}{d:Nat}(h:qo p=some (n,d)):db n.natAbs d=1/\n.natAbs<10^80/\d<10^80:=by
 unfold qo at h
 split at h
 case h_2=>cases h
 split at h
 case h_2=>cases h
 simp only[ab]at h
 split at h
 case isFalse=>cases h
 rename_i hc;simp only[dl,Prod.mk.injEq]at h;obtain⟨rfl,rfl⟩:=h;simp only[Fs,ac,da]at hc;obtain⟨c1,c2,c3,c4,c5⟩:=hc;have a:zS<10^80:=by decide
 exact⟨cC c5,by omega,by omega⟩
theorem aKd{p:PV}{n:Int}{d:Nat}(h:qo p=some (n,d))(f:d≠0):FG n d=bc (fr n d).q:=by
 obtain⟨g,b,c⟩:=L8 h;obtain⟨e1,e2⟩:=L3 f g;rw[FG,bc,e1,e2,aKe b,Ae c];rcases a:cN d 1 with _|_
 ·rw[cond_false,if_neg (fun e=>by rw[e]at a;cases a)]
 ·rw[cond_true,if_pos (cC a)]
def qm:List Nat->Nat->Bool
 |[],_=>true
 |c::r,f=>match f with
  |0=>false
  |f+1=>bif c9 c 256 then qm r f else false
theorem wZ:∀{s:List Nat}{f:Nat},qm s f=true->s.length<=f/\∀c∈s,c<256
 |[],_,_=>⟨Nat.zero_le _,fun c hc=>by cases hc⟩
 |c::r,0,h=>by simp[qm]at h
 |c::r,f+1,h=>by
  simp only[qm,ab]at h
  split at h
  ·rename_i hc;obtain⟨b,a⟩:=wZ h;refine⟨by simp;omega,fun x hx=>?_⟩;rcases cB.1 hx with rfl|hx
   ·exact AJ hc
   ·exact a x hx
  ·cases h
def Rg(z:Int):Bool:=match z with
 | .ofNat n=>cN n 0
 |_=>false
theorem aD7{z:Int}(h:Rg z=true):z=0:=by
 cases z with
 |ofNat n=>rw[cC (show cN n 0=true from h)];rfl
 |negSucc n=>cases h
def EA(n:Int)(d:Nat):Option PV:=bif cN d 0 then none else nv n d
theorem aof{n:Int}{d:Nat}{p:PV}(h:EA n d=some p)(m:Bool):p=eF ⟨dp n d,m⟩:=by
 unfold EA at h;rcases a:cN d 0 with _|_
 ·rw[a]at h;exact pL (fun e=>by rw[e]at a;cases a) h m
 ·rw[a]at h;cases h
def EB(s:List Nat):Option PV:=bif Rg (bX s)&&qm s 1000 then
 AO (if bZ s=true then -(aX (bH s):Int)else aX (bH s)) fun n=>qt (if ek s=true then aX (bQ s)else 1) fun d=>EA n d else none
theorem aog{s:List Nat}{p:PV}(h:EB s=some p):p=eF ⟨bh s,false⟩/\bX s=0/\s.length<=1048576:=by
 unfold EB at h;simp only[ab,Nz,wQ]at h
 split at h
 case isFalse=>cases h
 rename_i hc;rw[ac]at hc;obtain⟨c1,c2⟩:=hc;obtain⟨a,b⟩:=wZ c2;refine⟨?_,aD7 c1,by omega⟩;rw[bh];exact aof h false
def Qn:Int->Bool
 | .ofNat n=>c9 n kz
 | .negSucc n=>c9 n kz
theorem awC{z:Int}(h:Qn z=true):-9223372036854775808<=z/\z<=9223372036854775807:=by
 cases z with
 |ofNat n=>have:n<9223372036854775808:=AJ h;refine⟨?_,?_⟩<;>show _<=_<;>simp only[Int.ofNat_eq_natCast]<;>omega
 |negSucc n=>have:n<9223372036854775808:=AJ h;omega
def Fu(f:Nat)(a:PV):Option PV:=match a with
 | .int .i64 z=>bif cN f 74&&Qn z then nv z 1 else none
 | .str s=>bif cN f 142 then EB s else bif cN f 221&&qm s 1000 then some (.int .i64 (bX s))else none
 | .st u [.str x,.str y]=>bif cN f 92&&(cN u 46&&(qm x 1000&&qm y 1000))then some (.int .i64 (cq ⟨x,y⟩))else none
 | .st u [c,e]=>match qo (.st u [c,e])with
  |some (n,d)=>bif cN f 174 then nv (-n) d else
   bif cN f 146 then some (.int .i64 (A9 n))else
   bif cN f 173 then A1 1 1 n d else
   bif cN f 176 then some (.str (FG n d))else
   bif cN f 175 then some (.bool false)else none
  |none=>none
 |_=>none
def uW(f:Nat)(a b:PV):Option PV:=
 bif cN f 89 then two Rm a b else
 bif cN f 191 then two Ro a b else
 bif cN f 172 then two Rn a b else
 bif cN f 75 then two A1 a b else
 bif cN f 136 then two Fo a b else none
def hk(f:Nat):List PV->Option PV
 |[a]=>Fu f a
 |[a,b]=>uW f a b
 |_=>none
theorem Qb(z:Int):dp z ((1:Nat):Int)=(z:Rat):=by
 rw[show((1:Nat):Int)=1 from rfl,ee];rw[show((1:Int):Rat)=1 from rfl,dz,show(1:Rat)⁻¹=1 from by decide+kernel,Rat.mul_one]
theorem bq{a b:Nat}(h:cN a b=true):a=b:=cC h
theorem aIM{f:Nat}{a v:PV}(h:Fu f a=some v):aC prog f [a] v:=by
 unfold Fu at h
 split at h
 ·rename_i z;simp only[ab]at h
  split at h
  ·rename_i hc;rw[ac]at hc;obtain⟨w,A⟩:=awC hc.2;rw[bq hc.1,pL (by decide) h true];have:=sf z w A;rw[NF.int]at this;rw[Qb];exact this
  ·cases h
 ·rename_i s;simp only[ab]at h
  split at h
  ·rename_i hf;obtain⟨e1,e2,e3⟩:=aog h;rw[bq hf,e1];exact nt s e2 e3
  ·split at h
   ·rename_i hc;rw[ac]at hc;obtain⟨j,b⟩:=wZ hc.2;simp only[dl]at h;subst h;rw[bq hc.1];exact Ai s (by omega) b
   ·cases h
 ·rename_i u x y;simp only[ab]at h
  split at h
  ·rename_i hc;simp only[ac]at hc;obtain⟨c1,c2,c3,c4⟩:=hc;obtain⟨j,b⟩:=wZ c3;obtain⟨B,p⟩:=wZ c4;simp only[dl]at h;subst h;rw[bq c1,bq c2];exact tu ⟨x,y⟩ ⟨⟨by show x.length<=_;omega,b⟩,⟨by show y.length<=_;omega,p⟩⟩
  ·cases h
 ·rename_i u c e _
  split at h
  case h_2=>cases h
  rename_i n d l;obtain⟨t,g,i⟩:=Dl l;rw[t];simp only[ab]at h
  split at h
  ·rename_i hf;rw[bq hf,pL g h false,<-ei];exact Mh _ i
  split at h
  ·rename_i hf;simp only[dl]at h;subst h;rw[bq hf,<-CA n g];exact DH _
  split at h
  ·rename_i hf;obtain⟨e1,e2⟩:=Pb (by decide) g h;have e3:(fr 1 1).div (fr n d)=(fr n d).inv:=by
    rw[NF.div,NF.inv,fr,fr];dsimp only;rw[Qb,dz];rw[show((1:Int):Rat)=1 from rfl,Rat.one_mul]
   rw[bq hf,e1,e3];exact Mi _ i e2
  split at h
  ·rename_i hf;simp only[dl]at h;subst h;rw[bq hf,aKd l g];exact zo _ i
  split at h
  ·rename_i hf;simp only[dl]at h;subst h;rw[bq hf];have m:=zz _ i;obtain⟨q,j,b⟩:=L8 l;obtain⟨e1,e2⟩:=L3 g q;have o:∀k,k<10^80->kJ k=false:=fun k hk=>by
    rw[kJ,decide_eq_false_iff_not];have C:nd k<=80:=Nat.not_lt.1 fun r=>by have:=(nq _ _).1 r;omega
    rw[rh];omega
   rw[xE,e1,e2,o _ j,o _ b]at m;exact m
  ·cases h
 ·cases h
theorem aJ9{f:Nat}{a b v:PV}(h:uW f a b=some v):aC prog f [a,b] v:=by
 unfold uW at h;simp only[ab]at h
 split at h
 ·rename_i hf;obtain⟨n,d,m,e,rfl,rfl,c,g,j,k,i⟩:=wU h;rw[bq hf,Zy c g i];exact uI _ _ j k
 split at h
 ·rename_i hf;obtain⟨n,d,m,e,rfl,rfl,c,g,j,k,i⟩:=wU h;rw[bq hf,ZC c g i];exact zK _ _ j k
 split at h
 ·rename_i hf;obtain⟨n,d,m,e,rfl,rfl,c,g,j,k,i⟩:=wU h;rw[bq hf,ZA c g i];exact tY _ _ j k
 split at h
 ·rename_i hf;obtain⟨n,d,m,e,rfl,rfl,c,g,j,k,i⟩:=wU h;obtain⟨e1,e2⟩:=Pb c g i;rw[bq hf,e1];exact PI _ _ j k e2
 split at h
 ·rename_i hf;obtain⟨n,d,m,e,rfl,rfl,c,g,j,k,i⟩:=wU h;rw[bq hf,Zz c g i];exact uH _ _ j k
 ·cases h
theorem awt{f:Nat}{vs:List PV}{v:PV}(h:hk f vs=some v):aC prog f vs v:=by
 unfold hk at h
 split at h
 ·exact aIM h
 ·exact aJ9 h
 ·cases h
end Hk
theorem aKg{n:Nat}(h:n<10^80):bc ((n:Nat):Rat)=Hk.uX n:=by
 rw[Hk.Ae h,bc,if_pos (by rfl),bL,if_neg (by show¬((n:Int)<0);omega)];rfl
structure dG where
 x:Int
 y:Int
 deriving DecidableEq
structure dV where
 name:List Nat
 eZ:Int
 a:List Nat
 b:List Nat
structure cQ where
 name:List Nat
 pt:ez
structure aq where
 cs:List dG
 bm:Int
 bf:List dV
 aj:List cQ
def bV(p:dG):PV:=.st 60 [.int .i64 p.x,.int .i64 p.y]
def fy(p:dV):PV:=.st 109 [.str p.name,.int .i64 p.eZ,.str p.a,.str p.b]
def bu(p:cQ):PV:=.st 48 [.str p.name,dB p.pt]
def cV(t:aq):PV:=.st 25 [.seq (t.cs.map bV),.int .i64 t.bm,.seq (t.bf.map fy),.seq (t.aj.map bu)]
@[simp] theorem aMT(p:dG):aL (bV p)=.agg 60:=rfl
@[simp] theorem aLL(p:dG):cM (bV p)=[.int .i64 p.x,.int .i64 p.y]:=rfl
@[simp] theorem aMQ(p:dV):aL (fy p)=.agg 109:=rfl
@[simp] theorem aLI(p:dV):cM (fy p)=[.str p.name,.int .i64 p.eZ,.str p.a,.str p.b]:=rfl
@[simp] theorem aMU(p:cQ):aL (bu p)=.agg 48:=rfl
@[simp] theorem aLM(p:cQ):cM (bu p)=[.str p.name,dB p.pt]:=rfl
@[simp] theorem aMZ(t:aq):aL (cV t)=.agg 25:=rfl
@[simp] theorem aLQ(t:aq):cM (cV t)=[.seq (t.cs.map bV),.int .i64 t.bm,.seq (t.bf.map fy),.seq (t.aj.map bu)]:=rfl
@[simp] theorem aK8:prog.cellsOf 60=2:=by kernel_rfl
@[simp] theorem aK7:prog.cellsOf 109=4:=by kernel_rfl
@[simp] theorem aK9:prog.cellsOf 48=3:=by kernel_rfl
def fk(p:dG):Bool:=decide (10000<max p.x p.y)||decide (min p.x p.y< -10000)
theorem Zt(p:dG):aC prog 79 [bV p] (.bool (fk p)):=by
 obtain⟨x,y⟩:=p;refine aM nf QX mix (by simp[f79]) ?_;have e1:max x y=if x<y then y else x:=by split<;>omega
 have e2:min x y=if y<x then y else x:=by split<;>omega
 rw[fk,e1,e2]
 by_cases h:(if x<y then y else x)<=10000
 ·have a:¬10000<(if x<y then y else x):=by omega
  by_cases b:(if y<x then y else x)< -10000
  ·simp[f79,ad,h,a,b]
  ·simp[f79,ad,h,a,b]
 ·have a:10000<(if x<y then y else x):=by omega
  simp[f79,ad,h,a]
def eU(p:dG):Prop:=-10000<=p.x/\p.x<=10000/\-10000<=p.y/\p.y<=10000
theorem Gd{p:dG}(h:fk p=false):eU p:=by
 simp only[fk,Bool.or_eq_false_iff,decide_eq_false_iff_not]at h;unfold eU;omega
def fR(a b c:dG):Int:=(b.x-a.x)*(c.y-a.y)-(b.y-a.y)*(c.x-a.x)
theorem sS{a b:Int}{A B:Int}(c:-A<=a)(d:a<=A)(e:-B<=b)(f:b<=B):-(A*B)<=a*b/\a*b<=A*B:=by
 have k1:a.natAbs<=A.natAbs:=by omega
 have k2:b.natAbs<=B.natAbs:=by omega
 have k3:=Nat.mul_le_mul k1 k2;rw[<-be,<-be]at k3;have k4:0<=A*B:=bi (by omega) (by omega);omega
theorem SM(a b c:dG)(i:eU a)(j:eU b)(hc:eU c):aC prog 177 [bV a,bV b,bV c] (.int .i64 (fR a b c)):=by
 obtain⟨d,e⟩:=a;obtain⟨bx,f⟩:=b;obtain⟨g,h⟩:=c;simp only[eU]at i j hc;have k:ax.wrap (bx-d)=bx-d:=aO _ (by omega) (by omega);have l:ax.wrap (h-e)=h-e:=aO _ (by omega) (by omega);have m:ax.wrap (f-e)=f-e:=aO _ (by omega) (by omega)
 have n:ax.wrap (g-d)=g-d:=aO _ (by omega) (by omega);have r:=sS (a:=bx-d) (b:=h-e) (A:=20000) (B:=20000) (by omega) (by omega) (by omega) (by omega);have s:=sS (a:=f-e) (b:=g-d) (A:=20000) (B:=20000) (by omega) (by omega) (by omega) (by omega);have o:ax.wrap ((bx-d)*(h-e))=(bx-d)*(h-e):=aO _ (by omega) (by omega);have p:ax.wrap ((f-e)*(g-d))=(f-e)*(g-d):=aO _ (by omega) (by omega);have q:ax.wrap ((bx-d)*(h-e)-(f-e)*(g-d))=(bx-d)*(h-e)-(f-e)*(g-d):=aO _ (by omega) (by omega);refine aM nf G1 mix (by simp[f177]) ?_;rw[fR];simp[f177,ad,k,l,m,n,o,p,q]
def aq.nx(t:aq)(i:Nat):Nat:=(i+1)% t.cs.length
def aq.at(t:aq)(i:Nat):dG:=t.cs.getD i ⟨0,0⟩
theorem aq.get{t:aq}{i:Nat}(h:i<t.cs.length):t.cs[i]?=some (t.at i):=by
 rw[aq.at,b0,bo h];rfl
@[simp] theorem aq.aN{t:aq}{i:Nat}(h:i<t.cs.length):t.cs[i]'h=t.at i:=by
 rw[aq.at,b0,bo h];rfl
theorem aq.mG{t:aq}(h:0<t.cs.length)(i:Nat):t.nx i<t.cs.length:=Nat.mod_lt _ h
theorem Gy(t:aq)(i:Nat)(h:i<t.cs.length)(g:t.cs.length<=1000000):aC prog 178 [cV t,.int .i64 i] (bV (t.at (t.nx i))):=by
 have f:ax.wrap ((i:Int)+1)=(i:Int)+1:=aO _ (by omega) (by omega);have c:=t.mG (by omega) i;have e1:((i:Int)+1).tmod (t.cs.length:Int)=((t.nx i:Nat):Int):=by
  rw[aq.nx,a8,a6 (by omega)];rfl
 have b:=aq.get c;have d:¬t.cs.length=0:=by omega
 have a:¬t.cs=[]:=by intro e;rw[e]at h;simp at h
 refine aM nf G0 mix (by simp[f178]) ?_;simp[f178,ad,f,e1,b,d,a]
def aq.nE(t:aq)(i:Nat)(m:Nat):Prop:=∀k,k<m->k≠i->k≠t.nx i->0<fR (t.at i) (t.at (t.nx i)) (t.at k)
instance(t:aq)(i m:Nat):Decidable (t.nE i m):=inferInstanceAs (Decidable (∀k,k<m->_))
def aq.dv(t:aq):Bool:=decide (∀i,i<t.cs.length->t.nE i t.cs.length)
theorem aq.iu{t:aq}(h:∀p∈t.cs,eU p){i:Nat}(hi:i<t.cs.length):eU (t.at i):=h _ (bv (aq.get hi))
theorem SV(t:aq)(x:t.cs.length<=1000000)(m:∀p∈t.cs,eU p):aC prog 80 [cV t] (.bool t.dv):=by
 refine aM nf QY mix (by simp[f80]) ?_;generalize a:t.cs.length=n at*;simp[f80,ad,a];refine lp (α:=Nat) (fun i=>⟨[(4,.p (.int .i64 i)),(3,.p (.int .i64 n)),(1,.ptr 0 [])],[.box false (.p (cV t))]⟩) (fun i=>i<=n/\∀j,j<i->t.nE j n) (fun i=>n-i) 0 (by simp) ?_;rintro i ⟨v,q⟩
 by_cases hi:i<n
 ·simp[hi];refine lp (α:=Nat) (fun k=>⟨[(5,.p (.int .i64 k)),(4,.p (.int .i64 i)),(3,.p (.int .i64 n)),(1,.ptr 0 [])],[.box false (.p (cV t))]⟩) (fun k=>k<=n/\t.nE i k) (fun k=>n-k) 0 (by simp[aq.nE]) ?_;rintro k ⟨g1,g2⟩
  by_cases hk:k<n
  ·have r:=Gy t i (by omega) (by omega);have y:t.nx i<n:=by rw[<-a];exact t.mG (by omega) i
   have d:=cr (i:=i) (by omega);have e:=cr (i:=k) (by omega);have e1:((i:Int)+1).tmod (n:Int)=((t.nx i:Nat):Int):=by
    rw[aq.nx,a,a8,a6 (by omega)];rfl
   have s:=SM (t.at i) (t.at (t.nx i)) (t.at k) (aq.iu m (by omega)) (aq.iu m (by omega)) (aq.iu m (by omega));have f:=aq.get (t:=t) (i:=i) (by omega);have gk:=aq.get (t:=t) (i:=k) (by omega);have o:¬n=0:=by omega
   by_cases c1:k=i
   ·subst c1;simp[hk,e];exact rd (k+1) ⟨hk,fun j g=>by
     by_cases l:j=k
     ·intro h;exact(h l).elim
     ·exact g2 j (by omega)⟩
   ·have b:¬(k:Int)=(i:Int):=by omega
    by_cases c2:k=t.nx i
    ·rw[<-c2]at e1;simp[hk,b,d,e,e1,o];exact rd (k+1) ⟨hk,fun j g=>by
      by_cases l:j=k
      ·intro _ h;exact(h (by omega)).elim
      ·exact g2 j (by omega)⟩
    ·have c:¬(k:Int)=((t.nx i:Nat):Int):=by omega
     by_cases c3:fR (t.at i) (t.at (t.nx i)) (t.at k)<=0
     ·simp[hk,b,c,d,e,e1,o,f,gk,a,ad];refine Go.au.e2 r ?_;simp[hk,a,f,gk,b,c,ad];refine Go.au.e3 s ?_;simp[c3,b,c];have:t.dv=false:=by
       rw[aq.dv,decide_eq_false_iff_not];intro h;have:=h i (by omega) k (by omega) c1 c2;omega
      rw[this]
     ·simp[hk,b,c,d,e,e1,o,f,gk,a,ad];refine Go.au.e2 r ?_;simp[hk,a,f,gk,b,c,ad];refine Go.au.e3 s ?_;simp[c3,e,b,c];exact rd (k+1) ⟨hk,fun j g=>by
       by_cases l:j=k
       ·subst l;intro _ _;omega
       ·exact g2 j (by omega)⟩
  ·have:k=n:=by omega
   subst this;have d:=cr (i:=i) (by omega);simp[d];exact rd (i+1) ⟨hi,fun j g=>by
    by_cases u:j=i
    ·subst u;exact g2
    ·exact q j (by omega)⟩
 ·have w:i=n:=by omega
  have:t.dv=true:=by
   rw[aq.dv,decide_eq_true_eq,a];intro j g;exact q j (by omega)
  simp[hi,this]
def dP(p:dG):V2:=⟨(p.x:Rat),(p.y:Rat)⟩
theorem oR{p:dG}(h:eU p):b9 14 (dP p):=by
 simp only[eU]at h;exact⟨rH (by omega) (by decide),rH (by omega) (by decide)⟩
theorem Ga(p:dG)(h:eU p):aC prog 144 [bV p] (eV (dP p)):=by
 have c:=h;simp only[eU]at h;have a:=DP p.x (by omega) (by omega);have b:=DP p.y (by omega) (by omega);refine aM nf II mix (by simp[f144]) ?_;rw[dP,xd];simp[f144,ad];refine e1 a ?_;simp[ad];refine e1 b ?_;simp[ad]
def aq.lM(t:aq)(i:Nat):V2:=(dP (t.at (t.nx i))).sub (dP (t.at i))
def aq.side(t:aq)(i:Nat)(v:V2):Int:=de ((t.lM i).bE (v.sub (dP (t.at i))))
theorem aq.okW{t:aq}(h:∀p∈t.cs,eU p){i:Nat}(hi:i<t.cs.length):b9 29 (t.lM i):=oD (oR (aq.iu h (t.mG (by omega) i))) (oR (aq.iu h hi))
theorem Zn(t:aq)(i:Nat)(v:V2)(e:t.cs.length<=1000000)(b:∀p∈t.cs,eU p)(hi:i<t.cs.length)(d:b9 3000 v):aC prog 86 [cV t,.int .i64 i,eV v] (.int .i64 (t.side i v)):=by
 have a:=aq.get hi;have c:=oR (aq.iu b hi);have n:=oR (aq.iu b (t.mG (by omega) i));have f:=Ga (t.at i) (aq.iu b hi);have g:=Gy t i hi e;have h:=Ga (t.at (t.nx i)) (aq.iu b (t.mG (by omega) i));have j:=AE (dP (t.at (t.nx i))) (dP (t.at i)) (n.mono (by decide)) (c.mono (by decide));have k:=AE v (dP (t.at i)) (d.mono (by decide)) (c.mono (by decide));have l:=Sr (t.lM i) (v.sub (dP (t.at i))) ((aq.okW b hi).mono (by decide)) ((oD d c).mono (by decide));have m:=ur ((t.lM i).bE (v.sub (dP (t.at i)))) ((FO (aq.okW b hi) (oD d c)).mono (by decide));refine aM nf Q2 mix (by simp[f86]) ?_;rw[aq.side];simp[f86,ad,a,hi];refine e1 f ?_;simp[ad,a,hi];refine e2 g ?_;simp[ad,a,hi];refine e1 h ?_;simp[ad,a,hi];refine⟨by repeat' first|rfl|apply And.intro,?_⟩;refine e2 j ?_;simp[ad,a,hi];refine e2 k ?_;simp[ad,a,hi];refine e2 l ?_;simp[ad,a,hi];refine e1 m ?_;simp[ad,a,hi]
def aq.kL(t:aq)(v:V2)(m:Nat):Int:=(cy m).foldl (fun o i=>min o (t.side i v)) 1
theorem aq.xR(t:aq)(v:V2)(m:Nat):t.kL v (m+1)=min (t.kL v m) (t.side m v):=by
 rw[aq.kL,cA,List.foldl_append];rfl
theorem aq.Hp(t:aq)(v:V2):∀m,t.kL v m= -1\/t.kL v m=0\/t.kL v m=1
 |0=>.inr (.inr rfl)
 |m+1=>by
  rw[aq.xR];have a:=aq.Hp t v m;have b:=Y9 ((t.lM m).bE (v.sub (dP (t.at m))));simp only[aq.side];omega
def aq.on(t:aq)(v:V2):Int:=t.kL v t.cs.length
theorem Gu(a b:Int):min a b=if b<a then b else a:=by split<;>omega
theorem PS(t:aq)(v:V2)(b:t.cs.length<=1000000)(c:∀p∈t.cs,eU p)(d:b9 3000 v):aC prog 19 [cV t,eV v] (.int .i64 (t.on v)):=by
 refine aM nf Qu mix (by simp[f19]) ?_;simp[f19,ad];refine lp (α:=Nat) (fun i=>⟨[(6,.p (.int .i64 i)),(5,.p (.int .i64 (t.kL v i))),(3,.ptr 1 []),(2,.ptr 0 [])],[.box false (.p (cV t)),.box false (.p (eV v))]⟩) (fun i=>i<=t.cs.length) (fun i=>t.cs.length-i) 0 (by simp) ?_ (hh:=by simp[aq.kL]) (he:=by simp[aq.kL]);rintro i f
 by_cases hi:i<t.cs.length
 ·have a:=Zn t i v b c hi d;have e:=cr (i:=i) (by omega);have hs:=aq.xR t v i;rw[Gu]at hs;simp[hi,ad];refine c3 a ?_;simp[e,<-hs];exact rd (i+1) hi
 ·have:i=t.cs.length:=by omega
  subst this;simp[aq.on,ad]
def isLet(c:Int):Bool:=(decide (97<=c)&&decide (c<=122))||(decide (65<=c)&&decide (c<=90))
def ji(c:Int):Bool:=decide (48<=c)&&decide (c<=57)
def mw:Nat->List Nat->Bool
 |_,[]=>true
 |i,c::r=>(isLet c||(decide (i≠0)&&(ji c||decide ((c:Int)=95))))&&mw (i+1) r
def isName(s:List Nat):Bool:=decide (1<=s.length)&&decide (s.length<=24)&&mw 0 s
theorem cls(c:Int):(97<=c/\c<=122)\/(¬97<=c/\65<=c/\c<=90)\/(¬97<=c/\¬65<=c/\¬48<=c/\¬c=95)\/(¬97<=c/\¬65<=c/\48<=c/\c<=57/\¬c=95)\/(¬97<=c/\¬65<=c/\48<=c/\¬c<=57/\¬c=95)\/
 (¬97<=c/\65<=c/\¬c<=90/\48<=c/\¬c<=57/\c=95)\/(¬97<=c/\65<=c/\¬c<=90/\48<=c/\¬c<=57/\¬c=95)\/(97<=c/\¬c<=122/\65<=c/\¬c<=90/\48<=c/\¬c<=57/\¬c=95):=by omega
theorem F9(c:Int):aC prog 207 [.int .i32 c] (.bool (isLet c)):=by
 refine aM nf Iv mix (by simp[f207]) ?_;rcases cls c with⟨a,b⟩|⟨a,b,d⟩|⟨a,b,d,e⟩|⟨a,b,d,e,f⟩|⟨a,b,d,e,f⟩|⟨a,b,d,e,f,g⟩|⟨a,b,d,e,f,g⟩|⟨a,b,d,e,f,g,h⟩<;>simp[f207,isLet, *]
theorem F5{s:List Nat}{i:Nat}(hi:i<s.length):mw i (s.drop i)=((isLet s[i]||(decide (i≠0)&&(ji s[i]||decide ((s[i]:Int)=95))))&&mw (i+1) (s.drop (i+1))):=by
 rw[List.drop_eq_getElem_cons hi,mw]
theorem Bm(s:List Nat)(h:s.length<=1048576):aC prog 82 [.str s] (.bool (isName s)):=by
 refine aM nf Q0 mix (by simp[f82]) ?_;rcases Bn s.length 1 with⟨g1,m⟩|⟨g1,m⟩
 ·have:s.length=0:=by omega
  simp[f82,g1,isName,this]
 rcases Bn 24 s.length with⟨g2,n⟩|⟨g2,n⟩
 ·have:¬s.length<=24:=by omega
  simp[f82,g1,g2,isName,this]
 simp[f82,g1,g2];have e0:isName s=mw 0 s:=by simp[isName];omega
 refine lp (α:=Nat) (fun i=>⟨[(3,.p (.int .i64 i)),(0,.p (.str s))],[]⟩) (fun i=>i<=s.length/\isName s=mw i (s.drop i)) (fun i=>s.length-i) 0 (by simp[e0]) ?_;rintro i ⟨k1,k2⟩
 by_cases hi:i<s.length
 ·rw[F5 hi]at k2;have k:=cr (i:=i) (by omega);generalize hc:(s[i]:Int)=c at*
  by_cases j:i=0
  ·subst j;have l:ax.wrap 1=1:=aO 1 (by omega) (by omega);rcases cls c with⟨a,b⟩|⟨a,b,d⟩|⟨a,b,d,e⟩|⟨a,b,d,e,f⟩|⟨a,b,d,e,f⟩|⟨a,b,d,e,f,g⟩|⟨a,b,d,e,f,g⟩|⟨a,b,d,e,f,g,h⟩
   ·simp[isLet,a,b]at k2;simp[hi,hc,a,b,l];exact rd 1 ⟨hi,by simpa using k2⟩
   ·simp[isLet,a,b,d]at k2;simp[hi,hc,a,b,d,l];exact rd 1 ⟨hi,by simpa using k2⟩
   all_goals
    simp[isLet, *]at k2;simp[hi,hc, *]
  ·rcases cls c with⟨a,b⟩|⟨a,b,d⟩|⟨a,b,d,e⟩|⟨a,b,d,e,f⟩|⟨a,b,d,e,f⟩|⟨a,b,d,e,f,g⟩|⟨a,b,d,e,f,g⟩|⟨a,b,d,e,f,g,h⟩
   ·simp[isLet,a,b]at k2;simp[hi,hc,a,b,k];exact rd (i+1) ⟨hi,k2⟩
   ·simp[isLet,a,b,d]at k2;simp[hi,hc,a,b,d,k];exact rd (i+1) ⟨hi,k2⟩
   ·simp[isLet,ji,a,b,d,e]at k2;simp[hi,hc,j,a,b,d,e,k2]
   ·simp[isLet,ji,a,b,d,e,j]at k2;simp[hi,hc,j,a,b,d,e,k];exact rd (i+1) ⟨hi,k2⟩
   ·simp[isLet,ji,a,b,d,e,f]at k2;simp[hi,hc,j,a,b,d,e,f,k2]
   ·subst g;simp[isLet,ji,j]at k2;simp[hi,hc,j,k];exact rd (i+1) ⟨hi,k2⟩
   ·simp[isLet,ji,a,b,d,e,f,g]at k2;simp[hi,hc,j,a,b,d,e,f,g,k2]
   ·simp[isLet,ji,a,b,d,e,f,g,h]at k2;simp[hi,hc,j,a,b,d,e,f,g,h,k2]
 ·have:i=s.length:=by omega
  subst this;simp[mw]at k2;simp[k2]
theorem F3(s:List Nat):(gw s).size=s.length:=by
 show(s.map UInt8.ofNat).toArray.size=_;simp
theorem Gm(s:List Nat)(b:∀c∈s,c<256)(i:Nat)(h:i<s.length)(a:i<(gw s).size):((gw s)[i]'a).toNat=s[i]:=by
 have e:(gw s)[i]'a=UInt8.ofNat s[i]:=by
  have:(gw s)[i]'a=(s.map UInt8.ofNat).toArray[i]'(by simpa using h):=rfl;rw[this];simp
 rw[e];have:=b s[i] (List.getElem_mem h);simp;omega
theorem aiN{s:List Nat}(d:∀c∈s,c<256){i:Nat}(h:i<s.length)(b:s[i]<128):aT (gw s) i=(s[i],1):=by
 have a:i<(gw s).size:=by rw[F3];exact h
 have e:=Gm s d i h a;rw[decode_ascii (gw s) i a (by rw[e];exact b),e]
theorem aiE{s:List Nat}(b:∀c∈s,c<256){i:Nat}(h:i<s.length)(d:¬s[i]<128):128<=(aT (gw s) i).1/\1<=(aT (gw s) i).2:=by
 have a:i<(gw s).size:=by rw[F3];exact h
 have e:=Gm s b i h a;exact decode_high (gw s) i a (by rw[e];omega)
theorem Br(s:List Nat)(h:s.length<=1048576):aC prog 109 [.str s] (.bool (isName s)):=by
 refine SY fun l=>?_;have l:∀c∈s,c<256:=by simpa[mg,eg]using l
 refine aM nf G8 mix (by simp[f109]) ?_;simp[f109];refine lp (α:=Nat) (fun i=>⟨[(6,.ptr 0 []),(0,.p (.str s))],[.dC s i]⟩) (fun i=>i<=s.length/\mw 0 s=mw i (s.drop i)) (fun i=>s.length-i) 0 (by simp) ?_;rintro i ⟨k1,k2⟩
 by_cases hi:i<s.length
 ·rw[F5 hi]at k2
  by_cases n:s[i]<128
  ·have m:=aiN l hi n;simp[hi,m];refine c1 (F9 _) ?_;generalize hc:(s[i]:Int)=c at*
   by_cases j:i=0
   ·rcases cls c with⟨a,b⟩|⟨a,b,d⟩|⟨a,b,d,e⟩|⟨a,b,d,e,f⟩|⟨a,b,d,e,f⟩|⟨a,b,d,e,f,g⟩|⟨a,b,d,e,f,g⟩|⟨a,b,d,e,f,g,h⟩
    ·simp[isLet,a,b]at k2;simp[isLet,a,b];exact rd (i+1) ⟨hi,k2⟩
    ·simp[isLet,a,b,d]at k2;simp[isLet,a,b,d];exact rd (i+1) ⟨hi,k2⟩
    all_goals
     simp[isLet,isName, *]at k2;simp[isLet,isName, *]
   ·rcases cls c with⟨a,b⟩|⟨a,b,d⟩|⟨a,b,d,e⟩|⟨a,b,d,e,f⟩|⟨a,b,d,e,f⟩|⟨a,b,d,e,f,g⟩|⟨a,b,d,e,f,g⟩|⟨a,b,d,e,f,g,h⟩
    ·simp[isLet,a,b]at k2;simp[isLet,a,b];exact rd (i+1) ⟨hi,k2⟩
    ·simp[isLet,a,b,d]at k2;simp[isLet,a,b,d];exact rd (i+1) ⟨hi,k2⟩
    ·simp[isLet,ji,a,b,d,e]at k2;have d2:c<48:=by omega
     simp[isLet,isName,a,b,e,j,d2,k2]
    ·simp[isLet,ji,a,b,d,e,f,j]at k2;have d2:¬c<48:=by omega
     have e2:¬57<c:=by omega
     simp[isLet,a,b,d2,e2,f,j];exact rd (i+1) ⟨hi,k2⟩
    ·simp[isLet,ji,a,b,d,e,f]at k2;have d2:¬c<48:=by omega
     have e2:57<c:=by omega
     simp[isLet,isName,a,b,d2,e2,f,j,k2]
    ·subst g;simp[isLet,ji,j]at k2;simp[isLet,j];exact rd (i+1) ⟨hi,k2⟩
    ·simp[isLet,ji,a,b,d,e,f,g]at k2;have d2:¬c<48:=by omega
     have e2:57<c:=by omega
     simp[isLet,isName,a,b,d,d2,e2,g,j,k2]
    ·simp[isLet,ji,a,b,d,e,f,g,h]at k2;have d2:¬c<48:=by omega
     have e2:57<c:=by omega
     simp[isLet,isName,a,b,d,e,d2,e2,h,j,k2]
  ·obtain⟨m,_⟩:=aiE l hi n;have y:isLet (s[i]:Int)=false:=by simp[isLet];omega
   have x:ji (s[i]:Int)=false:=by simp[ji];omega
   have w:¬(s[i]:Int)=95:=by omega
   simp[y,x,w]at k2;rcases o:aT (gw s) i with⟨c,d⟩
   rw[o]at m;have q:isLet (c:Int)=false:=by simp[isLet];omega
   have t:¬(c:Int)=95:=by omega
   have u:¬(c:Int)<48:=by omega
   have v:57<(c:Int):=by omega
   simp[hi,o];refine c1 (F9 _) ?_
   by_cases j:i=0
   ·simp[q,j,isName,k2]
   ·simp[q,j,t,u,v,isName,k2]
 ·have:i=s.length:=by omega
  subst this;simp[mw]at k2;cases hs:s with
  |nil=>simp[isName]
  |cons a r=>
   rw[hs]at k2;rcases Bn 24 s.length with⟨g,k⟩|⟨g,k⟩
   ·rw[hs]at g k;have:¬(r.length+1)<=24:=by simp at g;omega
    simp at k;simp[isName,k2,this];omega
   ·rw[hs]at g k;have:(r.length+1)<=24:=by simp at k;omega
    simp at k;simp[isName,k2,this];omega
theorem fJ{s:List Nat}(h:bX s=0):bK 2000 (bh s):=by
 obtain⟨b,c⟩:=GJ h;have a:(10:Nat)^mD<=2^2000:=by decide+kernel
 exact⟨dg b a,dg c a⟩
theorem aKf:bc 1=[49]:=aKg (n:=1) (by decide)
def fB(q:Rat):Int:=if de q<0\/0<fc q 1 then 3 else 0
def xU(s:List Nat):Int:=if bX s=0 then fB (bh s)else bX s
theorem Gc(s:List Nat)(hs:iI s):aC prog 179 [.str s] (.int .i64 (xU s)):=by
 have d:=qg s hs;refine aM nf GZ mix (by simp[f179]) ?_;rw[xU]
 by_cases c:bX s=0
 ·have o:=fJ c;have f:=ur (bh s) (o.mono (by decide));have g:=vi (bh s) 1 (o.mono (by decide)) (by exact⟨by decide+kernel,by decide+kernel⟩);rw[(jA c).1]at f g;rw[aKf]at g;rw[if_pos c,fB];rw[c]at d;generalize de (bh s)=x at*;generalize fc (bh s) 1=y at*
  by_cases a:x<0
  ·simp[f179,ad];refine c1 d ?_;simp[ad];refine c1 f ?_;simp[a,ad]
  ·by_cases b:0<y
   ·simp[f179,ad];refine c1 d ?_;simp[ad];refine c1 f ?_;simp[a,ad];refine c2 g ?_;simp[a,b,ad]
   ·simp[f179,ad];refine c1 d ?_;simp[ad];refine c1 f ?_;simp[a,ad];refine c2 g ?_;simp[a,b,ad]
 ·rw[if_neg c];generalize bX s=e at*;simp[f179,ad];refine c1 d ?_;simp[c,ad]
def gM(o p:dV):Bool:=decide (o.eZ=p.eZ)&&(decide (fc (bh o.a) (bh p.b)<=0)&&decide (fc (bh p.a) (bh o.b)<=0))
def iw(n:Nat)(c:List dV)(p:dV):Int:=
 if isName p.name=false then 8
 else if c.any (fun o=>decide (o.name=p.name))=true then 9
 else if p.eZ<0\/(n:Int)<=p.eZ then 10
 else if bX p.a≠0 then bX p.a
 else if bX p.b≠0 then bX p.b
 else if max (fB (bh p.a)) (fB (bh p.b))≠0 then max (fB (bh p.a)) (fB (bh p.b))
 else if 0<fc (bh p.a) (bh p.b)then 11
 else if c.any (fun o=>gM o p)=true then 17 else 0
def sJ(p:dV):Prop:=iI p.name/\iI p.a/\iI p.b
def aq.pk(t:aq)(i:Nat):dV:=t.bf.getD i ⟨[],0,[],[]⟩
@[simp] theorem aq.RD{t:aq}{i:Nat}(h:i<t.bf.length):t.bf[i]'h=t.pk i:=by
 rw[aq.pk,b0,bo h];rfl
theorem aq.lJ{t:aq}{i:Nat}(h:i<t.bf.length):t.bf[i]?=some (t.pk i):=by rw[bo h,aq.RD]
theorem vh{α:Type}{f:α->Bool}{l:List α}{i:Nat}{x:α}(h:l[i]?=some x):(l.take (i+1)).any f=((l.take i).any f||f x):=by
 rw[List.take_add_one,h];simp
theorem Sw(t:aq)(i:Nat)(hi:i<t.bf.length)(U:t.bf.length<=1000000)(hc:t.cs.length<=1000000)(P:∀p∈t.bf,sJ p)(Q:∀j,j<i->bX (t.pk j).a=0/\bX (t.pk j).b=0):
 aC prog 81 [cV t,.int .i64 i] (.int .i64 (iw t.cs.length (t.bf.take i) (t.pk i))):=by
 have v:=aq.lJ hi;obtain⟨R,E,F⟩:=P _ (bv v);have m:=Bm (t.pk i).name R.1;have N:=qg (t.pk i).a E;have O:=qg (t.pk i).b F;refine aM nf QZ mix (by simp[f81]) ?_;rw[iw];cases B:isName (t.pk i).name
 ·rw[B]at m;simp[f81,ad,v,hi];refine c1 m ?_;simp[ad]
 rw[B]at m;rw[if_neg (by decide)];simp[f81,ad,v,hi];refine c1 m ?_;simp[ad];refine lp (α:=Nat) (fun j=>⟨[(6,.p (.int .i64 j)),(5,.ptr 1 []),(2,.ptr 0 []),(1,.p (.int .i64 i))],[.box false (.p (cV t)),.box false (.p (fy (t.pk i)))]⟩) (fun j=>j<=i/\(t.bf.take j).any (fun o=>decide (o.name=(t.pk i).name))=false) (fun j=>i-j) 0 (by simp) ?_;rintro j ⟨V,D⟩
 by_cases q:j<i
 ·have z:j<t.bf.length:=by omega
  have g:=aq.lJ z;have f:=cr (i:=j) (by omega)
  by_cases n:(t.pk j).name=(t.pk i).name
  ·have:(t.bf.take i).any (fun o=>decide (o.name=(t.pk i).name))=true:=by
    rw[b1];exact⟨t.pk j,bv (i:=j) (by rw[cb,if_pos q];exact g),by simp[n]⟩
   rw[if_pos this];simp[q,z,g,n,ad]
  ·simp[q,z,g,n,f,ad];exact rd (j+1) ⟨q,by rw[vh g,D];simp[n]⟩
 have:j=i:=by omega
 subst this;rw[D,if_neg (by decide)];have u:((t.pk j).eZ<0\/(t.cs.length:Int)<=(t.pk j).eZ)\/(¬(t.pk j).eZ<0/\¬(t.cs.length:Int)<=(t.pk j).eZ):=by omega
 rcases u with u|⟨K,L⟩
 ·rw[if_pos u]
  by_cases e1:(t.pk j).eZ<0
  ·simp[e1,ad]
  ·have e2:(t.cs.length:Int)<=(t.pk j).eZ:=by omega
   simp[e1,e2,ad]
 rw[if_neg (by omega)];have d0:¬j<j:=by omega
 simp[K,L,d0,ad];refine c1 N ?_
 by_cases c:bX (t.pk j).a=0
 case neg=>
  rw[if_pos c];simp[c,ad]
 rw[if_neg (by simp[c])];simp[c,ad];refine c1 O ?_
 by_cases d:bX (t.pk j).b=0
 case neg=>
  rw[if_pos d];simp[d,ad]
 rw[if_neg (by simp[d])];simp[d,ad];have G:=fJ c;have H:=fJ d;have x:=Gc (t.pk j).a E;have y:=Gc (t.pk j).b F;rw[xU,if_pos c]at x;rw[xU,if_pos d]at y;have A:=vi (bh (t.pk j).a) (bh (t.pk j).b) (G.mono (by decide)) (H.mono (by decide));rw[(jA c).1,(jA d).1]at A;refine e1 x ?_;simp[ad];refine e1 y ?_;have em:max (fB (bh (t.pk j).a)) (fB (bh (t.pk j).b))=if fB (bh (t.pk j).a)<fB (bh (t.pk j).b)then fB (bh (t.pk j).b)else fB (bh (t.pk j).a):=by split<;>omega
 simp[ad,<-em];clear em x y;generalize max (fB (bh (t.pk j).a)) (fB (bh (t.pk j).b))=M at*
 by_cases hm:M=0
 case neg=>
  simp[hm,ad]
 subst hm;simp[ad];refine c2 A ?_
 by_cases s:0<fc (bh (t.pk j).a) (bh (t.pk j).b)
 ·rw[if_pos s];simp[s,ad]
 rw[if_neg s];simp[s,ad];refine lp (α:=Nat) (fun k=>⟨[(8,.p (.int .i64 k)),(5,.ptr 1 []),(2,.ptr 0 []),(1,.p (.int .i64 j))],[.box false (.p (cV t)),.box false (.p (fy (t.pk j)))]⟩) (fun k=>k<=j/\(t.bf.take k).any (fun o=>gM o (t.pk j))=false) (fun k=>j-k) 0 (by simp) ?_;rintro k ⟨k1,k2⟩
 by_cases hk:k<j
 ·have e:k<t.bf.length:=by omega
  have gk:=aq.lJ e;have f:=cr (i:=k) (by omega);obtain⟨I,J⟩:=Q k hk;have S:=fJ I;have T:=fJ J;have l:=vi (bh (t.pk k).a) (bh (t.pk j).b) (S.mono (by decide)) (H.mono (by decide));have w:=vi (bh (t.pk j).a) (bh (t.pk k).b) (G.mono (by decide)) (T.mono (by decide));rw[(jA I).1,(jA d).1]at l;rw[(jA c).1,(jA J).1]at w;have C:gM (t.pk k) (t.pk j)=true->(t.bf.take j).any (fun o=>gM o (t.pk j))=true:=fun h=>by
   rw[b1];exact⟨t.pk k,bv (i:=k) (by rw[cb,if_pos hk];exact gk),h⟩
  have r:gM (t.pk k) (t.pk j)=false->(t.bf.take (k+1)).any (fun o=>gM o (t.pk j))=false:=fun h=>by
   rw[vh gk,k2,h];rfl
  rw[gM]at C r
  by_cases e1:(t.pk k).eZ=(t.pk j).eZ
  ·by_cases e2:fc (bh (t.pk k).a) (bh (t.pk j).b)<=0
   ·by_cases e3:fc (bh (t.pk j).a) (bh (t.pk k).b)<=0
    ·rw[if_pos (C (by simp[e1,e2,e3]))];simp[hk,e,gk,e1,ad];refine c2 l ?_;simp[e1,e2,ad];refine c2 w ?_;simp[e1,e2,e3,ad]
    ·simp[hk,e,gk,e1,ad];refine c2 l ?_;simp[e1,e2,ad];refine c2 w ?_;simp[e1,e2,e3,f,ad];exact rd (k+1) ⟨hk,r (by simp[e3])⟩
   ·simp[hk,e,gk,e1,ad];refine c2 l ?_;simp[e1,e2,f,ad];exact rd (k+1) ⟨hk,r (by simp[e2])⟩
  ·simp[hk,e,gk,e1,f,ad];exact rd (k+1) ⟨hk,r (by simp[e1])⟩
 ·have:k=j:=by omega
  subst this;rw[k2,if_neg (by decide)];simp[ad]
structure NV where
 x:NF
 y:NF
def NV.q(v:NV):V2:=⟨v.x.q,v.y.q⟩
def NV.add(v w:NV):NV:=⟨v.x.add w.x,v.y.add w.y⟩
def NV.sub(v w:NV):NV:=⟨v.x.sub w.x,v.y.sub w.y⟩
def NV.times(v:NV)(k:NF):NV:=⟨v.x.mul k,v.y.mul k⟩
def NV.dot(v w:NV):NF:=(v.x.mul w.x).add (v.y.mul w.y)
def NV.bE(v w:NV):NF:=(v.x.mul w.y).sub (v.y.mul w.x)
theorem NV.om(v w:NV):(v.sub w).q=v.q.sub w.q:=by simp only[NV.sub,NV.q,V2.sub,NF.om]
theorem NV.IM(v w:NV):(v.add w).q=v.q.add w.q:=rfl
theorem NV.Qa(v w:NV):(v.dot w).q=v.q.dot w.q:=rfl
theorem NV.Bp(v w:NV):(v.bE w).q=v.q.bE w.q:=NF.om _ _
def NV.from(p:ez):NV:=⟨⟨bh p.x,false⟩,⟨bh p.y,false⟩⟩
structure NS where
 a:NF
 b:NF
 d:NF
def NS.q(s:NS):S3:=⟨s.a.q,s.b.q,s.d.q⟩
def Fq(k:Nat)(s:NS):Prop:=bK k s.a.q/\bK k s.b.q/\bK k s.d.q
theorem Fj{q:Rat}(h:bK 1800 q):xE q=false:=by
 have a:(aZ q.num.natAbs).length<=600:=se (K:=1800) (k:=600) h.1 (by decide) (by decide);have b:(aZ q.den).length<=600:=se (K:=1800) (k:=600) h.2 (by decide) (by decide);rw[xE,kJ,kJ,decide_eq_false (by omega),decide_eq_false (by omega)];rfl
def NF.width(r:Int):NF:=.int (4*r*r)
structure NM where
 w:NV
 d:NV
 root:NF
def NM.of(width:NF)(p d b:NV):NM:=⟨b.sub p,d,(((b.sub p).dot d).mul ((b.sub p).dot d)).sub ((d.dot d).mul (((b.sub p).dot (b.sub p)).sub width))⟩
theorem mb:∀l:List Int,bJ l=0↔∀e∈l,e=0
 |[]=>by simp[bJ]
 |e::r=>by
  rw[bJ]
  by_cases h:e=0
  ·rw[if_pos h,mb r];simp[h]
  ·rw[if_neg h];simp[h]
theorem gV{p:ez}(h:cq p=0):bX p.x=0/\bX p.y=0:=by
 have:=(mb _).1 h;exact⟨this _ (by simp),this _ (by simp)⟩
def vP(p:ez):V2:=⟨bh p.x,bh p.y⟩
theorem oF(p:ez):(NV.from p).q=vP p:=rfl
theorem sq_nonneg(a:Rat):0<=a*a:=by
 rcases Rat.le_total (a:=0) (b:=a)with h|h
 ·exact ej h h
 ·have c:0<=-a:=by
   have:=Rat.neg_le_neg h
   rwa [Rat.neg_zero]at this
  have:=ej c c
  rwa [Rat.neg_mul,Rat.mul_neg,Rat.neg_neg]at this
theorem aJR{a b:Rat}(h:a*a+b*b=0):a=0/\b=0:=by
 have key:∀x y:Rat,x*x+y*y=0->x=0:=fun x y h=>by
  have c:=sq_nonneg x;have d:=sq_nonneg y;have e:x*x<=0:=by
   have f:x*x+0<=x*x+y*y:=(Rat.add_le_add_left).2 d
   rwa [Rat.add_zero,h]at f
  have g:x*x=0:=Rat.le_antisymm e c;rcases Rat.mul_eq_zero.1 g with h|h<;>exact h
 exact⟨key a b h,key b a (by rw[Rat.add_comm];exact h)⟩
theorem vF{k:Nat}{p:ez}(h:b9 k (vP p)):b9 k (NV.from p).q:=h
theorem ui(n d:Int):fj n d=(n:Rat)*((d:Int):Rat)⁻¹:=by
 rw[fj,ee,dz]
theorem Zp(x y:List Nat):aC prog 28 [.str x,.str y] (.st 46 [.str x,.str y]):=by
 refine aM nf QA mix (by simp[f28]) ?_;simp[f28,ad]
theorem aHq{a b:Nat}{x y:NF}(h:bK a x.q)(c:bK b y.q):bK (a+b) (x.div y).q:=Of h c
structure NB where
 a:NV
 b:NV
 d:NF
def NB.q(n:NB):P4:=⟨⟨n.a.x.q,n.b.x.q,n.d.q⟩,⟨n.a.y.q,n.b.y.q,n.d.q⟩⟩
def okB(k:Nat)(n:NB):Prop:=b9 k n.a.q/\b9 k n.b.q/\bK k n.d.q
theorem okB.mono{k l:Nat}{n:NB}(h:okB k n)(a:k<=l):okB l n:=⟨h.1.mono a,h.2.1.mono a,h.2.2.mono a⟩
def NB.sx(n:NB):NS:=⟨n.a.x,n.b.x,n.d⟩
def NB.sy(n:NB):NS:=⟨n.a.y,n.b.y,n.d⟩
theorem PL(e:Int):∀l:List Int,bJ (l++[e])=if bJ l=0 then e else bJ l
 |[]=>by by_cases h:e=0<;>simp[bJ,h]
 |x::l=>by
  simp only[List.cons_append,bJ,PL e l]
  by_cases hx:x=0
  ·simp[hx]
  ·simp[hx]
theorem PH{q:Rat}{k:Nat}(h:bK k q)(hk:k<=1800):iI (bc q)/\bX (bc q)=0:=by
 have a:(aZ q.num.natAbs).length<=600:=se (K:=1800) (k:=600) (h.mono hk).1 (by decide) (by decide);have b:(aZ q.den).length<=600:=se (K:=1800) (k:=600) (h.mono hk).2 (by decide) (by decide);have d:=FZ q;exact⟨⟨by omega,fun c hc=>Nat.lt_trans (Sp q c hc) (by decide)⟩,ZY a b⟩
def gf(v:V2):ez:=⟨bc v.x,bc v.y⟩
theorem Ez(v:V2):eV v=dB (gf v):=rfl
theorem ql(v:V2):vP (gf v)=v:=by
 obtain⟨x,y⟩:=v;simp only[vP,gf,DC]
theorem xQ{v:V2}{k:Nat}(h:b9 k v)(hk:k<=1800):jF (gf v)/\cq (gf v)=0:=by
 obtain⟨a,a2⟩:=PH h.1 hk;obtain⟨b,c⟩:=PH h.2 hk;refine⟨⟨a,b⟩,?_⟩;rw[cq];simp only[gf,bJ,a2,c,if_true]
theorem F2{b t:V2}(h:b≠t):iE (bc b.x) (bc b.y) (bc t.x) (bc t.y)=false:=by
 rw[iE,decide_eq_false_iff_not];rintro⟨a,c⟩;obtain⟨bx,d⟩:=b;obtain⟨e,ty⟩:=t;dsimp only at a c;exact h (by rw[Bk a,Bk c])
def fS{α:Type}(a:List α->α->Int)(l:List α)(i:Nat):Int:=match l[i]? with
 |some x=>a (l.take i) x
 |none=>0
def jJ{α:Type}(a:List α->α->Int)(l:List α):Int:=bJ ((cy l.length).map (fS a l))
theorem F6{f:Nat->Int}:∀(n i:Nat),(∀j,j<i->f j=0)->i<n->f i≠0->bJ ((cy n).map f)=f i
 |0,i,_,h,_=>by omega
 |n+1,i,a,g,b=>by
  rw[cA,List.map_append,b2,b5,PL]
  by_cases hi:i<n
  ·rw[F6 n i a hi b,if_neg b]
  ·have:i=n:=by omega
   subst this;rw[(mb _).2 (by intro e c;obtain⟨j,d,rfl⟩:=ce.1 c;exact a j (ck.1 d)),if_pos rfl]
theorem sU{α:Type}{a:List α->α->Int}{l:List α}{i:Nat}{x:α}(h:∀j,j<i->fS a l j=0)(hx:l[i]?=some x)(b:a (l.take i) x≠0):jJ a l=a (l.take i) x:=by
 have hi:=(List.getElem?_eq_some_iff.1 hx).1;have e:fS a l i=a (l.take i) x:=by rw[fS,hx]
 rw[jJ,F6 _ i h hi (by rw[e];exact b),e]
theorem lR{α:Type}{b:List α->α->Int}{l:List α}:jJ b l=0↔∀j,j<l.length->fS b l j=0:=by
 rw[jJ,mb];constructor
 ·intro h j a;exact h _ (ce.2 ⟨j,ck.2 a,rfl⟩)
 ·intro h e c;obtain⟨j,a,rfl⟩:=ce.1 c;exact h j (ck.1 a)
theorem sT{α:Type}{a:List α->α->Int}{l:List α}{i:Nat}{x:α}(h:∀j,j<i->fS a l j=0)(hx:l[i]?=some x)(c:a (l.take i) x=0):∀j,j<i+1->fS a l j=0:=by
 intro j d
 by_cases b:j=i
 ·subst b;rw[fS,hx];exact c
 ·exact h j (by omega)
def iK(t:aq)(bef:List cQ)(s:cQ):Int:=
 if isName s.name=false then 8
 else if bef.any (fun o=>decide (o.name=s.name))=true then 9
 else if cq s.pt≠0 then cq s.pt
 else if t.on (vP s.pt)<0 then 16 else 0
def dH(t:aq):Int:=
 if t.cs.length<3 then 2
 else if 12<t.cs.length then 5
 else if t.cs.any fk=true then 3
 else if t.dv=false then 15
 else if t.bm<1\/1000<t.bm then 3
 else if 12<t.bf.length then 5
 else if jJ (iw t.cs.length) t.bf≠0 then jJ (iw t.cs.length) t.bf
 else if 256<t.aj.length then 5
 else jJ (iK t) t.aj
def jU(p:cQ):Prop:=iI p.name/\jF p.pt
def aq.sp(t:aq)(i:Nat):cQ:=t.aj.getD i ⟨[],⟨[],[]⟩⟩
@[simp] theorem aq.nD{t:aq}{i:Nat}(h:i<t.aj.length):t.aj[i]'h=t.sp i:=by
 rw[aq.sp,b0,bo h];rfl
theorem aq.dZ{t:aq}{i:Nat}(h:i<t.aj.length):t.aj[i]?=some (t.sp i):=by rw[bo h,aq.nD]
structure iM(t:aq):Prop where
 cl:t.cs.length<=1000000
 pl:t.bf.length<=1000000
 sl:t.aj.length<=1000000
 pk:∀p∈t.bf,sJ p
 sp:∀s∈t.aj,jU s
def kY(t:aq)(name:List Nat):Int:=match t.aj.findIdx? (fun s=>decide (s.name=name))with
 |some i=>i
 |none=>-1
theorem Gf{n:Nat}{c:List dV}{p:dV}(h:iw n c p=0):bX p.a=0/\bX p.b=0:=by
 rw[iw]at h
 split at h
 ·omega
 split at h
 ·omega
 split at h
 ·omega
 split at h
 ·contradiction
 split at h
 ·contradiction
 rename_i d e;exact⟨Decidable.not_not.1 d,Decidable.not_not.1 e⟩
theorem HG(t:aq)(name:List Nat)(h:t.aj.length<=1000000):aC prog 15 [cV t,.str name] (.int .i64 (kY t name)):=by
 refine aM nf Qt mix (by simp[f15]) ?_;simp[f15,ad];refine lp (α:=Nat) (fun i=>⟨[(5,.p (.int .i64 i)),(2,.ptr 0 []),(1,.p (.str name))],[.box false (.p (cV t))]⟩) (fun i=>i<=t.aj.length/\∀j,j<i->¬(t.sp j).name=name) (fun i=>t.aj.length-i) 0 (by simp) ?_;rintro i ⟨g,c⟩
 by_cases hi:i<t.aj.length
 ·have d:=aq.dZ hi;have f:=cr (i:=i) (by omega)
  by_cases a:(t.sp i).name=name
  ·have:kY t name=i:=by
    have:t.aj.findIdx? (fun s=>decide (s.name=name))=some i:=by
     rw[cc];refine⟨hi,by rw[aq.nD];simp[a],fun j b=>?_⟩;rw[aq.nD];simp[c j b]
    rw[kY,this]
   simp[hi,d,a,this,ad]
  ·simp[hi,d,a,f,ad];exact rd (i+1) ⟨hi,fun j b=>by
    by_cases e:j=i
    ·subst e;exact a
    ·exact c j (by omega)⟩
 ·have:i=t.aj.length:=by omega
  subst this;have:kY t name= -1:=by
   have:t.aj.findIdx? (fun s=>decide (s.name=name))=none:=by
    rw[cv];intro s hs;obtain⟨j,b,rfl⟩:=cx.1 hs;rw[aq.nD];simp[c j b]
   rw[kY,this]
  simp[this,ad]
theorem aJQ{t:aq}{i:Nat}(hi:i<t.aj.length):kY t (t.sp i).name<i↔(t.aj.take i).any (fun o=>decide (o.name=(t.sp i).name))=true:=by
 obtain⟨k,hk⟩:∃k,t.aj.findIdx? (fun s=>decide (s.name=(t.sp i).name))=some k:=by
  cases h:t.aj.findIdx? (fun s=>decide (s.name=(t.sp i).name))with
  |some k=>exact⟨k,rfl⟩
  |none=>
   rw[cv]at h;have:=h _ (bv (aq.dZ hi));simp at this
 rw[kY,hk];rw[cc]at hk;obtain⟨k1,k2,k3⟩:=hk;rw[b1];constructor
 ·intro h;have h:k<i:=by simp only at h;omega
  exact⟨t.aj[k],bv (i:=k) (by rw[cb,if_pos h,bo k1]),k2⟩
 ·rintro⟨o,b,a⟩;obtain⟨j,c,rfl⟩:=cx.1 b;simp only[List.length_take]at c;simp only;rw[List.getElem_take]at a;have:¬j<k:=fun d=>by
   have:=k3 j d;rw[a]at this;simp at this
  omega
theorem Ss(t:aq)(L:iM t):aC prog 14 [cV t] (.int .i64 (dH t)):=by
 obtain⟨s,M,N,J,K⟩:=L;refine aM nf Qs mix (by simp[f14]) ?_;rw[dH]
 by_cases c1:t.cs.length<3
 ·have cI:(t.cs.length:Int)<3:=by omega
  rw[if_pos c1];simp[f14,ad,cI]
 have v:¬(t.cs.length:Int)<3:=by omega
 rw[if_neg c1]
 by_cases c2:12<t.cs.length
 ·have cI:(12:Int)<t.cs.length:=by omega
  rw[if_pos c2];simp[f14,ad,v,cI]
 have A:¬(12:Int)<t.cs.length:=by omega
 rw[if_neg c2];simp[f14,ad,v,A];refine lp (α:=Nat) (fun i=>⟨[(3,.p (.int .i64 i)),(1,.ptr 0 [])],[.box false (.p (cV t))]⟩) (fun i=>i<=t.cs.length/\(t.cs.take i).any fk=false) (fun i=>t.cs.length-i) 0 (by simp) ?_;rintro i ⟨i1,i2⟩
 by_cases hi:i<t.cs.length
 ·have k:=aq.get hi;have f:=cr (i:=i) (by omega);have l:=Zt (t.at i);cases hf:fk (t.at i)
  ·rw[hf]at l;simp[hi,k,ad];refine Go.au.c1 l ?_;simp[f,ad];exact rd (i+1) ⟨hi,by rw[vh k,i2,hf];rfl⟩
  ·rw[hf]at l;have:t.cs.any fk=true:=b1.2 ⟨t.at i,bv k,hf⟩;rw[if_pos this];simp[hi,k,ad];refine Go.au.c1 l ?_;simp[ad]
 have:i=t.cs.length:=by omega
 subst this;rw[List.take_length]at i2;have x:∀p∈t.cs,eU p:=fun p I=>Gd (by
  cases h:fk p
  ·rfl
  ·rw[b1.2 ⟨p,I,h⟩]at i2;cases i2)
 have E:=SV t s x;rw[i2,if_neg (by decide)];simp[ad];refine Go.au.c1 E ?_;cases R:t.dv
 ·simp[ad]
 rw[if_neg (by decide)];have u:(t.bm<1\/1000<t.bm)\/(¬t.bm<1/\¬1000<t.bm):=by omega
 rcases u with u|⟨y,z⟩
 ·rw[if_pos u]
  by_cases e1:t.bm<1
  ·simp[e1,ad]
  ·have e2:1000<t.bm:=by omega
   simp[e1,e2,ad]
 rw[if_neg (by omega)]
 by_cases c3:12<t.bf.length
 ·have cI:(12:Int)<t.bf.length:=by omega
  rw[if_pos c3];simp[y,z,cI,ad]
 have B:¬(12:Int)<t.bf.length:=by omega
 rw[if_neg c3];simp[y,z,B,ad];refine lp (α:=Nat) (fun i=>⟨[(4,.p (.int .i64 i)),(1,.ptr 0 [])],[.box false (.p (cV t))]⟩) (fun i=>i<=t.bf.length/\∀j,j<i->fS (iw t.cs.length) t.bf j=0) (fun i=>t.bf.length-i) 0 (by simp) ?_;rintro i ⟨k1,k2⟩
 by_cases hk:i<t.bf.length
 ·have gk:=aq.lJ hk;have f:=cr (i:=i) (by omega);have b:=Sw t i hk M s J (fun j H=>by
   have:=k2 j H;rw[fS,aq.lJ (by omega)]at this;exact Gf this)
  by_cases he:iw t.cs.length (t.bf.take i) (t.pk i)=0
  ·rw[he]at b;simp[hk,ad];refine Go.au.c2 b ?_;simp[f,ad];exact rd (i+1) ⟨hk,sT k2 gk he⟩
  ·have G:=sU k2 gk he;rw[G,if_pos he];simp[hk,ad];refine Go.au.c2 b ?_;simp[he,ad]
 have:i=t.bf.length:=by omega
 subst this;have F:=lR.2 k2;rw[F,if_neg (by decide)]
 by_cases c4:256<t.aj.length
 ·have cI:(256:Int)<t.aj.length:=by omega
  rw[if_pos c4];simp[cI,ad]
 have C:¬(256:Int)<t.aj.length:=by omega
 rw[if_neg c4];simp[C,ad];refine lp (α:=Nat) (fun i=>⟨[(6,.p (.int .i64 i)),(1,.ptr 0 [])],[.box false (.p (cV t))]⟩) (fun i=>i<=t.aj.length/\∀j,j<i->fS (iK t) t.aj j=0) (fun i=>t.aj.length-i) 0 (by simp) ?_;rintro i ⟨s1,s2⟩
 by_cases hs:i<t.aj.length
 ·have a:=aq.dZ hs;have f:=cr (i:=i) (by omega);obtain⟨P,Q⟩:=K _ (bv a);have c:=Bm (t.sp i).name P.1;have m:=HG t (t.sp i).name N;have b:=yt (t.sp i).pt Q;have w:=aJQ hs;have g:iK t (t.aj.take i) (t.sp i)≠0->jJ (iK t) t.aj=iK t (t.aj.take i) (t.sp i):=sU s2 a;have O:iK t (t.aj.take i) (t.sp i)=0->∀j,j<i+1->fS (iK t) t.aj j=0:=sT s2 a;have ev:iK t (t.aj.take i) (t.sp i)=if isName (t.sp i).name=false then 8 else if(t.aj.take i).any (fun o=>decide (o.name=(t.sp i).name))=true then 9 else if cq (t.sp i).pt≠0 then cq (t.sp i).pt else if t.on (vP (t.sp i).pt)<0 then 16 else 0:=rfl
  cases n:isName (t.sp i).name
  ·rw[n]at c;rw[n,if_pos rfl]at ev;rw[g (by rw[ev];decide),ev];simp[hs,a,ad];refine Go.au.c1 c ?_;simp[ad]
  rw[n]at c;rw[n,if_neg (by decide)]at ev
  by_cases e:kY t (t.sp i).name<i
  ·rw[if_pos (w.1 e)]at ev;rw[g (by rw[ev];decide),ev];simp[hs,a,ad];refine Go.au.c1 c ?_;simp[ad];refine Go.au.c2 m ?_;simp[e,ad]
  rw[if_neg (fun h=>e (w.2 h))]at ev
  by_cases d:cq (t.sp i).pt=0
  case neg=>
   rw[if_pos d]at ev;rw[g (by rw[ev];exact d),ev];simp[hs,a,ad];refine Go.au.c1 c ?_;simp[ad];refine Go.au.c2 m ?_;simp[e,ad];refine Go.au.c1 b ?_;simp[d,ad]
  rw[if_neg (by simp[d])]at ev;obtain⟨g1,g2⟩:=gV d;have r:=PS t (vP (t.sp i).pt) s x ⟨(fJ g1).mono (by decide),(fJ g2).mono (by decide)⟩;have D:eV (vP (t.sp i).pt)=dB (t.sp i).pt:=by
   rw[eV,vP];dsimp only;rw[(jA g1).1,(jA g2).1]
  rw[D]at r;rw[d]at b
  by_cases q:t.on (vP (t.sp i).pt)<0
  ·rw[if_pos q]at ev;rw[g (by rw[ev];decide),ev];simp[hs,a,ad];refine Go.au.c1 c ?_;simp[ad];refine Go.au.c2 m ?_;simp[e,ad];refine Go.au.c1 b ?_;simp[ad];refine Go.au.c2 r ?_;simp[q,ad]
  ·rw[if_neg q]at ev;simp[hs,a,ad];refine Go.au.c1 c ?_;simp[ad];refine Go.au.c2 m ?_;simp[e,ad];refine Go.au.c1 b ?_;simp[ad];refine Go.au.c2 r ?_;simp[q,f,ad];exact rd (i+1) ⟨hs,O ev⟩
 ·have:i=t.aj.length:=by omega
  subst this;rw[lR.2 s2];simp[ad]
open Go.Proofs Go.Proofs.YtenbmieafgdjaaaGreatDoor
section
variable{H:Type}{W:ap}{aa:Nat->Prop}
theorem vg:∀d:an H,1<=Rows.uptoBulk d:=by
 intro d;cases d with
 |lit l=>cases l<;>simp[Rows.uptoBulk]
 |_=>simp[Rows.uptoBulk]
theorem xX{α:Type}{n:Nat}{t e:TypeId}{F:α->PV}{ok:α->Prop}(g:prog.underlying t=some (.slice e))
 (p:∀(d:an H),(∃c,aR prog W aa (bF prog n e d) c)->Rows.uptoBulk d<=1048576->∃a,bF prog n e d=F a/\ok a/\2<=Rows.uptoBulk d)
 {d:an H}(h:∃cs,aR prog W aa (bF prog (n+1) t d) cs)(k:Rows.uptoBulk d<=1048576):∃l:List α,bF prog (n+1) t d=.seq (l.map F)/\(∀a∈l,ok a)/\l.length<=1000000:=by
 obtain⟨cs,h⟩:=h;cases d with
 |nil=>exact⟨[],by simp[bF,g],(fun _ h=>nomatch h),by simp⟩
 |slice f sp=>
  simp only[bF,g,aR]at h⊢;have i:∀e'∈f.map (bF prog n e),∃c,aR prog W aa e' c:=by
   rcases h with⟨h,_⟩|⟨_,_,_,_,w,h,_⟩
   ·rw[h];intro _ h;cases h
   ·exact Gn h
  have key:∀f:List (an H),(∀e'∈f.map (bF prog n e),∃c,aR prog W aa e' c)->Rows.uptoBulkAll f<=1048576->∃l:List α,f.map (bF prog n e)=l.map F/\(∀a∈l,ok a)/\2*l.length<=Rows.uptoBulkAll f:=by
   intro f
   induction f with
   |nil=>intro _ _;exact⟨[],rfl,(fun _ h=>nomatch h),by simp⟩
   |cons d r v=>
    intro i k;rw[Rows.uptoBulkAll]at k⊢;obtain⟨a,q,u,m⟩:=p d (i _ List.mem_cons_self) (by omega);obtain⟨l,j,o,y⟩:=v (fun e' s=>i e' (List.mem_cons_of_mem _ s)) (by omega);refine⟨a::l,by simp only[b2];rw[q,j],fun x hx=>?_,by rw[List.length_cons];omega⟩;rcases cB.1 hx with rfl|hx
    ·exact u
    ·exact o x hx
  rw[Rows.uptoBulk]at k;obtain⟨l,j,m,o⟩:=key f i (by omega);exact⟨l,by rw[j],m,by omega⟩
 |lit l=>simp only[bF,g,aR]at h
 |ptr d=>simp only[bF,g,aR]at h
 |agg l=>simp only[bF,g,aR]at h
 |iface a b=>simp only[bF,g,aR]at h
 |map l=>simp only[bF,g,aR]at h
 |held a=>simp only[bF,g,aR]at h
theorem xW{n:Nat}{d:an H}(h:∃cs,aR prog W aa (bF prog (n+1) 9 d) cs)(a:Rows.uptoBulk d<=1048576):∃s:List Nat,bF prog (n+1) 9 d=.str s/\iI s:=by
 obtain⟨cs,h⟩:=h;cases d with
 |lit l=>
  cases l with
  |string bytes=>
   refine⟨bytes.map (·.toNat),by simp only[bF,FL],?_,?_⟩
   ·rw[Rows.uptoBulk]at a;rw[List.length_map];omega
   ·intro c hc;obtain⟨u,_,rfl⟩:=ce.1 hc;exact u.toNat_lt
  |_=>simp only[bF,FL,aR]at h
 |_=>simp only[bF,FL,aR]at h
theorem aKt:∃a b:ar,prog.underlying 61=some (.struct #[a,b])/\a.type=3/\b.type=3:=⟨_,_,underlying61,rfl,rfl⟩
theorem R4:prog.underlyingId 61=60:=by kernel_rfl
theorem SX{m n:Nat}(j:m=n+1){d:an H}(h:∃cs,aR prog W aa (bF prog (m+1) 61 d) cs)(o:Rows.uptoBulk d<=1048576):∃p:dG,bF prog (m+1) 61 d=bV p/\True/\2<=Rows.uptoBulk d:=by
 obtain⟨cs,h⟩:=h;obtain⟨f0,f1,f,t0,t1⟩:=aKt;cases d with
 |agg l=>
  simp only[bF,f,aR]at h⊢;obtain⟨q,k,e,c,_⟩:=h;rw[R4,aJ5]at e;cases e
  match l,c with
  |[],c=>simp[bg]at c
  |[x],c=>simp[bg]at c
  |x::y::r,c=>
   have:=vg x;simp only[b3,b2,bg,b4,b5,t0,t1]at c⊢;obtain⟨c0,_,_,g1,_,c1,_,_,g2,_⟩:=c;subst j;obtain⟨a,g⟩:=xV (n:=n) x c0 g1;obtain⟨b,i⟩:=xV (n:=n) y c1 g2;refine⟨⟨a,b⟩,by rw[g,i,R4];rfl,trivial,?_⟩;rw[Rows.uptoBulk,Rows.uptoBulkAll];omega
 |_=>simp only[bF,f,aR]at h
theorem aKr:∃a b f2 f3:ar,prog.underlying 110=some (.struct #[a,b,f2,f3])/\a.type=9/\b.type=3/\f2.type=45/\f3.type=45:=⟨_,_,_,_,underlying110,rfl,rfl,rfl,rfl⟩
theorem R0:prog.underlyingId 110=109:=by kernel_rfl
theorem SD{m n:Nat}(q:m=n+1){d:an H}(h:∃cs,aR prog W aa (bF prog (m+1) 110 d) cs)(o:Rows.uptoBulk d<=1048576):∃p:dV,bF prog (m+1) 110 d=fy p/\sJ p/\2<=Rows.uptoBulk d:=by
 obtain⟨cs,h⟩:=h;obtain⟨f0,f1,f2,f3,g,t0,t1,t2,t3⟩:=aKr;cases d with
 |agg l=>
  have e:∀x∈l,Rows.uptoBulk x<=1048576:=fun x hx=>by
   have:=oG.uF hx;rw[Rows.uptoBulk]at o;omega
  simp only[bF,g,aR]at h⊢;obtain⟨B,A,f,c,_⟩:=h;rw[R0,aJ2]at f;cases f
  match l,c with
  |[],c=>simp[bg]at c
  |[x],c=>simp[bg]at c
  |[x,y],c=>simp[bg]at c
  |[x,y,z],c=>simp[bg]at c
  |x::y::z::w::r,c=>
   have:=vg x;simp only[b3,b2,bg,b4,b5,t0,t1,t2,t3]at c⊢;obtain⟨c0,_,_,g0,_,c1,_,_,g1,_,c2,_,_,g2,_,c3,_,_,g3,_⟩:=c;subst q;obtain⟨a,i,k⟩:=xW (n:=n) ⟨c0,g0⟩ (e x (by simp));obtain⟨b,j⟩:=xV (n:=n) y c1 g1;obtain⟨u,eu,s⟩:=Ap (n:=n) ⟨c2,g2⟩ (e z (by simp));obtain⟨v,ev,t⟩:=Ap (n:=n) ⟨c3,g3⟩ (e w (by simp));refine⟨⟨a,b,u,v⟩,by rw[i,j,eu,ev,R0];rfl,⟨k,s,t⟩,?_⟩;rw[Rows.uptoBulk,Rows.uptoBulkAll];omega
 |_=>simp only[bF,g,aR]at h
theorem aKu:∃a b:ar,prog.underlying 49=some (.struct #[a,b])/\a.type=9/\b.type=47:=⟨_,_,underlying49,rfl,rfl⟩
theorem R5:prog.underlyingId 49=48:=by kernel_rfl
theorem SW{m n:Nat}(s:m=n+2){d:an H}(h:∃cs,aR prog W aa (bF prog (m+1) 49 d) cs)(o:Rows.uptoBulk d<=1048576):∃p:cQ,bF prog (m+1) 49 d=bu p/\jU p/\2<=Rows.uptoBulk d:=by
 obtain⟨cs,h⟩:=h;obtain⟨f0,f1,g,t0,t1⟩:=aKu;cases d with
 |agg l=>
  have f:∀x∈l,Rows.uptoBulk x<=1048576:=fun x hx=>by
   have:=oG.uF hx;rw[Rows.uptoBulk]at o;omega
  simp only[bF,g,aR]at h⊢;obtain⟨u,t,e,c,_⟩:=h;rw[R5,RW]at e;cases e
  match l,c with
  |[],c=>simp[bg]at c
  |[x],c=>simp[bg]at c
  |x::y::r,c=>
   have:=vg x;simp only[b3,b2,bg,b4,b5,t0,t1]at c⊢;obtain⟨c0,_,_,g1,_,c1,_,_,g2,_⟩:=c;subst s;obtain⟨a,i,k⟩:=xW (n:=n+1) ⟨c0,g1⟩ (f x (by simp));obtain⟨b,j,q⟩:=zC (n:=n) ⟨c1,g2⟩ (f y (by simp));refine⟨⟨a,b⟩,by rw[i,j,R5];rfl,⟨k,q⟩,?_⟩;rw[Rows.uptoBulk,Rows.uptoBulkAll];omega
 |_=>simp only[bF,g,aR]at h
theorem aKw:∃a b f2 f3:ar,prog.underlying 26=some (.struct #[a,b,f2,f3])/\a.type=22/\b.type=3/\f2.type=23/\f3.type=24:=⟨_,_,_,_,underlying26,rfl,rfl,rfl,rfl⟩
theorem R6:prog.underlyingId 26=25:=by kernel_rfl
theorem aJ7{m n:Nat}(p:m=n+4){d:an H}(h:∃cs,aR prog W aa (bF prog (m+1) 26 d) cs)(e:Rows.uptoBulk d<=1048576):∃t:aq,bF prog (m+1) 26 d=cV t/\True/\iM t:=by
 obtain⟨cs,h⟩:=h;obtain⟨f0,f1,f2,f3,j,t0,t1,t2,t3⟩:=aKw;cases d with
 |agg l=>
  have g:∀x∈l,Rows.uptoBulk x<=1048576:=fun x hx=>by
   have:=oG.uF hx;rw[Rows.uptoBulk]at e;omega
  simp only[bF,j,aR]at h⊢;obtain⟨E,D,i,c,_⟩:=h;rw[R6,aJ3]at i;cases i
  match l,c with
  |[],c=>simp[bg]at c
  |[x],c=>simp[bg]at c
  |[x,y],c=>simp[bg]at c
  |[x,y,z],c=>simp[bg]at c
  |x::y::z::w::r,c=>
   simp only[b3,b2,bg,b4,b5,t0,t1,t2,t3]at c⊢;obtain⟨c0,_,_,g0,_,c1,_,_,g1,_,c2,_,_,g2,_,c3,_,_,g3,_⟩:=c;subst p;obtain⟨a,k,_,A⟩:=xX (n:=n+3) aKm (F:=bV) (ok:=fun _=>True) (fun d f e=>SX (n:=n+1) rfl f e) ⟨c0,g0⟩ (g x (by simp));obtain⟨b,o⟩:=xV (n:=n+3) y c1 g1;obtain⟨u,eu,q,B⟩:=xX (n:=n+3) aKn (F:=fy) (ok:=sJ) (fun d f e=>SD (n:=n+1) rfl f e) ⟨c2,g2⟩ (g z (by simp));obtain⟨v,ev,s,C⟩:=xX (n:=n+3) aKo (F:=bu) (ok:=jU) (fun d f e=>SW (n:=n) rfl f e) ⟨c3,g3⟩ (g w (by simp));exact⟨⟨a,b,u,v⟩,by rw[k,o,eu,ev,R6];rfl,trivial,A,B,C,q,s⟩
 |_=>simp only[bF,j,aR]at h
theorem HF{d:an H}(h:∃cs,aR prog W aa (bF prog 8 26 d) cs)(a:Rows.uptoBulk d<=1048576):∃t:aq,bF prog 8 26 d=cV t/\True/\iM t:=aJ7 (n:=3) rfl h a
end
section
variable{H:Type}{W:ap}{aa:Nat->Prop}
theorem aKk{n:Nat}(d:an H)(c)(h:aR prog W aa (bF prog (n+1) 5 d) c):∃a:Nat,bF prog (n+1) 5 d=.int .u8 a/\a<256:=by
 cases d with
 |lit l=>
  cases l with
  |int k z=>
   simp only[bF,FK]at h⊢
   split at h
   ·rename_i b;rw[if_pos b];simp only[Lit.wf,ac,decide_eq_true_eq]at b;have e:(0:Int)<=z:=b.1;have f:z<=255:=b.2;exact⟨z.toNat,by rw[Int.toNat_of_nonneg e],by omega⟩
   ·simp only[aR]at h
  |_=>simp only[bF,FK,aR]at h
 |_=>simp only[bF,FK,aR]at h
theorem aKj{d:an H}(h:∃cs,aR prog W aa (bF prog 8 5 d) cs)(_hb:Rows.uptoBulk d<=1048576):∃z:Nat,bF prog 8 5 d=.int .u8 z/\True/\z<256:=by
 obtain⟨cs,h⟩:=h;obtain⟨a,e,b⟩:=aKk (n:=7) d cs h;exact⟨a,e,trivial,b⟩
end
namespace Hk
mutual
def sN:PV->PV->Bool
 | .int .i64 a,.int .i64 b=>oJ a b
 | .int .u64 a,.int .u64 b=>oJ a b
 | .bool a,.bool b=>a==b
 | .str a,.str b=>sM a b
 | .aP,.aP=>true
 | .fF,.fF=>true
 | .bP f a,.bP g b=>bif f==g then lK a b else false
 | .seq a,.seq b=>lK a b
 | .fo a,.fo b=>uT a b
 | .st u a,.st v b=>bif cN u v then lK a b else false
 | .aG a,.aG b=>lK a b
 | .func f a b,.func g c d=>bif cN f g then(bif lK a c then lK b d else false)else false
 | .cE a,.cE b=>sN a b
 |_,_=>false
def lK:List PV->List PV->Bool
 |[],[]=>true
 |a::l,b::m=>bif sN a b then lK l m else false
 |_,_=>false
def uT:List (PV×PV)->List (PV×PV)->Bool
 |[],[]=>true
 |(a,c)::l,(b,d)::m=>bif sN a b then(bif sN c d then uT l m else false)else false
 |_,_=>false
end
mutual
theorem wE:∀{a b:PV},sN a b=true->a=b
 |a,b,h=>by
  unfold sN at h
  split at h
  ·rw[Aa h]
  ·rw[Aa h]
  ·rw[eq_of_beq h]
  ·rw[Dh h]
  ·rfl
  ·rfl
  ·rename_i f a g b;cases hf:f==g
   ·rw[hf]at h;cases h
   ·rw[hf,cond_true]at h;rw[eq_of_beq hf,pH h]
  ·rw[pH h]
  ·rw[MP h]
  ·simp only[ab]at h
   split at h
   ·rename_i i;rw[cC i,pH h]
   ·cases h
  ·rw[pH h]
  ·simp only[ab]at h
   split at h
   ·rename_i i
    split at h
    ·rename_i e;rw[cC i,pH e,pH h]
    ·cases h
   ·cases h
  ·rw[wE h]
  ·cases h
theorem pH:∀{a b:List PV},lK a b=true->a=b
 |[],[],_=>rfl
 |[],_::_,h=>by simp[lK]at h
 |_::_,[],h=>by simp[lK]at h
 |a::l,b::m,h=>by
  simp only[lK,ab]at h
  split at h
  ·rename_i e;rw[wE e,pH h]
  ·cases h
theorem MP:∀{a b:List (PV×PV)},uT a b=true->a=b
 |[],[],_=>rfl
 |[],_::_,h=>by simp[uT]at h
 |_::_,[],h=>by simp[uT]at h
 |(a,c)::l,(b,d)::m,h=>by
  simp only[uT,ab]at h
  split at h
  ·rename_i e
   split at h
   ·rename_i j;rw[wE e,wE j,MP h]
   ·cases h
  ·cases h
end
def uu:List (ao×List PV×PV)->ao->List PV->Option PV
 |[],f,vs=>hk f vs
 |(g,us,v)::r,f,vs=>bif cN g f then(bif lK us vs then some v else uu r f vs)else uu r f vs
def lN:List (ao×List PV×PV)->Prop
 |[]=>True
 |(g,us,v)::r=>aC prog g us v/\lN r
theorem Cd:∀{l m:List (ao×List PV×PV)},lN l->lN m->lN (l++m)
 |[],_,_,h=>h
 |_::_,_,h,a=>⟨h.1,Cd h.2 a⟩
theorem za:∀{l:List (ao×List PV×PV)},lN l->∀f vs v,uu l f vs=some v->aC prog f vs v
 |[],_,f,vs,v,h=>awt h
 |(g,us,w)::r,a,f,vs,v,h=>by
  simp only[uu,ab]at h
  split at h
  ·rename_i b
   split at h
   ·rename_i hs;simp only[dl]at h;subst h;rw[<-pH hs,<-cC b];exact a.1
   ·exact za a.2 f vs v h
  ·exact za a.2 f vs v h
def EP(v:PV):Option PV->Bool
 |some w=>sN v w
 |none=>false
theorem HK{v:PV}{o:Option PV}(h:EP v o=true):o=some v:=by
 cases o with
 |none=>cases h
 |some w=>rw[wE h]
def aJf:ao->ao->Nat:=fun _ _=>0
theorem gp(l:List (ao×List PV×PV))(a:lN l){f:ao}{vs:List PV}{v:PV}(h:EP v (RO (uu l) aJf f vs)=true):aC prog f vs v:=Nk (za a) (HK h)
end Hk
end Go.au
namespace Go.Proofs
open Go.Shelf
def Tryz.Hl:ay:=⟨fun|156=>227|165=>280|166=>150|169=>230|240=>226|241=>322|276=>279|277=>361|n=>n,fun|31=>82|9=>9|3=>3|4=>4|0=>0|20=>20|72=>227|76=>230|70=>224|37=>225|75=>229|127=>330|164=>326|5=>5|80=>288|n=>n,fun|n=>n⟩
theorem Tryz.HZ:Go.Proofs.Lays.n156 prog Hl:={
 mixed:=by kernel_rfl
 f156:=func227.trans (congrArg some (by kernel_rfl))
 f165:=func280.trans (congrArg some (by kernel_rfl))
 f166:=func150.trans (congrArg some (by kernel_rfl))
 f169:=func230.trans (congrArg some (by kernel_rfl))
 f240:=func226.trans (congrArg some (by kernel_rfl))
 f241:=func322.trans (congrArg some (by kernel_rfl))
 f276:=func279.trans (congrArg some (by kernel_rfl))
 f277:=func361.trans (congrArg some (by kernel_rfl))
 t0:=underlying0
 a0:=isAgg0
 z0:=sizeOf0
 v0:=zeroValue0
 t3:=underlying3
 a3:=isAgg3
 z3:=sizeOf3
 v3:=zeroValue3
 t4:=underlying4
 a4:=isAgg4
 z4:=sizeOf4
 v4:=zeroValue4
 t9:=underlying9
 a9:=isAgg9
 z9:=sizeOf9
 v9:=zeroValue9
 t20:=underlying20
 a20:=isAgg20
 z20:=sizeOf20
 v20:=zeroValue20
 t31:=underlying82
 a31:=isAgg82
 z31:=sizeOf82
 v31:=zeroValue82
 t37:=underlying225
 a37:=isAgg225
 z37:=sizeOf225
 v37:=zeroValue225
 t70:=underlying224
 a70:=isAgg224
 z70:=sizeOf224
 v70:=zeroValue224
 t72:=underlying227
 a72:=isAgg227
 z72:=sizeOf227
 v72:=zeroValue227
 t75:=underlying229
 a75:=isAgg229
 z75:=sizeOf229
 v75:=zeroValue229
 t76:=underlying230
 a76:=isAgg230
 z76:=sizeOf230
 v76:=zeroValue230
 t127:=underlying330
 a127:=isAgg330
 z127:=sizeOf330
 v127:=zeroValue330
 t164:=underlying326
 a164:=isAgg326
 z164:=sizeOf326
 v164:=zeroValue326}
theorem Tryz.Gz:Builder.Extra prog Hl:={
 sizeBuilder:=by kernel_rfl
 liesBuilder:=by kernel_rfl
 t5:=underlying5
 a5:=isAgg5
 z5:=sizeOf5
 v5:=zeroValue5
 infoByte:=by kernel_rfl
 cellsByte:=by kernel_rfl
 sizeByte:=by kernel_rfl
 neB5:=by decide}
open Go.RowKit in
theorem Tryz.strings_Join_none(a:Option Addr)(c:Nat)(sep:ByteArray)(w:ap):
 av prog 227 #[.slice a 0 c,.string sep] w fun e w'=>e=.returned (.string ⟨#[]⟩)/\w'=w:=Any.strings_Join_none HZ Gz a c sep w
open Go.RowKit in
theorem Tryz.strings_Join(bk o c:Nat)(xs:List ByteArray)(sep:ByteArray)(w:ap)(hcells:∀(j:Nat) x,xs[j]?=some x->w.cell? ⟨bk,o+j,none⟩=some (.string x))(hbk:bk<w.heap.size)(hN:xs.length<=140737488355328)(hcap:xs.length<=c)(hlen:(Lib.join (xs.map (·.data.toList)) sep.data.toList).length<=140737488355328):
 av prog 227 #[.slice (some ⟨bk,o,none⟩) xs.length c,.string sep] w fun e w'=>e=.returned (.string ⟨(Lib.join (xs.map (·.data.toList)) sep.data.toList).toArray⟩)/\Below w.heap.size w w':=Any.strings_Join HZ Gz bk o c xs sep w hcells hbk hN hcap hlen
def Tryz.Tk:ay:=⟨fun|106=>218|213=>268|265=>314|n=>n,fun|9=>9|3=>3|n=>n,fun|n=>n⟩
theorem Tryz.aFq:Go.Proofs.Lays.n106 prog Tk:={
 mixed:=by kernel_rfl
 f106:=func218.trans (congrArg some (by kernel_rfl))
 f213:=func268.trans (congrArg some (by kernel_rfl))
 f265:=func314.trans (congrArg some (by kernel_rfl))
 t3:=underlying3
 a3:=isAgg3
 z3:=sizeOf3
 v3:=zeroValue3
 t9:=underlying9
 a9:=isAgg9
 z9:=sizeOf9
 v9:=zeroValue9}
open Go.RowKit in
theorem Tryz.strings_Compare(a b:ByteArray)(w:ap):
 av prog 218 #[.string a,.string b] w fun e w'=>e=.returned (.int .i64 (Lib.compareBytes a.data.toList b.data.toList))/\w'=w:=Any.strings_Compare aFq a b w
def Tryz.Tj:ay:=⟨fun|138=>328|195=>366|218=>368|143=>329|219=>317|217=>352|225=>353|224=>354|267=>355|266=>375|314=>376|n=>n,fun|9=>9|3=>3|4=>4|5=>5|0=>0|46=>322|146=>400|51=>354|n=>n,fun|1=>0|n=>n⟩
theorem Tryz.aFM:Go.Proofs.Lays.n138 prog Tj:={
 mixed:=by kernel_rfl
 f138:=func328.trans (congrArg some (by kernel_rfl))
 f143:=func329.trans (congrArg some (by kernel_rfl))
 f195:=func366.trans (congrArg some (by kernel_rfl))
 f217:=func352.trans (congrArg some (by kernel_rfl))
 f218:=func368.trans (congrArg some (by kernel_rfl))
 f219:=func317.trans (congrArg some (by kernel_rfl))
 f224:=func354.trans (congrArg some (by kernel_rfl))
 f225:=func353.trans (congrArg some (by kernel_rfl))
 f266:=func375.trans (congrArg some (by kernel_rfl))
 f267:=func355.trans (congrArg some (by kernel_rfl))
 f314:=func376.trans (congrArg some (by kernel_rfl))
 t0:=underlying0
 a0:=isAgg0
 z0:=sizeOf0
 v0:=zeroValue0
 t3:=underlying3
 a3:=isAgg3
 z3:=sizeOf3
 v3:=zeroValue3
 t4:=underlying4
 a4:=isAgg4
 z4:=sizeOf4
 v4:=zeroValue4
 t5:=underlying5
 a5:=isAgg5
 z5:=sizeOf5
 v5:=zeroValue5
 t9:=underlying9
 a9:=isAgg9
 z9:=sizeOf9
 v9:=zeroValue9
 t46:=underlying322
 a46:=isAgg322
 z46:=sizeOf322
 v46:=zeroValue322
 t51:=underlying354
 a51:=isAgg354
 z51:=sizeOf354
 v51:=zeroValue354
 t146:=underlying400
 a146:=isAgg400
 z146:=sizeOf400
 v146:=zeroValue400
 g1:=by kernel_rfl}
open Go.RowKit Go.Lib in
theorem Tryz.strings_Count_one(s:ByteArray)(c:UInt8)(w:ap):
 av prog 328 #[.string s,.string ⟨#[c]⟩] w fun e w'=>e=.returned (.int .i64 (Lib.countByte s.data.toList c))/\w'=w:=Any.strings_Count_one aFM s c w
end Go.Proofs
namespace Go.Proofs
def Tryz.Hc:ay:=⟨fun|4=>263|n=>n,fun|22=>22|25=>61|3=>3|4=>4|9=>9|20=>20|0=>0|2=>3|n=>n,fun|n=>n⟩
theorem Tryz.aup:Go.Proofs.Lays8.n4 prog Hc:={
 mixed:=by kernel_rfl
 f4:=⟨f263.name,by decide,func263.trans (congrArg some (by kernel_rfl))⟩
 t0:=underlying0
 a0:=isAgg0
 z0:=sizeOf0
 v0:=zeroValue0
 t3:=underlying3
 a3:=isAgg3
 z3:=sizeOf3
 v3:=zeroValue3
 t4:=underlying4
 a4:=isAgg4
 z4:=sizeOf4
 v4:=zeroValue4
 t9:=underlying9
 a9:=isAgg9
 z9:=sizeOf9
 v9:=zeroValue9
 t20:=underlying20
 a20:=isAgg20
 z20:=sizeOf20
 v20:=zeroValue20
 t22:=underlying22
 a22:=isAgg22
 z22:=sizeOf22
 v22:=zeroValue22}
end Go.Proofs
