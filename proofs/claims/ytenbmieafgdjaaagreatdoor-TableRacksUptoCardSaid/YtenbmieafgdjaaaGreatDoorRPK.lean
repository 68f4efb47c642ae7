import Derived.Test.YtenbmieafgdjaaaGreatDoorRPH
import Derived.Test.YtenbmieafgdjaaaGreatDoorRPJ
import Derived.Test.YtenbmieafgdjaaaGreatDoorRPG
import Derived.Shelf.Strings.Builder1
import Derived.Shelf.Strings.Builder2
import Derived.Shelf.Strings.OnBuilder
import Derived.Shelf.Strings.Trim
import Derived.Shelf.Small.Utf8
import Derived.Shelf.Small.Bits
import Derived.Shelf.Small.Strs
import Derived.Shelf.Small.Wraps
import Derived.Shelf.Strings.BuilderF
import Derived.Shelf.Strconv.Atoi
import Derived.Shelf.Strconv.Itoa0
import Derived.Shelf.Strconv.Itoa1
import Derived.Shelf.LaysM
import Derived.Shelf.Strconv.Itoa2
import Derived.Shelf.Strconv.Itoa3
import Derived.Shelf.Strconv.AtoiErrFast
import Derived.Shelf.Strconv.ParseIntEmpty
import Derived.Shelf.Strconv.AtoiFail
import Derived.Shelf.Strconv.Clone
import Derived.Shelf.Strconv.SyntaxError
import Derived.Shelf.LaysC
import Derived.Shelf.Strconv.ToError
import Derived.Shelf.Strconv.Lower
import Derived.Shelf.Strconv.ParseUint10
import Derived.Shelf.Strconv.ParseUint10Empty
import Derived.Shelf.Strconv.ParseUint10Any
import Derived.Shelf.Strconv.ParseInt10
import Derived.Shelf.Strconv.AtoiLong
import Derived.Shelf.Strconv.AtoiInnerAll
import Derived.Shelf.Strconv.RangeError
import Derived.Shelf.Strconv.ToErrorRange
import Derived.Shelf.Strconv.AtoiAll
import Derived.Shelf.Strings.Search1
import Derived.Shelf.Strings.Search2
import Derived.Shelf.Strings.Search3
import Derived.Shelf.Strings.Cut
import Derived.Shelf.Strings.Count
import Derived.Shelf.Strings.Shaped
import Derived.Shelf.Strings.Prefix
import Derived.Shelf.Strings.Split
import Derived.Shelf.Strings.Runes
import Derived.Shelf.Strings.AsciiSet
import Derived.Shelf.Bits.Mul64
import Derived.Shelf.Strings.Repeat
import Derived.Shelf.Unicode.DecodeSlow
import Derived.Test.YtenbmieafgdjaaaGreatDoorProg
import Derived.Shelf.SlGeneric
import Derived.Shelf.Spec.SlicesGrow
/- Parts of a proof. -/
set_option linter.unusedSimpArgs false
set_option linter.unusedVariables false
set_option linter.unusedSectionVars false
open Go.Proofs.Tryz
open Bool renaming cond_eq_ite->ab, and_eq_true->ac, or_eq_true->am
open Go renaming DataW->ao, FuncId->ap, World->av, Field->ax, Calls->ay
open Go.IntKind renaming i64->aT
open Go.Shelf renaming Ren->a1
open Go.Utf8 renaming decode->a6
open Int renaming natCast_mul->a7, tmod_eq_emod_of_nonneg->a8, negSucc->bb, natCast_emod->be, natCast_one->bi, natAbs_mul->bl, mul_nonneg->bo, ediv_one->bv
open List renaming getElem?_eq_getElem->b0, mem_of_getElem?->b1, map_cons->b2, getD_eq_getElem?_getD->b3, map_nil->b4, any_eq_true->b5, zip_cons_cons->cb, zip_nil_left->cc, getElem?_take->ce, findIdx?_eq_some_iff_getElem->ck, mem_map->cv, mem_range->cx, findIdx?_eq_none_iff->cy, mem_iff_getElem->c6, range->c9, range_succ->da, mem_cons->db
open Nat renaming eq_of_beq_eq_true->dg, beq->dk, mul_ne_zero->dl, blt->dp, blt_eq->dq, gcd->dz, lt_of_lt_of_le->ea, div_one->eb
open Option.some renaming injEq->ec
open Rat renaming divInt->ed, divInt_mul_divInt->ee, div_def->ei, sub_add_cancel->ej, zero_add->en, divInt_add_divInt->eo, add_lt_add_right->eq, divInt_eq_div->ew, neg_divInt->ey, inv_divInt->e6
namespace Go.aj
open Go.Proofs
set_option maxHeartbeats 4000000
set_option maxRecDepth 100000
namespace Hk
def kA:Nat:=9223372036854775808
def yS:Nat:=1606938044258990275541962092341162602522202993782792835301376
def pT{α:Type}(n:Nat)(f:Nat->α):α:=match n with
 |0=>f 0
 |k+1=>f (k+1)
theorem vH{α:Type}(n:Nat)(f:Nat->α):pT n f=f n:=by cases n<;>rfl
def zO{α:Type}(z:Int)(f:Int->α):α:=match z with
 | .ofNat n=>pT n fun n=>f (.ofNat n)
 | .negSucc n=>pT n fun n=>f (.negSucc n)
theorem Ms{α:Type}(z:Int)(f:Int->α):zO z f=f z:=by cases z<;>simp[zO,vH]
def om:Int->Bool
 | .ofNat n=>dp n kA
 | .negSucc n=>dp (n+1) kA
theorem yO{z:Int}:om z=true↔z.natAbs<9223372036854775808:=by
 cases z with
 |ofNat n=>simp only[om,dq,kA];exact Iff.rfl
 |negSucc n=>simp only[om,dq,kA];exact Iff.rfl
def n7:Int->Int->Bool
 | .ofNat a,.ofNat b=>dk a b
 | .negSucc a,.negSucc b=>dk a b
 |_,_=>false
theorem y7:∀{a b:Int},n7 a b=true->a=b
 | .ofNat a,.ofNat b,h=>by simp only[n7]at h;rw[dg h]
 | .negSucc a,.negSucc b,h=>by simp only[n7]at h;rw[dg h]
 | .ofNat a,.negSucc b,h=>by simp[n7]at h
 | .negSucc a,.ofNat b,h=>by simp[n7]at h
def tW(z:Int):Option PV:=bif om z then some (eX z)else bif dk z.natAbs kA then none else some (kz z)
theorem yA{z:Int}{p:PV}(h:tW z=some p)(m:Bool):eI ⟨z,m⟩=p:=by
 unfold tW at h;rw[jb];rcases hs:om z with _|_
 ·simp only[hs,cond_false]at h;rcases a:dk z.natAbs kA with _|_
  case true=>rw[a]at h;cases h
  ·have c:¬dk z.natAbs kA=true:=by rw[a];decide
   rw[a,cond_false]at h;simp only[ec]at h;have b:¬z.natAbs<9223372036854775808:=fun h=>by rw[yO.2 h]at hs;cases hs
   have d:z.natAbs≠9223372036854775808:=fun e=>c (by rw[e];rfl);rw[if_neg,h];simp only[NI.sm,am,decide_eq_true_eq,ac,not_or,not_and];exact⟨by omega,fun h=>by omega⟩
 ·simp only[hs,cond_true,ec]at h;have b:=yO.1 hs;rw[if_pos,h];simp only[NI.sm,am,decide_eq_true_eq,ac];exact .inl (by omega)
def wV:List PV->Option (List Nat)
 |[]=>some []
 | .int .u64 (.ofNat x)::r=>match wV r with
  |some l=>some (x::l)
  |none=>none
 |_=>none
theorem Nf:∀{l:List PV}{a:List Nat},wV l=some a->l=a.map fun x:Nat=>PV.int .u64 x
 |[],a,h=>by simp only[wV,ec]at h;subst h;rfl
 |v::r,a,h=>by
  unfold wV at h
  split at h
  ·rename_i e;cases e
  ·rename_i x c e;cases e
   split at h
   ·rename_i l b;simp only[ec]at h;subst h;rw[Nf b];rfl
   ·cases h
  ·cases h
def rV:List Nat->List Nat->Bool
 |[],[]=>true
 |x::a,y::b=>bif dk x y then rV a b else false
 |_,_=>false
theorem Cu:∀{a b:List Nat},rV a b=true->a=b
 |[],[],_=>rfl
 |[],_::_,h=>by simp[rV]at h
 |_::_,[],h=>by simp[rV]at h
 |x::a,y::b,h=>by
  simp only[rV,ab]at h
  split at h
  ·rename_i hx;rw[dg hx,Cu h]
  ·cases h
def zM:PV->Option Int
 | .st u [.int .i64 z,.aN]=>bif dk u 129 then(bif om z then some z else none)else none
 | .st u [.int .i64 s,.seq l]=>match wV l with
  |some a=>pT (iH wB a) fun n=>bif dk u 129&&(dp kA n&&rV (aq wB n) a)then
   (bif n7 s 1 then some (.ofNat n)else bif n7 s (-1)then some (.negSucc (n-1))else none)else none
  |none=>none
 |_=>none
theorem Mv{p:PV}{z:Int}(h:zM p=some z):p=eI ⟨z,false⟩:=by
 unfold zM at h
 split at h
 ·rename_i u y;simp only[ab]at h
  split at h
  ·rename_i g
   split at h
   ·rename_i hs;simp only[ec]at h;subst h;rw[dg g];exact(yA (by rw[tW,hs];rfl) false).symm
   ·cases h
  ·cases h
 ·rename_i u s l
  split at h
  ·rename_i i f;rw[vH]at h;have e:=Nf f;generalize iH wB i=n at h;simp only[ab]at h
   split at h
   ·rename_i hc;simp only[ac,dq]at hc;obtain⟨b,j,c⟩:=hc;have d:=Cu c;have k:kA=9223372036854775808:=rfl;rw[dg b,e,<-d];have key:∀z:Int,z.natAbs=n->eI ⟨z,false⟩=kz z:=fun z m=>by
     refine yA ?_ false;have e1:om z=false:=by
      rcases a:om z with _|_
      ·rfl
      ·have:=yO.1 a;omega
     have e2:dk z.natAbs kA=false:=by
      rcases a:dk z.natAbs kA with _|_
      ·rfl
      ·have:=dg a;omega
     rw[tW,e1,e2];rfl
    split at h
    ·rename_i hs;simp only[ec]at h;subst h;rw[y7 hs,key _ rfl,kz,if_neg (by show¬((n:Int)<0);omega)];rfl
    ·split at h
     ·rename_i hs;simp only[ec]at h;subst h;rw[y7 hs,key _ (by show n-1+1=n;omega),kz,if_pos (by omega)];have:(bb (n-1)).natAbs=n:=by show n-1+1=n;omega
      rw[this];rfl
     ·cases h
   ·cases h
  ·cases h
 ·cases h
def EA(n:Int)(d:Nat):Bool:=dp 0 d&&(dp n.natAbs yS&&(dp d yS&&dk (dz n.natAbs d) 1))
def pR:PV->Option (Int×Nat)
 | .st u [a,b]=>match zM a,zM b with
  |some n,some (.ofNat d)=>bif dk u 131&&EA n d then some (n,d)else none
  |_,_=>none
 |_=>none
def fr(n:Int)(d:Nat):NF:=⟨ed n d,false⟩
theorem U7:yS=2^200:=by decide
theorem Cz{p:PV}{n:Int}{d:Nat}(h:pR p=some (n,d)):p=eF (fr n d)/\d≠0/\bE kB (fr n d).q:=by
 unfold pR at h
 split at h
 case h_2=>cases h
 rename_i u a b
 split at h
 case h_2=>cases h
 rename_i c d' j k;simp only[ab]at h
 split at h
 case isFalse=>cases h
 rename_i hc;simp only[ec,Prod.mk.injEq]at h;obtain⟨rfl,rfl⟩:=h;simp only[EA,ac,dq]at hc;obtain⟨c1,c2,c3,c4,c5⟩:=hc;have f:=dg c5;have e:d'≠0:=by omega
 obtain⟨e1,e2⟩:=lL (n:=c) e;rw[f]at e1 e2;simp only[bi,bv,eb]at e1 e2;rw[U7]at c3 c4;refine⟨?_,e,(Cf e c3 c4).mono (by decide)⟩;rw[dg c1,Mv j,Mv k,eF];have g:(fr c d').num=⟨c,false⟩:=by rw[NF.num,fr,e1]
 have i:(fr c d').den=⟨(d':Int),false⟩:=by rw[NF.den,fr,e2];rfl
 rw[g,i];rfl
def mW(n:Int)(d:Nat):Option PV:=
 pT (dz n.natAbs d) fun g=>zO (n/g) fun n=>pT (d/g) fun d=>match tW n,tW (.ofNat d)with
  |some a,some b=>some (.st 131 [a,b])
  |_,_=>none
theorem pn{n:Int}{d:Nat}{p:PV}(i:d≠0)(h:mW n d=some p)(m:Bool):p=eF ⟨ed n d,m⟩:=by
 obtain⟨e1,e2⟩:=lL (n:=n) i;simp only[mW,vH,Ms]at h
 split at h
 case h_2=>cases h
 rename_i a b f g;simp only[ec]at h;subst h;rw[eF];have c:(NF.num ⟨ed n d,m⟩)=⟨n/(dz n.natAbs d:Nat),m⟩:=by rw[NF.num,e1]
 have e:(NF.den ⟨ed n d,m⟩)=⟨((d/dz n.natAbs d:Nat):Int),false⟩:=by rw[NF.den,e2];rfl
 rw[c,e,yA f,<-yA g false];rfl
def two(op:Int->Nat->Int->Nat->Option PV)(a b:PV):Option PV:=match pR a,pR b with
 |some (n,d),some (m,e)=>op n d m e
 |_,_=>none
theorem vL{op:Int->Nat->Int->Nat->Option PV}{a b p:PV}(h:two op a b=some p):
 ∃n d m e,a=eF (fr n d)/\b=eF (fr m e)/\d≠0/\e≠0/\bE kB (fr n d).q/\bE kB (fr m e).q/\op n d m e=some p:=by
 unfold two at h
 split at h
 case h_2=>cases h
 rename_i n d m e j k;obtain⟨c,a2,a3⟩:=Cz j;obtain⟨f,g,i⟩:=Cz k;exact⟨n,d,m,e,c,f,a2,g,a3,i,h⟩
def Qr(n:Int)(d:Nat)(m:Int)(e:Nat):Option PV:=mW (n*e+m*d) (d*e)
def Qt(n:Int)(d:Nat)(m:Int)(e:Nat):Option PV:=mW (n*e-m*d) (d*e)
def Qs(n:Int)(d:Nat)(m:Int)(e:Nat):Option PV:=mW (n*m) (d*e)
def Ac:Int->Int
 | .ofNat n=>bif dk n 0 then 0 else 1
 | .negSucc _=>-1
theorem LK(z:Int):Ac z=if z<0 then -1 else if z=0 then 0 else 1:=by
 cases z with
 |ofNat n=>
  rw[if_neg (by simp)];cases n with
  |zero=>rfl
  |succ n=>rw[if_neg (by simp;omega)];rfl
 |negSucc n=>rw[if_pos (by omega)];rfl
def Ex(n:Int)(d:Nat)(m:Int)(e:Nat):Option PV:=some (.int .i64 (Ac (n*e-m*d)))
def zW(n:Int)(d:Nat)(m:Int)(e:Nat):Option PV:=match m with
 | .ofNat k=>bif dk k 0 then none else mW (n*e) (d*k)
 | .negSucc k=>mW (-(n*e)) (d*(k+1))
theorem tU{d:Nat}(h:d≠0):(d:Int)≠0:=by omega
theorem Yp{n m:Int}{d e:Nat}{p:PV}(a:d≠0)(b:e≠0)(h:Qr n d m e=some p):p=eF ((fr n d).add (fr m e)):=by
 rw[NF.add,fr,fr];dsimp only;rw[eo _ _ (tU a) (tU b)];have:=pn (dl a b) h;rw[a7]at this;exact this _
theorem Ys{n m:Int}{d e:Nat}{p:PV}(a:d≠0)(b:e≠0)(h:Qt n d m e=some p):p=eF ((fr n d).sub (fr m e)):=by
 rw[NF.sub,NF.add,NF.neg,fr,fr];dsimp only;rw[ey,eo _ _ (tU a) (tU b)];have:=pn (dl a b) h;rw[a7]at this;rw[Int.neg_mul,<-Int.sub_eq_add_neg];exact this _
theorem Yr{n m:Int}{d e:Nat}{p:PV}(a:d≠0)(b:e≠0)(h:Qs n d m e=some p):p=eF ((fr n d).mul (fr m e)):=by
 rw[NF.mul,fr,fr];dsimp only;rw[ee];have:=pn (dl a b) h;rw[a7]at this;exact this _
theorem Xu(x y:Rat):eS x y=if x-y<0 then -1 else if x-y=0 then 0 else 1:=by
 have b:x-y<0↔x<y:=by
  constructor
  ·intro h;have a:=(eq (c:=y)).2 h
   rwa [ej,en]at a
  ·intro h;refine(eq (c:=y)).1 ?_
   rwa [ej,en]
 have a:x-y=0↔x=y:=by
  constructor
  ·intro h;have d:=congrArg (·+y) h
   simpa[ej,en]using d
  ·intro h;rw[h,Rat.sub_self]
 simp only[eS,b,a]
theorem BJ(n:Int){d:Nat}(i:d≠0):(if ed n d<0 then(-1:Int)else if ed n d=0 then 0 else 1)=Ac n:=by
 rw[De,LK];obtain⟨e1,-⟩:=lL (n:=n) i;have k:0<dz n.natAbs d:=Nat.gcd_pos_of_pos_right _ (by omega);have j:((dz n.natAbs d:Nat):Int)∣n:=by
  rw[Int.ofNat_dvd_left];exact Nat.gcd_dvd_left _ _
 obtain⟨c,hc⟩:=j;rw[e1];generalize dz n.natAbs d=g at*;have a:(0:Int)<g:=by omega
 subst hc;rw[Int.mul_ediv_cancel_left _ (by omega)];have b:(g:Int)*c<0↔c<0:=by
  constructor
  ·intro h;refine Int.not_le.1 fun f=>?_;have:=bo (Int.le_of_lt a) f;omega
  ·intro h;exact Int.mul_neg_of_pos_of_neg a h
 have e:(g:Int)*c=0↔c=0:=by
  rw[Int.mul_eq_zero];constructor
  ·rintro(h|h)
   ·omega
   ·exact h
  ·exact fun h=>.inr h
 simp only[b,e]
theorem Yq{n m:Int}{d e:Nat}{p:PV}(a:d≠0)(b:e≠0)(h:Ex n d m e=some p):p=.int .i64 (eS (fr n d).q (fr m e).q):=by
 simp only[Ex,ec]at h;rw[<-h,Xu,fr,fr];dsimp only;rw[Rat.divInt_sub_divInt _ _ (tU a) (tU b),<-a7,BJ _ (dl a b)]
theorem N8{n m:Int}{d e:Nat}{p:PV}(a:d≠0)(c:e≠0)(h:zW n d m e=some p):p=eF ((fr n d).div (fr m e))/\(fr m e).q≠0:=by
 have b:m≠0->(fr m e).q≠0:=fun g hq=>by
  rw[fr]at hq;dsimp only at hq;have:=BJ m c;rw[hq,if_neg (by decide),if_pos rfl,LK]at this
  split at this
  ·omega
  ·first
     |omega
     |(rw[if_neg g]at this;omega)
 rw[NF.div,fr,fr];dsimp only;unfold zW at h;cases m with
 |ofNat k=>
  simp only[ab]at h
  split at h
  ·cases h
  ·rename_i hk;have f:k≠0:=fun e=>hk (by rw[e];rfl);have:=pn (dl a f) h;refine⟨?_,b (by show(k:Int)≠0;omega)⟩;have e:(ed n d:Rat)/ed (Int.ofNat k) e=ed (n*e) (d*k):=by
    rw[ei,e6,ee];rfl
   rw[e];rw[a7]at this;exact this _
 |negSucc k=>
  dsimp only at h;have:=pn (dl a (Nat.succ_ne_zero k)) h;refine⟨?_,b (by omega)⟩;have e:(ed n d:Rat)/ed (bb k) e=ed (-(n*e)) ((d:Int)*((k+1:Nat):Int)):=by
   rw[ei,e6,ee];rw[show bb k= -((k+1:Nat):Int)from rfl,Int.mul_neg];rw[Rat.divInt_neg']
  rw[e];rw[a7]at this;exact this _
def zV:Nat->Nat->Nat
 |0,_=>0
 |f+1,n=>bif dk n 0 then 0 else zV f (n/10)+1
theorem X2{a b:Nat}(h:a<b):dp a b=true:=by rw[dq];exact h
theorem zK{a b:Nat}(h:dp a b=true):a<b:=by rw[dq]at h;exact h
theorem NR:∀(f n:Nat),n<10^f->zV f n=nd n
 |0,n,h=>by
  have:n=0:=by simpa using h
  subst this;rw[nd];rfl
 |f+1,n,h=>by
  rw[zV,nd]
  by_cases a:n=0
  ·subst a;rfl
  ·have b:dk n 0=false:=by
    rcases c:dk n 0 with _|_
    ·rfl
    ·exact(a (dg c)).elim
   rw[b,cond_false,dif_neg a,NR f (n/10) (by rw[Nat.div_lt_iff_lt_mul (by omega)];rw[Nat.pow_succ]at h;exact h)]
def ui(n:Nat):List Nat:=pT (zV 80 n) fun k=>bif dp 1 k then low k n else low 1 n
theorem zb{n:Nat}(h:n<10^80):ui n=aV n:=by
 rw[ui,vH,NR _ _ h,aV];rcases a:dp 1 (nd n)with _|_
 ·have:¬1<nd n:=fun b=>by rw[X2 b]at a;cases a
  rw[cond_false,Nat.max_eq_left (by omega)]
 ·have:1<nd n:=zK a;rw[cond_true,Nat.max_eq_right (by omega)]
def ES:Int->List Nat
 | .ofNat n=>ui n
 | .negSucc n=>45::ui (n+1)
theorem aGM{z:Int}(h:z.natAbs<10^80):ES z=bI z:=by
 cases z with
 |ofNat n=>rw[bI,if_neg (by show¬((n:Int)<0);omega)];exact zb h
 |negSucc n=>rw[bI,if_pos (by omega)];exact congrArg (45::·) (zb h)
def ER(n:Int)(d:Nat):List Nat:=bif dk d 1 then ES n else ES n++47::ui d
theorem KY{n:Int}{d:Nat}(a:d≠0)(b:dz n.natAbs d=1):(fr n d).q.num=n/\(fr n d).q.den=d:=by
 obtain⟨e1,e2⟩:=lL (n:=n) a;rw[b]at e1 e2;simp only[bi,bv,eb]at e1 e2;exact⟨e1,e2⟩
theorem K3{p:PV}{n:Int}{d:Nat}(h:pR p=some (n,d)):dz n.natAbs d=1/\n.natAbs<10^80/\d<10^80:=by
 unfold pR at h
 split at h
 case h_2=>cases h
 split at h
 case h_2=>cases h
 simp only[ab]at h
 split at h
 case isFalse=>cases h
 rename_i hc;simp only[ec,Prod.mk.injEq]at h;obtain⟨rfl,rfl⟩:=h;simp only[EA,ac,dq]at hc;obtain⟨c1,c2,c3,c4,c5⟩:=hc;have a:yS<10^80:=by decide
 exact⟨dg c5,by omega,by omega⟩
theorem aGH{p:PV}{n:Int}{d:Nat}(h:pR p=some (n,d))(f:d≠0):ER n d=aX (fr n d).q:=by
 obtain⟨g,b,c⟩:=K3 h;obtain⟨e1,e2⟩:=KY f g;rw[ER,aX,e1,e2,aGM b,zb c];rcases a:dk d 1 with _|_
 ·rw[cond_false,if_neg (fun e=>by rw[e]at a;cases a)]
 ·rw[cond_true,if_pos (dg a)]
def pQ:List Nat->Nat->Bool
 |[],_=>true
 |c::r,f=>match f with
  |0=>false
  |f+1=>bif dp c 256 then pQ r f else false
theorem vR:∀{s:List Nat}{f:Nat},pQ s f=true->s.length<=f/\∀c∈s,c<256
 |[],_,_=>⟨Nat.zero_le _,fun c hc=>by cases hc⟩
 |c::r,0,h=>by simp[pQ]at h
 |c::r,f+1,h=>by
  simp only[pQ,ab]at h
  split at h
  ·rename_i hc;obtain⟨b,a⟩:=vR h;refine⟨by simp;omega,fun x hx=>?_⟩;rcases db.1 hx with rfl|hx
   ·exact zK hc
   ·exact a x hx
  ·cases h
def Ql(z:Int):Bool:=match z with
 | .ofNat n=>dk n 0
 |_=>false
theorem aBz{z:Int}(h:Ql z=true):z=0:=by
 cases z with
 |ofNat n=>rw[dg (show dk n 0=true from h)];rfl
 |negSucc n=>cases h
def DS(n:Int)(d:Nat):Option PV:=bif dk d 0 then none else mW n d
theorem Zr{n:Int}{d:Nat}{p:PV}(h:DS n d=some p)(m:Bool):p=eF ⟨ed n d,m⟩:=by
 unfold DS at h;rcases a:dk d 0 with _|_
 ·rw[a]at h;exact pn (fun e=>by rw[e]at a;cases a) h m
 ·rw[a]at h;cases h
def DT(s:List Nat):Option PV:=bif Ql (bU s)&&pQ s 1000 then
 zO (if bS s=true then -(aU (bC s):Int)else aU (bC s)) fun n=>pT (if dW s=true then aU (bN s)else 1) fun d=>DS n d else none
theorem Zs{s:List Nat}{p:PV}(h:DT s=some p):p=eF ⟨aZ s,false⟩/\bU s=0/\s.length<=1048576:=by
 unfold DT at h;simp only[ab,Ms,vH]at h
 split at h
 case isFalse=>cases h
 rename_i hc;rw[ac]at hc;obtain⟨c1,c2⟩:=hc;obtain⟨a,b⟩:=vR c2;refine⟨?_,aBz c1,by omega⟩;rw[aZ];exact Zr h false
def Pm:Int->Bool
 | .ofNat n=>dp n kA
 | .negSucc n=>dp n kA
theorem ZS{z:Int}(h:Pm z=true):-9223372036854775808<=z/\z<=9223372036854775807:=by
 cases z with
 |ofNat n=>have:n<9223372036854775808:=zK h;refine⟨?_,?_⟩<;>show _<=_<;>simp only[Int.ofNat_eq_natCast]<;>omega
 |negSucc n=>have:n<9223372036854775808:=zK h;omega
def EC(f:Nat)(a:PV):Option PV:=match a with
 | .int .i64 z=>bif dk f 74&&Pm z then mW z 1 else none
 | .str s=>bif dk f 142 then DT s else bif dk f 221&&pQ s 1000 then some (.int .i64 (bU s))else none
 | .st u [.str x,.str y]=>bif dk f 92&&(dk u 46&&(pQ x 1000&&pQ y 1000))then some (.int .i64 (dU ⟨x,y⟩))else none
 | .st u [c,e]=>match pR (.st u [c,e])with
  |some (n,d)=>bif dk f 174 then mW (-n) d else
   bif dk f 146 then some (.int .i64 (Ac n))else
   bif dk f 173 then zW 1 1 n d else
   bif dk f 176 then some (.str (ER n d))else
   bif dk f 175 then some (.bool false)else none
  |none=>none
 |_=>none
def uh(f:Nat)(a b:PV):Option PV:=
 bif dk f 89 then two Qr a b else
 bif dk f 191 then two Qt a b else
 bif dk f 172 then two Qs a b else
 bif dk f 75 then two zW a b else
 bif dk f 136 then two Ex a b else none
def hk(f:Nat):List PV->Option PV
 |[a]=>EC f a
 |[a,b]=>uh f a b
 |_=>none
theorem O6(z:Int):ed z ((1:Nat):Int)=(z:Rat):=by
 rw[show((1:Nat):Int)=1 from rfl,ew];rw[show((1:Int):Rat)=1 from rfl,ei,show(1:Rat)⁻¹=1 from by decide+kernel,Rat.mul_one]
theorem bq{a b:Nat}(h:dk a b=true):a=b:=dg h
theorem aC3{f:Nat}{a v:PV}(h:EC f a=some v):aw prog f [a] v:=by
 unfold EC at h
 split at h
 ·rename_i z;simp only[ab]at h
  split at h
  ·rename_i hc;rw[ac]at hc;obtain⟨w,A⟩:=ZS hc.2;rw[bq hc.1,pn (by decide) h true];have:=mU z w A;rw[NF.int]at this;rw[O6];exact this
  ·cases h
 ·rename_i s;simp only[ab]at h
  split at h
  ·rename_i hf;obtain⟨e1,e2,e3⟩:=Zs h;rw[bq hf,e1];exact mT s e2 e3
  ·split at h
   ·rename_i hc;rw[ac]at hc;obtain⟨j,b⟩:=vR hc.2;simp only[ec]at h;subst h;rw[bq hc.1];exact zh s (by omega) b
   ·cases h
 ·rename_i u x y;simp only[ab]at h
  split at h
  ·rename_i hc;simp only[ac]at hc;obtain⟨c1,c2,c3,c4⟩:=hc;obtain⟨j,b⟩:=vR c3;obtain⟨B,p⟩:=vR c4;simp only[ec]at h;subst h;rw[bq c1,bq c2];exact HI ⟨x,y⟩ ⟨⟨by show x.length<=_;omega,b⟩,⟨by show y.length<=_;omega,p⟩⟩
  ·cases h
 ·rename_i u c e _
  split at h
  case h_2=>cases h
  rename_i n d l;obtain⟨t,g,i⟩:=Cz l;rw[t];simp only[ab]at h
  split at h
  ·rename_i hf;rw[bq hf,pn g h false,<-ey];exact C1 _ i
  split at h
  ·rename_i hf;simp only[ec]at h;subst h;rw[bq hf,<-BJ n g];exact CU _
  split at h
  ·rename_i hf;obtain⟨e1,e2⟩:=N8 (by decide) g h;have e3:(fr 1 1).div (fr n d)=(fr n d).inv:=by
    rw[NF.div,NF.inv,fr,fr];dsimp only;rw[O6,ei];rw[show((1:Int):Rat)=1 from rfl,Rat.one_mul]
   rw[bq hf,e1,e3];exact Lc _ i e2
  split at h
  ·rename_i hf;simp only[ec]at h;subst h;rw[bq hf,aGH l g];exact B2 _ i
  split at h
  ·rename_i hf;simp only[ec]at h;subst h;rw[bq hf];have m:=Cc _ i;obtain⟨q,j,b⟩:=K3 l;obtain⟨e1,e2⟩:=KY g q;have o:∀k,k<10^80->kG k=false:=fun k hk=>by
    rw[kG,decide_eq_false_iff_not];have C:nd k<=80:=Nat.not_lt.1 fun r=>by have:=(mR _ _).1 r;omega
    rw[qK];omega
   rw[wN,e1,e2,o _ j,o _ b]at m;exact m
  ·cases h
 ·cases h
theorem aGB{f:Nat}{a b v:PV}(h:uh f a b=some v):aw prog f [a,b] v:=by
 unfold uh at h;simp only[ab]at h
 split at h
 ·rename_i hf;obtain⟨n,d,m,e,rfl,rfl,c,g,j,k,i⟩:=vL h;rw[bq hf,Yp c g i];exact zi _ _ j k
 split at h
 ·rename_i hf;obtain⟨n,d,m,e,rfl,rfl,c,g,j,k,i⟩:=vL h;rw[bq hf,Ys c g i];exact yM _ _ j k
 split at h
 ·rename_i hf;obtain⟨n,d,m,e,rfl,rfl,c,g,j,k,i⟩:=vL h;rw[bq hf,Yr c g i];exact yh _ _ j k
 split at h
 ·rename_i hf;obtain⟨n,d,m,e,rfl,rfl,c,g,j,k,i⟩:=vL h;obtain⟨e1,e2⟩:=N8 c g i;rw[bq hf,e1];exact DH _ _ j k e2
 split at h
 ·rename_i hf;obtain⟨n,d,m,e,rfl,rfl,c,g,j,k,i⟩:=vL h;rw[bq hf,Yq c g i];exact wy _ _ j k
 ·cases h
theorem ZN{f:Nat}{vs:List PV}{v:PV}(h:hk f vs=some v):aw prog f vs v:=by
 unfold hk at h
 split at h
 ·exact aC3 h
 ·exact aGB h
 ·cases h
end Hk
theorem aGP{n:Nat}(h:n<10^80):aX ((n:Nat):Rat)=Hk.ui n:=by
 rw[Hk.zb h,aX,if_pos (by rfl),bI,if_neg (by show¬((n:Int)<0);omega)];rfl
structure dS where
 x:Int
 y:Int
 deriving DecidableEq
structure dN where
 name:List Nat
 eH:Int
 a:List Nat
 b:List Nat
structure dQ where
 name:List Nat
 pt:gz
structure aF where
 cs:List dS
 bF:Int
 bc:List dN
 az:List dQ
def cN(p:dS):PV:=.st 60 [.int .i64 p.x,.int .i64 p.y]
def fh(p:dN):PV:=.st 109 [.str p.name,.int .i64 p.eH,.str p.a,.str p.b]
def cr(p:dQ):PV:=.st 48 [.str p.name,fM p.pt]
def cA(t:aF):PV:=.st 25 [.seq (t.cs.map cN),.int .i64 t.bF,.seq (t.bc.map fh),.seq (t.az.map cr)]
@[simp] theorem aKW(p:dS):aL (cN p)=.agg 60:=rfl
@[simp] theorem aJJ(p:dS):cF (cN p)=[.int .i64 p.x,.int .i64 p.y]:=rfl
@[simp] theorem aKT(p:dN):aL (fh p)=.agg 109:=rfl
@[simp] theorem aJG(p:dN):cF (fh p)=[.str p.name,.int .i64 p.eH,.str p.a,.str p.b]:=rfl
@[simp] theorem aKX(p:dQ):aL (cr p)=.agg 48:=rfl
@[simp] theorem aJK(p:dQ):cF (cr p)=[.str p.name,fM p.pt]:=rfl
@[simp] theorem aK2(t:aF):aL (cA t)=.agg 25:=rfl
@[simp] theorem aJO(t:aF):cF (cA t)=[.seq (t.cs.map cN),.int .i64 t.bF,.seq (t.bc.map fh),.seq (t.az.map cr)]:=rfl
@[simp] theorem aII:prog.cellsOf 60=2:=by kernel_rfl
@[simp] theorem aIE:prog.cellsOf 109=4:=by kernel_rfl
@[simp] theorem aIJ:prog.cellsOf 48=3:=by kernel_rfl
def fH(p:dS):Bool:=decide (10000<max p.x p.y)||decide (min p.x p.y< -10000)
theorem Yi(p:dS):aw prog 79 [cN p] (.bool (fH p)):=by
 obtain⟨x,y⟩:=p;refine aI nf P1 mix (by simp[f79]) ?_;have e1:max x y=if x<y then y else x:=by split<;>omega
 have e2:min x y=if y<x then y else x:=by split<;>omega
 rw[fH,e1,e2]
 by_cases h:(if x<y then y else x)<=10000
 ·have a:¬10000<(if x<y then y else x):=by omega
  by_cases b:(if y<x then y else x)< -10000
  ·simp[f79,aa,h,a,b]
  ·simp[f79,aa,h,a,b]
 ·have a:10000<(if x<y then y else x):=by omega
  simp[f79,aa,h,a]
def fq(p:dS):Prop:=-10000<=p.x/\p.x<=10000/\-10000<=p.y/\p.y<=10000
theorem Fs{p:dS}(h:fH p=false):fq p:=by
 simp only[fH,Bool.or_eq_false_iff,decide_eq_false_iff_not]at h;unfold fq;omega
def lF(a b c:dS):Int:=(b.x-a.x)*(c.y-a.y)-(b.y-a.y)*(c.x-a.x)
theorem kX{a b:Int}{A B:Int}(c:-A<=a)(d:a<=A)(e:-B<=b)(f:b<=B):-(A*B)<=a*b/\a*b<=A*B:=by
 have k1:a.natAbs<=A.natAbs:=by omega
 have k2:b.natAbs<=B.natAbs:=by omega
 have k3:=Nat.mul_le_mul k1 k2;rw[<-bl,<-bl]at k3;have k4:0<=A*B:=bo (by omega) (by omega);omega
theorem RO(a b c:dS)(i:fq a)(j:fq b)(hc:fq c):aw prog 177 [cN a,cN b,cN c] (.int .i64 (lF a b c)):=by
 obtain⟨d,e⟩:=a;obtain⟨bx,f⟩:=b;obtain⟨g,h⟩:=c;simp only[fq]at i j hc;have k:aT.wrap (bx-d)=bx-d:=aK _ (by omega) (by omega);have l:aT.wrap (h-e)=h-e:=aK _ (by omega) (by omega);have m:aT.wrap (f-e)=f-e:=aK _ (by omega) (by omega)
 have n:aT.wrap (g-d)=g-d:=aK _ (by omega) (by omega);have r:=kX (a:=bx-d) (b:=h-e) (A:=20000) (B:=20000) (by omega) (by omega) (by omega) (by omega);have s:=kX (a:=f-e) (b:=g-d) (A:=20000) (B:=20000) (by omega) (by omega) (by omega) (by omega);have o:aT.wrap ((bx-d)*(h-e))=(bx-d)*(h-e):=aK _ (by omega) (by omega);have p:aT.wrap ((f-e)*(g-d))=(f-e)*(g-d):=aK _ (by omega) (by omega);have q:aT.wrap ((bx-d)*(h-e)-(f-e)*(g-d))=(bx-d)*(h-e)-(f-e)*(g-d):=aK _ (by omega) (by omega);refine aI nf Ga mix (by simp[f177]) ?_;rw[lF];simp[f177,aa,k,l,m,n,o,p,q]
def aF.nx(t:aF)(i:Nat):Nat:=(i+1)% t.cs.length
def aF.at(t:aF)(i:Nat):dS:=t.cs.getD i ⟨0,0⟩
theorem aF.get{t:aF}{i:Nat}(h:i<t.cs.length):t.cs[i]?=some (t.at i):=by
 rw[aF.at,b3,b0 h];rfl
@[simp] theorem aF.aM{t:aF}{i:Nat}(h:i<t.cs.length):t.cs[i]'h=t.at i:=by
 rw[aF.at,b3,b0 h];rfl
theorem aF.ow{t:aF}(h:0<t.cs.length)(i:Nat):t.nx i<t.cs.length:=Nat.mod_lt _ h
theorem FL(t:aF)(i:Nat)(h:i<t.cs.length)(g:t.cs.length<=1000000):aw prog 178 [cA t,.int .i64 i] (cN (t.at (t.nx i))):=by
 have f:aT.wrap ((i:Int)+1)=(i:Int)+1:=aK _ (by omega) (by omega);have c:=t.ow (by omega) i;have e1:((i:Int)+1).tmod (t.cs.length:Int)=((t.nx i:Nat):Int):=by
  rw[aF.nx,be,a8 (by omega)];rfl
 have b:=aF.get c;have d:¬t.cs.length=0:=by omega
 have a:¬t.cs=[]:=by intro e;rw[e]at h;simp at h
 refine aI nf F9 mix (by simp[f178]) ?_;simp[f178,aa,f,e1,b,d,a]
def aF.nh(t:aF)(i:Nat)(m:Nat):Prop:=∀k,k<m->k≠i->k≠t.nx i->0<lF (t.at i) (t.at (t.nx i)) (t.at k)
instance(t:aF)(i m:Nat):Decidable (t.nh i m):=inferInstanceAs (Decidable (∀k,k<m->_))
def aF.fW(t:aF):Bool:=decide (∀i,i<t.cs.length->t.nh i t.cs.length)
theorem aF.ji{t:aF}(h:∀p∈t.cs,fq p){i:Nat}(hi:i<t.cs.length):fq (t.at i):=h _ (b1 (aF.get hi))
theorem RV(t:aF)(x:t.cs.length<=1000000)(m:∀p∈t.cs,fq p):aw prog 80 [cA t] (.bool t.fW):=by
 refine aI nf P2 mix (by simp[f80]) ?_;generalize a:t.cs.length=n at*;simp[f80,aa,a];refine lp (α:=Nat) (fun i=>⟨[(4,.p (.int .i64 i)),(3,.p (.int .i64 n)),(1,.ptr 0 [])],[.box false (.p (cA t))]⟩) (fun i=>i<=n/\∀j,j<i->t.nh j n) (fun i=>n-i) 0 (by simp) ?_;rintro i ⟨v,q⟩
 by_cases hi:i<n
 ·simp[hi];refine lp (α:=Nat) (fun k=>⟨[(5,.p (.int .i64 k)),(4,.p (.int .i64 i)),(3,.p (.int .i64 n)),(1,.ptr 0 [])],[.box false (.p (cA t))]⟩) (fun k=>k<=n/\t.nh i k) (fun k=>n-k) 0 (by simp[aF.nh]) ?_;rintro k ⟨g1,g2⟩
  by_cases hk:k<n
  ·have r:=FL t i (by omega) (by omega);have y:t.nx i<n:=by rw[<-a];exact t.ow (by omega) i
   have d:=bX (i:=i) (by omega);have e:=bX (i:=k) (by omega);have e1:((i:Int)+1).tmod (n:Int)=((t.nx i:Nat):Int):=by
    rw[aF.nx,a,be,a8 (by omega)];rfl
   have s:=RO (t.at i) (t.at (t.nx i)) (t.at k) (aF.ji m (by omega)) (aF.ji m (by omega)) (aF.ji m (by omega));have f:=aF.get (t:=t) (i:=i) (by omega);have gk:=aF.get (t:=t) (i:=k) (by omega);have o:¬n=0:=by omega
   by_cases c1:k=i
   ·subst c1;simp[hk,e];exact rd (k+1) ⟨hk,fun j g=>by
     by_cases l:j=k
     ·intro h;exact(h l).elim
     ·exact g2 j (by omega)⟩
   ·have b:¬(k:Int)=(i:Int):=by omega
    by_cases c2:k=t.nx i
    ·rw[<-c2]at e1;simp[hk,b,d,e,e1,o];exact rd (k+1) ⟨hk,fun j g=>by
      by_cases l:j=k
      ·intro _ h;exact(h (by omega)).elim
      ·exact g2 j (by omega)⟩
    ·have c:¬(k:Int)=((t.nx i:Nat):Int):=by omega
     by_cases c3:lF (t.at i) (t.at (t.nx i)) (t.at k)<=0
     ·simp[hk,b,c,d,e,e1,o,f,gk,a,aa];refine Go.aj.e2 r ?_;simp[hk,a,f,gk,b,c,aa];refine Go.aj.e3 s ?_;simp[c3,b,c];have:t.fW=false:=by
       rw[aF.fW,decide_eq_false_iff_not];intro h;have:=h i (by omega) k (by omega) c1 c2;omega
      rw[this]
     ·simp[hk,b,c,d,e,e1,o,f,gk,a,aa];refine Go.aj.e2 r ?_;simp[hk,a,f,gk,b,c,aa];refine Go.aj.e3 s ?_;simp[c3,e,b,c];exact rd (k+1) ⟨hk,fun j g=>by
       by_cases l:j=k
       ·subst l;intro _ _;omega
       ·exact g2 j (by omega)⟩
  ·have:k=n:=by omega
   subst this;have d:=bX (i:=i) (by omega);simp[d];exact rd (i+1) ⟨hi,fun j g=>by
    by_cases u:j=i
    ·subst u;exact g2
    ·exact q j (by omega)⟩
 ·have w:i=n:=by omega
  have:t.fW=true:=by
   rw[aF.fW,decide_eq_true_eq,a];intro j g;exact q j (by omega)
  simp[hi,this]
def jP(p:dS):V2:=⟨(p.x:Rat),(p.y:Rat)⟩
theorem se{p:dS}(h:fq p):bW 14 (jP p):=by
 simp only[fq]at h;exact⟨ju (by omega) (by decide),ju (by omega) (by decide)⟩
theorem Fm(p:dS)(h:fq p):aw prog 144 [cN p] (eV (jP p)):=by
 have c:=h;simp only[fq]at h;have a:=tM p.x (by omega) (by omega);have b:=tM p.y (by omega) (by omega);refine aI nf HC mix (by simp[f144]) ?_;rw[jP,tI];simp[f144,aa];refine e1 a ?_;simp[aa];refine e1 b ?_;simp[aa]
def aF.sc(t:aF)(i:Nat):V2:=(jP (t.at (t.nx i))).sub (jP (t.at i))
def aF.side(t:aF)(i:Nat)(v:V2):Int:=gY ((t.sc i).gZ (v.sub (jP (t.at i))))
theorem aF.okW{t:aF}(h:∀p∈t.cs,fq p){i:Nat}(hi:i<t.cs.length):bW 29 (t.sc i):=tJ (se (aF.ji h (t.ow (by omega) i))) (se (aF.ji h hi))
theorem Yd(t:aF)(i:Nat)(v:V2)(e:t.cs.length<=1000000)(b:∀p∈t.cs,fq p)(hi:i<t.cs.length)(d:bW 3000 v):aw prog 86 [cA t,.int .i64 i,eV v] (.int .i64 (t.side i v)):=by
 have a:=aF.get hi;have c:=se (aF.ji b hi);have n:=se (aF.ji b (t.ow (by omega) i));have f:=Fm (t.at i) (aF.ji b hi);have g:=FL t i hi e;have h:=Fm (t.at (t.nx i)) (aF.ji b (t.ow (by omega) i));have j:=DG (jP (t.at (t.nx i))) (jP (t.at i)) (n.mono (by decide)) (c.mono (by decide));have k:=DG v (jP (t.at i)) (d.mono (by decide)) (c.mono (by decide));have l:=Rq (t.sc i) (v.sub (jP (t.at i))) ((aF.okW b hi).mono (by decide)) ((tJ d c).mono (by decide));have m:=yD ((t.sc i).gZ (v.sub (jP (t.at i)))) ((Rl (aF.okW b hi) (tJ d c)).mono (by decide));refine aI nf P9 mix (by simp[f86]) ?_;rw[aF.side];simp[f86,aa,a,hi];refine e1 f ?_;simp[aa,a,hi];refine e2 g ?_;simp[aa,a,hi];refine e1 h ?_;simp[aa,a,hi];refine⟨by repeat' first|rfl|apply And.intro,?_⟩;refine e2 j ?_;simp[aa,a,hi];refine e2 k ?_;simp[aa,a,hi];refine e2 l ?_;simp[aa,a,hi];refine e1 m ?_;simp[aa,a,hi]
def aF.pV(t:aF)(v:V2)(m:Nat):Int:=(c9 m).foldl (fun o i=>min o (t.side i v)) 1
theorem aF.Fl(t:aF)(v:V2)(m:Nat):t.pV v (m+1)=min (t.pV v m) (t.side m v):=by
 rw[aF.pV,da,List.foldl_append];rfl
def aF.on(t:aF)(v:V2):Int:=t.pV v t.cs.length
theorem FF(a b:Int):min a b=if b<a then b else a:=by split<;>omega
theorem DL(t:aF)(v:V2)(b:t.cs.length<=1000000)(c:∀p∈t.cs,fq p)(d:bW 3000 v):aw prog 19 [cA t,eV v] (.int .i64 (t.on v)):=by
 refine aI nf Pw mix (by simp[f19]) ?_;simp[f19,aa];refine lp (α:=Nat) (fun i=>⟨[(6,.p (.int .i64 i)),(5,.p (.int .i64 (t.pV v i))),(3,.ptr 1 []),(2,.ptr 0 [])],[.box false (.p (cA t)),.box false (.p (eV v))]⟩) (fun i=>i<=t.cs.length) (fun i=>t.cs.length-i) 0 (by simp) ?_ (hh:=by simp[aF.pV]) (he:=by simp[aF.pV]);rintro i f
 by_cases hi:i<t.cs.length
 ·have a:=Yd t i v b c hi d;have e:=bX (i:=i) (by omega);have hs:=aF.Fl t v i;rw[FF]at hs;simp[hi,aa];refine c3 a ?_;simp[e,<-hs];exact rd (i+1) hi
 ·have:i=t.cs.length:=by omega
  subst this;simp[aF.on,aa]
def isLet(c:Int):Bool:=(decide (97<=c)&&decide (c<=122))||(decide (65<=c)&&decide (c<=90))
def iX(c:Int):Bool:=decide (48<=c)&&decide (c<=57)
def mf:Nat->List Nat->Bool
 |_,[]=>true
 |i,c::r=>(isLet c||(decide (i≠0)&&(iX c||decide ((c:Int)=95))))&&mf (i+1) r
def isName(s:List Nat):Bool:=decide (1<=s.length)&&decide (s.length<=24)&&mf 0 s
theorem cls(c:Int):(97<=c/\c<=122)\/(¬97<=c/\65<=c/\c<=90)\/(¬97<=c/\¬65<=c/\¬48<=c/\¬c=95)\/(¬97<=c/\¬65<=c/\48<=c/\c<=57/\¬c=95)\/(¬97<=c/\¬65<=c/\48<=c/\¬c<=57/\¬c=95)\/
 (¬97<=c/\65<=c/\¬c<=90/\48<=c/\¬c<=57/\c=95)\/(¬97<=c/\65<=c/\¬c<=90/\48<=c/\¬c<=57/\¬c=95)\/(97<=c/\¬c<=122/\65<=c/\¬c<=90/\48<=c/\¬c<=57/\¬c=95):=by omega
theorem Fk(c:Int):aw prog 207 [.int .i32 c] (.bool (isLet c)):=by
 refine aI nf Hq mix (by simp[f207]) ?_;rcases cls c with⟨a,b⟩|⟨a,b,d⟩|⟨a,b,d,e⟩|⟨a,b,d,e,f⟩|⟨a,b,d,e,f⟩|⟨a,b,d,e,f,g⟩|⟨a,b,d,e,f,g⟩|⟨a,b,d,e,f,g,h⟩<;>simp[f207,isLet, *]
theorem Fg{s:List Nat}{i:Nat}(hi:i<s.length):mf i (s.drop i)=((isLet s[i]||(decide (i≠0)&&(iX s[i]||decide ((s[i]:Int)=95))))&&mf (i+1) (s.drop (i+1))):=by
 rw[List.drop_eq_getElem_cons hi,mf]
theorem Au(s:List Nat)(h:s.length<=1048576):aw prog 82 [.str s] (.bool (isName s)):=by
 refine aI nf P5 mix (by simp[f82]) ?_;rcases Av s.length 1 with⟨g1,m⟩|⟨g1,m⟩
 ·have:s.length=0:=by omega
  simp[f82,g1,isName,this]
 rcases Av 24 s.length with⟨g2,n⟩|⟨g2,n⟩
 ·have:¬s.length<=24:=by omega
  simp[f82,g1,g2,isName,this]
 simp[f82,g1,g2];have e0:isName s=mf 0 s:=by simp[isName];omega
 refine lp (α:=Nat) (fun i=>⟨[(3,.p (.int .i64 i)),(0,.p (.str s))],[]⟩) (fun i=>i<=s.length/\isName s=mf i (s.drop i)) (fun i=>s.length-i) 0 (by simp[e0]) ?_;rintro i ⟨k1,k2⟩
 by_cases hi:i<s.length
 ·rw[Fg hi]at k2;have k:=bX (i:=i) (by omega);generalize hc:(s[i]:Int)=c at*
  by_cases j:i=0
  ·subst j;have l:aT.wrap 1=1:=aK 1 (by omega) (by omega);rcases cls c with⟨a,b⟩|⟨a,b,d⟩|⟨a,b,d,e⟩|⟨a,b,d,e,f⟩|⟨a,b,d,e,f⟩|⟨a,b,d,e,f,g⟩|⟨a,b,d,e,f,g⟩|⟨a,b,d,e,f,g,h⟩
   ·simp[isLet,a,b]at k2;simp[hi,hc,a,b,l];exact rd 1 ⟨hi,by simpa using k2⟩
   ·simp[isLet,a,b,d]at k2;simp[hi,hc,a,b,d,l];exact rd 1 ⟨hi,by simpa using k2⟩
   all_goals
    simp[isLet, *]at k2;simp[hi,hc, *]
  ·rcases cls c with⟨a,b⟩|⟨a,b,d⟩|⟨a,b,d,e⟩|⟨a,b,d,e,f⟩|⟨a,b,d,e,f⟩|⟨a,b,d,e,f,g⟩|⟨a,b,d,e,f,g⟩|⟨a,b,d,e,f,g,h⟩
   ·simp[isLet,a,b]at k2;simp[hi,hc,a,b,k];exact rd (i+1) ⟨hi,k2⟩
   ·simp[isLet,a,b,d]at k2;simp[hi,hc,a,b,d,k];exact rd (i+1) ⟨hi,k2⟩
   ·simp[isLet,iX,a,b,d,e]at k2;simp[hi,hc,j,a,b,d,e,k2]
   ·simp[isLet,iX,a,b,d,e,j]at k2;simp[hi,hc,j,a,b,d,e,k];exact rd (i+1) ⟨hi,k2⟩
   ·simp[isLet,iX,a,b,d,e,f]at k2;simp[hi,hc,j,a,b,d,e,f,k2]
   ·subst g;simp[isLet,iX,j]at k2;simp[hi,hc,j,k];exact rd (i+1) ⟨hi,k2⟩
   ·simp[isLet,iX,a,b,d,e,f,g]at k2;simp[hi,hc,j,a,b,d,e,f,g,k2]
   ·simp[isLet,iX,a,b,d,e,f,g,h]at k2;simp[hi,hc,j,a,b,d,e,f,g,h,k2]
 ·have:i=s.length:=by omega
  subst this;simp[mf]at k2;simp[k2]
theorem Fe(s:List Nat):(gq s).size=s.length:=by
 show(s.map UInt8.ofNat).toArray.size=_;simp
theorem Fy(s:List Nat)(b:∀c∈s,c<256)(i:Nat)(h:i<s.length)(a:i<(gq s).size):((gq s)[i]'a).toNat=s[i]:=by
 have e:(gq s)[i]'a=UInt8.ofNat s[i]:=by
  have:(gq s)[i]'a=(s.map UInt8.ofNat).toArray[i]'(by simpa using h):=rfl;rw[this];simp
 rw[e];have:=b s[i] (List.getElem_mem h);simp;omega
theorem Zh{s:List Nat}(d:∀c∈s,c<256){i:Nat}(h:i<s.length)(b:s[i]<128):a6 (gq s) i=(s[i],1):=by
 have a:i<(gq s).size:=by rw[Fe];exact h
 have e:=Fy s d i h a;rw[decode_ascii (gq s) i a (by rw[e];exact b),e]
theorem Zg{s:List Nat}(b:∀c∈s,c<256){i:Nat}(h:i<s.length)(d:¬s[i]<128):128<=(a6 (gq s) i).1/\1<=(a6 (gq s) i).2:=by
 have a:i<(gq s).size:=by rw[Fe];exact h
 have e:=Fy s b i h a;exact decode_high (gq s) i a (by rw[e];omega)
theorem Fv(s:List Nat)(h:s.length<=1048576):aw prog 109 [.str s] (.bool (isName s)):=by
 refine RY fun l=>?_;have l:∀c∈s,c<256:=by simpa[lX,dT]using l
 refine aI nf Gi mix (by simp[f109]) ?_;simp[f109];refine lp (α:=Nat) (fun i=>⟨[(6,.ptr 0 []),(0,.p (.str s))],[.dt s i]⟩) (fun i=>i<=s.length/\mf 0 s=mf i (s.drop i)) (fun i=>s.length-i) 0 (by simp) ?_;rintro i ⟨k1,k2⟩
 by_cases hi:i<s.length
 ·rw[Fg hi]at k2
  by_cases n:s[i]<128
  ·have m:=Zh l hi n;simp[hi,m];refine c1 (Fk _) ?_;generalize hc:(s[i]:Int)=c at*
   by_cases j:i=0
   ·rcases cls c with⟨a,b⟩|⟨a,b,d⟩|⟨a,b,d,e⟩|⟨a,b,d,e,f⟩|⟨a,b,d,e,f⟩|⟨a,b,d,e,f,g⟩|⟨a,b,d,e,f,g⟩|⟨a,b,d,e,f,g,h⟩
    ·simp[isLet,a,b]at k2;simp[isLet,a,b];exact rd (i+1) ⟨hi,k2⟩
    ·simp[isLet,a,b,d]at k2;simp[isLet,a,b,d];exact rd (i+1) ⟨hi,k2⟩
    all_goals
     simp[isLet,isName, *]at k2;simp[isLet,isName, *]
   ·rcases cls c with⟨a,b⟩|⟨a,b,d⟩|⟨a,b,d,e⟩|⟨a,b,d,e,f⟩|⟨a,b,d,e,f⟩|⟨a,b,d,e,f,g⟩|⟨a,b,d,e,f,g⟩|⟨a,b,d,e,f,g,h⟩
    ·simp[isLet,a,b]at k2;simp[isLet,a,b];exact rd (i+1) ⟨hi,k2⟩
    ·simp[isLet,a,b,d]at k2;simp[isLet,a,b,d];exact rd (i+1) ⟨hi,k2⟩
    ·simp[isLet,iX,a,b,d,e]at k2;have d2:c<48:=by omega
     simp[isLet,isName,a,b,e,j,d2,k2]
    ·simp[isLet,iX,a,b,d,e,f,j]at k2;have d2:¬c<48:=by omega
     have e2:¬57<c:=by omega
     simp[isLet,a,b,d2,e2,f,j];exact rd (i+1) ⟨hi,k2⟩
    ·simp[isLet,iX,a,b,d,e,f]at k2;have d2:¬c<48:=by omega
     have e2:57<c:=by omega
     simp[isLet,isName,a,b,d2,e2,f,j,k2]
    ·subst g;simp[isLet,iX,j]at k2;simp[isLet,j];exact rd (i+1) ⟨hi,k2⟩
    ·simp[isLet,iX,a,b,d,e,f,g]at k2;have d2:¬c<48:=by omega
     have e2:57<c:=by omega
     simp[isLet,isName,a,b,d,d2,e2,g,j,k2]
    ·simp[isLet,iX,a,b,d,e,f,g,h]at k2;have d2:¬c<48:=by omega
     have e2:57<c:=by omega
     simp[isLet,isName,a,b,d,e,d2,e2,h,j,k2]
  ·obtain⟨m,_⟩:=Zg l hi n;have y:isLet (s[i]:Int)=false:=by simp[isLet];omega
   have x:iX (s[i]:Int)=false:=by simp[iX];omega
   have w:¬(s[i]:Int)=95:=by omega
   simp[y,x,w]at k2;rcases o:a6 (gq s) i with⟨c,d⟩
   rw[o]at m;have q:isLet (c:Int)=false:=by simp[isLet];omega
   have t:¬(c:Int)=95:=by omega
   have u:¬(c:Int)<48:=by omega
   have v:57<(c:Int):=by omega
   simp[hi,o];refine c1 (Fk _) ?_
   by_cases j:i=0
   ·simp[q,j,isName,k2]
   ·simp[q,j,t,u,v,isName,k2]
 ·have:i=s.length:=by omega
  subst this;simp[mf]at k2;cases hs:s with
  |nil=>simp[isName]
  |cons a r=>
   rw[hs]at k2;rcases Av 24 s.length with⟨g,k⟩|⟨g,k⟩
   ·rw[hs]at g k;have:¬(r.length+1)<=24:=by simp at g;omega
    simp at k;simp[isName,k2,this];omega
   ·rw[hs]at g k;have:(r.length+1)<=24:=by simp at k;omega
    simp at k;simp[isName,k2,this];omega
theorem iA{s:List Nat}(h:bU s=0):bE 2000 (aZ s):=by
 obtain⟨b,c⟩:=FT h;have a:(10:Nat)^mD<=2^2000:=by decide+kernel
 exact⟨ea b a,ea c a⟩
theorem aGO:aX 1=[49]:=aGP (n:=1) (by decide)
def fo(q:Rat):Int:=if gY q<0\/0<eS q 1 then 3 else 0
def w8(s:List Nat):Int:=if bU s=0 then fo (aZ s)else bU s
theorem Fq(s:List Nat)(hs:gX s):aw prog 179 [.str s] (.int .i64 (w8 s)):=by
 have d:=vW s hs;refine aI nf F8 mix (by simp[f179]) ?_;rw[w8]
 by_cases c:bU s=0
 ·have o:=iA c;have f:=yD (aZ s) (o.mono (by decide));have g:=uy (aZ s) 1 (o.mono (by decide)) (by exact⟨by decide+kernel,by decide+kernel⟩);rw[(jr c).1]at f g;rw[aGO]at g;rw[if_pos c,fo];rw[c]at d;generalize gY (aZ s)=x at*;generalize eS (aZ s) 1=y at*
  by_cases a:x<0
  ·simp[f179,aa];refine c1 d ?_;simp[aa];refine c1 f ?_;simp[a,aa]
  ·by_cases b:0<y
   ·simp[f179,aa];refine c1 d ?_;simp[aa];refine c1 f ?_;simp[a,aa];refine c2 g ?_;simp[a,b,aa]
   ·simp[f179,aa];refine c1 d ?_;simp[aa];refine c1 f ?_;simp[a,aa];refine c2 g ?_;simp[a,b,aa]
 ·rw[if_neg c];generalize bU s=e at*;simp[f179,aa];refine c1 d ?_;simp[c,aa]
def gJ(o p:dN):Bool:=decide (o.eH=p.eH)&&(decide (eS (aZ o.a) (aZ p.b)<=0)&&decide (eS (aZ p.a) (aZ o.b)<=0))
def ij(n:Nat)(c:List dN)(p:dN):Int:=
 if isName p.name=false then 8
 else if c.any (fun o=>decide (o.name=p.name))=true then 9
 else if p.eH<0\/(n:Int)<=p.eH then 10
 else if bU p.a≠0 then bU p.a
 else if bU p.b≠0 then bU p.b
 else if max (fo (aZ p.a)) (fo (aZ p.b))≠0 then max (fo (aZ p.a)) (fo (aZ p.b))
 else if 0<eS (aZ p.a) (aZ p.b)then 11
 else if c.any (fun o=>gJ o p)=true then 17 else 0
def rR(p:dN):Prop:=gX p.name/\gX p.a/\gX p.b
def aF.pk(t:aF)(i:Nat):dN:=t.bc.getD i ⟨[],0,[],[]⟩
@[simp] theorem aF.QH{t:aF}{i:Nat}(h:i<t.bc.length):t.bc[i]'h=t.pk i:=by
 rw[aF.pk,b3,b0 h];rfl
theorem aF.lB{t:aF}{i:Nat}(h:i<t.bc.length):t.bc[i]?=some (t.pk i):=by rw[b0 h,aF.QH]
theorem uv{α:Type}{f:α->Bool}{l:List α}{i:Nat}{x:α}(h:l[i]?=some x):(l.take (i+1)).any f=((l.take i).any f||f x):=by
 rw[List.take_add_one,h];simp
theorem Rt(t:aF)(i:Nat)(hi:i<t.bc.length)(U:t.bc.length<=1000000)(hc:t.cs.length<=1000000)(P:∀p∈t.bc,rR p)(Q:∀j,j<i->bU (t.pk j).a=0/\bU (t.pk j).b=0):
 aw prog 81 [cA t,.int .i64 i] (.int .i64 (ij t.cs.length (t.bc.take i) (t.pk i))):=by
 have v:=aF.lB hi;obtain⟨R,E,F⟩:=P _ (b1 v);have m:=Au (t.pk i).name R.1;have N:=vW (t.pk i).a E;have O:=vW (t.pk i).b F;refine aI nf P3 mix (by simp[f81]) ?_;rw[ij];cases B:isName (t.pk i).name
 ·rw[B]at m;simp[f81,aa,v,hi];refine c1 m ?_;simp[aa]
 rw[B]at m;rw[if_neg (by decide)];simp[f81,aa,v,hi];refine c1 m ?_;simp[aa];refine lp (α:=Nat) (fun j=>⟨[(6,.p (.int .i64 j)),(5,.ptr 1 []),(2,.ptr 0 []),(1,.p (.int .i64 i))],[.box false (.p (cA t)),.box false (.p (fh (t.pk i)))]⟩) (fun j=>j<=i/\(t.bc.take j).any (fun o=>decide (o.name=(t.pk i).name))=false) (fun j=>i-j) 0 (by simp) ?_;rintro j ⟨V,D⟩
 by_cases q:j<i
 ·have z:j<t.bc.length:=by omega
  have g:=aF.lB z;have f:=bX (i:=j) (by omega)
  by_cases n:(t.pk j).name=(t.pk i).name
  ·have:(t.bc.take i).any (fun o=>decide (o.name=(t.pk i).name))=true:=by
    rw[b5];exact⟨t.pk j,b1 (i:=j) (by rw[ce,if_pos q];exact g),by simp[n]⟩
   rw[if_pos this];simp[q,z,g,n,aa]
  ·simp[q,z,g,n,f,aa];exact rd (j+1) ⟨q,by rw[uv g,D];simp[n]⟩
 have:j=i:=by omega
 subst this;rw[D,if_neg (by decide)];have u:((t.pk j).eH<0\/(t.cs.length:Int)<=(t.pk j).eH)\/(¬(t.pk j).eH<0/\¬(t.cs.length:Int)<=(t.pk j).eH):=by omega
 rcases u with u|⟨K,L⟩
 ·rw[if_pos u]
  by_cases e1:(t.pk j).eH<0
  ·simp[e1,aa]
  ·have e2:(t.cs.length:Int)<=(t.pk j).eH:=by omega
   simp[e1,e2,aa]
 rw[if_neg (by omega)];have d0:¬j<j:=by omega
 simp[K,L,d0,aa];refine c1 N ?_
 by_cases c:bU (t.pk j).a=0
 case neg=>
  rw[if_pos c];simp[c,aa]
 rw[if_neg (by simp[c])];simp[c,aa];refine c1 O ?_
 by_cases d:bU (t.pk j).b=0
 case neg=>
  rw[if_pos d];simp[d,aa]
 rw[if_neg (by simp[d])];simp[d,aa];have G:=iA c;have H:=iA d;have x:=Fq (t.pk j).a E;have y:=Fq (t.pk j).b F;rw[w8,if_pos c]at x;rw[w8,if_pos d]at y;have A:=uy (aZ (t.pk j).a) (aZ (t.pk j).b) (G.mono (by decide)) (H.mono (by decide));rw[(jr c).1,(jr d).1]at A;refine e1 x ?_;simp[aa];refine e1 y ?_;have em:max (fo (aZ (t.pk j).a)) (fo (aZ (t.pk j).b))=if fo (aZ (t.pk j).a)<fo (aZ (t.pk j).b)then fo (aZ (t.pk j).b)else fo (aZ (t.pk j).a):=by split<;>omega
 simp[aa,<-em];clear em x y;generalize max (fo (aZ (t.pk j).a)) (fo (aZ (t.pk j).b))=M at*
 by_cases hm:M=0
 case neg=>
  simp[hm,aa]
 subst hm;simp[aa];refine c2 A ?_
 by_cases s:0<eS (aZ (t.pk j).a) (aZ (t.pk j).b)
 ·rw[if_pos s];simp[s,aa]
 rw[if_neg s];simp[s,aa];refine lp (α:=Nat) (fun k=>⟨[(8,.p (.int .i64 k)),(5,.ptr 1 []),(2,.ptr 0 []),(1,.p (.int .i64 j))],[.box false (.p (cA t)),.box false (.p (fh (t.pk j)))]⟩) (fun k=>k<=j/\(t.bc.take k).any (fun o=>gJ o (t.pk j))=false) (fun k=>j-k) 0 (by simp) ?_;rintro k ⟨k1,k2⟩
 by_cases hk:k<j
 ·have e:k<t.bc.length:=by omega
  have gk:=aF.lB e;have f:=bX (i:=k) (by omega);obtain⟨I,J⟩:=Q k hk;have S:=iA I;have T:=iA J;have l:=uy (aZ (t.pk k).a) (aZ (t.pk j).b) (S.mono (by decide)) (H.mono (by decide));have w:=uy (aZ (t.pk j).a) (aZ (t.pk k).b) (G.mono (by decide)) (T.mono (by decide));rw[(jr I).1,(jr d).1]at l;rw[(jr c).1,(jr J).1]at w;have C:gJ (t.pk k) (t.pk j)=true->(t.bc.take j).any (fun o=>gJ o (t.pk j))=true:=fun h=>by
   rw[b5];exact⟨t.pk k,b1 (i:=k) (by rw[ce,if_pos hk];exact gk),h⟩
  have r:gJ (t.pk k) (t.pk j)=false->(t.bc.take (k+1)).any (fun o=>gJ o (t.pk j))=false:=fun h=>by
   rw[uv gk,k2,h];rfl
  rw[gJ]at C r
  by_cases e1:(t.pk k).eH=(t.pk j).eH
  ·by_cases e2:eS (aZ (t.pk k).a) (aZ (t.pk j).b)<=0
   ·by_cases e3:eS (aZ (t.pk j).a) (aZ (t.pk k).b)<=0
    ·rw[if_pos (C (by simp[e1,e2,e3]))];simp[hk,e,gk,e1,aa];refine c2 l ?_;simp[e1,e2,aa];refine c2 w ?_;simp[e1,e2,e3,aa]
    ·simp[hk,e,gk,e1,aa];refine c2 l ?_;simp[e1,e2,aa];refine c2 w ?_;simp[e1,e2,e3,f,aa];exact rd (k+1) ⟨hk,r (by simp[e3])⟩
   ·simp[hk,e,gk,e1,aa];refine c2 l ?_;simp[e1,e2,f,aa];exact rd (k+1) ⟨hk,r (by simp[e2])⟩
  ·simp[hk,e,gk,e1,f,aa];exact rd (k+1) ⟨hk,r (by simp[e1])⟩
 ·have:k=j:=by omega
  subst this;rw[k2,if_neg (by decide)];simp[aa]
structure NV where
 x:NF
 y:NF
def NV.q(v:NV):V2:=⟨v.x.q,v.y.q⟩
def NV.add(v w:NV):NV:=⟨v.x.add w.x,v.y.add w.y⟩
def NV.sub(v w:NV):NV:=⟨v.x.sub w.x,v.y.sub w.y⟩
def NV.times(v:NV)(k:NF):NV:=⟨v.x.mul k,v.y.mul k⟩
def NV.dot(v w:NV):NF:=(v.x.mul w.x).add (v.y.mul w.y)
def NV.gZ(v w:NV):NF:=(v.x.mul w.y).sub (v.y.mul w.x)
theorem NV.q9(v w:NV):(v.sub w).q=v.q.sub w.q:=by simp only[NV.sub,NV.q,V2.sub,NF.q9]
theorem NV.xm(v w:NV):(v.add w).q=v.q.add w.q:=rfl
theorem NV.YN(v w:NV):(v.gZ w).q=v.q.gZ w.q:=NF.q9 _ _
def NV.from(p:gz):NV:=⟨⟨aZ p.x,false⟩,⟨aZ p.y,false⟩⟩
structure NS where
 a:NF
 b:NF
 d:NF
def NS.q(s:NS):S3:=⟨s.a.q,s.b.q,s.d.q⟩
def Ez(k:Nat)(s:NS):Prop:=bE k s.a.q/\bE k s.b.q/\bE k s.d.q
theorem Qn{q:Rat}(h:bE 1800 q):wN q=false:=by
 have a:(aV q.num.natAbs).length<=600:=rI (K:=1800) (k:=600) h.1 (by decide) (by decide);have b:(aV q.den).length<=600:=rI (K:=1800) (k:=600) h.2 (by decide) (by decide);rw[wN,kG,kG,decide_eq_false (by omega),decide_eq_false (by omega)];rfl
def NF.width(r:Int):NF:=.int (4*r*r)
structure NM where
 w:NV
 d:NV
 root:NF
def NM.of(width:NF)(p d b:NV):NM:=⟨b.sub p,d,(((b.sub p).dot d).mul ((b.sub p).dot d)).sub ((d.dot d).mul (((b.sub p).dot (b.sub p)).sub width))⟩
theorem o6:∀l:List Int,bH l=0↔∀e∈l,e=0
 |[]=>by simp[bH]
 |e::r=>by
  rw[bH]
  by_cases h:e=0
  ·rw[if_pos h,o6 r];simp[h]
  ·rw[if_neg h];simp[h]
theorem nE{p:gz}(h:dU p=0):bU p.x=0/\bU p.y=0:=by
 have:=(o6 _).1 h;exact⟨this _ (by simp),this _ (by simp)⟩
def vP(p:gz):V2:=⟨aZ p.x,aZ p.y⟩
theorem Dr(p:gz):(NV.from p).q=vP p:=rfl
theorem A3{k:Nat}{p:gz}(h:bW k (vP p)):bW k (NV.from p).q:=h
theorem Iz(n d:Int):fL n d=(n:Rat)*((d:Int):Rat)⁻¹:=by
 rw[fL,ew,ei]
structure NB where
 a:NV
 b:NV
 d:NF
def NB.q(n:NB):P4:=⟨⟨n.a.x.q,n.b.x.q,n.d.q⟩,⟨n.a.y.q,n.b.y.q,n.d.q⟩⟩
def okB(k:Nat)(n:NB):Prop:=bW k n.a.q/\bW k n.b.q/\bE k n.d.q
theorem okB.mono{k l:Nat}{n:NB}(h:okB k n)(a:k<=l):okB l n:=⟨h.1.mono a,h.2.1.mono a,h.2.2.mono a⟩
theorem OL(e:Int):∀l:List Int,bH (l++[e])=if bH l=0 then e else bH l
 |[]=>by by_cases h:e=0<;>simp[bH,h]
 |x::l=>by
  simp only[List.cons_append,bH,OL e l]
  by_cases hx:x=0
  ·simp[hx]
  ·simp[hx]
theorem OI{q:Rat}{k:Nat}(h:bE k q)(hk:k<=1800):gX (aX q)/\bU (aX q)=0:=by
 have a:(aV q.num.natAbs).length<=600:=rI (K:=1800) (k:=600) (h.mono hk).1 (by decide) (by decide);have b:(aV q.den).length<=600:=rI (K:=1800) (k:=600) (h.mono hk).2 (by decide) (by decide);have d:=E8 q;exact⟨⟨by omega,fun c hc=>Nat.lt_trans (Ro q c hc) (by decide)⟩,YM a b⟩
def mg(v:V2):gz:=⟨aX v.x,aX v.y⟩
theorem Q3(v:V2):vP (mg v)=v:=by
 obtain⟨x,y⟩:=v;simp only[vP,mg,CP]
theorem ov{v:V2}{k:Nat}(h:bW k v)(hk:k<=1800):od (mg v)/\dU (mg v)=0:=by
 obtain⟨a,a2⟩:=OI h.1 hk;obtain⟨b,c⟩:=OI h.2 hk;refine⟨⟨a,b⟩,?_⟩;rw[dU];simp only[mg,bH,a2,c,if_true]
theorem Fb{b t:V2}(h:b≠t):ln (aX b.x) (aX b.y) (aX t.x) (aX t.y)=false:=by
 rw[ln,decide_eq_false_iff_not];rintro⟨a,c⟩;obtain⟨bx,d⟩:=b;obtain⟨e,ty⟩:=t;dsimp only at a c;exact h (by rw[Ao a,Ao c])
def gK{α:Type}(a:List α->α->Int)(l:List α)(i:Nat):Int:=match l[i]? with
 |some x=>a (l.take i) x
 |none=>0
def jU{α:Type}(a:List α->α->Int)(l:List α):Int:=bH ((c9 l.length).map (gK a l))
theorem Fh{f:Nat->Int}:∀(n i:Nat),(∀j,j<i->f j=0)->i<n->f i≠0->bH ((c9 n).map f)=f i
 |0,i,_,h,_=>by omega
 |n+1,i,a,g,b=>by
  rw[da,List.map_append,b2,b4,OL]
  by_cases hi:i<n
  ·rw[Fh n i a hi b,if_neg b]
  ·have:i=n:=by omega
   subst this;rw[(o6 _).2 (by intro e c;obtain⟨j,d,rfl⟩:=cv.1 c;exact a j (cx.1 d)),if_pos rfl]
theorem ux{α:Type}{a:List α->α->Int}{l:List α}{i:Nat}{x:α}(h:∀j,j<i->gK a l j=0)(hx:l[i]?=some x)(b:a (l.take i) x≠0):jU a l=a (l.take i) x:=by
 have hi:=(List.getElem?_eq_some_iff.1 hx).1;have e:gK a l i=a (l.take i) x:=by rw[gK,hx]
 rw[jU,Fh _ i h hi (by rw[e];exact b),e]
theorem oB{α:Type}{b:List α->α->Int}{l:List α}:jU b l=0↔∀j,j<l.length->gK b l j=0:=by
 rw[jU,o6];constructor
 ·intro h j a;exact h _ (cv.2 ⟨j,cx.2 a,rfl⟩)
 ·intro h e c;obtain⟨j,a,rfl⟩:=cv.1 c;exact h j (cx.1 a)
theorem uw{α:Type}{a:List α->α->Int}{l:List α}{i:Nat}{x:α}(h:∀j,j<i->gK a l j=0)(hx:l[i]?=some x)(c:a (l.take i) x=0):∀j,j<i+1->gK a l j=0:=by
 intro j d
 by_cases b:j=i
 ·subst b;rw[gK,hx];exact c
 ·exact h j (by omega)
def iB(t:aF)(bef:List dQ)(s:dQ):Int:=
 if isName s.name=false then 8
 else if bef.any (fun o=>decide (o.name=s.name))=true then 9
 else if dU s.pt≠0 then dU s.pt
 else if t.on (vP s.pt)<0 then 16 else 0
def eO(t:aF):Int:=
 if t.cs.length<3 then 2
 else if 12<t.cs.length then 5
 else if t.cs.any fH=true then 3
 else if t.fW=false then 15
 else if t.bF<1\/1000<t.bF then 3
 else if 12<t.bc.length then 5
 else if jU (ij t.cs.length) t.bc≠0 then jU (ij t.cs.length) t.bc
 else if 256<t.az.length then 5
 else jU (iB t) t.az
def rS(p:dQ):Prop:=gX p.name/\od p.pt
def aF.sp(t:aF)(i:Nat):dQ:=t.az.getD i ⟨[],⟨[],[]⟩⟩
@[simp] theorem aF.ot{t:aF}{i:Nat}(h:i<t.az.length):t.az[i]'h=t.sp i:=by
 rw[aF.sp,b3,b0 h];rfl
theorem aF.fx{t:aF}{i:Nat}(h:i<t.az.length):t.az[i]?=some (t.sp i):=by rw[b0 h,aF.ot]
structure kY(t:aF):Prop where
 cl:t.cs.length<=1000000
 pl:t.bc.length<=1000000
 sl:t.az.length<=1000000
 pk:∀p∈t.bc,rR p
 sp:∀s∈t.az,rS s
def kW(t:aF)(name:List Nat):Int:=match t.az.findIdx? (fun s=>decide (s.name=name))with
 |some i=>i
 |none=>-1
theorem Fu{n:Nat}{c:List dN}{p:dN}(h:ij n c p=0):bU p.a=0/\bU p.b=0:=by
 rw[ij]at h
 split at h
 ·omega
 split at h
 ·omega
 split at h
 ·omega
 split at h
 ·contradiction
 split at h
 ·contradiction
 rename_i d e;exact⟨Decidable.not_not.1 d,Decidable.not_not.1 e⟩
theorem AU(t:aF)(name:List Nat)(h:t.az.length<=1000000):aw prog 15 [cA t,.str name] (.int .i64 (kW t name)):=by
 refine aI nf Ps mix (by simp[f15]) ?_;simp[f15,aa];refine lp (α:=Nat) (fun i=>⟨[(5,.p (.int .i64 i)),(2,.ptr 0 []),(1,.p (.str name))],[.box false (.p (cA t))]⟩) (fun i=>i<=t.az.length/\∀j,j<i->¬(t.sp j).name=name) (fun i=>t.az.length-i) 0 (by simp) ?_;rintro i ⟨g,c⟩
 by_cases hi:i<t.az.length
 ·have d:=aF.fx hi;have f:=bX (i:=i) (by omega)
  by_cases a:(t.sp i).name=name
  ·have:kW t name=i:=by
    have:t.az.findIdx? (fun s=>decide (s.name=name))=some i:=by
     rw[ck];refine⟨hi,by rw[aF.ot];simp[a],fun j b=>?_⟩;rw[aF.ot];simp[c j b]
    rw[kW,this]
   simp[hi,d,a,this,aa]
  ·simp[hi,d,a,f,aa];exact rd (i+1) ⟨hi,fun j b=>by
    by_cases e:j=i
    ·subst e;exact a
    ·exact c j (by omega)⟩
 ·have:i=t.az.length:=by omega
  subst this;have:kW t name= -1:=by
   have:t.az.findIdx? (fun s=>decide (s.name=name))=none:=by
    rw[cy];intro s hs;obtain⟨j,b,rfl⟩:=c6.1 hs;rw[aF.ot];simp[c j b]
   rw[kW,this]
  simp[this,aa]
theorem aFN{t:aF}{i:Nat}(hi:i<t.az.length):kW t (t.sp i).name<i↔(t.az.take i).any (fun o=>decide (o.name=(t.sp i).name))=true:=by
 obtain⟨k,hk⟩:∃k,t.az.findIdx? (fun s=>decide (s.name=(t.sp i).name))=some k:=by
  cases h:t.az.findIdx? (fun s=>decide (s.name=(t.sp i).name))with
  |some k=>exact⟨k,rfl⟩
  |none=>
   rw[cy]at h;have:=h _ (b1 (aF.fx hi));simp at this
 rw[kW,hk];rw[ck]at hk;obtain⟨k1,k2,k3⟩:=hk;rw[b5];constructor
 ·intro h;have h:k<i:=by simp only at h;omega
  exact⟨t.az[k],b1 (i:=k) (by rw[ce,if_pos h,b0 k1]),k2⟩
 ·rintro⟨o,b,a⟩;obtain⟨j,c,rfl⟩:=c6.1 b;simp only[List.length_take]at c;simp only;rw[List.getElem_take]at a;have:¬j<k:=fun d=>by
   have:=k3 j d;rw[a]at this;simp at this
  omega
theorem Fc(t:aF)(L:kY t):aw prog 14 [cA t] (.int .i64 (eO t)):=by
 obtain⟨s,M,N,J,K⟩:=L;refine aI nf Pr mix (by simp[f14]) ?_;rw[eO]
 by_cases c1:t.cs.length<3
 ·have cI:(t.cs.length:Int)<3:=by omega
  rw[if_pos c1];simp[f14,aa,cI]
 have v:¬(t.cs.length:Int)<3:=by omega
 rw[if_neg c1]
 by_cases c2:12<t.cs.length
 ·have cI:(12:Int)<t.cs.length:=by omega
  rw[if_pos c2];simp[f14,aa,v,cI]
 have A:¬(12:Int)<t.cs.length:=by omega
 rw[if_neg c2];simp[f14,aa,v,A];refine lp (α:=Nat) (fun i=>⟨[(3,.p (.int .i64 i)),(1,.ptr 0 [])],[.box false (.p (cA t))]⟩) (fun i=>i<=t.cs.length/\(t.cs.take i).any fH=false) (fun i=>t.cs.length-i) 0 (by simp) ?_;rintro i ⟨i1,i2⟩
 by_cases hi:i<t.cs.length
 ·have k:=aF.get hi;have f:=bX (i:=i) (by omega);have l:=Yi (t.at i);cases hf:fH (t.at i)
  ·rw[hf]at l;simp[hi,k,aa];refine Go.aj.c1 l ?_;simp[f,aa];exact rd (i+1) ⟨hi,by rw[uv k,i2,hf];rfl⟩
  ·rw[hf]at l;have:t.cs.any fH=true:=b5.2 ⟨t.at i,b1 k,hf⟩;rw[if_pos this];simp[hi,k,aa];refine Go.aj.c1 l ?_;simp[aa]
 have:i=t.cs.length:=by omega
 subst this;rw[List.take_length]at i2;have x:∀p∈t.cs,fq p:=fun p I=>Fs (by
  cases h:fH p
  ·rfl
  ·rw[b5.2 ⟨p,I,h⟩]at i2;cases i2)
 have E:=RV t s x;rw[i2,if_neg (by decide)];simp[aa];refine Go.aj.c1 E ?_;cases R:t.fW
 ·simp[aa]
 rw[if_neg (by decide)];have u:(t.bF<1\/1000<t.bF)\/(¬t.bF<1/\¬1000<t.bF):=by omega
 rcases u with u|⟨y,z⟩
 ·rw[if_pos u]
  by_cases e1:t.bF<1
  ·simp[e1,aa]
  ·have e2:1000<t.bF:=by omega
   simp[e1,e2,aa]
 rw[if_neg (by omega)]
 by_cases c3:12<t.bc.length
 ·have cI:(12:Int)<t.bc.length:=by omega
  rw[if_pos c3];simp[y,z,cI,aa]
 have B:¬(12:Int)<t.bc.length:=by omega
 rw[if_neg c3];simp[y,z,B,aa];refine lp (α:=Nat) (fun i=>⟨[(4,.p (.int .i64 i)),(1,.ptr 0 [])],[.box false (.p (cA t))]⟩) (fun i=>i<=t.bc.length/\∀j,j<i->gK (ij t.cs.length) t.bc j=0) (fun i=>t.bc.length-i) 0 (by simp) ?_;rintro i ⟨k1,k2⟩
 by_cases hk:i<t.bc.length
 ·have gk:=aF.lB hk;have f:=bX (i:=i) (by omega);have b:=Rt t i hk M s J (fun j H=>by
   have:=k2 j H;rw[gK,aF.lB (by omega)]at this;exact Fu this)
  by_cases he:ij t.cs.length (t.bc.take i) (t.pk i)=0
  ·rw[he]at b;simp[hk,aa];refine Go.aj.c2 b ?_;simp[f,aa];exact rd (i+1) ⟨hk,uw k2 gk he⟩
  ·have G:=ux k2 gk he;rw[G,if_pos he];simp[hk,aa];refine Go.aj.c2 b ?_;simp[he,aa]
 have:i=t.bc.length:=by omega
 subst this;have F:=oB.2 k2;rw[F,if_neg (by decide)]
 by_cases c4:256<t.az.length
 ·have cI:(256:Int)<t.az.length:=by omega
  rw[if_pos c4];simp[cI,aa]
 have C:¬(256:Int)<t.az.length:=by omega
 rw[if_neg c4];simp[C,aa];refine lp (α:=Nat) (fun i=>⟨[(6,.p (.int .i64 i)),(1,.ptr 0 [])],[.box false (.p (cA t))]⟩) (fun i=>i<=t.az.length/\∀j,j<i->gK (iB t) t.az j=0) (fun i=>t.az.length-i) 0 (by simp) ?_;rintro i ⟨s1,s2⟩
 by_cases hs:i<t.az.length
 ·have a:=aF.fx hs;have f:=bX (i:=i) (by omega);obtain⟨P,Q⟩:=K _ (b1 a);have c:=Au (t.sp i).name P.1;have m:=AU t (t.sp i).name N;have b:=sx (t.sp i).pt Q;have w:=aFN hs;have g:iB t (t.az.take i) (t.sp i)≠0->jU (iB t) t.az=iB t (t.az.take i) (t.sp i):=ux s2 a;have O:iB t (t.az.take i) (t.sp i)=0->∀j,j<i+1->gK (iB t) t.az j=0:=uw s2 a;have ev:iB t (t.az.take i) (t.sp i)=if isName (t.sp i).name=false then 8 else if(t.az.take i).any (fun o=>decide (o.name=(t.sp i).name))=true then 9 else if dU (t.sp i).pt≠0 then dU (t.sp i).pt else if t.on (vP (t.sp i).pt)<0 then 16 else 0:=rfl
  cases n:isName (t.sp i).name
  ·rw[n]at c;rw[n,if_pos rfl]at ev;rw[g (by rw[ev];decide),ev];simp[hs,a,aa];refine Go.aj.c1 c ?_;simp[aa]
  rw[n]at c;rw[n,if_neg (by decide)]at ev
  by_cases e:kW t (t.sp i).name<i
  ·rw[if_pos (w.1 e)]at ev;rw[g (by rw[ev];decide),ev];simp[hs,a,aa];refine Go.aj.c1 c ?_;simp[aa];refine Go.aj.c2 m ?_;simp[e,aa]
  rw[if_neg (fun h=>e (w.2 h))]at ev
  by_cases d:dU (t.sp i).pt=0
  case neg=>
   rw[if_pos d]at ev;rw[g (by rw[ev];exact d),ev];simp[hs,a,aa];refine Go.aj.c1 c ?_;simp[aa];refine Go.aj.c2 m ?_;simp[e,aa];refine Go.aj.c1 b ?_;simp[d,aa]
  rw[if_neg (by simp[d])]at ev;obtain⟨g1,g2⟩:=nE d;have r:=DL t (vP (t.sp i).pt) s x ⟨(iA g1).mono (by decide),(iA g2).mono (by decide)⟩;have D:eV (vP (t.sp i).pt)=fM (t.sp i).pt:=by
   rw[eV,vP];dsimp only;rw[(jr g1).1,(jr g2).1]
  rw[D]at r;rw[d]at b
  by_cases q:t.on (vP (t.sp i).pt)<0
  ·rw[if_pos q]at ev;rw[g (by rw[ev];decide),ev];simp[hs,a,aa];refine Go.aj.c1 c ?_;simp[aa];refine Go.aj.c2 m ?_;simp[e,aa];refine Go.aj.c1 b ?_;simp[aa];refine Go.aj.c2 r ?_;simp[q,aa]
  ·rw[if_neg q]at ev;simp[hs,a,aa];refine Go.aj.c1 c ?_;simp[aa];refine Go.aj.c2 m ?_;simp[e,aa];refine Go.aj.c1 b ?_;simp[aa];refine Go.aj.c2 r ?_;simp[q,f,aa];exact rd (i+1) ⟨hs,O ev⟩
 ·have:i=t.az.length:=by omega
  subst this;rw[oB.2 s2];simp[aa]
open Go.Proofs Go.Proofs.YtenbmieafgdjaaaGreatDoor
section
variable{H:Type}{W:av}{ad:Nat->Prop}
theorem As:∀d:ao H,1<=Rows.uptoBulk d:=by
 intro d;cases d with
 |lit l=>cases l<;>simp[Rows.uptoBulk]
 |_=>simp[Rows.uptoBulk]
theorem Az{α:Type}{n:Nat}{t e:TypeId}{F:α->PV}{ok:α->Prop}(g:prog.underlying t=some (.slice e))
 (p:∀(d:ao H),(∃c,aP prog W ad (bB prog n e d) c)->Rows.uptoBulk d<=1048576->∃a,bB prog n e d=F a/\ok a/\2<=Rows.uptoBulk d)
 {d:ao H}(h:∃cs,aP prog W ad (bB prog (n+1) t d) cs)(k:Rows.uptoBulk d<=1048576):∃l:List α,bB prog (n+1) t d=.seq (l.map F)/\(∀a∈l,ok a)/\l.length<=1000000:=by
 obtain⟨cs,h⟩:=h;cases d with
 |nil=>exact⟨[],by simp[bB,g],(fun _ h=>nomatch h),by simp⟩
 |slice f sp=>
  simp only[bB,g,aP]at h⊢;have i:∀e'∈f.map (bB prog n e),∃c,aP prog W ad e' c:=by
   rcases h with⟨h,_⟩|⟨_,_,_,_,w,h,_⟩
   ·rw[h];intro _ h;cases h
   ·exact Fz h
  have key:∀f:List (ao H),(∀e'∈f.map (bB prog n e),∃c,aP prog W ad e' c)->Rows.uptoBulkAll f<=1048576->∃l:List α,f.map (bB prog n e)=l.map F/\(∀a∈l,ok a)/\2*l.length<=Rows.uptoBulkAll f:=by
   intro f
   induction f with
   |nil=>intro _ _;exact⟨[],rfl,(fun _ h=>nomatch h),by simp⟩
   |cons d r v=>
    intro i k;rw[Rows.uptoBulkAll]at k⊢;obtain⟨a,q,u,m⟩:=p d (i _ List.mem_cons_self) (by omega);obtain⟨l,j,o,y⟩:=v (fun e' s=>i e' (List.mem_cons_of_mem _ s)) (by omega);refine⟨a::l,by simp only[b2];rw[q,j],fun x hx=>?_,by rw[List.length_cons];omega⟩;rcases db.1 hx with rfl|hx
    ·exact u
    ·exact o x hx
  rw[Rows.uptoBulk]at k;obtain⟨l,j,m,o⟩:=key f i (by omega);exact⟨l,by rw[j],m,by omega⟩
 |lit l=>simp only[bB,g,aP]at h
 |ptr d=>simp only[bB,g,aP]at h
 |agg l=>simp only[bB,g,aP]at h
 |iface a b=>simp only[bB,g,aP]at h
 |map l=>simp only[bB,g,aP]at h
 |held a=>simp only[bB,g,aP]at h
theorem xa{n:Nat}{d:ao H}(h:∃cs,aP prog W ad (bB prog (n+1) 9 d) cs)(a:Rows.uptoBulk d<=1048576):∃s:List Nat,bB prog (n+1) 9 d=.str s/\gX s:=by
 obtain⟨cs,h⟩:=h;cases d with
 |lit l=>
  cases l with
  |string bytes=>
   refine⟨bytes.map (·.toNat),by simp only[bB,uj],?_,?_⟩
   ·rw[Rows.uptoBulk]at a;rw[List.length_map];omega
   ·intro c hc;obtain⟨u,_,rfl⟩:=cv.1 hc;exact u.toNat_lt
  |_=>simp only[bB,uj,aP]at h
 |_=>simp only[bB,uj,aP]at h
theorem aG9:∃a b:ax,prog.underlying 61=some (.struct #[a,b])/\a.type=3/\b.type=3:=⟨_,_,underlying61,rfl,rfl⟩
theorem QY:prog.underlyingId 61=60:=by kernel_rfl
theorem RX{m n:Nat}(j:m=n+1){d:ao H}(h:∃cs,aP prog W ad (bB prog (m+1) 61 d) cs)(o:Rows.uptoBulk d<=1048576):∃p:dS,bB prog (m+1) 61 d=cN p/\True/\2<=Rows.uptoBulk d:=by
 obtain⟨cs,h⟩:=h;obtain⟨f0,f1,f,t0,t1⟩:=aG9;cases d with
 |agg l=>
  simp only[bB,f,aP]at h⊢;obtain⟨q,k,e,c,_⟩:=h;rw[QY,aGs]at e;cases e
  match l,c with
  |[],c=>simp[aY]at c
  |[x],c=>simp[aY]at c
  |x::y::r,c=>
   have:=As x;simp only[cb,b2,aY,cc,b4,t0,t1]at c⊢;obtain⟨c0,_,_,g1,_,c1,_,_,g2,_⟩:=c;subst j;obtain⟨a,g⟩:=sf (n:=n) x c0 g1;obtain⟨b,i⟩:=sf (n:=n) y c1 g2;refine⟨⟨a,b⟩,by rw[g,i,QY];rfl,trivial,?_⟩;rw[Rows.uptoBulk,Rows.uptoBulkAll];omega
 |_=>simp only[bB,f,aP]at h
theorem aG7:∃a b f2 f3:ax,prog.underlying 110=some (.struct #[a,b,f2,f3])/\a.type=9/\b.type=3/\f2.type=45/\f3.type=45:=⟨_,_,_,_,underlying110,rfl,rfl,rfl,rfl⟩
theorem QW:prog.underlyingId 110=109:=by kernel_rfl
theorem RC{m n:Nat}(q:m=n+1){d:ao H}(h:∃cs,aP prog W ad (bB prog (m+1) 110 d) cs)(o:Rows.uptoBulk d<=1048576):∃p:dN,bB prog (m+1) 110 d=fh p/\rR p/\2<=Rows.uptoBulk d:=by
 obtain⟨cs,h⟩:=h;obtain⟨f0,f1,f2,f3,g,t0,t1,t2,t3⟩:=aG7;cases d with
 |agg l=>
  have e:∀x∈l,Rows.uptoBulk x<=1048576:=fun x hx=>by
   have:=pP.wo hx;rw[Rows.uptoBulk]at o;omega
  simp only[bB,g,aP]at h⊢;obtain⟨B,A,f,c,_⟩:=h;rw[QW,aF9]at f;cases f
  match l,c with
  |[],c=>simp[aY]at c
  |[x],c=>simp[aY]at c
  |[x,y],c=>simp[aY]at c
  |[x,y,z],c=>simp[aY]at c
  |x::y::z::w::r,c=>
   have:=As x;simp only[cb,b2,aY,cc,b4,t0,t1,t2,t3]at c⊢;obtain⟨c0,_,_,g0,_,c1,_,_,g1,_,c2,_,_,g2,_,c3,_,_,g3,_⟩:=c;subst q;obtain⟨a,i,k⟩:=xa (n:=n) ⟨c0,g0⟩ (e x (by simp));obtain⟨b,j⟩:=sf (n:=n) y c1 g1;obtain⟨u,eu,s⟩:=zp (n:=n) ⟨c2,g2⟩ (e z (by simp));obtain⟨v,ev,t⟩:=zp (n:=n) ⟨c3,g3⟩ (e w (by simp));refine⟨⟨a,b,u,v⟩,by rw[i,j,eu,ev,QW];rfl,⟨k,s,t⟩,?_⟩;rw[Rows.uptoBulk,Rows.uptoBulkAll];omega
 |_=>simp only[bB,g,aP]at h
theorem aHc:∃a b:ax,prog.underlying 49=some (.struct #[a,b])/\a.type=9/\b.type=47:=⟨_,_,underlying49,rfl,rfl⟩
theorem QZ:prog.underlyingId 49=48:=by kernel_rfl
theorem RW{m n:Nat}(s:m=n+2){d:ao H}(h:∃cs,aP prog W ad (bB prog (m+1) 49 d) cs)(o:Rows.uptoBulk d<=1048576):∃p:dQ,bB prog (m+1) 49 d=cr p/\rS p/\2<=Rows.uptoBulk d:=by
 obtain⟨cs,h⟩:=h;obtain⟨f0,f1,g,t0,t1⟩:=aHc;cases d with
 |agg l=>
  have f:∀x∈l,Rows.uptoBulk x<=1048576:=fun x hx=>by
   have:=pP.wo hx;rw[Rows.uptoBulk]at o;omega
  simp only[bB,g,aP]at h⊢;obtain⟨u,t,e,c,_⟩:=h;rw[QZ,aGr]at e;cases e
  match l,c with
  |[],c=>simp[aY]at c
  |[x],c=>simp[aY]at c
  |x::y::r,c=>
   have:=As x;simp only[cb,b2,aY,cc,b4,t0,t1]at c⊢;obtain⟨c0,_,_,g1,_,c1,_,_,g2,_⟩:=c;subst s;obtain⟨a,i,k⟩:=xa (n:=n+1) ⟨c0,g1⟩ (f x (by simp));obtain⟨b,j,q⟩:=SX (n:=n) ⟨c1,g2⟩ (f y (by simp));refine⟨⟨a,b⟩,by rw[i,j,QZ];rfl,⟨k,q⟩,?_⟩;rw[Rows.uptoBulk,Rows.uptoBulkAll];omega
 |_=>simp only[bB,g,aP]at h
theorem aHd:∃a b f2 f3:ax,prog.underlying 26=some (.struct #[a,b,f2,f3])/\a.type=22/\b.type=3/\f2.type=23/\f3.type=24:=⟨_,_,_,_,underlying26,rfl,rfl,rfl,rfl⟩
theorem Q0:prog.underlyingId 26=25:=by kernel_rfl
theorem aGx{m n:Nat}(p:m=n+4){d:ao H}(h:∃cs,aP prog W ad (bB prog (m+1) 26 d) cs)(e:Rows.uptoBulk d<=1048576):∃t:aF,bB prog (m+1) 26 d=cA t/\True/\kY t:=by
 obtain⟨cs,h⟩:=h;obtain⟨f0,f1,f2,f3,j,t0,t1,t2,t3⟩:=aHd;cases d with
 |agg l=>
  have g:∀x∈l,Rows.uptoBulk x<=1048576:=fun x hx=>by
   have:=pP.wo hx;rw[Rows.uptoBulk]at e;omega
  simp only[bB,j,aP]at h⊢;obtain⟨E,D,i,c,_⟩:=h;rw[Q0,aGg]at i;cases i
  match l,c with
  |[],c=>simp[aY]at c
  |[x],c=>simp[aY]at c
  |[x,y],c=>simp[aY]at c
  |[x,y,z],c=>simp[aY]at c
  |x::y::z::w::r,c=>
   simp only[cb,b2,aY,cc,b4,t0,t1,t2,t3]at c⊢;obtain⟨c0,_,_,g0,_,c1,_,_,g1,_,c2,_,_,g2,_,c3,_,_,g3,_⟩:=c;subst p;obtain⟨a,k,_,A⟩:=Az (n:=n+3) aG2 (F:=cN) (ok:=fun _=>True) (fun d f e=>RX (n:=n+1) rfl f e) ⟨c0,g0⟩ (g x (by simp));obtain⟨b,o⟩:=sf (n:=n+3) y c1 g1;obtain⟨u,eu,q,B⟩:=Az (n:=n+3) aG3 (F:=fh) (ok:=rR) (fun d f e=>RC (n:=n+1) rfl f e) ⟨c2,g2⟩ (g z (by simp));obtain⟨v,ev,s,C⟩:=Az (n:=n+3) aG6 (F:=cr) (ok:=rS) (fun d f e=>RW (n:=n) rfl f e) ⟨c3,g3⟩ (g w (by simp));exact⟨⟨a,b,u,v⟩,by rw[k,o,eu,ev,Q0];rfl,trivial,A,B,C,q,s⟩
 |_=>simp only[bB,j,aP]at h
theorem GH{d:ao H}(h:∃cs,aP prog W ad (bB prog 8 26 d) cs)(a:Rows.uptoBulk d<=1048576):∃t:aF,bB prog 8 26 d=cA t/\True/\kY t:=aGx (n:=3) rfl h a
end
section
variable{H:Type}{W:av}{ad:Nat->Prop}
theorem aG0:prog.underlyingId 27=27:=by kernel_rfl
structure Am where
 a:List Nat
 b:List Nat
def Pa(w:Am):PV:=.st 27 [.str w.a,.str w.b]
theorem aFl{m:Nat}(j:m=7){d:ao H}(h:∃cs,aP prog W ad (bB prog (m+1) 27 d) cs)(i:Rows.uptoBulk d<=1048576):∃w:Am,bB prog (m+1) 27 d=Pa w/\True/\gX w.a/\gX w.b:=by
 obtain⟨cs,h⟩:=h;cases d with
 |agg l=>
  have e:∀x∈l,Rows.uptoBulk x<=1048576:=fun x hx=>by
   have:=pP.wo hx;rw[Rows.uptoBulk]at i;omega
  simp only[bB,Q1,aG0,aP,aGo]at h⊢;obtain⟨p,o,g,c,_⟩:=h;cases g
  match l,c with
  |[],c=>simp[aY]at c
  |[_],c=>simp[aY]at c
  |_::_::_::_,c=>simp[aY]at c
  |[a,b],c=>
   simp only[b2,b4,aY]at c⊢;obtain⟨c0,_,_,g0,_,c1,_,_,g1,_⟩:=c;subst j;obtain⟨x,ex,hx⟩:=xa (n:=6) ⟨c0,g0⟩ (e a (by simp));obtain⟨y,f,k⟩:=xa (n:=6) ⟨c1,g1⟩ (e b (by simp));exact⟨⟨x,y⟩,by rw[ex,f];rfl,trivial,hx,k⟩
 |_=>simp only[bB,Q1,aP]at h
theorem aFk{d:ao H}(h:∃cs,aP prog W ad (bB prog 8 27 d) cs)(c:Rows.uptoBulk d<=1048576):∃w:Am,bB prog 8 27 d=Pa w/\True/\gX w.a/\gX w.b:=aFl rfl h c
theorem aGV:prog.underlyingId 28=28:=by kernel_rfl
structure Ak where
 a:Int
 b:Int
def O7(w:Ak):PV:=.st 28 [.int .i64 w.a,.int .i64 w.b]
theorem ZR{m:Nat}(g:m=7){d:ao H}(h:∃cs,aP prog W ad (bB prog (m+1) 28 d) cs)(j:Rows.uptoBulk d<=1048576):∃w:Ak,bB prog (m+1) 28 d=O7 w/\True/\True:=by
 obtain⟨cs,h⟩:=h;cases d with
 |agg l=>
  simp only[bB,Q2,aGV,aP,aGp]at h⊢;obtain⟨k,i,f,c,_⟩:=h;cases f
  match l,c with
  |[],c=>simp[aY]at c
  |[_],c=>simp[aY]at c
  |_::_::_::_,c=>simp[aY]at c
  |[a,b],c=>
   simp only[b2,b4,aY]at c⊢;obtain⟨c0,_,_,g0,_,c1,_,_,g1,_⟩:=c;subst g;obtain⟨x,ex⟩:=sf (n:=6) a c0 g0;obtain⟨y,e⟩:=sf (n:=6) b c1 g1;exact⟨⟨x,y⟩,by rw[ex,e];rfl,trivial,trivial⟩
 |_=>simp only[bB,Q2,aP]at h
theorem HH{d:ao H}(h:∃cs,aP prog W ad (bB prog 8 28 d) cs)(a:Rows.uptoBulk d<=1048576):∃w:Ak,bB prog 8 28 d=O7 w/\True/\True:=ZR rfl h a
end
namespace Hk
mutual
def rW:PV->PV->Bool
 | .int .i64 a,.int .i64 b=>n7 a b
 | .int .u64 a,.int .u64 b=>n7 a b
 | .bool a,.bool b=>a==b
 | .str a,.str b=>rV a b
 | .aN,.aN=>true
 | .fw,.fw=>true
 | .bL f a,.bL g b=>bif f==g then lC a b else false
 | .seq a,.seq b=>lC a b
 | .eJ a,.eJ b=>ue a b
 | .st u a,.st v b=>bif dk u v then lC a b else false
 | .aE a,.aE b=>lC a b
 | .func f a b,.func g c d=>bif dk f g then(bif lC a c then lC b d else false)else false
 | .ct a,.ct b=>rW a b
 |_,_=>false
def lC:List PV->List PV->Bool
 |[],[]=>true
 |a::l,b::m=>bif rW a b then lC l m else false
 |_,_=>false
def ue:List (PV×PV)->List (PV×PV)->Bool
 |[],[]=>true
 |(a,c)::l,(b,d)::m=>bif rW a b then(bif rW c d then ue l m else false)else false
 |_,_=>false
end
mutual
theorem vx:∀{a b:PV},rW a b=true->a=b
 |a,b,h=>by
  unfold rW at h
  split at h
  ·rw[y7 h]
  ·rw[y7 h]
  ·rw[eq_of_beq h]
  ·rw[Cu h]
  ·rfl
  ·rfl
  ·rename_i f a g b;cases hf:f==g
   ·rw[hf]at h;cases h
   ·rw[hf,cond_true]at h;rw[eq_of_beq hf,pc h]
  ·rw[pc h]
  ·rw[LL h]
  ·simp only[ab]at h
   split at h
   ·rename_i i;rw[dg i,pc h]
   ·cases h
  ·rw[pc h]
  ·simp only[ab]at h
   split at h
   ·rename_i i
    split at h
    ·rename_i e;rw[dg i,pc e,pc h]
    ·cases h
   ·cases h
  ·rw[vx h]
  ·cases h
theorem pc:∀{a b:List PV},lC a b=true->a=b
 |[],[],_=>rfl
 |[],_::_,h=>by simp[lC]at h
 |_::_,[],h=>by simp[lC]at h
 |a::l,b::m,h=>by
  simp only[lC,ab]at h
  split at h
  ·rename_i e;rw[vx e,pc h]
  ·cases h
theorem LL:∀{a b:List (PV×PV)},ue a b=true->a=b
 |[],[],_=>rfl
 |[],_::_,h=>by simp[ue]at h
 |_::_,[],h=>by simp[ue]at h
 |(a,c)::l,(b,d)::m,h=>by
  simp only[ue,ab]at h
  split at h
  ·rename_i e
   split at h
   ·rename_i j;rw[vx e,vx j,LL h]
   ·cases h
  ·cases h
end
def tG:List (ap×List PV×PV)->ap->List PV->Option PV
 |[],f,vs=>hk f vs
 |(g,us,v)::r,f,vs=>bif dk g f then(bif lC us vs then some v else tG r f vs)else tG r f vs
def lE:List (ap×List PV×PV)->Prop
 |[]=>True
 |(g,us,v)::r=>aw prog g us v/\lE r
theorem Bm:∀{l m:List (ap×List PV×PV)},lE l->lE m->lE (l++m)
 |[],_,_,h=>h
 |_::_,_,h,a=>⟨h.1,Bm h.2 a⟩
theorem yl:∀{l:List (ap×List PV×PV)},lE l->∀f vs v,tG l f vs=some v->aw prog f vs v
 |[],_,f,vs,v,h=>ZN h
 |(g,us,w)::r,a,f,vs,v,h=>by
  simp only[tG,ab]at h
  split at h
  ·rename_i b
   split at h
   ·rename_i hs;simp only[ec]at h;subst h;rw[<-pc hs,<-dg b];exact a.1
   ·exact yl a.2 f vs v h
  ·exact yl a.2 f vs v h
def D5(v:PV):Option PV->Bool
 |some w=>rW v w
 |none=>false
theorem GK{v:PV}{o:Option PV}(h:D5 v o=true):o=some v:=by
 cases o with
 |none=>cases h
 |some w=>rw[vx h]
def aDX:ap->ap->Nat:=fun _ _=>0
theorem fZ(l:List (ap×List PV×PV))(a:lE l){f:ap}{vs:List PV}{v:PV}(h:D5 v (QO (tG l) aDX f vs)=true):aw prog f vs v:=Mf (yl a) (GK h)
end Hk
end Go.aj
namespace Go.Proofs
open Go.Shelf
def Tryz.Gt:a1:=⟨fun|156=>227|165=>280|166=>150|169=>230|240=>226|241=>322|276=>279|277=>361|n=>n,fun|31=>82|9=>9|3=>3|4=>4|0=>0|20=>20|72=>227|76=>230|70=>224|37=>225|75=>229|127=>330|164=>326|5=>5|80=>288|n=>n,fun|n=>n⟩
theorem Tryz.GX:Go.Proofs.Lays.n156 prog Gt:={
 mixed:=by kernel_rfl
 f156:=func227.trans (congrArg some (by kernel_rfl))
 f165:=func280.trans (congrArg some (by kernel_rfl))
 f166:=func150.trans (congrArg some (by kernel_rfl))
 f169:=func230.trans (congrArg some (by kernel_rfl))
 f240:=func226.trans (congrArg some (by kernel_rfl))
 f241:=func322.trans (congrArg some (by kernel_rfl))
 f276:=func279.trans (congrArg some (by kernel_rfl))
 f277:=func361.trans (congrArg some (by kernel_rfl))
 t0:=underlying0
 a0:=isAgg0
 z0:=sizeOf0
 v0:=zeroValue0
 t3:=underlying3
 a3:=isAgg3
 z3:=sizeOf3
 v3:=zeroValue3
 t4:=underlying4
 a4:=isAgg4
 z4:=sizeOf4
 v4:=zeroValue4
 t9:=underlying9
 a9:=isAgg9
 z9:=sizeOf9
 v9:=zeroValue9
 t20:=underlying20
 a20:=isAgg20
 z20:=sizeOf20
 v20:=zeroValue20
 t31:=underlying82
 a31:=isAgg82
 z31:=sizeOf82
 v31:=zeroValue82
 t37:=underlying225
 a37:=isAgg225
 z37:=sizeOf225
 v37:=zeroValue225
 t70:=underlying224
 a70:=isAgg224
 z70:=sizeOf224
 v70:=zeroValue224
 t72:=underlying227
 a72:=isAgg227
 z72:=sizeOf227
 v72:=zeroValue227
 t75:=underlying229
 a75:=isAgg229
 z75:=sizeOf229
 v75:=zeroValue229
 t76:=underlying230
 a76:=isAgg230
 z76:=sizeOf230
 v76:=zeroValue230
 t127:=underlying330
 a127:=isAgg330
 z127:=sizeOf330
 v127:=zeroValue330
 t164:=underlying326
 a164:=isAgg326
 z164:=sizeOf326
 v164:=zeroValue326}
theorem Tryz.FM:Builder.Extra prog Gt:={
 sizeBuilder:=by kernel_rfl
 liesBuilder:=by kernel_rfl
 t5:=underlying5
 a5:=isAgg5
 z5:=sizeOf5
 v5:=zeroValue5
 infoByte:=by kernel_rfl
 cellsByte:=by kernel_rfl
 sizeByte:=by kernel_rfl
 neB5:=by decide}
open Go.RowKit in
theorem Tryz.strings_Join_none(a:Option Addr)(c:Nat)(sep:ByteArray)(w:av):
 ay prog 227 #[.slice a 0 c,.string sep] w fun e w'=>e=.returned (.string ⟨#[]⟩)/\w'=w:=Any.strings_Join_none GX FM a c sep w
open Go.RowKit in
theorem Tryz.strings_Join(bk o c:Nat)(xs:List ByteArray)(sep:ByteArray)(w:av)(hcells:∀(j:Nat) x,xs[j]?=some x->w.cell? ⟨bk,o+j,none⟩=some (.string x))(hbk:bk<w.heap.size)(hN:xs.length<=140737488355328)(hcap:xs.length<=c)(hlen:(Lib.join (xs.map (·.data.toList)) sep.data.toList).length<=140737488355328):
 ay prog 227 #[.slice (some ⟨bk,o,none⟩) xs.length c,.string sep] w fun e w'=>e=.returned (.string ⟨(Lib.join (xs.map (·.data.toList)) sep.data.toList).toArray⟩)/\Below w.heap.size w w':=Any.strings_Join GX FM bk o c xs sep w hcells hbk hN hcap hlen
def Tryz.Sc:a1:=⟨fun|106=>218|213=>268|265=>314|n=>n,fun|9=>9|3=>3|n=>n,fun|n=>n⟩
theorem Tryz.aB9:Go.Proofs.Lays.n106 prog Sc:={
 mixed:=by kernel_rfl
 f106:=func218.trans (congrArg some (by kernel_rfl))
 f213:=func268.trans (congrArg some (by kernel_rfl))
 f265:=func314.trans (congrArg some (by kernel_rfl))
 t3:=underlying3
 a3:=isAgg3
 z3:=sizeOf3
 v3:=zeroValue3
 t9:=underlying9
 a9:=isAgg9
 z9:=sizeOf9
 v9:=zeroValue9}
open Go.RowKit in
theorem Tryz.strings_Compare(a b:ByteArray)(w:av):
 ay prog 218 #[.string a,.string b] w fun e w'=>e=.returned (.int .i64 (Lib.compareBytes a.data.toList b.data.toList))/\w'=w:=Any.strings_Compare aB9 a b w
def Tryz.Sb:a1:=⟨fun|138=>328|195=>366|218=>368|143=>329|219=>317|217=>352|225=>353|224=>354|267=>355|266=>375|314=>376|n=>n,fun|9=>9|3=>3|4=>4|5=>5|0=>0|46=>322|146=>400|51=>354|n=>n,fun|1=>0|n=>n⟩
theorem Tryz.aCl:Go.Proofs.Lays.n138 prog Sb:={
 mixed:=by kernel_rfl
 f138:=func328.trans (congrArg some (by kernel_rfl))
 f143:=func329.trans (congrArg some (by kernel_rfl))
 f195:=func366.trans (congrArg some (by kernel_rfl))
 f217:=func352.trans (congrArg some (by kernel_rfl))
 f218:=func368.trans (congrArg some (by kernel_rfl))
 f219:=func317.trans (congrArg some (by kernel_rfl))
 f224:=func354.trans (congrArg some (by kernel_rfl))
 f225:=func353.trans (congrArg some (by kernel_rfl))
 f266:=func375.trans (congrArg some (by kernel_rfl))
 f267:=func355.trans (congrArg some (by kernel_rfl))
 f314:=func376.trans (congrArg some (by kernel_rfl))
 t0:=underlying0
 a0:=isAgg0
 z0:=sizeOf0
 v0:=zeroValue0
 t3:=underlying3
 a3:=isAgg3
 z3:=sizeOf3
 v3:=zeroValue3
 t4:=underlying4
 a4:=isAgg4
 z4:=sizeOf4
 v4:=zeroValue4
 t5:=underlying5
 a5:=isAgg5
 z5:=sizeOf5
 v5:=zeroValue5
 t9:=underlying9
 a9:=isAgg9
 z9:=sizeOf9
 v9:=zeroValue9
 t46:=underlying322
 a46:=isAgg322
 z46:=sizeOf322
 v46:=zeroValue322
 t51:=underlying354
 a51:=isAgg354
 z51:=sizeOf354
 v51:=zeroValue354
 t146:=underlying400
 a146:=isAgg400
 z146:=sizeOf400
 v146:=zeroValue400
 g1:=by kernel_rfl}
open Go.RowKit Go.Lib in
theorem Tryz.strings_Count_one(s:ByteArray)(c:UInt8)(w:av):
 ay prog 328 #[.string s,.string ⟨#[c]⟩] w fun e w'=>e=.returned (.int .i64 (Lib.countByte s.data.toList c))/\w'=w:=Any.strings_Count_one aCl s c w
end Go.Proofs
namespace Go.Proofs
def Tryz.Gm:a1:=⟨fun|4=>263|n=>n,fun|22=>22|25=>61|3=>3|4=>4|9=>9|20=>20|0=>0|2=>3|n=>n,fun|n=>n⟩
theorem Tryz.ZJ:Go.Proofs.Lays8.n4 prog Gm:={
 mixed:=by kernel_rfl
 f4:=⟨f263.name,by decide,func263.trans (congrArg some (by kernel_rfl))⟩
 t0:=underlying0
 a0:=isAgg0
 z0:=sizeOf0
 v0:=zeroValue0
 t3:=underlying3
 a3:=isAgg3
 z3:=sizeOf3
 v3:=zeroValue3
 t4:=underlying4
 a4:=isAgg4
 z4:=sizeOf4
 v4:=zeroValue4
 t9:=underlying9
 a9:=isAgg9
 z9:=sizeOf9
 v9:=zeroValue9
 t20:=underlying20
 a20:=isAgg20
 z20:=sizeOf20
 v20:=zeroValue20
 t22:=underlying22
 a22:=isAgg22
 z22:=sizeOf22
 v22:=zeroValue22}
end Go.Proofs
