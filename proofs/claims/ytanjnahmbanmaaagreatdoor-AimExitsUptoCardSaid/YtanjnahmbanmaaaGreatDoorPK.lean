import Derived.Test.YtanjnahmbanmaaaGreatDoorPH
import Derived.Test.YtanjnahmbanmaaaGreatDoorPJ
/- Parts of a proof. -/
set_option linter.unusedSimpArgs false
set_option linter.unusedVariables false
set_option linter.unusedSectionVars false
open Go.Proofs.Tryz
open Bool renaming cond_eq_ite->ab, and_eq_true->ac, or_eq_true->am
open Go renaming FuncId->ao, DataW->ap, Field->av
open Go.IntKind renaming i64->ax
open Go.Utf8 renaming decode->ay
open Int renaming natCast_mul->aT, tmod_eq_emod_of_nonneg->a0, negSucc->a1, natCast_emod->a4, natCast_one->a5, natAbs_mul->a6, mul_nonneg->a7, ediv_one->a8
open List renaming getElem?_eq_getElem->a9, mem_of_getElem?->bb, getD_eq_getElem?_getD->bd, any_eq_true->be, map_cons->bi, zip_cons_cons->bl, zip_nil_left->bo, map_nil->bp, getElem?_take->bv, findIdx?_eq_some_iff_getElem->b0, mem_map->b1, mem_range->b2, findIdx?_eq_none_iff->b3, mem_iff_getElem->b4, range->b5, range_succ->cb, mem_cons->cc
open Nat renaming eq_of_beq_eq_true->ce, beq->ck, mul_ne_zero->cv, blt->cx, blt_eq->cy, gcd->c6, lt_of_lt_of_le->c9, lt_trans->da, div_one->db
open Option.some renaming injEq->dg
open Rat renaming divInt->dk, divInt_mul_divInt->dl, sub_add_cancel->dp, div_def->dq, zero_add->dx, divInt_add_divInt->dy, add_lt_add_right->dz, neg_divInt->ea, mul_nonneg->eb, inv_divInt->ec
namespace Go.az
open Go.Proofs
set_option maxHeartbeats 4000000
set_option maxRecDepth 100000
namespace Hk
def jY:Nat:=9223372036854775808
def xS:Nat:=1606938044258990275541962092341162602522202993782792835301376
def oQ{α:Type}(n:Nat)(f:Nat->α):α:=match n with
 |0=>f 0
 |k+1=>f (k+1)
theorem uE{α:Type}(n:Nat)(f:Nat->α):oQ n f=f n:=by cases n<;>rfl
def yP{α:Type}(z:Int)(f:Int->α):α:=match z with
 | .ofNat n=>oQ n fun n=>f (.ofNat n)
 | .negSucc n=>oQ n fun n=>f (.negSucc n)
theorem J6{α:Type}(z:Int)(f:Int->α):yP z f=f z:=by cases z<;>simp[yP,uE]
def oX:Int->Bool
 | .ofNat n=>cx n jY
 | .negSucc n=>cx (n+1) jY
theorem BN{z:Int}:oX z=true↔z.natAbs<9223372036854775808:=by
 cases z with
 |ofNat n=>simp only[oX,cy,jY];exact Iff.rfl
 |negSucc n=>simp only[oX,cy,jY];exact Iff.rfl
def nF:Int->Int->Bool
 | .ofNat a,.ofNat b=>ck a b
 | .negSucc a,.negSucc b=>ck a b
 |_,_=>false
theorem ya:∀{a b:Int},nF a b=true->a=b
 | .ofNat a,.ofNat b,h=>by simp only[nF]at h;rw[ce h]
 | .negSucc a,.negSucc b,h=>by simp only[nF]at h;rw[ce h]
 | .ofNat a,.negSucc b,h=>by simp[nF]at h
 | .negSucc a,.ofNat b,h=>by simp[nF]at h
def sQ(z:Int):Option PV:=bif oX z then some (eU z)else bif ck z.natAbs jY then none else some (jX z)
theorem xE{z:Int}{p:PV}(h:sQ z=some p)(m:Bool):eI ⟨z,m⟩=p:=by
 unfold sQ at h;rw[iS];rcases hs:oX z with _|_
 ·simp only[hs,cond_false]at h;rcases a:ck z.natAbs jY with _|_
  case true=>rw[a]at h;cases h
  ·have c:¬ck z.natAbs jY=true:=by rw[a];decide
   rw[a,cond_false]at h;simp only[dg]at h;have b:¬z.natAbs<9223372036854775808:=fun h=>by rw[BN.2 h]at hs;cases hs
   have d:z.natAbs≠9223372036854775808:=fun e=>c (by rw[e];rfl);rw[if_neg,h];simp only[NI.sm,am,decide_eq_true_eq,ac,not_or,not_and];exact⟨by omega,fun h=>by omega⟩
 ·simp only[hs,cond_true,dg]at h;have b:=BN.1 hs;rw[if_pos,h];simp only[NI.sm,am,decide_eq_true_eq,ac];exact .inl (by omega)
def vF:List PV->Option (List Nat)
 |[]=>some []
 | .int .u64 (.ofNat x)::r=>match vF r with
  |some l=>some (x::l)
  |none=>none
 |_=>none
theorem KP:∀{l:List PV}{a:List Nat},vF l=some a->l=a.map fun x:Nat=>PV.int .u64 x
 |[],a,h=>by simp only[vF,dg]at h;subst h;rfl
 |v::r,a,h=>by
  unfold vF at h
  split at h
  ·rename_i e;cases e
  ·rename_i x c e;cases e
   split at h
   ·rename_i l b;simp only[dg]at h;subst h;rw[KP b];rfl
   ·cases h
  ·cases h
def q7:List Nat->List Nat->Bool
 |[],[]=>true
 |x::a,y::b=>bif ck x y then q7 a b else false
 |_,_=>false
theorem BJ:∀{a b:List Nat},q7 a b=true->a=b
 |[],[],_=>rfl
 |[],_::_,h=>by simp[q7]at h
 |_::_,[],h=>by simp[q7]at h
 |x::a,y::b,h=>by
  simp only[q7,ab]at h
  split at h
  ·rename_i hx;rw[ce hx,BJ h]
  ·cases h
def yN:PV->Option Int
 | .st u [.int .i64 z,.aL]=>bif ck u 128 then(bif oX z then some z else none)else none
 | .st u [.int .i64 s,.seq l]=>match vF l with
  |some a=>oQ (iE wB a) fun n=>bif ck u 128&&(cx jY n&&q7 (aq wB n) a)then
   (bif nF s 1 then some (.ofNat n)else bif nF s (-1)then some (.negSucc (n-1))else none)else none
  |none=>none
 |_=>none
theorem Ka{p:PV}{z:Int}(h:yN p=some z):p=eI ⟨z,false⟩:=by
 unfold yN at h
 split at h
 ·rename_i u y;simp only[ab]at h
  split at h
  ·rename_i g
   split at h
   ·rename_i hs;simp only[dg]at h;subst h;rw[ce g];exact(xE (by rw[sQ,hs];rfl) false).symm
   ·cases h
  ·cases h
 ·rename_i u s l
  split at h
  ·rename_i i f;rw[uE]at h;have e:=KP f;generalize iE wB i=n at h;simp only[ab]at h
   split at h
   ·rename_i hc;simp only[ac,cy]at hc;obtain⟨b,j,c⟩:=hc;have d:=BJ c;have k:jY=9223372036854775808:=rfl;rw[ce b,e,<-d];have key:∀z:Int,z.natAbs=n->eI ⟨z,false⟩=jX z:=fun z m=>by
     refine xE ?_ false;have e1:oX z=false:=by
      rcases a:oX z with _|_
      ·rfl
      ·have:=BN.1 a;omega
     have e2:ck z.natAbs jY=false:=by
      rcases a:ck z.natAbs jY with _|_
      ·rfl
      ·have:=ce a;omega
     rw[sQ,e1,e2];rfl
    split at h
    ·rename_i hs;simp only[dg]at h;subst h;rw[ya hs,key _ rfl,jX,if_neg (by show¬((n:Int)<0);omega)];rfl
    ·split at h
     ·rename_i hs;simp only[dg]at h;subst h;rw[ya hs,key _ (by show n-1+1=n;omega),jX,if_pos (by omega)];have:(a1 (n-1)).natAbs=n:=by show n-1+1=n;omega
      rw[this];rfl
     ·cases h
   ·cases h
  ·cases h
 ·cases h
def Dd(n:Int)(d:Nat):Bool:=cx 0 d&&(cx n.natAbs xS&&(cx d xS&&ck (c6 n.natAbs d) 1))
def oP:PV->Option (Int×Nat)
 | .st u [a,b]=>match yN a,yN b with
  |some n,some (.ofNat d)=>bif ck u 130&&Dd n d then some (n,d)else none
  |_,_=>none
 |_=>none
def fr(n:Int)(d:Nat):NF:=⟨dk n d,false⟩
theorem Td:xS=2^200:=by decide
theorem BO{p:PV}{n:Int}{d:Nat}(h:oP p=some (n,d)):p=eF (fr n d)/\d≠0/\bt kB (fr n d).q:=by
 unfold oP at h
 split at h
 case h_2=>cases h
 rename_i u a b
 split at h
 case h_2=>cases h
 rename_i c d' g i;simp only[ab]at h
 split at h
 case isFalse=>cases h
 rename_i hc;simp only[dg,Prod.mk.injEq]at h;obtain⟨rfl,rfl⟩:=h;simp only[Dd,ac,cy]at hc;obtain⟨c1,c2,c3,c4,c5⟩:=hc;have f:=ce c5;have e:d'≠0:=by omega
 obtain⟨e1,e2⟩:=kZ (n:=c) e;rw[f]at e1 e2;simp only[a5,a8,db]at e1 e2;rw[Td]at c3 c4;refine⟨?_,e,(Bt e c3 c4).mono (by decide)⟩;rw[ce c1,Ka g,Ka i,eF];have g1:(fr c d').num=⟨c,false⟩:=by rw[NF.num,fr,e1]
 have g2:(fr c d').den=⟨(d':Int),false⟩:=by rw[NF.den,fr,e2];rfl
 rw[g1,g2];rfl
def mz(n:Int)(d:Nat):Option PV:=
 oQ (c6 n.natAbs d) fun g=>yP (n/g) fun n=>oQ (d/g) fun d=>match sQ n,sQ (.ofNat d)with
  |some a,some b=>some (.st 130 [a,b])
  |_,_=>none
theorem om{n:Int}{d:Nat}{p:PV}(f:d≠0)(h:mz n d=some p)(m:Bool):p=eF ⟨dk n d,m⟩:=by
 obtain⟨e1,e2⟩:=kZ (n:=n) f;simp only[mz,uE,J6]at h
 split at h
 case h_2=>cases h
 rename_i a b c e;simp only[dg]at h;subst h;rw[eF];have g1:(NF.num ⟨dk n d,m⟩)=⟨n/(c6 n.natAbs d:Nat),m⟩:=by rw[NF.num,e1]
 have g2:(NF.den ⟨dk n d,m⟩)=⟨((d/c6 n.natAbs d:Nat):Int),false⟩:=by rw[NF.den,e2];rfl
 rw[g1,g2,xE c,<-xE e false];rfl
def two(op:Int->Nat->Int->Nat->Option PV)(a b:PV):Option PV:=match oP a,oP b with
 |some (n,d),some (m,e)=>op n d m e
 |_,_=>none
theorem uI{op:Int->Nat->Int->Nat->Option PV}{a b p:PV}(h:two op a b=some p):
 ∃n d m e,a=eF (fr n d)/\b=eF (fr m e)/\d≠0/\e≠0/\bt kB (fr n d).q/\bt kB (fr m e).q/\op n d m e=some p:=by
 unfold two at h
 split at h
 case h_2=>cases h
 rename_i n d m e j k;obtain⟨c,a2,a3⟩:=BO j;obtain⟨f,g,i⟩:=BO k;exact⟨n,d,m,e,c,f,a2,g,a3,i,h⟩
def OL(n:Int)(d:Nat)(m:Int)(e:Nat):Option PV:=mz (n*e+m*d) (d*e)
def ON(n:Int)(d:Nat)(m:Int)(e:Nat):Option PV:=mz (n*e-m*d) (d*e)
def OM(n:Int)(d:Nat)(m:Int)(e:Nat):Option PV:=mz (n*m) (d*e)
def zh:Int->Int
 | .ofNat n=>bif ck n 0 then 0 else 1
 | .negSucc _=>-1
theorem Jq(z:Int):zh z=if z<0 then -1 else if z=0 then 0 else 1:=by
 cases z with
 |ofNat n=>
  rw[if_neg (by simp)];cases n with
  |zero=>rfl
  |succ n=>rw[if_neg (by simp;omega)];rfl
 |negSucc n=>rw[if_pos (by omega)];rfl
def Db(n:Int)(d:Nat)(m:Int)(e:Nat):Option PV:=some (.int .i64 (zh (n*e-m*d)))
def yX(n:Int)(d:Nat)(m:Int)(e:Nat):Option PV:=match m with
 | .ofNat k=>bif ck k 0 then none else mz (n*e) (d*k)
 | .negSucc k=>mz (-(n*e)) (d*(k+1))
theorem sO{d:Nat}(h:d≠0):(d:Int)≠0:=by omega
theorem WJ{n m:Int}{d e:Nat}{p:PV}(a:d≠0)(b:e≠0)(h:OL n d m e=some p):p=eF ((fr n d).add (fr m e)):=by
 rw[NF.add,fr,fr];dsimp only;rw[dy _ _ (sO a) (sO b)];have:=om (cv a b) h;rw[aT]at this;exact this _
theorem WM{n m:Int}{d e:Nat}{p:PV}(a:d≠0)(b:e≠0)(h:ON n d m e=some p):p=eF ((fr n d).sub (fr m e)):=by
 rw[NF.sub,NF.add,NF.neg,fr,fr];dsimp only;rw[ea,dy _ _ (sO a) (sO b)];have:=om (cv a b) h;rw[aT]at this;rw[Int.neg_mul,<-Int.sub_eq_add_neg];exact this _
theorem WL{n m:Int}{d e:Nat}{p:PV}(a:d≠0)(b:e≠0)(h:OM n d m e=some p):p=eF ((fr n d).mul (fr m e)):=by
 rw[NF.mul,fr,fr];dsimp only;rw[dl];have:=om (cv a b) h;rw[aT]at this;exact this _
theorem VC(x y:Rat):dG x y=if x-y<0 then -1 else if x-y=0 then 0 else 1:=by
 have b:x-y<0↔x<y:=by
  constructor
  ·intro h;have a:=(dz (c:=y)).2 h
   rwa [dp,dx]at a
  ·intro h;refine(dz (c:=y)).1 ?_
   rwa [dp,dx]
 have a:x-y=0↔x=y:=by
  constructor
  ·intro h;have d:=congrArg (·+y) h
   simpa[dp,dx]using d
  ·intro h;rw[h,Rat.sub_self]
 simp only[dG,b,a]
theorem AX(n:Int){d:Nat}(i:d≠0):(if dk n d<0 then(-1:Int)else if dk n d=0 then 0 else 1)=zh n:=by
 rw[Cp,Jq];obtain⟨e1,-⟩:=kZ (n:=n) i;have k:0<c6 n.natAbs d:=Nat.gcd_pos_of_pos_right _ (by omega);have j:((c6 n.natAbs d:Nat):Int)∣n:=by
  rw[Int.ofNat_dvd_left];exact Nat.gcd_dvd_left _ _
 obtain⟨c,hc⟩:=j;rw[e1];generalize c6 n.natAbs d=g at*;have a:(0:Int)<g:=by omega
 subst hc;rw[Int.mul_ediv_cancel_left _ (by omega)];have b:(g:Int)*c<0↔c<0:=by
  constructor
  ·intro h;refine Int.not_le.1 fun f=>?_;have:=a7 (Int.le_of_lt a) f;omega
  ·intro h;exact Int.mul_neg_of_pos_of_neg a h
 have e:(g:Int)*c=0↔c=0:=by
  rw[Int.mul_eq_zero];constructor
  ·rintro(h|h)
   ·omega
   ·exact h
  ·exact fun h=>.inr h
 simp only[b,e]
theorem WK{n m:Int}{d e:Nat}{p:PV}(a:d≠0)(b:e≠0)(h:Db n d m e=some p):p=.int .i64 (dG (fr n d).q (fr m e).q):=by
 simp only[Db,dg]at h;rw[<-h,VC,fr,fr];dsimp only;rw[Rat.divInt_sub_divInt _ _ (sO a) (sO b),<-aT,AX _ (cv a b)]
theorem Mb{n m:Int}{d e:Nat}{p:PV}(a:d≠0)(c:e≠0)(h:yX n d m e=some p):p=eF ((fr n d).div (fr m e))/\(fr m e).q≠0:=by
 have b:m≠0->(fr m e).q≠0:=fun g hq=>by
  rw[fr]at hq;dsimp only at hq;have:=AX m c;rw[hq,if_neg (by decide),if_pos rfl,Jq]at this
  split at this
  ·omega
  ·first
    |omega
    |(rw[if_neg g]at this;omega)
 rw[NF.div,fr,fr];dsimp only;unfold yX at h;cases m with
 |ofNat k=>
  simp only[ab]at h
  split at h
  ·cases h
  ·rename_i hk;have f:k≠0:=fun e=>hk (by rw[e];rfl);have:=om (cv a f) h;refine⟨?_,b (by show(k:Int)≠0;omega)⟩;have e:(dk n d:Rat)/dk (Int.ofNat k) e=dk (n*e) (d*k):=by
    rw[dq,ec,dl];rfl
   rw[e];rw[aT]at this;exact this _
 |negSucc k=>
  dsimp only at h;have:=om (cv a (Nat.succ_ne_zero k)) h;refine⟨?_,b (by omega)⟩;have e:(dk n d:Rat)/dk (a1 k) e=dk (-(n*e)) ((d:Int)*((k+1:Nat):Int)):=by
   rw[dq,ec,dl];rw[show a1 k= -((k+1:Nat):Int)from rfl,Int.mul_neg];rw[Rat.divInt_neg']
  rw[e];rw[aT]at this;exact this _
def yW:Nat->Nat->Nat
 |0,_=>0
 |f+1,n=>bif ck n 0 then 0 else yW f (n/10)+1
theorem We{a b:Nat}(h:a<b):cx a b=true:=by rw[cy];exact h
theorem yL{a b:Nat}(h:cx a b=true):a<b:=by rw[cy]at h;exact h
theorem LL:∀(f n:Nat),n<10^f->yW f n=nd n
 |0,n,h=>by
  have:n=0:=by simpa using h
  subst this;rw[nd];rfl
 |f+1,n,h=>by
  rw[yW,nd]
  by_cases a:n=0
  ·subst a;rfl
  ·have b:ck n 0=false:=by
    rcases c:ck n 0 with _|_
    ·rfl
    ·exact(a (ce c)).elim
   rw[b,cond_false,dif_neg a,LL f (n/10) (by rw[Nat.div_lt_iff_lt_mul (by omega)];rw[Nat.pow_succ]at h;exact h)]
def tg(n:Nat):List Nat:=oQ (yW 80 n) fun k=>bif cx 1 k then low k n else low 1 n
theorem yh{n:Nat}(h:n<10^80):tg n=aY n:=by
 rw[tg,uE,LL _ _ h,aY];rcases a:cx 1 (nd n)with _|_
 ·have:¬1<nd n:=fun b=>by rw[We b]at a;cases a
  rw[cond_false,Nat.max_eq_left (by omega)]
 ·have:1<nd n:=yL a;rw[cond_true,Nat.max_eq_right (by omega)]
def Dr:Int->List Nat
 | .ofNat n=>tg n
 | .negSucc n=>45::tg (n+1)
theorem aGJ{z:Int}(h:z.natAbs<10^80):Dr z=bI z:=by
 cases z with
 |ofNat n=>rw[bI,if_neg (by show¬((n:Int)<0);omega)];exact yh h
 |negSucc n=>rw[bI,if_pos (by omega)];exact congrArg (45::·) (yh h)
def Dq(n:Int)(d:Nat):List Nat:=bif ck d 1 then Dr n else Dr n++47::tg d
theorem IA{n:Int}{d:Nat}(a:d≠0)(b:c6 n.natAbs d=1):(fr n d).q.num=n/\(fr n d).q.den=d:=by
 obtain⟨e1,e2⟩:=kZ (n:=n) a;rw[b]at e1 e2;simp only[a5,a8,db]at e1 e2;exact⟨e1,e2⟩
theorem IG{p:PV}{n:Int}{d:Nat}(h:oP p=some (n,d)):c6 n.natAbs d=1/\n.natAbs<10^80/\d<10^80:=by
 unfold oP at h
 split at h
 case h_2=>cases h
 split at h
 case h_2=>cases h
 simp only[ab]at h
 split at h
 case isFalse=>cases h
 rename_i hc;simp only[dg,Prod.mk.injEq]at h;obtain⟨rfl,rfl⟩:=h;simp only[Dd,ac,cy]at hc;obtain⟨c1,c2,c3,c4,c5⟩:=hc;have a:xS<10^80:=by decide
 exact⟨ce c5,by omega,by omega⟩
theorem aGI{p:PV}{n:Int}{d:Nat}(h:oP p=some (n,d))(f:d≠0):Dq n d=br (fr n d).q:=by
 obtain⟨g,b,c⟩:=IG h;obtain⟨e1,e2⟩:=IA f g;rw[Dq,br,e1,e2,aGJ b,yh c];rcases a:ck d 1 with _|_
 ·rw[cond_false,if_neg (fun e=>by rw[e]at a;cases a)]
 ·rw[cond_true,if_pos (ce a)]
def oO:List Nat->Nat->Bool
 |[],_=>true
 |c::r,f=>match f with
  |0=>false
  |f+1=>bif cx c 256 then oO r f else false
theorem uQ:∀{s:List Nat}{f:Nat},oO s f=true->s.length<=f/\∀c∈s,c<256
 |[],_,_=>⟨Nat.zero_le _,fun c hc=>by cases hc⟩
 |c::r,0,h=>by simp[oO]at h
 |c::r,f+1,h=>by
  simp only[oO,ab]at h
  split at h
  ·rename_i hc;obtain⟨b,a⟩:=uQ h;refine⟨by simp;omega,fun x hx=>?_⟩;rcases cc.1 hx with rfl|hx
   ·exact yL hc
   ·exact a x hx
  ·cases h
def OD(z:Int):Bool:=match z with
 | .ofNat n=>ck n 0
 |_=>false
theorem aAy{z:Int}(h:OD z=true):z=0:=by
 cases z with
 |ofNat n=>rw[ce (show ck n 0=true from h)];rfl
 |negSucc n=>cases h
def CW(n:Int)(d:Nat):Option PV:=bif ck d 0 then none else mz n d
theorem XY{n:Int}{d:Nat}{p:PV}(h:CW n d=some p)(m:Bool):p=eF ⟨dk n d,m⟩:=by
 unfold CW at h;rcases a:ck d 0 with _|_
 ·rw[a]at h;exact om (fun e=>by rw[e]at a;cases a) h m
 ·rw[a]at h;cases h
def CX(s:List Nat):Option PV:=bif OD (bU s)&&oO s 1000 then
 yP (if bO s=true then -(aW (bC s):Int)else aW (bC s)) fun n=>oQ (if ek s=true then aW (bK s)else 1) fun d=>CW n d else none
theorem XZ{s:List Nat}{p:PV}(h:CX s=some p):p=eF ⟨aZ s,false⟩/\bU s=0/\s.length<=1048576:=by
 unfold CX at h;simp only[ab,J6,uE]at h
 split at h
 case isFalse=>cases h
 rename_i hc;rw[ac]at hc;obtain⟨c1,c2⟩:=hc;obtain⟨a,b⟩:=uQ c2;refine⟨?_,aAy c1,by omega⟩;rw[aZ];exact XY h false
def NW:Int->Bool
 | .ofNat n=>cx n jY
 | .negSucc n=>cx n jY
theorem Ys{z:Int}(h:NW z=true):-9223372036854775808<=z/\z<=9223372036854775807:=by
 cases z with
 |ofNat n=>have:n<9223372036854775808:=yL h;refine⟨?_,?_⟩<;>show _<=_<;>simp only[Int.ofNat_eq_natCast]<;>omega
 |negSucc n=>have:n<9223372036854775808:=yL h;omega
def Df(f:Nat)(a:PV):Option PV:=match a with
 | .int .i64 z=>bif ck f 116&&NW z then mz z 1 else none
 | .str s=>bif ck f 166 then CX s else bif ck f 263&&oO s 1000 then some (.int .i64 (bU s))else none
 | .st u [.str x,.str y]=>bif ck f 75&&(ck u 23&&(oO x 1000&&oO y 1000))then some (.int .i64 (dE ⟨x,y⟩))else none
 | .st u [c,e]=>match oP (.st u [c,e])with
  |some (n,d)=>bif ck f 163 then mz (-n) d else
   bif ck f 171 then some (.int .i64 (zh n))else
   bif ck f 162 then yX 1 1 n d else
   bif ck f 164 then some (.str (Dq n d))else
   bif ck f 106 then some (.bool false)else none
  |none=>none
 |_=>none
def tf(f:Nat)(a b:PV):Option PV:=
 bif ck f 190 then two OL a b else
 bif ck f 167 then two ON a b else
 bif ck f 170 then two OM a b else
 bif ck f 117 then two yX a b else
 bif ck f 80 then two Db a b else none
def hk(f:Nat):List PV->Option PV
 |[a]=>Df f a
 |[a,b]=>tf f a b
 |_=>none
theorem NA(z:Int):dk z ((1:Nat):Int)=(z:Rat):=by
 rw[show((1:Nat):Int)=1 from rfl,Rat.divInt_eq_div];rw[show((1:Int):Rat)=1 from rfl,dq,show(1:Rat)⁻¹=1 from by decide+kernel,Rat.mul_one]
theorem bq{a b:Nat}(h:ck a b=true):a=b:=ce h
theorem aFb{f:Nat}{a v:PV}(h:Df f a=some v):au prog f [a] v:=by
 unfold Df at h
 split at h
 ·rename_i z;simp only[ab]at h
  split at h
  ·rename_i hc;rw[ac]at hc;obtain⟨w,A⟩:=Ys hc.2;rw[bq hc.1,om (by decide) h true];have:=mw z w A;rw[NF.int]at this;rw[NA];exact this
  ·cases h
 ·rename_i s;simp only[ab]at h
  split at h
  ·rename_i hf;obtain⟨e1,e2,e3⟩:=XZ h;rw[bq hf,e1];exact kM s e2 e3
  ·split at h
   ·rename_i hc;rw[ac]at hc;obtain⟨j,b⟩:=uQ hc.2;simp only[dg]at h;subst h;rw[bq hc.1];exact yo s (by omega) b
   ·cases h
 ·rename_i u x y;simp only[ab]at h
  split at h
  ·rename_i hc;simp only[ac]at hc;obtain⟨c1,c2,c3,c4⟩:=hc;obtain⟨j,b⟩:=uQ c3;obtain⟨B,p⟩:=uQ c4;simp only[dg]at h;subst h;rw[bq c1,bq c2];exact v7 ⟨x,y⟩ ⟨⟨by show x.length<=_;omega,b⟩,⟨by show y.length<=_;omega,p⟩⟩
  ·cases h
 ·rename_i u c e _
  split at h
  case h_2=>cases h
  rename_i n d l;obtain⟨t,g,i⟩:=BO l;rw[t];simp only[ab]at h
  split at h
  ·rename_i hf;rw[bq hf,om g h false,<-ea];exact uY _ i
  split at h
  ·rename_i hf;simp only[dg]at h;subst h;rw[bq hf,<-AX n g];exact oN _
  split at h
  ·rename_i hf;obtain⟨e1,e2⟩:=Mb (by decide) g h;have e3:(fr 1 1).div (fr n d)=(fr n d).inv:=by
    rw[NF.div,NF.inv,fr,fr];dsimp only;rw[NA,dq];rw[show((1:Int):Rat)=1 from rfl,Rat.one_mul]
   rw[bq hf,e1,e3];exact IU _ i e2
  split at h
  ·rename_i hf;simp only[dg]at h;subst h;rw[bq hf,aGI l g];exact Bf _ i
  split at h
  ·rename_i hf;simp only[dg]at h;subst h;rw[bq hf];have m:=Bq _ i;obtain⟨q,j,b⟩:=IG l;obtain⟨e1,e2⟩:=IA g q;have o:∀k,k<10^80->kf k=false:=fun k hk=>by
    rw[kf,decide_eq_false_iff_not];have C:nd k<=80:=Nat.not_lt.1 fun r=>by have:=(nB _ _).1 r;omega
    rw[pP];omega
   rw[vr,e1,e2,o _ j,o _ b]at m;exact m
  ·cases h
 ·cases h
theorem aGB{f:Nat}{a b v:PV}(h:tf f a b=some v):au prog f [a,b] v:=by
 unfold tf at h;simp only[ab]at h
 split at h
 ·rename_i hf;obtain⟨n,d,m,e,rfl,rfl,c,g,j,k,i⟩:=uI h;rw[bq hf,WJ c g i];exact qK _ _ j k
 split at h
 ·rename_i hf;obtain⟨n,d,m,e,rfl,rfl,c,g,j,k,i⟩:=uI h;rw[bq hf,WM c g i];exact oK _ _ j k
 split at h
 ·rename_i hf;obtain⟨n,d,m,e,rfl,rfl,c,g,j,k,i⟩:=uI h;rw[bq hf,WL c g i];exact iB _ _ j k
 split at h
 ·rename_i hf;obtain⟨n,d,m,e,rfl,rfl,c,g,j,k,i⟩:=uI h;obtain⟨e1,e2⟩:=Mb c g i;rw[bq hf,e1];exact yK _ _ j k e2
 split at h
 ·rename_i hf;obtain⟨n,d,m,e,rfl,rfl,c,g,j,k,i⟩:=uI h;rw[bq hf,WK c g i];exact sJ _ _ j k
 ·cases h
theorem Yo{f:Nat}{vs:List PV}{v:PV}(h:hk f vs=some v):au prog f vs v:=by
 unfold hk at h
 split at h
 ·exact aFb h
 ·exact aGB h
 ·cases h
end Hk
theorem aGL{n:Nat}(h:n<10^80):br ((n:Nat):Rat)=Hk.tg n:=by
 rw[Hk.yh h,br,if_pos (by rfl),bI,if_neg (by show¬((n:Int)<0);omega)];rfl
structure dR where
 x:Int
 y:Int
 deriving DecidableEq
structure dO where
 name:List Nat
 eE:Int
 a:List Nat
 b:List Nat
structure ft where
 name:List Nat
 pt:cW
structure aC where
 cs:List dR
 dK:Int
 bj:List dO
 aP:List ft
def cj(p:dR):PV:=.st 178 [.int .i64 p.x,.int .i64 p.y]
def fj(p:dO):PV:=.st 160 [.str p.name,.int .i64 p.eE,.str p.a,.str p.b]
def eP(p:ft):PV:=.st 123 [.str p.name,dA p.pt]
def dj(t:aC):PV:=.st 47 [.seq (t.cs.map cj),.int .i64 t.dK,.seq (t.bj.map fj),.seq (t.aP.map eP)]
@[simp] theorem aJ1(p:dR):aJ (cj p)=.agg 178:=rfl
@[simp] theorem aIH(p:dR):bV (cj p)=[.int .i64 p.x,.int .i64 p.y]:=rfl
@[simp] theorem aJY(p:dO):aJ (fj p)=.agg 160:=rfl
@[simp] theorem aIE(p:dO):bV (fj p)=[.str p.name,.int .i64 p.eE,.str p.a,.str p.b]:=rfl
@[simp] theorem aJ3(p:ft):aJ (eP p)=.agg 123:=rfl
@[simp] theorem aIJ(p:ft):bV (eP p)=[.str p.name,dA p.pt]:=rfl
@[simp] theorem aJ8(t:aC):aJ (dj t)=.agg 47:=rfl
@[simp] theorem aIN(t:aC):bV (dj t)=[.seq (t.cs.map cj),.int .i64 t.dK,.seq (t.bj.map fj),.seq (t.aP.map eP)]:=rfl
@[simp] theorem aHY:prog.cellsOf 178=2:=by kernel_rfl
@[simp] theorem aHX:prog.cellsOf 160=4:=by kernel_rfl
@[simp] theorem aHZ:prog.cellsOf 123=3:=by kernel_rfl
def fG(p:dR):Bool:=decide (10000<max p.x p.y)||decide (min p.x p.y< -10000)
theorem WB(p:dR):au prog 107 [cj p] (.bool (fG p)):=by
 obtain⟨x,y⟩:=p;refine aM nf EC mix (by simp[f107]) ?_;have e1:max x y=if x<y then y else x:=by split<;>omega
 have e2:min x y=if y<x then y else x:=by split<;>omega
 rw[fG,e1,e2]
 by_cases h:(if x<y then y else x)<=10000
 ·have a:¬10000<(if x<y then y else x):=by omega
  by_cases b:(if y<x then y else x)< -10000
  ·simp[f107,ad,h,a,b]
  ·simp[f107,ad,h,a,b]
 ·have a:10000<(if x<y then y else x):=by omega
  simp[f107,ad,h,a]
def dM(p:dR):Prop:=-10000<=p.x/\p.x<=10000/\-10000<=p.y/\p.y<=10000
theorem DO{p:dR}(h:fG p=false):dM p:=by
 simp only[fG,Bool.or_eq_false_iff,decide_eq_false_iff_not]at h;unfold dM;omega
def ku(a b c:dR):Int:=(b.x-a.x)*(c.y-a.y)-(b.y-a.y)*(c.x-a.x)
theorem vK{a b:Int}{A B:Int}(c:-A<=a)(d:a<=A)(e:-B<=b)(f:b<=B):-(A*B)<=a*b/\a*b<=A*B:=by
 have k1:a.natAbs<=A.natAbs:=by omega
 have k2:b.natAbs<=B.natAbs:=by omega
 have k3:=Nat.mul_le_mul k1 k2;rw[<-a6,<-a6]at k3;have k4:0<=A*B:=a7 (by omega) (by omega);omega
theorem P8(a b c:dR)(i:dM a)(j:dM b)(hc:dM c):au prog 193 [cj a,cj b,cj c] (.int .i64 (ku a b c)):=by
 obtain⟨d,e⟩:=a;obtain⟨bx,f⟩:=b;obtain⟨g,h⟩:=c;simp only[dM]at i j hc;have w1:ax.wrap (bx-d)=bx-d:=aO _ (by omega) (by omega);have k:ax.wrap (h-e)=h-e:=aO _ (by omega) (by omega);have l:ax.wrap (f-e)=f-e:=aO _ (by omega) (by omega)
 have m:ax.wrap (g-d)=g-d:=aO _ (by omega) (by omega);have q:=vK (a:=bx-d) (b:=h-e) (A:=20000) (B:=20000) (by omega) (by omega) (by omega) (by omega);have r:=vK (a:=f-e) (b:=g-d) (A:=20000) (B:=20000) (by omega) (by omega) (by omega) (by omega);have n:ax.wrap ((bx-d)*(h-e))=(bx-d)*(h-e):=aO _ (by omega) (by omega);have o:ax.wrap ((f-e)*(g-d))=(f-e)*(g-d):=aO _ (by omega) (by omega);have p:ax.wrap ((bx-d)*(h-e)-(f-e)*(g-d))=(bx-d)*(h-e)-(f-e)*(g-d):=aO _ (by omega) (by omega);refine aM nf EP mix (by simp[f193]) ?_;rw[ku];simp[f193,ad,w1,k,l,m,n,o,p]
def aC.nx(t:aC)(i:Nat):Nat:=(i+1)% t.cs.length
def aC.at(t:aC)(i:Nat):dR:=t.cs.getD i ⟨0,0⟩
theorem aC.get{t:aC}{i:Nat}(h:i<t.cs.length):t.cs[i]?=some (t.at i):=by
 rw[aC.at,bd,a9 h];rfl
@[simp] theorem aC.aN{t:aC}{i:Nat}(h:i<t.cs.length):t.cs[i]'h=t.at i:=by
 rw[aC.at,bd,a9 h];rfl
theorem aC.jw{t:aC}(h:0<t.cs.length)(i:Nat):t.nx i<t.cs.length:=Nat.mod_lt _ h
theorem zW(t:aC)(i:Nat)(h:i<t.cs.length)(f:t.cs.length<=1000000):au prog 194 [dj t,.int .i64 i] (cj (t.at (t.nx i))):=by
 have w1:ax.wrap ((i:Int)+1)=(i:Int)+1:=aO _ (by omega) (by omega);have c:=t.jw (by omega) i;have e1:((i:Int)+1).tmod (t.cs.length:Int)=((t.nx i:Nat):Int):=by
  rw[aC.nx,a4,a0 (by omega)];rfl
 have b:=aC.get c;have d:¬t.cs.length=0:=by omega
 have a:¬t.cs=[]:=by intro e;rw[e]at h;simp at h
 refine aM nf EO mix (by simp[f194]) ?_;simp[f194,ad,w1,e1,b,d,a]
def aC.mG(t:aC)(i:Nat)(m:Nat):Prop:=∀k,k<m->k≠i->k≠t.nx i->0<ku (t.at i) (t.at (t.nx i)) (t.at k)
instance(t:aC)(i m:Nat):Decidable (t.mG i m):=inferInstanceAs (Decidable (∀k,k<m->_))
def aC.fB(t:aC):Bool:=decide (∀i,i<t.cs.length->t.mG i t.cs.length)
theorem aC.eJ{t:aC}(h:∀p∈t.cs,dM p){i:Nat}(hi:i<t.cs.length):dM (t.at i):=h _ (bb (aC.get hi))
theorem Ql(t:aC)(x:t.cs.length<=1000000)(m:∀p∈t.cs,dM p):au prog 108 [dj t] (.bool t.fB):=by
 refine aM nf EB mix (by simp[f108]) ?_;generalize a:t.cs.length=n at*;simp[f108,ad,a];refine lp (α:=Nat) (fun i=>⟨[(4,.p (.int .i64 i)),(3,.p (.int .i64 n)),(1,.ptr 0 [])],[.box false (.p (dj t))]⟩) (fun i=>i<=n/\∀j,j<i->t.mG j n) (fun i=>n-i) 0 (by simp) ?_;rintro i ⟨v,q⟩
 by_cases hi:i<n
 ·simp[hi];refine lp (α:=Nat) (fun k=>⟨[(5,.p (.int .i64 k)),(4,.p (.int .i64 i)),(3,.p (.int .i64 n)),(1,.ptr 0 [])],[.box false (.p (dj t))]⟩) (fun k=>k<=n/\t.mG i k) (fun k=>n-k) 0 (by simp[aC.mG]) ?_;rintro k ⟨g1,g2⟩
  by_cases hk:k<n
  ·have r:=zW t i (by omega) (by omega);have y:t.nx i<n:=by rw[<-a];exact t.jw (by omega) i
   have d:=cQ (i:=i) (by omega);have e:=cQ (i:=k) (by omega);have e1:((i:Int)+1).tmod (n:Int)=((t.nx i:Nat):Int):=by
    rw[aC.nx,a,a4,a0 (by omega)];rfl
   have s:=P8 (t.at i) (t.at (t.nx i)) (t.at k) (aC.eJ m (by omega)) (aC.eJ m (by omega)) (aC.eJ m (by omega));have f:=aC.get (t:=t) (i:=i) (by omega);have gk:=aC.get (t:=t) (i:=k) (by omega);have o:¬n=0:=by omega
   by_cases c1:k=i
   ·subst c1;simp[hk,e];exact rd (k+1) ⟨hk,fun j g=>by
     by_cases l:j=k
     ·intro h;exact(h l).elim
     ·exact g2 j (by omega)⟩
   ·have b:¬(k:Int)=(i:Int):=by omega
    by_cases c2:k=t.nx i
    ·rw[<-c2]at e1;simp[hk,b,d,e,e1,o];exact rd (k+1) ⟨hk,fun j g=>by
      by_cases l:j=k
      ·intro _ h;exact(h (by omega)).elim
      ·exact g2 j (by omega)⟩
    ·have c:¬(k:Int)=((t.nx i:Nat):Int):=by omega
     by_cases c3:ku (t.at i) (t.at (t.nx i)) (t.at k)<=0
     ·simp[hk,b,c,d,e,e1,o,f,gk,a,ad];refine Go.az.e2 r ?_;simp[hk,a,f,gk,b,c,ad];refine Go.az.e3 s ?_;simp[c3,b,c];have:t.fB=false:=by
       rw[aC.fB,decide_eq_false_iff_not];intro h;have:=h i (by omega) k (by omega) c1 c2;omega
      rw[this]
     ·simp[hk,b,c,d,e,e1,o,f,gk,a,ad];refine Go.az.e2 r ?_;simp[hk,a,f,gk,b,c,ad];refine Go.az.e3 s ?_;simp[c3,e,b,c];exact rd (k+1) ⟨hk,fun j g=>by
       by_cases l:j=k
       ·subst l;intro _ _;omega
       ·exact g2 j (by omega)⟩
  ·have:k=n:=by omega
   subst this;have d:=cQ (i:=i) (by omega);simp[d];exact rd (i+1) ⟨hi,fun j g=>by
    by_cases u:j=i
    ·subst u;exact g2
    ·exact q j (by omega)⟩
 ·have w:i=n:=by omega
  have:t.fB=true:=by
   rw[aC.fB,decide_eq_true_eq,a];intro j g;exact q j (by omega)
  simp[hi,this]
def eK(p:dR):V2:=⟨(p.x:Rat),(p.y:Rat)⟩
theorem iv{p:dR}(h:dM p):b7 14 (eK p):=by
 simp only[dM]at h;exact⟨GP (by omega) (by decide),GP (by omega) (by decide)⟩
theorem vM(p:dR)(h:dM p):au prog 196 [cj p] (eV (eK p)):=by
 have c:=h;simp only[dM]at h;have a:=Jh p.x (by omega) (by omega);have b:=Jh p.y (by omega) (by omega);refine aM nf EM mix (by simp[f196]) ?_;rw[eK,qw];simp[f196,ad];refine e1 a ?_;simp[ad];refine e1 b ?_;simp[ad]
def aC.fP(t:aC)(i:Nat):V2:=(eK (t.at (t.nx i))).sub (eK (t.at i))
def aC.side(t:aC)(i:Nat)(v:V2):Int:=cV ((t.fP i).bF (v.sub (eK (t.at i))))
theorem aC.okW{t:aC}(h:∀p∈t.cs,dM p){i:Nat}(hi:i<t.cs.length):b7 29 (t.fP i):=kL (iv (aC.eJ h (t.jw (by omega) i))) (iv (aC.eJ h hi))
theorem Ws(t:aC)(i:Nat)(v:V2)(e:t.cs.length<=1000000)(b:∀p∈t.cs,dM p)(hi:i<t.cs.length)(d:b7 3000 v):au prog 112 [dj t,.int .i64 i,eV v] (.int .i64 (t.side i v)):=by
 have a:=aC.get hi;have c:=iv (aC.eJ b hi);have n:=iv (aC.eJ b (t.jw (by omega) i));have f:=vM (t.at i) (aC.eJ b hi);have g:=zW t i hi e;have h:=vM (t.at (t.nx i)) (aC.eJ b (t.jw (by omega) i));have j:=yJ (eK (t.at (t.nx i))) (eK (t.at i)) (n.mono (by decide)) (c.mono (by decide));have k:=yJ v (eK (t.at i)) (d.mono (by decide)) (c.mono (by decide));have l:=zt (t.fP i) (v.sub (eK (t.at i))) ((aC.okW b hi).mono (by decide)) ((kL d c).mono (by decide));have m:=uJ ((t.fP i).bF (v.sub (eK (t.at i)))) ((nK (aC.okW b hi) (kL d c)).mono (by decide));refine aM nf Fb mix (by simp[f112]) ?_;rw[aC.side];simp[f112,ad,a,hi];refine e1 f ?_;simp[ad,a,hi];refine e2 g ?_;simp[ad,a,hi];refine e1 h ?_;simp[ad,a,hi];refine⟨by repeat' first|rfl|apply And.intro,?_⟩;refine e2 j ?_;simp[ad,a,hi];refine e2 k ?_;simp[ad,a,hi];refine e2 l ?_;simp[ad,a,hi];refine e1 m ?_;simp[ad,a,hi]
def aC.lQ(t:aC)(v:V2)(m:Nat):Int:=(b5 m).foldl (fun o i=>min o (t.side i v)) 1
theorem aC.zy(t:aC)(v:V2)(m:Nat):t.lQ v (m+1)=min (t.lQ v m) (t.side m v):=by
 rw[aC.lQ,cb,List.foldl_append];rfl
def aC.on(t:aC)(v:V2):Int:=t.lQ v t.cs.length
theorem Eh(a b:Int):min a b=if b<a then b else a:=by split<;>omega
theorem Ni(t:aC)(v:V2)(b:t.cs.length<=1000000)(c:∀p∈t.cs,dM p)(d:b7 3000 v):au prog 26 [dj t,eV v] (.int .i64 (t.on v)):=by
 refine aM nf N8 mix (by simp[f26]) ?_;simp[f26,ad];refine lp (α:=Nat) (fun i=>⟨[(6,.p (.int .i64 i)),(5,.p (.int .i64 (t.lQ v i))),(3,.ptr 1 []),(2,.ptr 0 [])],[.box false (.p (dj t)),.box false (.p (eV v))]⟩) (fun i=>i<=t.cs.length) (fun i=>t.cs.length-i) 0 (by simp) ?_ (hh:=by simp[aC.lQ]) (he:=by simp[aC.lQ]);rintro i f
 by_cases hi:i<t.cs.length
 ·have a:=Ws t i v b c hi d;have e:=cQ (i:=i) (by omega);have hs:=aC.zy t v i;rw[Eh]at hs;simp[hi,ad];refine c3 a ?_;simp[e,<-hs];exact rd (i+1) hi
 ·have:i=t.cs.length:=by omega
  subst this;simp[aC.on,ad]
def isLet(c:Int):Bool:=(decide (97<=c)&&decide (c<=122))||(decide (65<=c)&&decide (c<=90))
def iO(c:Int):Bool:=decide (48<=c)&&decide (c<=57)
def lP:Nat->List Nat->Bool
 |_,[]=>true
 |i,c::r=>(isLet c||(decide (i≠0)&&(iO c||decide ((c:Int)=95))))&&lP (i+1) r
def isName(s:List Nat):Bool:=decide (1<=s.length)&&decide (s.length<=24)&&lP 0 s
theorem cls(c:Int):(97<=c/\c<=122)\/(¬97<=c/\65<=c/\c<=90)\/(¬97<=c/\¬65<=c/\¬48<=c/\¬c=95)\/(¬97<=c/\¬65<=c/\48<=c/\c<=57/\¬c=95)\/(¬97<=c/\¬65<=c/\48<=c/\¬c<=57/\¬c=95)\/
 (¬97<=c/\65<=c/\¬c<=90/\48<=c/\¬c<=57/\c=95)\/(¬97<=c/\65<=c/\¬c<=90/\48<=c/\¬c<=57/\¬c=95)\/(97<=c/\¬c<=122/\65<=c/\¬c<=90/\48<=c/\¬c<=57/\¬c=95):=by omega
theorem DH(c:Int):au prog 277 [.int .i32 c] (.bool (isLet c)):=by
 refine aM nf Ep mix (by simp[f277]) ?_;rcases cls c with⟨a,b⟩|⟨a,b,d⟩|⟨a,b,d,e⟩|⟨a,b,d,e,f⟩|⟨a,b,d,e,f⟩|⟨a,b,d,e,f,g⟩|⟨a,b,d,e,f,g⟩|⟨a,b,d,e,f,g,h⟩<;>simp[f277,isLet, *]
theorem DA{s:List Nat}{i:Nat}(hi:i<s.length):lP i (s.drop i)=((isLet s[i]||(decide (i≠0)&&(iO s[i]||decide ((s[i]:Int)=95))))&&lP (i+1) (s.drop (i+1))):=by
 rw[List.drop_eq_getElem_cons hi,lP]
theorem DD(s:List Nat)(h:s.length<=1048576):au prog 110 [.str s] (.bool (isName s)):=by
 refine aM nf Fe mix (by simp[f110]) ?_;rcases zA s.length 1 with⟨g1,m⟩|⟨g1,m⟩
 ·have:s.length=0:=by omega
  simp[f110,g1,isName,this]
 rcases zA 24 s.length with⟨g2,n⟩|⟨g2,n⟩
 ·have:¬s.length<=24:=by omega
  simp[f110,g1,g2,isName,this]
 simp[f110,g1,g2];have e0:isName s=lP 0 s:=by simp[isName];omega
 refine lp (α:=Nat) (fun i=>⟨[(3,.p (.int .i64 i)),(0,.p (.str s))],[]⟩) (fun i=>i<=s.length/\isName s=lP i (s.drop i)) (fun i=>s.length-i) 0 (by simp[e0]) ?_;rintro i ⟨k1,k2⟩
 by_cases hi:i<s.length
 ·rw[DA hi]at k2;have k:=cQ (i:=i) (by omega);generalize hc:(s[i]:Int)=c at*
  by_cases j:i=0
  ·subst j;have l:ax.wrap 1=1:=aO 1 (by omega) (by omega);rcases cls c with⟨a,b⟩|⟨a,b,d⟩|⟨a,b,d,e⟩|⟨a,b,d,e,f⟩|⟨a,b,d,e,f⟩|⟨a,b,d,e,f,g⟩|⟨a,b,d,e,f,g⟩|⟨a,b,d,e,f,g,h⟩
   ·simp[isLet,a,b]at k2;simp[hi,hc,a,b,l];exact rd 1 ⟨hi,by simpa using k2⟩
   ·simp[isLet,a,b,d]at k2;simp[hi,hc,a,b,d,l];exact rd 1 ⟨hi,by simpa using k2⟩
   all_goals
    simp[isLet, *]at k2;simp[hi,hc, *]
  ·rcases cls c with⟨a,b⟩|⟨a,b,d⟩|⟨a,b,d,e⟩|⟨a,b,d,e,f⟩|⟨a,b,d,e,f⟩|⟨a,b,d,e,f,g⟩|⟨a,b,d,e,f,g⟩|⟨a,b,d,e,f,g,h⟩
   ·simp[isLet,a,b]at k2;simp[hi,hc,a,b,k];exact rd (i+1) ⟨hi,k2⟩
   ·simp[isLet,a,b,d]at k2;simp[hi,hc,a,b,d,k];exact rd (i+1) ⟨hi,k2⟩
   ·simp[isLet,iO,a,b,d,e]at k2;simp[hi,hc,j,a,b,d,e,k2]
   ·simp[isLet,iO,a,b,d,e,j]at k2;simp[hi,hc,j,a,b,d,e,k];exact rd (i+1) ⟨hi,k2⟩
   ·simp[isLet,iO,a,b,d,e,f]at k2;simp[hi,hc,j,a,b,d,e,f,k2]
   ·subst g;simp[isLet,iO,j]at k2;simp[hi,hc,j,k];exact rd (i+1) ⟨hi,k2⟩
   ·simp[isLet,iO,a,b,d,e,f,g]at k2;simp[hi,hc,j,a,b,d,e,f,g,k2]
   ·simp[isLet,iO,a,b,d,e,f,g,h]at k2;simp[hi,hc,j,a,b,d,e,f,g,h,k2]
 ·have:i=s.length:=by omega
  subst this;simp[lP]at k2;simp[k2]
theorem Dx(s:List Nat):(ga s).size=s.length:=by
 show(s.map UInt8.ofNat).toArray.size=_;simp
theorem D3(s:List Nat)(b:∀c∈s,c<256)(i:Nat)(h:i<s.length)(a:i<(ga s).size):((ga s)[i]'a).toNat=s[i]:=by
 have e:(ga s)[i]'a=UInt8.ofNat s[i]:=by
  have:(ga s)[i]'a=(s.map UInt8.ofNat).toArray[i]'(by simpa using h):=rfl;rw[this];simp
 rw[e];have:=b s[i] (List.getElem_mem h);simp;omega
theorem XK{s:List Nat}(d:∀c∈s,c<256){i:Nat}(h:i<s.length)(b:s[i]<128):ay (ga s) i=(s[i],1):=by
 have a:i<(ga s).size:=by rw[Dx];exact h
 have e:=D3 s d i h a;rw[decode_ascii (ga s) i a (by rw[e];exact b),e]
theorem XJ{s:List Nat}(b:∀c∈s,c<256){i:Nat}(h:i<s.length)(d:¬s[i]<128):128<=(ay (ga s) i).1/\1<=(ay (ga s) i).2:=by
 have a:i<(ga s).size:=by rw[Dx];exact h
 have e:=D3 s b i h a;exact decode_high (ga s) i a (by rw[e];omega)
theorem DU(s:List Nat)(h:s.length<=1048576):au prog 209 [.str s] (.bool (isName s)):=by
 refine Qp fun m=>?_;have m:∀c∈s,c<256:=by simpa[lE,dT]using m
 refine aM nf Ee mix (by simp[f209]) ?_;simp[f209];refine lp (α:=Nat) (fun i=>⟨[(6,.ptr 0 []),(0,.p (.str s))],[.dc s i]⟩) (fun i=>i<=s.length/\lP 0 s=lP i (s.drop i)) (fun i=>s.length-i) 0 (by simp) ?_;rintro i ⟨k1,k2⟩
 by_cases hi:i<s.length
 ·rw[DA hi]at k2
  by_cases o:s[i]<128
  ·have n:=XK m hi o;simp[hi,n];refine c1 (DH _) ?_;generalize hc:(s[i]:Int)=c at*
   by_cases j:i=0
   ·rcases cls c with⟨a,b⟩|⟨a,b,d⟩|⟨a,b,d,e⟩|⟨a,b,d,e,f⟩|⟨a,b,d,e,f⟩|⟨a,b,d,e,f,g⟩|⟨a,b,d,e,f,g⟩|⟨a,b,d,e,f,g,h⟩
    ·simp[isLet,a,b]at k2;simp[isLet,a,b];exact rd (i+1) ⟨hi,k2⟩
    ·simp[isLet,a,b,d]at k2;simp[isLet,a,b,d];exact rd (i+1) ⟨hi,k2⟩
    all_goals
     simp[isLet,isName, *]at k2;simp[isLet,isName, *]
   ·rcases cls c with⟨a,b⟩|⟨a,b,d⟩|⟨a,b,d,e⟩|⟨a,b,d,e,f⟩|⟨a,b,d,e,f⟩|⟨a,b,d,e,f,g⟩|⟨a,b,d,e,f,g⟩|⟨a,b,d,e,f,g,h⟩
    ·simp[isLet,a,b]at k2;simp[isLet,a,b];exact rd (i+1) ⟨hi,k2⟩
    ·simp[isLet,a,b,d]at k2;simp[isLet,a,b,d];exact rd (i+1) ⟨hi,k2⟩
    ·simp[isLet,iO,a,b,d,e]at k2;have k:c<48:=by omega
     simp[isLet,isName,a,b,e,j,k,k2]
    ·simp[isLet,iO,a,b,d,e,f,j]at k2;have k:¬c<48:=by omega
     have e2:¬57<c:=by omega
     simp[isLet,a,b,k,e2,f,j];exact rd (i+1) ⟨hi,k2⟩
    ·simp[isLet,iO,a,b,d,e,f]at k2;have k:¬c<48:=by omega
     have e2:57<c:=by omega
     simp[isLet,isName,a,b,k,e2,f,j,k2]
    ·subst g;simp[isLet,iO,j]at k2;simp[isLet,j];exact rd (i+1) ⟨hi,k2⟩
    ·simp[isLet,iO,a,b,d,e,f,g]at k2;have k:¬c<48:=by omega
     have e2:57<c:=by omega
     simp[isLet,isName,a,b,d,k,e2,g,j,k2]
    ·simp[isLet,iO,a,b,d,e,f,g,h]at k2;have k:¬c<48:=by omega
     have e2:57<c:=by omega
     simp[isLet,isName,a,b,d,e,k,e2,h,j,k2]
  ·obtain⟨n,_⟩:=XJ m hi o;have z:isLet (s[i]:Int)=false:=by simp[isLet];omega
   have y:iO (s[i]:Int)=false:=by simp[iO];omega
   have x:¬(s[i]:Int)=95:=by omega
   simp[z,y,x]at k2;rcases q:ay (ga s) i with⟨c,d⟩
   rw[q]at n;have t:isLet (c:Int)=false:=by simp[isLet];omega
   have u:¬(c:Int)=95:=by omega
   have v:¬(c:Int)<48:=by omega
   have w:57<(c:Int):=by omega
   simp[hi,q];refine c1 (DH _) ?_
   by_cases j:i=0
   ·simp[t,j,isName,k2]
   ·simp[t,j,u,v,w,isName,k2]
 ·have:i=s.length:=by omega
  subst this;simp[lP]at k2;cases hs:s with
  |nil=>simp[isName]
  |cons a r=>
   rw[hs]at k2;rcases zA 24 s.length with⟨g,l⟩|⟨g,l⟩
   ·rw[hs]at g l;have:¬(r.length+1)<=24:=by simp at g;omega
    simp at l;simp[isName,k2,this];omega
   ·rw[hs]at g l;have:(r.length+1)<=24:=by simp at l;omega
    simp at l;simp[isName,k2,this];omega
theorem gP{s:List Nat}(h:bU s=0):bt 2000 (aZ s):=by
 obtain⟨b,c⟩:=EK h;have a:(10:Nat)^mD<=2^2000:=by decide+kernel
 exact⟨c9 b a,c9 c a⟩
theorem aGK:br 1=[49]:=aGL (n:=1) (by decide)
def fk(q:Rat):Int:=if cV q<0\/0<dG q 1 then 3 else 0
def vT(s:List Nat):Int:=if bU s=0 then fk (aZ s)else bU s
theorem DJ(s:List Nat)(hs:jn s):au prog 195 [.str s] (.int .i64 (vT s)):=by
 have d:=uX s hs;refine aM nf EN mix (by simp[f195]) ?_;rw[vT]
 by_cases c:bU s=0
 ·have o:=gP c;have f:=uJ (aZ s) (o.mono (by decide));have g:=tz (aZ s) 1 (o.mono (by decide)) (by exact⟨by decide+kernel,by decide+kernel⟩);rw[(iV c).1]at f g;rw[aGK]at g;rw[if_pos c,fk];rw[c]at d;generalize cV (aZ s)=x at*;generalize dG (aZ s) 1=y at*
  by_cases a:x<0
  ·simp[f195,ad];refine c1 d ?_;simp[ad];refine c1 f ?_;simp[a,ad]
  ·by_cases b:0<y
   ·simp[f195,ad];refine c1 d ?_;simp[ad];refine c1 f ?_;simp[a,ad];refine c2 g ?_;simp[a,b,ad]
   ·simp[f195,ad];refine c1 d ?_;simp[ad];refine c1 f ?_;simp[a,ad];refine c2 g ?_;simp[a,b,ad]
 ·rw[if_neg c];generalize bU s=e at*;simp[f195,ad];refine c1 d ?_;simp[c,ad]
def gz(o p:dO):Bool:=decide (o.eE=p.eE)&&(decide (dG (aZ o.a) (aZ p.b)<=0)&&decide (dG (aZ p.a) (aZ o.b)<=0))
def gX(n:Nat)(c:List dO)(p:dO):Int:=
 if isName p.name=false then 8
 else if c.any (fun o=>decide (o.name=p.name))=true then 9
 else if p.eE<0\/(n:Int)<=p.eE then 10
 else if bU p.a≠0 then bU p.a
 else if bU p.b≠0 then bU p.b
 else if max (fk (aZ p.a)) (fk (aZ p.b))≠0 then max (fk (aZ p.a)) (fk (aZ p.b))
 else if 0<dG (aZ p.a) (aZ p.b)then 11
 else if c.any (fun o=>gz o p)=true then 17 else 0
def qX(p:dO):Prop:=jn p.name/\jn p.a/\jn p.b
def aC.pk(t:aC)(i:Nat):dO:=t.bj.getD i ⟨[],0,[],[]⟩
@[simp] theorem aC.OX{t:aC}{i:Nat}(h:i<t.bj.length):t.bj[i]'h=t.pk i:=by
 rw[aC.pk,bd,a9 h];rfl
theorem aC.lR{t:aC}{i:Nat}(h:i<t.bj.length):t.bj[i]?=some (t.pk i):=by rw[a9 h,aC.OX]
theorem zx{α:Type}{f:α->Bool}{l:List α}{i:Nat}{x:α}(h:l[i]?=some x):(l.take (i+1)).any f=((l.take i).any f||f x):=by
 rw[List.take_add_one,h];simp
theorem PG(t:aC)(i:Nat)(hi:i<t.bj.length)(V:t.bj.length<=1000000)(hc:t.cs.length<=1000000)(Q:∀p∈t.bj,qX p)(R:∀j,j<i->bU (t.pk j).a=0/\bU (t.pk j).b=0):
 au prog 109 [dj t,.int .i64 i] (.int .i64 (gX t.cs.length (t.bj.take i) (t.pk i))):=by
 have v:=aC.lR hi;obtain⟨S,E,F⟩:=Q _ (bb v);have m:=DD (t.pk i).name S.1;have O:=uX (t.pk i).a E;have P:=uX (t.pk i).b F;refine aM nf Ff mix (by simp[f109]) ?_;rw[gX];cases B:isName (t.pk i).name
 ·rw[B]at m;simp[f109,ad,v,hi];refine c1 m ?_;simp[ad]
 rw[B]at m;rw[if_neg (by decide)];simp[f109,ad,v,hi];refine c1 m ?_;simp[ad];refine lp (α:=Nat) (fun j=>⟨[(6,.p (.int .i64 j)),(5,.ptr 1 []),(2,.ptr 0 []),(1,.p (.int .i64 i))],[.box false (.p (dj t)),.box false (.p (fj (t.pk i)))]⟩) (fun j=>j<=i/\(t.bj.take j).any (fun o=>decide (o.name=(t.pk i).name))=false) (fun j=>i-j) 0 (by simp) ?_;rintro j ⟨W,D⟩
 by_cases q:j<i
 ·have z:j<t.bj.length:=by omega
  have g:=aC.lR z;have f:=cQ (i:=j) (by omega)
  by_cases n:(t.pk j).name=(t.pk i).name
  ·have:(t.bj.take i).any (fun o=>decide (o.name=(t.pk i).name))=true:=by
    rw[be];exact⟨t.pk j,bb (i:=j) (by rw[bv,if_pos q];exact g),by simp[n]⟩
   rw[if_pos this];simp[q,z,g,n,ad]
  ·simp[q,z,g,n,f,ad];exact rd (j+1) ⟨q,by rw[zx g,D];simp[n]⟩
 have:j=i:=by omega
 subst this;rw[D,if_neg (by decide)];have u:((t.pk j).eE<0\/(t.cs.length:Int)<=(t.pk j).eE)\/(¬(t.pk j).eE<0/\¬(t.cs.length:Int)<=(t.pk j).eE):=by omega
 rcases u with u|⟨L,N⟩
 ·rw[if_pos u]
  by_cases e1:(t.pk j).eE<0
  ·simp[e1,ad]
  ·have e2:(t.cs.length:Int)<=(t.pk j).eE:=by omega
   simp[e1,e2,ad]
 rw[if_neg (by omega)];have K:¬j<j:=by omega
 simp[L,N,K,ad];refine c1 O ?_
 by_cases c:bU (t.pk j).a=0
 case neg=>
  rw[if_pos c];simp[c,ad]
 rw[if_neg (by simp[c])];simp[c,ad];refine c1 P ?_
 by_cases d:bU (t.pk j).b=0
 case neg=>
  rw[if_pos d];simp[d,ad]
 rw[if_neg (by simp[d])];simp[d,ad];have G:=gP c;have H:=gP d;have x:=DJ (t.pk j).a E;have y:=DJ (t.pk j).b F;rw[vT,if_pos c]at x;rw[vT,if_pos d]at y;have A:=tz (aZ (t.pk j).a) (aZ (t.pk j).b) (G.mono (by decide)) (H.mono (by decide));rw[(iV c).1,(iV d).1]at A;refine e1 x ?_;simp[ad];refine e1 y ?_;have em:max (fk (aZ (t.pk j).a)) (fk (aZ (t.pk j).b))=if fk (aZ (t.pk j).a)<fk (aZ (t.pk j).b)then fk (aZ (t.pk j).b)else fk (aZ (t.pk j).a):=by split<;>omega
 simp[ad,<-em];clear em x y;generalize max (fk (aZ (t.pk j).a)) (fk (aZ (t.pk j).b))=M at*
 by_cases hm:M=0
 case neg=>
  simp[hm,ad]
 subst hm;simp[ad];refine c2 A ?_
 by_cases s:0<dG (aZ (t.pk j).a) (aZ (t.pk j).b)
 ·rw[if_pos s];simp[s,ad]
 rw[if_neg s];simp[s,ad];refine lp (α:=Nat) (fun k=>⟨[(8,.p (.int .i64 k)),(5,.ptr 1 []),(2,.ptr 0 []),(1,.p (.int .i64 j))],[.box false (.p (dj t)),.box false (.p (fj (t.pk j)))]⟩) (fun k=>k<=j/\(t.bj.take k).any (fun o=>gz o (t.pk j))=false) (fun k=>j-k) 0 (by simp) ?_;rintro k ⟨k1,k2⟩
 by_cases hk:k<j
 ·have e:k<t.bj.length:=by omega
  have gk:=aC.lR e;have f:=cQ (i:=k) (by omega);obtain⟨I,J⟩:=R k hk;have T:=gP I;have U:=gP J;have l:=tz (aZ (t.pk k).a) (aZ (t.pk j).b) (T.mono (by decide)) (H.mono (by decide));have w:=tz (aZ (t.pk j).a) (aZ (t.pk k).b) (G.mono (by decide)) (U.mono (by decide));rw[(iV I).1,(iV d).1]at l;rw[(iV c).1,(iV J).1]at w;have C:gz (t.pk k) (t.pk j)=true->(t.bj.take j).any (fun o=>gz o (t.pk j))=true:=fun h=>by
   rw[be];exact⟨t.pk k,bb (i:=k) (by rw[bv,if_pos hk];exact gk),h⟩
  have r:gz (t.pk k) (t.pk j)=false->(t.bj.take (k+1)).any (fun o=>gz o (t.pk j))=false:=fun h=>by
   rw[zx gk,k2,h];rfl
  rw[gz]at C r
  by_cases e1:(t.pk k).eE=(t.pk j).eE
  ·by_cases e2:dG (aZ (t.pk k).a) (aZ (t.pk j).b)<=0
   ·by_cases e3:dG (aZ (t.pk j).a) (aZ (t.pk k).b)<=0
    ·rw[if_pos (C (by simp[e1,e2,e3]))];simp[hk,e,gk,e1,ad];refine c2 l ?_;simp[e1,e2,ad];refine c2 w ?_;simp[e1,e2,e3,ad]
    ·simp[hk,e,gk,e1,ad];refine c2 l ?_;simp[e1,e2,ad];refine c2 w ?_;simp[e1,e2,e3,f,ad];exact rd (k+1) ⟨hk,r (by simp[e3])⟩
   ·simp[hk,e,gk,e1,ad];refine c2 l ?_;simp[e1,e2,f,ad];exact rd (k+1) ⟨hk,r (by simp[e2])⟩
  ·simp[hk,e,gk,e1,f,ad];exact rd (k+1) ⟨hk,r (by simp[e1])⟩
 ·have:k=j:=by omega
  subst this;rw[k2,if_neg (by decide)];simp[ad]
structure NV where
 x:NF
 y:NF
noncomputable def dF(v:NV):PV:=.st 132 [eF v.x,eF v.y]
@[simp] theorem aJW(v:NV):aJ (dF v)=.agg 132:=rfl
@[simp] theorem aIC(v:NV):bV (dF v)=[eF v.x,eF v.y]:=rfl
@[simp] theorem aHW:prog.cellsOf 132=8:=by kernel_rfl
@[simp] theorem aHV:prog.cellsOf 149=12:=by kernel_rfl
theorem sj(x y:NF):dF ⟨x,y⟩=.st 132 [eF x,eF y]:=rfl
def NV.q(v:NV):V2:=⟨v.x.q,v.y.q⟩
def NV.add(v w:NV):NV:=⟨v.x.add w.x,v.y.add w.y⟩
def NV.sub(v w:NV):NV:=⟨v.x.sub w.x,v.y.sub w.y⟩
def NV.times(v:NV)(k:NF):NV:=⟨v.x.mul k,v.y.mul k⟩
def NV.dot(v w:NV):NF:=(v.x.mul w.x).add (v.y.mul w.y)
def NV.bF(v w:NV):NF:=(v.x.mul w.y).sub (v.y.mul w.x)
theorem NV.iK(v w:NV):(v.sub w).q=v.q.sub w.q:=by simp only[NV.sub,NV.q,V2.sub,NF.iK]
theorem NV.Ac(v w:NV):(v.add w).q=v.q.add w.q:=rfl
theorem NV.DW(v:NV)(k:NF):(v.times k).q=v.q.mul k.q:=rfl
theorem NV.lZ(v w:NV):(v.bF w).q=v.q.bF w.q:=NF.iK _ _
theorem W1(v w:NV)(a:b7 kQ v.q)(b:b7 kQ w.q):au prog 103 [dF v,dF w] (dF (v.add w)):=by
 have c:=qK v.x w.x (dB a.1) (dB b.1);have d:=qK v.y w.y (dB a.2) (dB b.2);refine aM nf EE mix (by simp[f103]) ?_;rw[NV.add,sj];simp[f103,ad];refine e2 c ?_;simp[ad];refine e2 d ?_;simp[ad]
theorem L9(v w:NV)(a:b7 kQ v.q)(b:b7 kQ w.q):au prog 78 [dF v,dF w] (dF (v.sub w)):=by
 have c:=oK v.x w.x (dB a.1) (dB b.1);have d:=oK v.y w.y (dB a.2) (dB b.2);refine aM nf On mix (by simp[f78]) ?_;rw[NV.sub,sj];simp[f78,ad];refine e2 c ?_;simp[ad];refine e2 d ?_;simp[ad]
theorem V4(v:NV)(k:NF)(a:b7 kQ v.q)(hk:bt kQ k.q):au prog 104 [dF v,eF k] (dF (v.times k)):=by
 have b:=iB v.x k (dB a.1) (dB hk);have c:=iB v.y k (dB a.2) (dB hk);refine aM nf Mp mix (by simp[f104]) ?_;rw[NV.times,sj];simp[f104,ad];refine e2 b ?_;simp[ad];refine e2 c ?_;simp[ad]
theorem zD(v w:NV)(a:b7 kQ v.q)(b:b7 kQ w.q):au prog 185 [dF v,dF w] (eF (v.bF w)):=by
 have c:=iB v.x w.y (dB a.1) (dB b.2);have d:=iB v.y w.x (dB a.2) (dB b.1);have e:=oK (v.x.mul w.y) (v.y.mul w.x) ((jz a.1 b.2).mono (by decide)) ((jz a.2 b.1).mono (by decide));refine aM nf EW mix (by simp[f185]) ?_;rw[NV.bF];simp[f185,ad];refine e2 c ?_;simp[ad];refine e2 d ?_;simp[ad];refine e2 e ?_;simp[ad]
theorem V5(v:NV)(a:b7 kQ v.q):au prog 72 [dF v] (eV v.q):=by
 have b:=Bf v.x (dB a.1);have c:=Bf v.y (dB a.2);refine aM nf Oi mix (by simp[f72]) ?_;rw[NV.q,qw];simp[f72,ad];refine e1 b ?_;simp[ad];refine e1 c ?_;simp[ad]
def NV.from(p:cW):NV:=⟨⟨aZ p.x,false⟩,⟨aZ p.y,false⟩⟩
theorem KA(p:cW)(d:bU p.x=0)(e:bU p.y=0)(a:ir p):au prog 77 [dA p] (dF (.from p)):=by
 have b:=kM p.x d a.1.1;have c:=kM p.y e a.2.1;refine aM nf Om mix (by simp[f77]) ?_;rw[NV.from,sj];simp[f77,ad];refine e1 b ?_;simp[ad];refine e1 c ?_;simp[ad]
structure NS where
 a:NF
 b:NF
 d:NF
noncomputable def il(s:NS):PV:=.st 149 [eF s.a,eF s.b,eF s.d]
@[simp] theorem aJV(s:NS):aJ (il s)=.agg 149:=rfl
@[simp] theorem aIB(s:NS):bV (il s)=[eF s.a,eF s.b,eF s.d]:=rfl
theorem sK(a b d:NF):il ⟨a,b,d⟩=.st 149 [eF a,eF b,eF d]:=rfl
def NS.q(s:NS):S3:=⟨s.a.q,s.b.q,s.d.q⟩
def iq(k:Nat)(s:NS):Prop:=bt k s.a.q/\bt k s.b.q/\bt k s.d.q
theorem OH{q:Rat}(h:bt 1800 q):vr q=false:=by
 have a:(aY q.num.natAbs).length<=600:=vh (K:=1800) (k:=600) h.1 (by decide) (by decide);have b:(aY q.den).length<=600:=vh (K:=1800) (k:=600) h.2 (by decide) (by decide);rw[vr,kf,kf,decide_eq_false (by omega),decide_eq_false (by omega)];rfl
def NF.width(r:Int):NF:=.int (4*r*r)
structure NM where
 w:NV
 d:NV
 root:NF
noncomputable def NG(m:NM):PV:=.st 144 [dF m.w,dF m.d,eF m.root]
@[simp] theorem aJU(m:NM):aJ (NG m)=.agg 144:=rfl
@[simp] theorem aIA(m:NM):bV (NG m)=[dF m.w,dF m.d,eF m.root]:=rfl
def NM.of(width:NF)(p d b:NV):NM:=⟨b.sub p,d,(((b.sub p).dot d).mul ((b.sub p).dot d)).sub ((d.dot d).mul (((b.sub p).dot (b.sub p)).sub width))⟩
theorem Qt(p:cW)(j:ir p):au prog 76 [dA p] (.int .i64 (ie p)):=by
 have f:=v7 p j;have k:bB [dE p,bf (decide (p.x=[48]/\p.y=[48])) 6]=ie p:=by
  rw[ie,bB,bB,bB,bf]
  by_cases h:dE p=0
  ·by_cases g:p.x=[48]/\p.y=[48]
   ·simp[h,g]
   ·simp[h,g]
  ·simp[h]
 refine aM nf Ol mix (by simp[f76]) ?_;rw[<-k];obtain⟨x,y⟩:=p;simp only[dA]at*;generalize dE ⟨x,y⟩=c at*;have e:∀b:Bool,decide (x=[48]/\y=[48])=b->au prog 83 [.bool b,.int .i64 6] (.int .i64 (bf b 6))/\au prog 73 [.seq [.int .i64 c,.int .i64 (bf b 6)]] (.int .i64 (bB [c,bf (decide (x=[48]/\y=[48])) 6])):=fun b i=>by
  rw[i];exact⟨Fg b 6,Ai [c,bf b 6] (by simp)⟩
 generalize bB [c,bf (decide (x=[48]/\y=[48])) 6]=res at*
 by_cases hx:x=[48]
 ·by_cases hy:y=[48]
  ·obtain⟨d,a⟩:=e true (by simp[hx,hy]);simp[f76,ad];refine e1 f ?_;simp[ad,hx,hy];refine e2 d ?_;simp[ad];refine ep a (by simp;first|exact⟨rfl,rfl⟩|rfl) (by simp;first|exact⟨rfl,rfl⟩|rfl) ?_;simp
   repeat' first|rfl|apply And.intro
  ·obtain⟨d,a⟩:=e false (by simp[hx,hy]);simp[f76,ad];refine e1 f ?_;simp[ad,hx,hy];refine e2 d ?_ (h1:=by simp[hy]);simp[ad];refine ep a (by simp;first|exact⟨rfl,rfl⟩|rfl) (by simp;first|exact⟨rfl,rfl⟩|rfl) ?_;simp
   repeat' first|rfl|apply And.intro
 ·obtain⟨d,a⟩:=e false (by simp[hx]);simp[f76,ad];refine e1 f ?_;simp[ad,hx];refine e2 d ?_;simp[ad];refine ep a (by simp;first|exact⟨rfl,rfl⟩|rfl) (by simp;first|exact⟨rfl,rfl⟩|rfl) ?_;simp
  repeat' first|rfl|apply And.intro
theorem lB:∀l:List Int,bB l=0↔∀e∈l,e=0
 |[]=>by simp[bB]
 |e::r=>by
  rw[bB]
  by_cases h:e=0
  ·rw[if_pos h,lB r];simp[h]
  ·rw[if_neg h];simp[h]
theorem lA{p:cW}(h:dE p=0):bU p.x=0/\bU p.y=0:=by
 have:=(lB _).1 h;exact⟨this _ (by simp),this _ (by simp)⟩
theorem xu{p:cW}(h:ie p=0):dE p=0/\¬(p.x=[48]/\p.y=[48]):=by
 rw[ie]at h
 split at h
 ·cases h
 ·rename_i a;exact⟨h,fun x=>a ⟨h,x⟩⟩
def vP(p:cW):V2:=⟨aZ p.x,aZ p.y⟩
theorem vc(p:cW):(NV.from p).q=vP p:=rfl
theorem sq_nonneg(a:Rat):0<=a*a:=by
 rcases Rat.le_total (a:=0) (b:=a)with h|h
 ·exact eb h h
 ·have c:0<=-a:=by
   have:=Rat.neg_le_neg h
   rwa [Rat.neg_zero]at this
  have:=eb c c
  rwa [Rat.neg_mul,Rat.mul_neg,Rat.neg_neg]at this
theorem aGh{a b:Rat}(h:a*a+b*b=0):a=0/\b=0:=by
 have key:∀x y:Rat,x*x+y*y=0->x=0:=fun x y h=>by
  have c:=sq_nonneg x;have d:=sq_nonneg y;have e:x*x<=0:=by
   have f:x*x+0<=x*x+y*y:=(Rat.add_le_add_left).2 d
   rwa [Rat.add_zero,h]at f
  have g:x*x=0:=Rat.le_antisymm e c;rcases Rat.mul_eq_zero.1 g with h|h<;>exact h
 exact⟨key a b h,key b a (by rw[Rat.add_comm];exact h)⟩
theorem XN{p:cW}(h:ie p=0):(vP p).dot (vP p)≠0:=by
 obtain⟨c,d⟩:=xu h;obtain⟨e,f⟩:=lA c;intro g;obtain⟨a,b⟩:=aGh g;apply d;have e1:=(iV e).1;have e2:=(iV f).1;simp only[vP]at a b;rw[a,se]at e1;rw[b,se]at e2;exact⟨e1.symm,e2.symm⟩
theorem l8{k:Nat}{p:cW}(h:b7 k (vP p)):b7 k (NV.from p).q:=h
def yi:PV:=.st 128 [.int .i64 0,.aL]
def zeroV:PV:=.st 132 [.st 130 [yi,yi],.st 130 [yi,yi]]
@[simp] theorem aKh:aJ zeroV=.agg 132:=rfl
def oF(p:cW):Bool:=decide (p.x.length<=40)&&decide (p.y.length<=40)&&(decide (dE p≠0)||(jb p.x 9&&jb p.y 9))
theorem Il(p:cW)(i:ir p):au prog 9 [dA p] (.bool (oF p)):=by
 have h:=wv p i;have j:=Se p 9 i (by decide);refine aM nf Ow mix (by simp[f9]) ?_;rw[oF];obtain⟨x,y⟩:=p;simp only[dA]at*;generalize dE ⟨x,y⟩=c at*;generalize (jb x 9&&jb y 9)=f at*
 by_cases d:x.length<=40
 ·have a:(x.length:Int)<=40:=by omega
  by_cases e:y.length<=40
  ·have b:(y.length:Int)<=40:=by omega
   by_cases g:c=0
   ·simp[f9,a,b,ad];refine c1 h ?_;simp[g,ad];refine c2 j ?_;simp[d,e,g]
   ·simp[f9,a,b,ad];refine c1 h ?_;simp[d,e,g,ad]
  ·have b:¬(y.length:Int)<=40:=by omega
   simp[f9,a,b,e,ad]
 ·have a:¬(x.length:Int)<=40:=by omega
  simp[f9,a,d,ad]
theorem Mv{s:List Nat}(h:jb s 9=true):bt 30 (aZ s):=by
 simp only[jb,ac,decide_eq_true_eq]at h;have a:=KG h.1.2;have b:=KG h.2;exact⟨da a (by decide),da b (by decide)⟩
theorem Gq{p:cW}(h:oF p=true)(a:dE p=0):b7 30 (vP p):=by
 simp only[oF,a,ne_eq,not_true_eq_false,decide_false,Bool.false_or,ac]at h;exact⟨Mv h.2.1,Mv h.2.2⟩
theorem Ww(x y:List Nat):au prog 13 [.str x,.str y] (.st 23 [.str x,.str y]):=by
 refine aM nf NZ mix (by simp[f13]) ?_;simp[f13,ad]
theorem zP{a b:Nat}{x y:NF}(h:bt a x.q)(c:bt b y.q):bt (a+b+1) (x.add y).q:=yj h c
theorem DN{a b:Nat}{x y:NF}(h:bt a x.q)(c:bt b y.q):bt (a+b+1) (x.sub y).q:=by rw[NF.iK];exact tG h c
theorem ic{a b:Nat}{x y:NF}(h:bt a x.q)(c:bt b y.q):bt (a+b) (x.mul y).q:=jz h c
theorem zO{a:Nat}{x:NF}(h:bt a x.q):bt a (x.neg).q:=sc h
theorem Ey(s:NS)(hs:iq 8000 s):au prog 120 [il s] (.int .i64 (jJ s.q)):=by
 have g:=oN s.a;have h:=oN s.b;have i:=oN s.d;have l:=iB s.a s.a (hs.1.mono (by decide)) (hs.1.mono (by decide));have m:=iB s.b s.b (hs.2.1.mono (by decide)) (hs.2.1.mono (by decide));have n:=iB (s.b.mul s.b) s.d ((ic hs.2.1 hs.2.1).mono (by decide)) (hs.2.2.mono (by decide));have p:=sJ (s.a.mul s.a) ((s.b.mul s.b).mul s.d) ((ic hs.1 hs.1).mono (by decide)) ((ic (ic hs.2.1 hs.2.1) hs.2.2).mono (by decide));have q1:jJ s.q=vD (cV s.a.q) (cV s.b.q*cV s.d.q) (dG (s.a.mul s.a).q ((s.b.mul s.b).mul s.d).q):=rfl;rw[q1];rw[show(if s.a.q<0 then(-1:Int)else if s.a.q=0 then 0 else 1)=cV s.a.q from rfl]at g;rw[show(if s.b.q<0 then(-1:Int)else if s.b.q=0 then 0 else 1)=cV s.b.q from rfl]at h;rw[show(if s.d.q<0 then(-1:Int)else if s.d.q=0 then 0 else 1)=cV s.d.q from rfl]at i;have e:=CO s.a.q;have f:=CQ (CO s.b.q) (CO s.d.q);have k:=Wb (s.a.mul s.a).q ((s.b.mul s.b).mul s.d).q;have w1:=CP f;refine aM nf M6 mix (by simp[f120]) ?_;clear q1;generalize dG (s.a.mul s.a).q ((s.b.mul s.b).mul s.d).q=o at*;generalize cV s.a.q=x at*;generalize cV s.b.q=y1 at*;generalize cV s.d.q=y2 at*;have j:=CP (CQ e f);have r:=CP (CQ e k);simp[f120,ad,-aH];rw[aH];simp[-aH,ad];rw[aH];simp[-aH,ad];refine e1 g ?_;simp[ad];refine e1 h ?_;simp[ad];refine e1 i ?_;simp[ad,w1];generalize y1*y2=y at*;rw[vD]
 by_cases c2:x=0
 ·subst c2;rw[if_pos (by omega),if_pos rfl];simp[ad]
 ·by_cases c:0<=x*y
  ·rw[if_pos c,if_neg c2];simp[c,c2,j,ad]
  ·rw[if_neg c];simp[c,c2,j,ad];refine e2 l ?_;simp[ad];refine e2 m ?_;simp[ad];refine e2 n ?_;simp[ad];refine e2 p ?_;simp[ad,r]
structure NB where
 a:NV
 b:NV
 d:NF
noncomputable def qQ(n:NB):PV:=.st 171 [dF n.a,dF n.b,eF n.d]
@[simp] theorem aJT(n:NB):aJ (qQ n)=.agg 171:=rfl
@[simp] theorem aIz(n:NB):bV (qQ n)=[dF n.a,dF n.b,eF n.d]:=rfl
theorem XU(a b:NV)(d:NF):qQ ⟨a,b,d⟩=.st 171 [dF a,dF b,eF d]:=rfl
def NB.q(n:NB):P4:=⟨⟨n.a.x.q,n.b.x.q,n.d.q⟩,⟨n.a.y.q,n.b.y.q,n.d.q⟩⟩
def okB(k:Nat)(n:NB):Prop:=b7 k n.a.q/\b7 k n.b.q/\bt k n.d.q
theorem okB.mono{k l:Nat}{n:NB}(h:okB k n)(a:k<=l):okB l n:=⟨h.1.mono a,h.2.1.mono a,h.2.2.mono a⟩
theorem Nb(e:Int):∀l:List Int,bB (l++[e])=if bB l=0 then e else bB l
 |[]=>by by_cases h:e=0<;>simp[bB,h]
 |x::l=>by
  simp only[List.cons_append,bB,Nb e l]
  by_cases hx:x=0
  ·simp[hx]
  ·simp[hx]
def je{α:Type}(a:List α->α->Int)(l:List α)(i:Nat):Int:=match l[i]? with
 |some x=>a (l.take i) x
 |none=>0
def lY{α:Type}(a:List α->α->Int)(l:List α):Int:=bB ((b5 l.length).map (je a l))
theorem DC{f:Nat->Int}:∀(n i:Nat),(∀j,j<i->f j=0)->i<n->f i≠0->bB ((b5 n).map f)=f i
 |0,i,_,h,_=>by omega
 |n+1,i,a,g,b=>by
  rw[cb,List.map_append,bi,bp,Nb]
  by_cases hi:i<n
  ·rw[DC n i a hi b,if_neg b]
  ·have:i=n:=by omega
   subst this;rw[(lB _).2 (by intro e c;obtain⟨j,d,rfl⟩:=b1.1 c;exact a j (b2.1 d)),if_pos rfl]
theorem vQ{α:Type}{a:List α->α->Int}{l:List α}{i:Nat}{x:α}(h:∀j,j<i->je a l j=0)(hx:l[i]?=some x)(b:a (l.take i) x≠0):lY a l=a (l.take i) x:=by
 have hi:=(List.getElem?_eq_some_iff.1 hx).1;have e:je a l i=a (l.take i) x:=by rw[je,hx]
 rw[lY,DC _ i h hi (by rw[e];exact b),e]
theorem vR{α:Type}{b:List α->α->Int}{l:List α}:lY b l=0↔∀j,j<l.length->je b l j=0:=by
 rw[lY,lB];constructor
 ·intro h j a;exact h _ (b1.2 ⟨j,b2.2 a,rfl⟩)
 ·intro h e c;obtain⟨j,a,rfl⟩:=b1.1 c;exact h j (b2.1 a)
theorem vN{α:Type}{a:List α->α->Int}{l:List α}{i:Nat}{x:α}(h:∀j,j<i->je a l j=0)(hx:l[i]?=some x)(c:a (l.take i) x=0):∀j,j<i+1->je a l j=0:=by
 intro j d
 by_cases b:j=i
 ·subst b;rw[je,hx];exact c
 ·exact h j (by omega)
def iN(t:aC)(bef:List ft)(s:ft):Int:=
 if isName s.name=false then 8
 else if bef.any (fun o=>decide (o.name=s.name))=true then 9
 else if dE s.pt≠0 then dE s.pt
 else if t.on (vP s.pt)<0 then 16 else 0
def iM(t:aC):Int:=
 if t.cs.length<3 then 2
 else if 12<t.cs.length then 5
 else if t.cs.any fG=true then 3
 else if t.fB=false then 15
 else if t.dK<1\/1000<t.dK then 3
 else if 12<t.bj.length then 5
 else if lY (gX t.cs.length) t.bj≠0 then lY (gX t.cs.length) t.bj
 else if 256<t.aP.length then 5
 else lY (iN t) t.aP
def vw(p:ft):Prop:=jn p.name/\ir p.pt
def aC.sp(t:aC)(i:Nat):ft:=t.aP.getD i ⟨[],⟨[],[]⟩⟩
@[simp] theorem aC.zi{t:aC}{i:Nat}(h:i<t.aP.length):t.aP[i]'h=t.sp i:=by
 rw[aC.sp,bd,a9 h];rfl
theorem aC.mE{t:aC}{i:Nat}(h:i<t.aP.length):t.aP[i]?=some (t.sp i):=by rw[a9 h,aC.zi]
structure o6(t:aC):Prop where
 cl:t.cs.length<=1000000
 pl:t.bj.length<=1000000
 sl:t.aP.length<=1000000
 pk:∀p∈t.bj,qX p
 sp:∀s∈t.aP,vw s
def nM(t:aC)(name:List Nat):Int:=match t.aP.findIdx? (fun s=>decide (s.name=name))with
 |some i=>i
 |none=>-1
theorem DQ{n:Nat}{c:List dO}{p:dO}(h:gX n c p=0):bU p.a=0/\bU p.b=0:=by
 rw[gX]at h
 split at h
 ·omega
 split at h
 ·omega
 split at h
 ·omega
 split at h
 ·contradiction
 split at h
 ·contradiction
 rename_i d e;exact⟨Decidable.not_not.1 d,Decidable.not_not.1 e⟩
theorem Wt(t:aC)(name:List Nat)(h:t.aP.length<=1000000):au prog 111 [dj t,.str name] (.int .i64 (nM t name)):=by
 refine aM nf Fc mix (by simp[f111]) ?_;simp[f111,ad];refine lp (α:=Nat) (fun i=>⟨[(5,.p (.int .i64 i)),(2,.ptr 0 []),(1,.p (.str name))],[.box false (.p (dj t))]⟩) (fun i=>i<=t.aP.length/\∀j,j<i->¬(t.sp j).name=name) (fun i=>t.aP.length-i) 0 (by simp) ?_;rintro i ⟨g,c⟩
 by_cases hi:i<t.aP.length
 ·have d:=aC.mE hi;have f:=cQ (i:=i) (by omega)
  by_cases a:(t.sp i).name=name
  ·have:nM t name=i:=by
    have:t.aP.findIdx? (fun s=>decide (s.name=name))=some i:=by
     rw[b0];refine⟨hi,by rw[aC.zi];simp[a],fun j b=>?_⟩;rw[aC.zi];simp[c j b]
    rw[nM,this]
   simp[hi,d,a,this,ad]
  ·simp[hi,d,a,f,ad];exact rd (i+1) ⟨hi,fun j b=>by
    by_cases e:j=i
    ·subst e;exact a
    ·exact c j (by omega)⟩
 ·have:i=t.aP.length:=by omega
  subst this;have:nM t name= -1:=by
   have:t.aP.findIdx? (fun s=>decide (s.name=name))=none:=by
    rw[b3];intro s hs;obtain⟨j,b,rfl⟩:=b4.1 hs;rw[aC.zi];simp[c j b]
   rw[nM,this]
  simp[this,ad]
theorem aGg{t:aC}{i:Nat}(hi:i<t.aP.length):nM t (t.sp i).name<i↔(t.aP.take i).any (fun o=>decide (o.name=(t.sp i).name))=true:=by
 obtain⟨k,hk⟩:∃k,t.aP.findIdx? (fun s=>decide (s.name=(t.sp i).name))=some k:=by
  cases h:t.aP.findIdx? (fun s=>decide (s.name=(t.sp i).name))with
  |some k=>exact⟨k,rfl⟩
  |none=>
   rw[b3]at h;have:=h _ (bb (aC.mE hi));simp at this
 rw[nM,hk];rw[b0]at hk;obtain⟨k1,k2,k3⟩:=hk;rw[be];constructor
 ·intro h;have h:k<i:=by simp only at h;omega
  exact⟨t.aP[k],bb (i:=k) (by rw[bv,if_pos h,a9 k1]),k2⟩
 ·rintro⟨o,b,a⟩;obtain⟨j,c,rfl⟩:=b4.1 b;simp only[List.length_take]at c;simp only;rw[List.getElem_take]at a;have:¬j<k:=fun d=>by
   have:=k3 j d;rw[a]at this;simp at this
  omega
theorem PD(t:aC)(L:o6 t):au prog 25 [dj t] (.int .i64 (iM t)):=by
 obtain⟨s,M,N,J,K⟩:=L;refine aM nf N7 mix (by simp[f25]) ?_;rw[iM]
 by_cases c1:t.cs.length<3
 ·have cI:(t.cs.length:Int)<3:=by omega
  rw[if_pos c1];simp[f25,ad,cI]
 have v:¬(t.cs.length:Int)<3:=by omega
 rw[if_neg c1]
 by_cases c2:12<t.cs.length
 ·have cI:(12:Int)<t.cs.length:=by omega
  rw[if_pos c2];simp[f25,ad,v,cI]
 have A:¬(12:Int)<t.cs.length:=by omega
 rw[if_neg c2];simp[f25,ad,v,A];refine lp (α:=Nat) (fun i=>⟨[(3,.p (.int .i64 i)),(1,.ptr 0 [])],[.box false (.p (dj t))]⟩) (fun i=>i<=t.cs.length/\(t.cs.take i).any fG=false) (fun i=>t.cs.length-i) 0 (by simp) ?_;rintro i ⟨i1,i2⟩
 by_cases hi:i<t.cs.length
 ·have k:=aC.get hi;have f:=cQ (i:=i) (by omega);have l:=WB (t.at i);cases hf:fG (t.at i)
  ·rw[hf]at l;simp[hi,k,ad];refine Go.az.c1 l ?_;simp[f,ad];exact rd (i+1) ⟨hi,by rw[zx k,i2,hf];rfl⟩
  ·rw[hf]at l;have:t.cs.any fG=true:=be.2 ⟨t.at i,bb k,hf⟩;rw[if_pos this];simp[hi,k,ad];refine Go.az.c1 l ?_;simp[ad]
 have:i=t.cs.length:=by omega
 subst this;rw[List.take_length]at i2;have x:∀p∈t.cs,dM p:=fun p I=>DO (by
  cases h:fG p
  ·rfl
  ·rw[be.2 ⟨p,I,h⟩]at i2;cases i2)
 have E:=Ql t s x;rw[i2,if_neg (by decide)];simp[ad];refine Go.az.c1 E ?_;cases R:t.fB
 ·simp[ad]
 rw[if_neg (by decide)];have u:(t.dK<1\/1000<t.dK)\/(¬t.dK<1/\¬1000<t.dK):=by omega
 rcases u with u|⟨y,z⟩
 ·rw[if_pos u]
  by_cases e1:t.dK<1
  ·simp[e1,ad]
  ·have e2:1000<t.dK:=by omega
   simp[e1,e2,ad]
 rw[if_neg (by omega)]
 by_cases c3:12<t.bj.length
 ·have cI:(12:Int)<t.bj.length:=by omega
  rw[if_pos c3];simp[y,z,cI,ad]
 have B:¬(12:Int)<t.bj.length:=by omega
 rw[if_neg c3];simp[y,z,B,ad];refine lp (α:=Nat) (fun i=>⟨[(4,.p (.int .i64 i)),(1,.ptr 0 [])],[.box false (.p (dj t))]⟩) (fun i=>i<=t.bj.length/\∀j,j<i->je (gX t.cs.length) t.bj j=0) (fun i=>t.bj.length-i) 0 (by simp) ?_;rintro i ⟨k1,k2⟩
 by_cases hk:i<t.bj.length
 ·have gk:=aC.lR hk;have f:=cQ (i:=i) (by omega);have b:=PG t i hk M s J (fun j H=>by
   have:=k2 j H;rw[je,aC.lR (by omega)]at this;exact DQ this)
  by_cases he:gX t.cs.length (t.bj.take i) (t.pk i)=0
  ·rw[he]at b;simp[hk,ad];refine Go.az.c2 b ?_;simp[f,ad];exact rd (i+1) ⟨hk,vN k2 gk he⟩
  ·have G:=vQ k2 gk he;rw[G,if_pos he];simp[hk,ad];refine Go.az.c2 b ?_;simp[he,ad]
 have:i=t.bj.length:=by omega
 subst this;have F:=vR.2 k2;rw[F,if_neg (by decide)]
 by_cases c4:256<t.aP.length
 ·have cI:(256:Int)<t.aP.length:=by omega
  rw[if_pos c4];simp[cI,ad]
 have C:¬(256:Int)<t.aP.length:=by omega
 rw[if_neg c4];simp[C,ad];refine lp (α:=Nat) (fun i=>⟨[(6,.p (.int .i64 i)),(1,.ptr 0 [])],[.box false (.p (dj t))]⟩) (fun i=>i<=t.aP.length/\∀j,j<i->je (iN t) t.aP j=0) (fun i=>t.aP.length-i) 0 (by simp) ?_;rintro i ⟨s1,s2⟩
 by_cases hs:i<t.aP.length
 ·have a:=aC.mE hs;have f:=cQ (i:=i) (by omega);obtain⟨P,Q⟩:=K _ (bb a);have c:=DD (t.sp i).name P.1;have m:=Wt t (t.sp i).name N;have b:=wv (t.sp i).pt Q;have w:=aGg hs;have g:iN t (t.aP.take i) (t.sp i)≠0->lY (iN t) t.aP=iN t (t.aP.take i) (t.sp i):=vQ s2 a;have O:iN t (t.aP.take i) (t.sp i)=0->∀j,j<i+1->je (iN t) t.aP j=0:=vN s2 a;have ev:iN t (t.aP.take i) (t.sp i)=if isName (t.sp i).name=false then 8 else if(t.aP.take i).any (fun o=>decide (o.name=(t.sp i).name))=true then 9 else if dE (t.sp i).pt≠0 then dE (t.sp i).pt else if t.on (vP (t.sp i).pt)<0 then 16 else 0:=rfl
  cases n:isName (t.sp i).name
  ·rw[n]at c;rw[n,if_pos rfl]at ev;rw[g (by rw[ev];decide),ev];simp[hs,a,ad];refine Go.az.c1 c ?_;simp[ad]
  rw[n]at c;rw[n,if_neg (by decide)]at ev
  by_cases e:nM t (t.sp i).name<i
  ·rw[if_pos (w.1 e)]at ev;rw[g (by rw[ev];decide),ev];simp[hs,a,ad];refine Go.az.c1 c ?_;simp[ad];refine Go.az.c2 m ?_;simp[e,ad]
  rw[if_neg (fun h=>e (w.2 h))]at ev
  by_cases d:dE (t.sp i).pt=0
  case neg=>
   rw[if_pos d]at ev;rw[g (by rw[ev];exact d),ev];simp[hs,a,ad];refine Go.az.c1 c ?_;simp[ad];refine Go.az.c2 m ?_;simp[e,ad];refine Go.az.c1 b ?_;simp[d,ad]
  rw[if_neg (by simp[d])]at ev;obtain⟨g1,g2⟩:=lA d;have r:=Ni t (vP (t.sp i).pt) s x ⟨(gP g1).mono (by decide),(gP g2).mono (by decide)⟩;have D:eV (vP (t.sp i).pt)=dA (t.sp i).pt:=by
   rw[eV,vP];dsimp only;rw[(iV g1).1,(iV g2).1]
  rw[D]at r;rw[d]at b
  by_cases q:t.on (vP (t.sp i).pt)<0
  ·rw[if_pos q]at ev;rw[g (by rw[ev];decide),ev];simp[hs,a,ad];refine Go.az.c1 c ?_;simp[ad];refine Go.az.c2 m ?_;simp[e,ad];refine Go.az.c1 b ?_;simp[ad];refine Go.az.c2 r ?_;simp[q,ad]
  ·rw[if_neg q]at ev;simp[hs,a,ad];refine Go.az.c1 c ?_;simp[ad];refine Go.az.c2 m ?_;simp[e,ad];refine Go.az.c1 b ?_;simp[ad];refine Go.az.c2 r ?_;simp[q,f,ad];exact rd (i+1) ⟨hs,O ev⟩
 ·have:i=t.aP.length:=by omega
  subst this;rw[vR.2 s2];simp[ad]
open Go.Proofs Go.Proofs.YtanjnahmbanmaaaGreatDoor
section
variable{H:Type}{W:World}{aa:Nat->Prop}
theorem zu:∀d:ap H,1<=Rows.uptoBulk d:=by
 intro d;cases d with
 |lit l=>cases l<;>simp[Rows.uptoBulk]
 |_=>simp[Rows.uptoBulk]
theorem zL{α:Type}{n:Nat}{t e:TypeId}{F:α->PV}{ok:α->Prop}(g:prog.underlying t=some (.slice e))
 (p:∀(d:ap H),(∃c,aV prog W aa (bH prog n e d) c)->Rows.uptoBulk d<=1048576->∃a,bH prog n e d=F a/\ok a/\2<=Rows.uptoBulk d)
 {d:ap H}(h:∃cs,aV prog W aa (bH prog (n+1) t d) cs)(k:Rows.uptoBulk d<=1048576):∃l:List α,bH prog (n+1) t d=.seq (l.map F)/\(∀a∈l,ok a)/\l.length<=1000000:=by
 obtain⟨cs,h⟩:=h;cases d with
 |nil=>exact⟨[],by simp[bH,g],(fun _ h=>nomatch h),by simp⟩
 |slice f sp=>
  simp only[bH,g,aV]at h⊢;have i:∀e'∈f.map (bH prog n e),∃c,aV prog W aa e' c:=by
   rcases h with⟨h,_⟩|⟨_,_,_,_,w,h,_⟩
   ·rw[h];intro _ h;cases h
   ·exact D4 h
  have key:∀f:List (ap H),(∀e'∈f.map (bH prog n e),∃c,aV prog W aa e' c)->Rows.uptoBulkAll f<=1048576->∃l:List α,f.map (bH prog n e)=l.map F/\(∀a∈l,ok a)/\2*l.length<=Rows.uptoBulkAll f:=by
   intro f
   induction f with
   |nil=>intro _ _;exact⟨[],rfl,(fun _ h=>nomatch h),by simp⟩
   |cons d r v=>
    intro i k;rw[Rows.uptoBulkAll]at k⊢;obtain⟨a,q,u,m⟩:=p d (i _ List.mem_cons_self) (by omega);obtain⟨l,j,o,y⟩:=v (fun e' s=>i e' (List.mem_cons_of_mem _ s)) (by omega);refine⟨a::l,by simp only[bi];rw[q,j],fun x hx=>?_,by rw[List.length_cons];omega⟩;rcases cc.1 hx with rfl|hx
    ·exact u
    ·exact o x hx
  rw[Rows.uptoBulk]at k;obtain⟨l,j,m,o⟩:=key f i (by omega);exact⟨l,by rw[j],m,by omega⟩
 |lit l=>simp only[bH,g,aV]at h
 |ptr d=>simp only[bH,g,aV]at h
 |agg l=>simp only[bH,g,aV]at h
 |iface a b=>simp only[bH,g,aV]at h
 |map l=>simp only[bH,g,aV]at h
 |held a=>simp only[bH,g,aV]at h
theorem DX{n:Nat}{d:ap H}(h:∃cs,aV prog W aa (bH prog (n+1) 9 d) cs)(a:Rows.uptoBulk d<=1048576):∃s:List Nat,bH prog (n+1) 9 d=.str s/\jn s:=by
 obtain⟨cs,h⟩:=h;cases d with
 |lit l=>
  cases l with
  |string bytes=>
   refine⟨bytes.map (·.toNat),by simp only[bH,Du],?_,?_⟩
   ·rw[Rows.uptoBulk]at a;rw[List.length_map];omega
   ·intro c hc;obtain⟨u,_,rfl⟩:=b1.1 hc;exact u.toNat_lt
  |_=>simp only[bH,Du,aV]at h
 |_=>simp only[bH,Du,aV]at h
theorem aGT:∃a b:av,prog.underlying 179=some (.struct #[a,b])/\a.type=3/\b.type=3:=⟨_,_,underlying179,rfl,rfl⟩
theorem Pg:prog.underlyingId 179=178:=by kernel_rfl
theorem Qo{m n:Nat}(j:m=n+1){d:ap H}(h:∃cs,aV prog W aa (bH prog (m+1) 179 d) cs)(o:Rows.uptoBulk d<=1048576):∃p:dR,bH prog (m+1) 179 d=cj p/\True/\2<=Rows.uptoBulk d:=by
 obtain⟨cs,h⟩:=h;obtain⟨f0,f1,f,t0,t1⟩:=aGT;cases d with
 |agg l=>
  simp only[bH,f,aV]at h⊢;obtain⟨q,k,e,c,_⟩:=h;rw[Pg,aGt]at e;cases e
  match l,c with
  |[],c=>simp[bg]at c
  |[x],c=>simp[bg]at c
  |x::y::r,c=>
   have:=zu x;simp only[bl,bi,bg,bo,bp,t0,t1]at c⊢;obtain⟨c0,_,_,g1,_,c1,_,_,g2,_⟩:=c;subst j;obtain⟨a,g⟩:=vU (n:=n) x c0 g1;obtain⟨b,i⟩:=vU (n:=n) y c1 g2;refine⟨⟨a,b⟩,by rw[g,i,Pg];rfl,trivial,?_⟩;rw[Rows.uptoBulk,Rows.uptoBulkAll];omega
 |_=>simp only[bH,f,aV]at h
theorem aGR:∃a b f2 f3:av,prog.underlying 161=some (.struct #[a,b,f2,f3])/\a.type=9/\b.type=3/\f2.type=22/\f3.type=22:=⟨_,_,_,_,underlying161,rfl,rfl,rfl,rfl⟩
theorem Pe:prog.underlyingId 161=160:=by kernel_rfl
theorem PU{m n:Nat}(q:m=n+1){d:ap H}(h:∃cs,aV prog W aa (bH prog (m+1) 161 d) cs)(o:Rows.uptoBulk d<=1048576):∃p:dO,bH prog (m+1) 161 d=fj p/\qX p/\2<=Rows.uptoBulk d:=by
 obtain⟨cs,h⟩:=h;obtain⟨f0,f1,f2,f3,g,t0,t1,t2,t3⟩:=aGR;cases d with
 |agg l=>
  have e:∀x∈l,Rows.uptoBulk x<=1048576:=fun x hx=>by
   have:=sN.yl hx;rw[Rows.uptoBulk]at o;omega
  simp only[bH,g,aV]at h⊢;obtain⟨B,A,f,c,_⟩:=h;rw[Pe,aGs]at f;cases f
  match l,c with
  |[],c=>simp[bg]at c
  |[x],c=>simp[bg]at c
  |[x,y],c=>simp[bg]at c
  |[x,y,z],c=>simp[bg]at c
  |x::y::z::w::r,c=>
   have:=zu x;simp only[bl,bi,bg,bo,bp,t0,t1,t2,t3]at c⊢;obtain⟨c0,_,_,g0,_,c1,_,_,g1,_,c2,_,_,g2,_,c3,_,_,g3,_⟩:=c;subst q;obtain⟨a,i,k⟩:=DX (n:=n) ⟨c0,g0⟩ (e x (by simp));obtain⟨b,j⟩:=vU (n:=n) y c1 g1;obtain⟨u,eu,s⟩:=yx (n:=n) ⟨c2,g2⟩ (e z (by simp));obtain⟨v,ev,t⟩:=yx (n:=n) ⟨c3,g3⟩ (e w (by simp));refine⟨⟨a,b,u,v⟩,by rw[i,j,eu,ev,Pe];rfl,⟨k,s,t⟩,?_⟩;rw[Rows.uptoBulk,Rows.uptoBulkAll];omega
 |_=>simp only[bH,g,aV]at h
theorem aGU:∃a b:av,prog.underlying 163=some (.struct #[a,b])/\a.type=9/\b.type=24:=⟨_,_,underlying163,rfl,rfl⟩
theorem Ph:prog.underlyingId 163=123:=by kernel_rfl
theorem Qm{m n:Nat}(s:m=n+2){d:ap H}(h:∃cs,aV prog W aa (bH prog (m+1) 163 d) cs)(o:Rows.uptoBulk d<=1048576):∃p:ft,bH prog (m+1) 163 d=eP p/\vw p/\2<=Rows.uptoBulk d:=by
 obtain⟨cs,h⟩:=h;obtain⟨f0,f1,g,t0,t1⟩:=aGU;cases d with
 |agg l=>
  have f:∀x∈l,Rows.uptoBulk x<=1048576:=fun x hx=>by
   have:=sN.yl hx;rw[Rows.uptoBulk]at o;omega
  simp only[bH,g,aV]at h⊢;obtain⟨u,t,e,c,_⟩:=h;rw[Ph,aGr]at e;cases e
  match l,c with
  |[],c=>simp[bg]at c
  |[x],c=>simp[bg]at c
  |x::y::r,c=>
   have:=zu x;simp only[bl,bi,bg,bo,bp,t0,t1]at c⊢;obtain⟨c0,_,_,g1,_,c1,_,_,g2,_⟩:=c;subst s;obtain⟨a,i,k⟩:=DX (n:=n+1) ⟨c0,g1⟩ (f x (by simp));obtain⟨b,j,q⟩:=GO (n:=n) ⟨c1,g2⟩ (f y (by simp));refine⟨⟨a,b⟩,by rw[i,j,Ph];rfl,⟨k,q⟩,?_⟩;rw[Rows.uptoBulk,Rows.uptoBulkAll];omega
 |_=>simp only[bH,g,aV]at h
theorem aGV:∃a b f2 f3:av,prog.underlying 48=some (.struct #[a,b,f2,f3])/\a.type=44/\b.type=3/\f2.type=45/\f3.type=46:=⟨_,_,_,_,underlying48,rfl,rfl,rfl,rfl⟩
theorem Pj:prog.underlyingId 48=47:=by kernel_rfl
theorem aGx{m n:Nat}(p:m=n+4){d:ap H}(h:∃cs,aV prog W aa (bH prog (m+1) 48 d) cs)(e:Rows.uptoBulk d<=1048576):∃t:aC,bH prog (m+1) 48 d=dj t/\True/\o6 t:=by
 obtain⟨cs,h⟩:=h;obtain⟨f0,f1,f2,f3,j,t0,t1,t2,t3⟩:=aGV;cases d with
 |agg l=>
  have g:∀x∈l,Rows.uptoBulk x<=1048576:=fun x hx=>by
   have:=sN.yl hx;rw[Rows.uptoBulk]at e;omega
  simp only[bH,j,aV]at h⊢;obtain⟨E,D,i,c,_⟩:=h;rw[Pj,aGv]at i;cases i
  match l,c with
  |[],c=>simp[bg]at c
  |[x],c=>simp[bg]at c
  |[x,y],c=>simp[bg]at c
  |[x,y,z],c=>simp[bg]at c
  |x::y::z::w::r,c=>
   simp only[bl,bi,bg,bo,bp,t0,t1,t2,t3]at c⊢;obtain⟨c0,_,_,g0,_,c1,_,_,g1,_,c2,_,_,g2,_,c3,_,_,g3,_⟩:=c;subst p;obtain⟨a,k,_,A⟩:=zL (n:=n+3) aGO (F:=cj) (ok:=fun _=>True) (fun d f e=>Qo (n:=n+1) rfl f e) ⟨c0,g0⟩ (g x (by simp));obtain⟨b,o⟩:=vU (n:=n+3) y c1 g1;obtain⟨u,eu,q,B⟩:=zL (n:=n+3) aGP (F:=fj) (ok:=qX) (fun d f e=>PU (n:=n+1) rfl f e) ⟨c2,g2⟩ (g z (by simp));obtain⟨v,ev,s,C⟩:=zL (n:=n+3) aGQ (F:=eP) (ok:=vw) (fun d f e=>Qm (n:=n) rfl f e) ⟨c3,g3⟩ (g w (by simp));exact⟨⟨a,b,u,v⟩,by rw[k,o,eu,ev,Pj];rfl,trivial,A,B,C,q,s⟩
 |_=>simp only[bH,j,aV]at h
theorem aGw{d:ap H}(h:∃cs,aV prog W aa (bH prog 8 48 d) cs)(a:Rows.uptoBulk d<=1048576):∃t:aC,bH prog 8 48 d=dj t/\True/\o6 t:=aGx (n:=3) rfl h a
end
namespace Hk
mutual
def q8:PV->PV->Bool
 | .int .i64 a,.int .i64 b=>nF a b
 | .int .u64 a,.int .u64 b=>nF a b
 | .bool a,.bool b=>a==b
 | .str a,.str b=>q7 a b
 | .aL,.aL=>true
 | .fq,.fq=>true
 | .cE f a,.cE g b=>bif f==g then kT a b else false
 | .seq a,.seq b=>kT a b
 | .eH a,.eH b=>sY a b
 | .st u a,.st v b=>bif ck u v then kT a b else false
 | .aA a,.aA b=>kT a b
 | .func f a b,.func g c d=>bif ck f g then(bif kT a c then kT b d else false)else false
 | .bZ a,.bZ b=>q8 a b
 |_,_=>false
def kT:List PV->List PV->Bool
 |[],[]=>true
 |a::l,b::m=>bif q8 a b then kT l m else false
 |_,_=>false
def sY:List (PV×PV)->List (PV×PV)->Bool
 |[],[]=>true
 |(a,c)::l,(b,d)::m=>bif q8 a b then(bif q8 c d then sY l m else false)else false
 |_,_=>false
end
mutual
theorem uo:∀{a b:PV},q8 a b=true->a=b
 |a,b,h=>by
  unfold q8 at h
  split at h
  ·rw[ya h]
  ·rw[ya h]
  ·rw[eq_of_beq h]
  ·rw[BJ h]
  ·rfl
  ·rfl
  ·rename_i f a g b;cases hf:f==g
   ·rw[hf]at h;cases h
   ·rw[hf,cond_true]at h;rw[eq_of_beq hf,oc h]
  ·rw[oc h]
  ·rw[Jr h]
  ·simp only[ab]at h
   split at h
   ·rename_i i;rw[ce i,oc h]
   ·cases h
  ·rw[oc h]
  ·simp only[ab]at h
   split at h
   ·rename_i i
    split at h
    ·rename_i e;rw[ce i,oc e,oc h]
    ·cases h
   ·cases h
  ·rw[uo h]
  ·cases h
theorem oc:∀{a b:List PV},kT a b=true->a=b
 |[],[],_=>rfl
 |[],_::_,h=>by simp[kT]at h
 |_::_,[],h=>by simp[kT]at h
 |a::l,b::m,h=>by
  simp only[kT,ab]at h
  split at h
  ·rename_i e;rw[uo e,oc h]
  ·cases h
theorem Jr:∀{a b:List (PV×PV)},sY a b=true->a=b
 |[],[],_=>rfl
 |[],_::_,h=>by simp[sY]at h
 |_::_,[],h=>by simp[sY]at h
 |(a,c)::l,(b,d)::m,h=>by
  simp only[sY,ab]at h
  split at h
  ·rename_i e
   split at h
   ·rename_i j;rw[uo e,uo j,Jr h]
   ·cases h
  ·cases h
end
def uK:List (ao×List PV×PV)->ao->List PV->Option PV
 |[],f,vs=>hk f vs
 |(g,us,v)::r,f,vs=>bif ck g f then(bif kT us vs then some v else uK r f vs)else uK r f vs
def kq:List (ao×List PV×PV)->Prop
 |[]=>True
 |(g,us,v)::r=>au prog g us v/\kq r
theorem tX:∀{l m:List (ao×List PV×PV)},kq l->kq m->kq (l++m)
 |[],_,_,h=>h
 |_::_,_,h,a=>⟨h.1,tX h.2 a⟩
theorem AL:∀{l:List (ao×List PV×PV)},kq l->∀f vs v,uK l f vs=some v->au prog f vs v
 |[],_,f,vs,v,h=>Yo h
 |(g,us,w)::r,a,f,vs,v,h=>by
  simp only[uK,ab]at h
  split at h
  ·rename_i b
   split at h
   ·rename_i hs;simp only[dg]at h;subst h;rw[<-oc hs,<-ce b];exact a.1
   ·exact AL a.2 f vs v h
  ·exact AL a.2 f vs v h
def OC(v:PV):Option PV->Bool
 |some w=>q8 v w
 |none=>false
theorem aAx{v:PV}{o:Option PV}(h:OC v o=true):o=some v:=by
 cases o with
 |none=>cases h
 |some w=>rw[uo h]
def aFK:ao->ao->Nat:=fun _ _=>0
theorem cC(l:List (ao×List PV×PV))(a:kq l){f:ao}{vs:List PV}{v:PV}(h:OC v (O5 (uK l) aFK f vs)=true):au prog f vs v:=JR (AL a) (aAx h)
end Hk
namespace jc
def T:PV:=.st 54 [.cE true [.st 178 [.int .i64 0,.int .i64 0],.st 178 [.int .i64 2000,.int .i64 0],.st 178 [.int .i64 2000,.int .i64 1000],.st 178 [.int .i64 0,.int .i64 1000]],.int .i64 30,.cE true [.st 160 [.str [97],.int .i64 0,.str [48],.str [49,47,50,48]],.st 160 [.str [99],.int .i64 1,.str [57,47,50,48],.str [49,49,47,50,48]]],.aL]
def B:PV:=.cE true [.st 123 [.str [99,117,101],.st 23 [.str [53,48,48],.str [53,48,48]]],.st 123 [.str [111,110,101],.st 23 [.str [49,48,48,48],.str [53,48,48]]],.st 123 [.str [116,119,111],.st 23 [.str [49,48,48,48],.str [55,48,48]]]]
def Xg:PV:=.str [99,117,101]
def one:PV:=.str [111,110,101]
def X:PV:=.st 80 [T,B,Xg,one]
def Y:PV:=.st 196 [.st 194 [T,B,.eH [(.str [99,117,101],.st 132 [.st 130 [.st 128 [.int .i64 500,.aL],.st 128 [.int .i64 1,.aL]],.st 130 [.st 128 [.int .i64 500,.aL],.st 128 [.int .i64 1,.aL]]]),(.str [111,110,101],.st 132 [.st 130 [.st 128 [.int .i64 1000,.aL],.st 128 [.int .i64 1,.aL]],.st 130 [.st 128 [.int .i64 500,.aL],.st 128 [.int .i64 1,.aL]]]),(.str [116,119,111],.st 132 [.st 130 [.st 128 [.int .i64 1000,.aL],.st 128 [.int .i64 1,.aL]],.st 130 [.st 128 [.int .i64 700,.aL],.st 128 [.int .i64 1,.aL]]])],.st 130 [.st 128 [.int .i64 3600,.aL],.st 128 [.int .i64 1,.aL]]],.st 80 [T,B,.str [99,117,101],.str [111,110,101]]]
def WR:PV:=.cE false (.int .i64 0::[.int .i64 1,.int .i64 2,.int .i64 3,.int .i64 4,.int .i64 5,.int .i64 6,.int .i64 7,.int .i64 8,.int .i64 9,.int .i64 10,.int .i64 11,.int .i64 12,.int .i64 13,.int .i64 14,.int .i64 15,.int .i64 16,.int .i64 17,.int .i64 18,.int .i64 19,.int .i64 20,.int .i64 21,.int .i64 22,.int .i64 23,.int .i64 24,.int .i64 25,.int .i64 26,.int .i64 27,.int .i64 28,.int .i64 29,.int .i64 30,.int .i64 31,.int .i64 32]++[.int .i64 33,.int .i64 34,.int .i64 35,.int .i64 36,.int .i64 37,.int .i64 38,.int .i64 39,.int .i64 40,.int .i64 41,.int .i64 42,.int .i64 43,.int .i64 44,.int .i64 45,.int .i64 46,.int .i64 47,.int .i64 48,.int .i64 49,.int .i64 50,.int .i64 51,.int .i64 52,.int .i64 53,.int .i64 54,.int .i64 55,.int .i64 56,.int .i64 57,.int .i64 58,.int .i64 59,.int .i64 60,.int .i64 61,.int .i64 62,.int .i64 63,.int .i64 64])
def k0:List (ao×List PV×PV):=[]
theorem OE:Hk.kq k0:=trivial
theorem g1:au prog 99 [T] (.int .i64 0):=Hk.cC k0 OE (by kernel_rfl)
theorem g2:au prog 131 [T,B] (.int .i64 0):=Hk.cC k0 OE (by kernel_rfl)
def k1:List (ao×List PV×PV):=[(99,[T],.int .i64 0),(131,[T,B],.int .i64 0)]
theorem OG:Hk.kq k1:=⟨g1,g2,trivial⟩
theorem g3:au prog 126 [X] (.aA [Y,.int .i64 0]):=Hk.cC k1 OG (by kernel_rfl)
def k2:List (ao×List PV×PV):=[(126,[X],.aA [Y,.int .i64 0])]++k1
theorem dV:Hk.kq k2:=Hk.tX (l:=[(126,[X],.aA [Y,.int .i64 0])]) ⟨g3,trivial⟩ OG
end jc
end Go.az
