import Derived.Test.YtanjnahmbanmaaaGreatDoorPH
import Derived.Test.YtanjnahmbanmaaaGreatDoorPJ
/- Parts of a proof. -/
set_option linter.unusedSimpArgs false
set_option linter.unusedVariables false
set_option linter.unusedSectionVars false
open Go.Proofs.Tryz
open Bool renaming cond_eq_ite->ab, and_eq_true->ac, or_eq_true->am
open Go renaming DataW->ao, Field->ap
open Go.IntKind renaming i64->av
open Go.Utf8 renaming decode->ax
open Int renaming natCast_mul->ay, tmod_eq_emod_of_nonneg->aT, natCast_nonneg->a0, tdiv_eq_ediv_of_nonneg->a1, negSucc->a4, natCast_emod->a5, natCast_one->a6, natAbs_mul->a7, mul_nonneg->a8, ediv_one->a9
open List renaming getElem?_eq_getElem->bb, mem_of_getElem?->be, getD_eq_getElem?_getD->bi, any_eq_true->bl, map_cons->bo, zip_cons_cons->bp, zip_nil_left->bv, map_nil->bI, getElem?_take->bV, findIdx?_eq_some_iff_getElem->b0, mem_map->b1, mem_range->b2, findIdx?_eq_none_iff->b3, drop_eq_getElem_cons->b4, mem_iff_getElem->b5, range->cb, range_succ->cc, mem_cons->ce
open Nat renaming eq_of_beq_eq_true->ck, beq->cv, mul_ne_zero->cx, blt->cy, blt_eq->c6, gcd->c9, mul_le_mul->da, zero_le->db, lt_of_lt_of_le->dg, lt_trans->dk, div_one->dl
open Option.some renaming injEq->dp
open Rat renaming divInt->dq, divInt_mul_divInt->dz, div_def->ea, sub_add_cancel->eb, zero_add->ec, divInt_add_divInt->ed, add_lt_add_right->ee, divInt_eq_div->ei, neg_divInt->ej, inv_divInt->en
namespace Go.ak
open Go.Proofs
set_option maxHeartbeats 4000000
set_option maxRecDepth 100000
namespace Hk
def kq:Nat:=9223372036854775808
def yD:Nat:=1606938044258990275541962092341162602522202993782792835301376
def pD{α:Type}(n:Nat)(f:Nat->α):α:=match n with
 |0=>f 0
 |k+1=>f (k+1)
theorem u9{α:Type}(n:Nat)(f:Nat->α):pD n f=f n:=by cases n<;>rfl
def zG{α:Type}(z:Int)(f:Int->α):α:=match z with
 | .ofNat n=>pD n fun n=>f (.ofNat n)
 | .negSucc n=>pD n fun n=>f (.negSucc n)
theorem Li{α:Type}(z:Int)(f:Int->α):zG z f=f z:=by cases z<;>simp[zG,u9]
def pK:Int->Bool
 | .ofNat n=>cy n kq
 | .negSucc n=>cy (n+1) kq
theorem Cn{z:Int}:pK z=true↔z.natAbs<9223372036854775808:=by
 cases z with
 |ofNat n=>simp only[pK,c6,kq];exact Iff.rfl
 |negSucc n=>simp only[pK,c6,kq];exact Iff.rfl
def nW:Int->Int->Bool
 | .ofNat a,.ofNat b=>cv a b
 | .negSucc a,.negSucc b=>cv a b
 |_,_=>false
theorem yN:∀{a b:Int},nW a b=true->a=b
 | .ofNat a,.ofNat b,h=>by simp only[nW]at h;rw[ck h]
 | .negSucc a,.negSucc b,h=>by simp only[nW]at h;rw[ck h]
 | .ofNat a,.negSucc b,h=>by simp[nW]at h
 | .negSucc a,.ofNat b,h=>by simp[nW]at h
def tH(z:Int):Option PV:=bif pK z then some (eQ z)else bif cv z.natAbs kq then none else some (kn z)
theorem yl{z:Int}{p:PV}(h:tH z=some p)(m:Bool):eI ⟨z,m⟩=p:=by
 unfold tH at h;rw[jb];rcases hs:pK z with _|_
 ·simp only[hs,cond_false]at h;rcases a:cv z.natAbs kq with _|_
  case true=>rw[a]at h;cases h
  ·have c:¬cv z.natAbs kq=true:=by rw[a];decide
   rw[a,cond_false]at h;simp only[dp]at h;have b:¬z.natAbs<9223372036854775808:=fun h=>by rw[Cn.2 h]at hs;cases hs
   have d:z.natAbs≠9223372036854775808:=fun e=>c (by rw[e];rfl);rw[if_neg,h];simp only[NI.sm,am,decide_eq_true_eq,ac,not_or,not_and];exact⟨by omega,fun h=>by omega⟩
 ·simp only[hs,cond_true,dp]at h;have b:=Cn.1 hs;rw[if_pos,h];simp only[NI.sm,am,decide_eq_true_eq,ac];exact .inl (by omega)
def wz:List PV->Option (List Nat)
 |[]=>some []
 | .int .u64 (.ofNat x)::r=>match wz r with
  |some l=>some (x::l)
  |none=>none
 |_=>none
theorem L4:∀{l:List PV}{a:List Nat},wz l=some a->l=a.map fun x:Nat=>PV.int .u64 x
 |[],a,h=>by simp only[wz,dp]at h;subst h;rfl
 |v::r,a,h=>by
  unfold wz at h
  split at h
  ·rename_i e;cases e
  ·rename_i x c e;cases e
   split at h
   ·rename_i l b;simp only[dp]at h;subst h;rw[L4 b];rfl
   ·cases h
  ·cases h
def rK:List Nat->List Nat->Bool
 |[],[]=>true
 |x::a,y::b=>bif cv x y then rK a b else false
 |_,_=>false
theorem Cj:∀{a b:List Nat},rK a b=true->a=b
 |[],[],_=>rfl
 |[],_::_,h=>by simp[rK]at h
 |_::_,[],h=>by simp[rK]at h
 |x::a,y::b,h=>by
  simp only[rK,ab]at h
  split at h
  ·rename_i hx;rw[ck hx,Cj h]
  ·cases h
def zC:PV->Option Int
 | .st u [.int .i64 z,.aO]=>bif cv u 128 then(bif pK z then some z else none)else none
 | .st u [.int .i64 s,.seq l]=>match wz l with
  |some a=>pD (iM wB a) fun n=>bif cv u 128&&(cy kq n&&rK (aw wB n) a)then
   (bif nW s 1 then some (.ofNat n)else bif nW s (-1)then some (.negSucc (n-1))else none)else none
  |none=>none
 |_=>none
theorem Lm{p:PV}{z:Int}(h:zC p=some z):p=eI ⟨z,false⟩:=by
 unfold zC at h
 split at h
 ·rename_i u y;simp only[ab]at h
  split at h
  ·rename_i g
   split at h
   ·rename_i hs;simp only[dp]at h;subst h;rw[ck g];exact(yl (by rw[tH,hs];rfl) false).symm
   ·cases h
  ·cases h
 ·rename_i u s l
  split at h
  ·rename_i i f;rw[u9]at h;have e:=L4 f;generalize iM wB i=n at h;simp only[ab]at h
   split at h
   ·rename_i hc;simp only[ac,c6]at hc;obtain⟨b,j,c⟩:=hc;have d:=Cj c;have k:kq=9223372036854775808:=rfl;rw[ck b,e,<-d];have key:∀z:Int,z.natAbs=n->eI ⟨z,false⟩=kn z:=fun z m=>by
     refine yl ?_ false;have e1:pK z=false:=by
      rcases a:pK z with _|_
      ·rfl
      ·have:=Cn.1 a;omega
     have e2:cv z.natAbs kq=false:=by
      rcases a:cv z.natAbs kq with _|_
      ·rfl
      ·have:=ck a;omega
     rw[tH,e1,e2];rfl
    split at h
    ·rename_i hs;simp only[dp]at h;subst h;rw[yN hs,key _ rfl,kn,if_neg (by show¬((n:Int)<0);omega)];rfl
    ·split at h
     ·rename_i hs;simp only[dp]at h;subst h;rw[yN hs,key _ (by show n-1+1=n;omega),kn,if_pos (by omega)];have:(a4 (n-1)).natAbs=n:=by show n-1+1=n;omega
      rw[this];rfl
     ·cases h
   ·cases h
  ·cases h
 ·cases h
def DT(n:Int)(d:Nat):Bool:=cy 0 d&&(cy n.natAbs yD&&(cy d yD&&cv (c9 n.natAbs d) 1))
def pB:PV->Option (Int×Nat)
 | .st u [a,b]=>match zC a,zC b with
  |some n,some (.ofNat d)=>bif cv u 130&&DT n d then some (n,d)else none
  |_,_=>none
 |_=>none
def fr(n:Int)(d:Nat):NF:=⟨dq n d,false⟩
theorem UW:yD=2^200:=by decide
theorem Co{p:PV}{n:Int}{d:Nat}(h:pB p=some (n,d)):p=eF (fr n d)/\d≠0/\bL kB (fr n d).q:=by
 unfold pB at h
 split at h
 case h_2=>cases h
 rename_i u a b
 split at h
 case h_2=>cases h
 rename_i c d' g i;simp only[ab]at h
 split at h
 case isFalse=>cases h
 rename_i hc;simp only[dp,Prod.mk.injEq]at h;obtain⟨rfl,rfl⟩:=h;simp only[DT,ac,c6]at hc;obtain⟨c1,c2,c3,c4,c5⟩:=hc;have f:=ck c5;have e:d'≠0:=by omega
 obtain⟨e1,e2⟩:=lE (n:=c) e;rw[f]at e1 e2;simp only[a6,a9,dl]at e1 e2;rw[UW]at c3 c4;refine⟨?_,e,(yu e c3 c4).mono (by decide)⟩;rw[ck c1,Lm g,Lm i,eF];have g1:(fr c d').num=⟨c,false⟩:=by rw[NF.num,fr,e1]
 have g2:(fr c d').den=⟨(d':Int),false⟩:=by rw[NF.den,fr,e2];rfl
 rw[g1,g2];rfl
def mM(n:Int)(d:Nat):Option PV:=
 pD (c9 n.natAbs d) fun g=>zG (n/g) fun n=>pD (d/g) fun d=>match tH n,tH (.ofNat d)with
  |some a,some b=>some (.st 130 [a,b])
  |_,_=>none
theorem oT{n:Int}{d:Nat}{p:PV}(f:d≠0)(h:mM n d=some p)(m:Bool):p=eF ⟨dq n d,m⟩:=by
 obtain⟨e1,e2⟩:=lE (n:=n) f;simp only[mM,u9,Li]at h
 split at h
 case h_2=>cases h
 rename_i a b c e;simp only[dp]at h;subst h;rw[eF];have g1:(NF.num ⟨dq n d,m⟩)=⟨n/(c9 n.natAbs d:Nat),m⟩:=by rw[NF.num,e1]
 have g2:(NF.den ⟨dq n d,m⟩)=⟨((d/c9 n.natAbs d:Nat):Int),false⟩:=by rw[NF.den,e2];rfl
 rw[g1,g2,yl c,<-yl e false];rfl
def two(op:Int->Nat->Int->Nat->Option PV)(a b:PV):Option PV:=match pB a,pB b with
 |some (n,d),some (m,e)=>op n d m e
 |_,_=>none
theorem vh{op:Int->Nat->Int->Nat->Option PV}{a b p:PV}(h:two op a b=some p):
 ∃n d m e,a=eF (fr n d)/\b=eF (fr m e)/\d≠0/\e≠0/\bL kB (fr n d).q/\bL kB (fr m e).q/\op n d m e=some p:=by
 unfold two at h
 split at h
 case h_2=>cases h
 rename_i n d m e j k;obtain⟨c,a2,a3⟩:=Co j;obtain⟨f,g,i⟩:=Co k;exact⟨n,d,m,e,c,f,a2,g,a3,i,h⟩
def P0(n:Int)(d:Nat)(m:Int)(e:Nat):Option PV:=mM (n*e+m*d) (d*e)
def P2(n:Int)(d:Nat)(m:Int)(e:Nat):Option PV:=mM (n*e-m*d) (d*e)
def P1(n:Int)(d:Nat)(m:Int)(e:Nat):Option PV:=mM (n*m) (d*e)
def Aa:Int->Int
 | .ofNat n=>bif cv n 0 then 0 else 1
 | .negSucc _=>-1
theorem Kz(z:Int):Aa z=if z<0 then -1 else if z=0 then 0 else 1:=by
 cases z with
 |ofNat n=>
  rw[if_neg (by simp)];cases n with
  |zero=>rfl
  |succ n=>rw[if_neg (by simp;omega)];rfl
 |negSucc n=>rw[if_pos (by omega)];rfl
def DQ(n:Int)(d:Nat)(m:Int)(e:Nat):Option PV:=some (.int .i64 (Aa (n*e-m*d)))
def zQ(n:Int)(d:Nat)(m:Int)(e:Nat):Option PV:=match m with
 | .ofNat k=>bif cv k 0 then none else mM (n*e) (d*k)
 | .negSucc k=>mM (-(n*e)) (d*(k+1))
theorem tE{d:Nat}(h:d≠0):(d:Int)≠0:=by omega
theorem Yy{n m:Int}{d e:Nat}{p:PV}(a:d≠0)(b:e≠0)(h:P0 n d m e=some p):p=eF ((fr n d).add (fr m e)):=by
 rw[NF.add,fr,fr];dsimp only;rw[ed _ _ (tE a) (tE b)];have:=oT (cx a b) h;rw[ay]at this;exact this _
theorem YC{n m:Int}{d e:Nat}{p:PV}(a:d≠0)(b:e≠0)(h:P2 n d m e=some p):p=eF ((fr n d).sub (fr m e)):=by
 rw[NF.sub,NF.add,NF.neg,fr,fr];dsimp only;rw[ej,ed _ _ (tE a) (tE b)];have:=oT (cx a b) h;rw[ay]at this;rw[Int.neg_mul,<-Int.sub_eq_add_neg];exact this _
theorem YA{n m:Int}{d e:Nat}{p:PV}(a:d≠0)(b:e≠0)(h:P1 n d m e=some p):p=eF ((fr n d).mul (fr m e)):=by
 rw[NF.mul,fr,fr];dsimp only;rw[dz];have:=oT (cx a b) h;rw[ay]at this;exact this _
theorem Xj(x y:Rat):dw x y=if x-y<0 then -1 else if x-y=0 then 0 else 1:=by
 have b:x-y<0↔x<y:=by
  constructor
  ·intro h;have a:=(ee (c:=y)).2 h
   rwa [eb,ec]at a
  ·intro h;refine(ee (c:=y)).1 ?_
   rwa [eb,ec]
 have a:x-y=0↔x=y:=by
  constructor
  ·intro h;have d:=congrArg (·+y) h
   simpa[eb,ec]using d
  ·intro h;rw[h,Rat.sub_self]
 simp only[dw,b,a]
theorem BB(n:Int){d:Nat}(i:d≠0):(if dq n d<0 then(-1:Int)else if dq n d=0 then 0 else 1)=Aa n:=by
 rw[C2,Kz];obtain⟨e1,-⟩:=lE (n:=n) i;have k:0<c9 n.natAbs d:=Nat.gcd_pos_of_pos_right _ (by omega);have j:((c9 n.natAbs d:Nat):Int)∣n:=by
  rw[Int.ofNat_dvd_left];exact Nat.gcd_dvd_left _ _
 obtain⟨c,hc⟩:=j;rw[e1];generalize c9 n.natAbs d=g at*;have a:(0:Int)<g:=by omega
 subst hc;rw[Int.mul_ediv_cancel_left _ (by omega)];have b:(g:Int)*c<0↔c<0:=by
  constructor
  ·intro h;refine Int.not_le.1 fun f=>?_;have:=a8 (Int.le_of_lt a) f;omega
  ·intro h;exact Int.mul_neg_of_pos_of_neg a h
 have e:(g:Int)*c=0↔c=0:=by
  rw[Int.mul_eq_zero];constructor
  ·rintro(h|h)
   ·omega
   ·exact h
  ·exact fun h=>.inr h
 simp only[b,e]
theorem Yz{n m:Int}{d e:Nat}{p:PV}(a:d≠0)(b:e≠0)(h:DQ n d m e=some p):p=.int .i64 (dw (fr n d).q (fr m e).q):=by
 simp only[DQ,dp]at h;rw[<-h,Xj,fr,fr];dsimp only;rw[Rat.divInt_sub_divInt _ _ (tE a) (tE b),<-ay,BB _ (cx a b)]
theorem Nn{n m:Int}{d e:Nat}{p:PV}(a:d≠0)(c:e≠0)(h:zQ n d m e=some p):p=eF ((fr n d).div (fr m e))/\(fr m e).q≠0:=by
 have b:m≠0->(fr m e).q≠0:=fun g hq=>by
  rw[fr]at hq;dsimp only at hq;have:=BB m c;rw[hq,if_neg (by decide),if_pos rfl,Kz]at this
  split at this
  ·omega
  ·first
     |omega
     |(rw[if_neg g]at this;omega)
 rw[NF.div,fr,fr];dsimp only;unfold zQ at h;cases m with
 |ofNat k=>
  simp only[ab]at h
  split at h
  ·cases h
  ·rename_i hk;have f:k≠0:=fun e=>hk (by rw[e];rfl);have:=oT (cx a f) h;refine⟨?_,b (by show(k:Int)≠0;omega)⟩;have e:(dq n d:Rat)/dq (Int.ofNat k) e=dq (n*e) (d*k):=by
    rw[ea,en,dz];rfl
   rw[e];rw[ay]at this;exact this _
 |negSucc k=>
  dsimp only at h;have:=oT (cx a (Nat.succ_ne_zero k)) h;refine⟨?_,b (by omega)⟩;have e:(dq n d:Rat)/dq (a4 k) e=dq (-(n*e)) ((d:Int)*((k+1:Nat):Int)):=by
   rw[ea,en,dz];rw[show a4 k= -((k+1:Nat):Int)from rfl,Int.mul_neg];rw[Rat.divInt_neg']
  rw[e];rw[ay]at this;exact this _
def zP:Nat->Nat->Nat
 |0,_=>0
 |f+1,n=>bif cv n 0 then 0 else zP f (n/10)+1
theorem XS{a b:Nat}(h:a<b):cy a b=true:=by rw[c6];exact h
theorem zA{a b:Nat}(h:cy a b=true):a<b:=by rw[c6]at h;exact h
theorem MW:∀(f n:Nat),n<10^f->zP f n=nd n
 |0,n,h=>by
  have:n=0:=by simpa using h
  subst this;rw[nd];rfl
 |f+1,n,h=>by
  rw[zP,nd]
  by_cases a:n=0
  ·subst a;rfl
  ·have b:cv n 0=false:=by
    rcases c:cv n 0 with _|_
    ·rfl
    ·exact(a (ck c)).elim
   rw[b,cond_false,dif_neg a,MW f (n/10) (by rw[Nat.div_lt_iff_lt_mul (by omega)];rw[Nat.pow_succ]at h;exact h)]
def tT(n:Nat):List Nat:=pD (zP 80 n) fun k=>bif cy 1 k then low k n else low 1 n
theorem yT{n:Nat}(h:n<10^80):tT n=bf n:=by
 rw[tT,u9,MW _ _ h,bf];rcases a:cy 1 (nd n)with _|_
 ·have:¬1<nd n:=fun b=>by rw[XS b]at a;cases a
  rw[cond_false,Nat.max_eq_left (by omega)]
 ·have:1<nd n:=zA a;rw[cond_true,Nat.max_eq_right (by omega)]
def D6:Int->List Nat
 | .ofNat n=>tT n
 | .negSucc n=>45::tT (n+1)
theorem aIV{z:Int}(h:z.natAbs<10^80):D6 z=bN z:=by
 cases z with
 |ofNat n=>rw[bN,if_neg (by show¬((n:Int)<0);omega)];exact yT h
 |negSucc n=>rw[bN,if_pos (by omega)];exact congrArg (45::·) (yT h)
def D5(n:Int)(d:Nat):List Nat:=bif cv d 1 then D6 n else D6 n++47::tT d
theorem JQ{n:Int}{d:Nat}(a:d≠0)(b:c9 n.natAbs d=1):(fr n d).q.num=n/\(fr n d).q.den=d:=by
 obtain⟨e1,e2⟩:=lE (n:=n) a;rw[b]at e1 e2;simp only[a6,a9,dl]at e1 e2;exact⟨e1,e2⟩
theorem JW{p:PV}{n:Int}{d:Nat}(h:pB p=some (n,d)):c9 n.natAbs d=1/\n.natAbs<10^80/\d<10^80:=by
 unfold pB at h
 split at h
 case h_2=>cases h
 split at h
 case h_2=>cases h
 simp only[ab]at h
 split at h
 case isFalse=>cases h
 rename_i hc;simp only[dp,Prod.mk.injEq]at h;obtain⟨rfl,rfl⟩:=h;simp only[DT,ac,c6]at hc;obtain⟨c1,c2,c3,c4,c5⟩:=hc;have a:yD<10^80:=by decide
 exact⟨ck c5,by omega,by omega⟩
theorem aIU{p:PV}{n:Int}{d:Nat}(h:pB p=some (n,d))(f:d≠0):D5 n d=bg (fr n d).q:=by
 obtain⟨g,b,c⟩:=JW h;obtain⟨e1,e2⟩:=JQ f g;rw[D5,bg,e1,e2,aIV b,yT c];rcases a:cv d 1 with _|_
 ·rw[cond_false,if_neg (fun e=>by rw[e]at a;cases a)]
 ·rw[cond_true,if_pos (ck a)]
def pA:List Nat->Nat->Bool
 |[],_=>true
 |c::r,f=>match f with
  |0=>false
  |f+1=>bif cy c 256 then pA r f else false
theorem vr:∀{s:List Nat}{f:Nat},pA s f=true->s.length<=f/\∀c∈s,c<256
 |[],_,_=>⟨db _,fun c hc=>by cases hc⟩
 |c::r,0,h=>by simp[pA]at h
 |c::r,f+1,h=>by
  simp only[pA,ab]at h
  split at h
  ·rename_i hc;obtain⟨b,a⟩:=vr h;refine⟨by simp;omega,fun x hx=>?_⟩;rcases ce.1 hx with rfl|hx
   ·exact zA hc
   ·exact a x hx
  ·cases h
def PT(z:Int):Bool:=match z with
 | .ofNat n=>cv n 0
 |_=>false
theorem aEC{z:Int}(h:PT z=true):z=0:=by
 cases z with
 |ofNat n=>rw[ck (show cv n 0=true from h)];rfl
 |negSucc n=>cases h
def Dz(n:Int)(d:Nat):Option PV:=bif cv d 0 then none else mM n d
theorem ZI{n:Int}{d:Nat}{p:PV}(h:Dz n d=some p)(m:Bool):p=eF ⟨dq n d,m⟩:=by
 unfold Dz at h;rcases a:cv d 0 with _|_
 ·rw[a]at h;exact oT (fun e=>by rw[e]at a;cases a) h m
 ·rw[a]at h;cases h
def DA(s:List Nat):Option PV:=bif PT (b7 s)&&pA s 1000 then
 zG (if bX s=true then -(aZ (bE s):Int)else aZ (bE s)) fun n=>pD (if er s=true then aZ (bP s)else 1) fun d=>Dz n d else none
theorem ZJ{s:List Nat}{p:PV}(h:DA s=some p):p=eF ⟨bd s,false⟩/\b7 s=0/\s.length<=1048576:=by
 unfold DA at h;simp only[ab,Li,u9]at h
 split at h
 case isFalse=>cases h
 rename_i hc;rw[ac]at hc;obtain⟨c1,c2⟩:=hc;obtain⟨a,b⟩:=vr c2;refine⟨?_,aEC c1,by omega⟩;rw[bd];exact ZI h false
def O7:Int->Bool
 | .ofNat n=>cy n kq
 | .negSucc n=>cy n kq
theorem acH{z:Int}(h:O7 z=true):-9223372036854775808<=z/\z<=9223372036854775807:=by
 cases z with
 |ofNat n=>have:n<9223372036854775808:=zA h;refine⟨?_,?_⟩<;>show _<=_<;>simp only[Int.ofNat_eq_natCast]<;>omega
 |negSucc n=>have:n<9223372036854775808:=zA h;omega
def DV(f:Nat)(a:PV):Option PV:=match a with
 | .int .i64 z=>bif cv f 116&&O7 z then mM z 1 else none
 | .str s=>bif cv f 166 then DA s else bif cv f 263&&pA s 1000 then some (.int .i64 (b7 s))else none
 | .st u [.str x,.str y]=>bif cv f 75&&(cv u 23&&(pA x 1000&&pA y 1000))then some (.int .i64 (ek ⟨x,y⟩))else none
 | .st u [c,e]=>match pB (.st u [c,e])with
  |some (n,d)=>bif cv f 163 then mM (-n) d else
   bif cv f 171 then some (.int .i64 (Aa n))else
   bif cv f 162 then zQ 1 1 n d else
   bif cv f 164 then some (.str (D5 n d))else
   bif cv f 106 then some (.bool false)else none
  |none=>none
 |_=>none
def tS(f:Nat)(a b:PV):Option PV:=
 bif cv f 190 then two P0 a b else
 bif cv f 167 then two P2 a b else
 bif cv f 170 then two P1 a b else
 bif cv f 117 then two zQ a b else
 bif cv f 80 then two DQ a b else none
def hk(f:Nat):List PV->Option PV
 |[a]=>DV f a
 |[a,b]=>tS f a b
 |_=>none
theorem OS(z:Int):dq z ((1:Nat):Int)=(z:Rat):=by
 rw[show((1:Nat):Int)=1 from rfl,ei];rw[show((1:Int):Rat)=1 from rfl,ea,show(1:Rat)⁻¹=1 from by decide+kernel,Rat.mul_one]
theorem bq{a b:Nat}(h:cv a b=true):a=b:=ck h
theorem aHj{f:Nat}{a v:PV}(h:DV f a=some v):au prog f [a] v:=by
 unfold DV at h
 split at h
 ·rename_i z;simp only[ab]at h
  split at h
  ·rename_i hc;rw[ac]at hc;obtain⟨w,A⟩:=acH hc.2;rw[bq hc.1,oT (by decide) h true];have:=kY z w A;rw[NF.int]at this;rw[OS];exact this
  ·cases h
 ·rename_i s;simp only[ab]at h
  split at h
  ·rename_i hf;obtain⟨e1,e2,e3⟩:=ZJ h;rw[bq hf,e1];exact kX s e2 e3
  ·split at h
   ·rename_i hc;rw[ac]at hc;obtain⟨j,b⟩:=vr hc.2;simp only[dp]at h;subst h;rw[bq hc.1];exact yY s (by omega) b
   ·cases h
 ·rename_i u x y;simp only[ab]at h
  split at h
  ·rename_i hc;simp only[ac]at hc;obtain⟨c1,c2,c3,c4⟩:=hc;obtain⟨j,b⟩:=vr c3;obtain⟨B,p⟩:=vr c4;simp only[dp]at h;subst h;rw[bq c1,bq c2];exact AM ⟨x,y⟩ ⟨⟨by show x.length<=_;omega,b⟩,⟨by show y.length<=_;omega,p⟩⟩
  ·cases h
 ·rename_i u c e _
  split at h
  case h_2=>cases h
  rename_i n d l;obtain⟨t,g,i⟩:=Co l;rw[t];simp only[ab]at h
  split at h
  ·rename_i hf;rw[bq hf,oT g h false,<-ej];exact CN _ i
  split at h
  ·rename_i hf;simp only[dp]at h;subst h;rw[bq hf,<-BB n g];exact tf _
  split at h
  ·rename_i hf;obtain⟨e1,e2⟩:=Nn (by decide) g h;have e3:(fr 1 1).div (fr n d)=(fr n d).inv:=by
    rw[NF.div,NF.inv,fr,fr];dsimp only;rw[OS,ea];rw[show((1:Int):Rat)=1 from rfl,Rat.one_mul]
   rw[bq hf,e1,e3];exact CO _ i e2
  split at h
  ·rename_i hf;simp only[dp]at h;subst h;rw[bq hf,aIU l g];exact Yb _ i
  split at h
  ·rename_i hf;simp only[dp]at h;subst h;rw[bq hf];have m:=X3 _ i;obtain⟨q,j,b⟩:=JW l;obtain⟨e1,e2⟩:=JQ g q;have o:∀k,k<10^80->l6 k=false:=fun k hk=>by
    rw[l6,decide_eq_false_iff_not];have C:nd k<=80:=Nat.not_lt.1 fun r=>by have:=(nS _ _).1 r;omega
    rw[qx];omega
   rw[DN,e1,e2,o _ j,o _ b]at m;exact m
  ·cases h
 ·cases h
theorem aIP{f:Nat}{a b v:PV}(h:tS f a b=some v):au prog f [a,b] v:=by
 unfold tS at h;simp only[ab]at h
 split at h
 ·rename_i hf;obtain⟨n,d,m,e,rfl,rfl,c,g,j,k,i⟩:=vh h;rw[bq hf,Yy c g i];exact tA _ _ j k
 split at h
 ·rename_i hf;obtain⟨n,d,m,e,rfl,rfl,c,g,j,k,i⟩:=vh h;rw[bq hf,YC c g i];exact qQ _ _ j k
 split at h
 ·rename_i hf;obtain⟨n,d,m,e,rfl,rfl,c,g,j,k,i⟩:=vh h;rw[bq hf,YA c g i];exact jI _ _ j k
 split at h
 ·rename_i hf;obtain⟨n,d,m,e,rfl,rfl,c,g,j,k,i⟩:=vh h;obtain⟨e1,e2⟩:=Nn c g i;rw[bq hf,e1];exact Yn _ _ j k e2
 split at h
 ·rename_i hf;obtain⟨n,d,m,e,rfl,rfl,c,g,j,k,i⟩:=vh h;rw[bq hf,Yz c g i];exact mK _ _ j k
 ·cases h
theorem Z7{f:Nat}{vs:List PV}{v:PV}(h:hk f vs=some v):au prog f vs v:=by
 unfold hk at h
 split at h
 ·exact aHj h
 ·exact aIP h
 ·cases h
end Hk
theorem aIX{n:Nat}(h:n<10^80):bg ((n:Nat):Rat)=Hk.tT n:=by
 rw[Hk.yT h,bg,if_pos (by rfl),bN,if_neg (by show¬((n:Int)<0);omega)];rfl
structure dN where
 x:Int
 y:Int
 deriving DecidableEq
structure dK where
 name:List Nat
 eH:Int
 a:List Nat
 b:List Nat
structure cB where
 name:List Nat
 pt:gF
structure aB where
 cs:List dN
 aR:Int
 bm:List dK
 ar:List cB
def cA(p:dN):PV:=.st 178 [.int .i64 p.x,.int .i64 p.y]
def fj(p:dK):PV:=.st 160 [.str p.name,.int .i64 p.eH,.str p.a,.str p.b]
def bH(p:cB):PV:=.st 123 [.str p.name,ga p.pt]
def cR(t:aB):PV:=.st 47 [.seq (t.cs.map cA),.int .i64 t.aR,.seq (t.bm.map fj),.seq (t.ar.map bH)]
@[simp] theorem aMA(p:dN):aL (cA p)=.agg 178:=rfl
@[simp] theorem aK2(p:dN):bW (cA p)=[.int .i64 p.x,.int .i64 p.y]:=rfl
@[simp] theorem aMx(p:dK):aL (fj p)=.agg 160:=rfl
@[simp] theorem aKZ(p:dK):bW (fj p)=[.str p.name,.int .i64 p.eH,.str p.a,.str p.b]:=rfl
@[simp] theorem aME(p:cB):aL (bH p)=.agg 123:=rfl
@[simp] theorem aK6(p:cB):bW (bH p)=[.str p.name,ga p.pt]:=rfl
@[simp] theorem aMJ(t:aB):aL (cR t)=.agg 47:=rfl
@[simp] theorem aLa(t:aB):bW (cR t)=[.seq (t.cs.map cA),.int .i64 t.aR,.seq (t.bm.map fj),.seq (t.ar.map bH)]:=rfl
@[simp] theorem aKe:prog.cellsOf 178=2:=by kernel_rfl
@[simp] theorem aKd:prog.cellsOf 160=4:=by kernel_rfl
@[simp] theorem aKg:prog.cellsOf 123=3:=by kernel_rfl
def fI(p:dN):Bool:=decide (10000<max p.x p.y)||decide (min p.x p.y< -10000)
theorem Yo(p:dN):au prog 107 [cA p] (.bool (fI p)):=by
 obtain⟨x,y⟩:=p;refine aI nf Fa mix (by simp[f107]) ?_;have e1:max x y=if x<y then y else x:=by split<;>omega
 have e2:min x y=if y<x then y else x:=by split<;>omega
 rw[fI,e1,e2]
 by_cases h:(if x<y then y else x)<=10000
 ·have a:¬10000<(if x<y then y else x):=by omega
  by_cases b:(if y<x then y else x)< -10000
  ·simp[f107,aa,h,a,b]
  ·simp[f107,aa,h,a,b]
 ·have a:10000<(if x<y then y else x):=by omega
  simp[f107,aa,h,a]
def dW(p:dN):Prop:=-10000<=p.x/\p.x<=10000/\-10000<=p.y/\p.y<=10000
theorem Ew{p:dN}(h:fI p=false):dW p:=by
 simp only[fI,Bool.or_eq_false_iff,decide_eq_false_iff_not]at h;unfold dW;omega
def lx(a b c:dN):Int:=(b.x-a.x)*(c.y-a.y)-(b.y-a.y)*(c.x-a.x)
theorem wK{a b:Int}{A B:Int}(c:-A<=a)(d:a<=A)(e:-B<=b)(f:b<=B):-(A*B)<=a*b/\a*b<=A*B:=by
 have k1:a.natAbs<=A.natAbs:=by omega
 have k2:b.natAbs<=B.natAbs:=by omega
 have k3:=da k1 k2;rw[<-a7,<-a7]at k3;have k4:0<=A*B:=a8 (by omega) (by omega);omega
theorem Rk(a b c:dN)(i:dW a)(j:dW b)(hc:dW c):au prog 193 [cA a,cA b,cA c] (.int .i64 (lx a b c)):=by
 obtain⟨d,e⟩:=a;obtain⟨bx,f⟩:=b;obtain⟨g,h⟩:=c;simp only[dW]at i j hc;have w1:av.wrap (bx-d)=bx-d:=aP _ (by omega) (by omega);have k:av.wrap (h-e)=h-e:=aP _ (by omega) (by omega);have l:av.wrap (f-e)=f-e:=aP _ (by omega) (by omega)
 have m:av.wrap (g-d)=g-d:=aP _ (by omega) (by omega);have q:=wK (a:=bx-d) (b:=h-e) (A:=20000) (B:=20000) (by omega) (by omega) (by omega) (by omega);have r:=wK (a:=f-e) (b:=g-d) (A:=20000) (B:=20000) (by omega) (by omega) (by omega) (by omega);have n:av.wrap ((bx-d)*(h-e))=(bx-d)*(h-e):=aP _ (by omega) (by omega);have o:av.wrap ((f-e)*(g-d))=(f-e)*(g-d):=aP _ (by omega) (by omega);have p:av.wrap ((bx-d)*(h-e)-(f-e)*(g-d))=(bx-d)*(h-e)-(f-e)*(g-d):=aP _ (by omega) (by omega);refine aI nf Fl mix (by simp[f193]) ?_;rw[lx];simp[f193,aa,w1,k,l,m,n,o,p]
def aB.nx(t:aB)(i:Nat):Nat:=(i+1)% t.cs.length
def aB.at(t:aB)(i:Nat):dN:=t.cs.getD i ⟨0,0⟩
theorem aB.get{t:aB}{i:Nat}(h:i<t.cs.length):t.cs[i]?=some (t.at i):=by
 rw[aB.at,bi,bb h];rfl
@[simp] theorem aB.aQ{t:aB}{i:Nat}(h:i<t.cs.length):t.cs[i]'h=t.at i:=by
 rw[aB.at,bi,bb h];rfl
theorem aB.mi{t:aB}(h:0<t.cs.length)(i:Nat):t.nx i<t.cs.length:=Nat.mod_lt _ h
theorem E6(t:aB)(i:Nat)(h:i<t.cs.length)(f:t.cs.length<=1000000):au prog 194 [cR t,.int .i64 i] (cA (t.at (t.nx i))):=by
 have w1:av.wrap ((i:Int)+1)=(i:Int)+1:=aP _ (by omega) (by omega);have c:=t.mi (by omega) i;have e1:((i:Int)+1).tmod (t.cs.length:Int)=((t.nx i:Nat):Int):=by
  rw[aB.nx,a5,aT (by omega)];rfl
 have b:=aB.get c;have d:¬t.cs.length=0:=by omega
 have a:¬t.cs=[]:=by intro e;rw[e]at h;simp at h
 refine aI nf Fk mix (by simp[f194]) ?_;simp[f194,aa,w1,e1,b,d,a]
def aB.mS(t:aB)(i:Nat)(m:Nat):Prop:=∀k,k<m->k≠i->k≠t.nx i->0<lx (t.at i) (t.at (t.nx i)) (t.at k)
instance(t:aB)(i m:Nat):Decidable (t.mS i m):=inferInstanceAs (Decidable (∀k,k<m->_))
def aB.fU(t:aB):Bool:=decide (∀i,i<t.cs.length->t.mS i t.cs.length)
theorem aB.gC{t:aB}(h:∀p∈t.cs,dW p){i:Nat}(hi:i<t.cs.length):dW (t.at i):=h _ (be (aB.get hi))
theorem Rs(t:aB)(x:t.cs.length<=1000000)(m:∀p∈t.cs,dW p):au prog 108 [cR t] (.bool t.fU):=by
 refine aI nf E9 mix (by simp[f108]) ?_;generalize a:t.cs.length=n at*;simp[f108,aa,a];refine lp (α:=Nat) (fun i=>⟨[(4,.p (.int .i64 i)),(3,.p (.int .i64 n)),(1,.ptr 0 [])],[.box false (.p (cR t))]⟩) (fun i=>i<=n/\∀j,j<i->t.mS j n) (fun i=>n-i) 0 (by simp) ?_;rintro i ⟨v,q⟩
 by_cases hi:i<n
 ·simp[hi];refine lp (α:=Nat) (fun k=>⟨[(5,.p (.int .i64 k)),(4,.p (.int .i64 i)),(3,.p (.int .i64 n)),(1,.ptr 0 [])],[.box false (.p (cR t))]⟩) (fun k=>k<=n/\t.mS i k) (fun k=>n-k) 0 (by simp[aB.mS]) ?_;rintro k ⟨g1,g2⟩
  by_cases hk:k<n
  ·have r:=E6 t i (by omega) (by omega);have y:t.nx i<n:=by rw[<-a];exact t.mi (by omega) i
   have d:=b9 (i:=i) (by omega);have e:=b9 (i:=k) (by omega);have e1:((i:Int)+1).tmod (n:Int)=((t.nx i:Nat):Int):=by
    rw[aB.nx,a,a5,aT (by omega)];rfl
   have s:=Rk (t.at i) (t.at (t.nx i)) (t.at k) (aB.gC m (by omega)) (aB.gC m (by omega)) (aB.gC m (by omega));have f:=aB.get (t:=t) (i:=i) (by omega);have gk:=aB.get (t:=t) (i:=k) (by omega);have o:¬n=0:=by omega
   by_cases c1:k=i
   ·subst c1;simp[hk,e];exact rd (k+1) ⟨hk,fun j g=>by
     by_cases l:j=k
     ·intro h;exact(h l).elim
     ·exact g2 j (by omega)⟩
   ·have b:¬(k:Int)=(i:Int):=by omega
    by_cases c2:k=t.nx i
    ·rw[<-c2]at e1;simp[hk,b,d,e,e1,o];exact rd (k+1) ⟨hk,fun j g=>by
      by_cases l:j=k
      ·intro _ h;exact(h (by omega)).elim
      ·exact g2 j (by omega)⟩
    ·have c:¬(k:Int)=((t.nx i:Nat):Int):=by omega
     by_cases c3:lx (t.at i) (t.at (t.nx i)) (t.at k)<=0
     ·simp[hk,b,c,d,e,e1,o,f,gk,a,aa];refine Go.ak.e2 r ?_;simp[hk,a,f,gk,b,c,aa];refine Go.ak.e3 s ?_;simp[c3,b,c];have:t.fU=false:=by
       rw[aB.fU,decide_eq_false_iff_not];intro h;have:=h i (by omega) k (by omega) c1 c2;omega
      rw[this]
     ·simp[hk,b,c,d,e,e1,o,f,gk,a,aa];refine Go.ak.e2 r ?_;simp[hk,a,f,gk,b,c,aa];refine Go.ak.e3 s ?_;simp[c3,e,b,c];exact rd (k+1) ⟨hk,fun j g=>by
       by_cases l:j=k
       ·subst l;intro _ _;omega
       ·exact g2 j (by omega)⟩
  ·have:k=n:=by omega
   subst this;have d:=b9 (i:=i) (by omega);simp[d];exact rd (i+1) ⟨hi,fun j g=>by
    by_cases u:j=i
    ·subst u;exact g2
    ·exact q j (by omega)⟩
 ·have w:i=n:=by omega
  have:t.fU=true:=by
   rw[aB.fU,decide_eq_true_eq,a];intro j g;exact q j (by omega)
  simp[hi,this]
def l9(p:dN):V2:=⟨(p.x:Rat),(p.y:Rat)⟩
theorem me{p:dN}(h:dW p):bA 14 (l9 p):=by
 simp only[dW]at h;exact⟨nR (by omega) (by decide),nR (by omega) (by decide)⟩
theorem Er(p:dN)(h:dW p):au prog 196 [cA p] (eV (l9 p)):=by
 have c:=h;simp only[dW]at h;have a:=vB p.x (by omega) (by omega);have b:=vB p.y (by omega) (by omega);refine aI nf Fi mix (by simp[f196]) ?_;rw[l9,pq];simp[f196,aa];refine e1 a ?_;simp[aa];refine e1 b ?_;simp[aa]
def aB.wy(t:aB)(i:Nat):V2:=(l9 (t.at (t.nx i))).sub (l9 (t.at i))
def aB.side(t:aB)(i:Nat)(v:V2):Int:=dF ((t.wy i).cU (v.sub (l9 (t.at i))))
theorem aB.okW{t:aB}(h:∀p∈t.cs,dW p){i:Nat}(hi:i<t.cs.length):bA 29 (t.wy i):=gv (me (aB.gC h (t.mi (by omega) i))) (me (aB.gC h hi))
theorem X9(t:aB)(i:Nat)(v:V2)(e:t.cs.length<=1000000)(b:∀p∈t.cs,dW p)(hi:i<t.cs.length)(d:bA 3000 v):au prog 112 [cR t,.int .i64 i,eV v] (.int .i64 (t.side i v)):=by
 have a:=aB.get hi;have c:=me (aB.gC b hi);have n:=me (aB.gC b (t.mi (by omega) i));have f:=Er (t.at i) (aB.gC b hi);have g:=E6 t i hi e;have h:=Er (t.at (t.nx i)) (aB.gC b (t.mi (by omega) i));have j:=px (l9 (t.at (t.nx i))) (l9 (t.at i)) (n.mono (by decide)) (c.mono (by decide));have k:=px v (l9 (t.at i)) (d.mono (by decide)) (c.mono (by decide));have l:=Ef (t.wy i) (v.sub (l9 (t.at i))) ((aB.okW b hi).mono (by decide)) ((gv d c).mono (by decide));have m:=s9 ((t.wy i).cU (v.sub (l9 (t.at i)))) ((wF (aB.okW b hi) (gv d c)).mono (by decide));refine aI nf FA mix (by simp[f112]) ?_;rw[aB.side];simp[f112,aa,a,hi];refine e1 f ?_;simp[aa,a,hi];refine e2 g ?_;simp[aa,a,hi];refine e1 h ?_;simp[aa,a,hi];refine⟨by repeat' first|rfl|apply And.intro,?_⟩;refine e2 j ?_;simp[aa,a,hi];refine e2 k ?_;simp[aa,a,hi];refine e2 l ?_;simp[aa,a,hi];refine e1 m ?_;simp[aa,a,hi]
def aB.l8(t:aB)(v:V2)(m:Nat):Int:=(cb m).foldl (fun o i=>min o (t.side i v)) 1
theorem aB.Ak(t:aB)(v:V2)(m:Nat):t.l8 v (m+1)=min (t.l8 v m) (t.side m v):=by
 rw[aB.l8,cc,List.foldl_append];rfl
def aB.on(t:aB)(v:V2):Int:=t.l8 v t.cs.length
theorem EU(a b:Int):min a b=if b<a then b else a:=by split<;>omega
theorem Dt(t:aB)(v:V2)(b:t.cs.length<=1000000)(c:∀p∈t.cs,dW p)(d:bA 3000 v):au prog 26 [cR t,eV v] (.int .i64 (t.on v)):=by
 refine aI nf Pg mix (by simp[f26]) ?_;simp[f26,aa];refine lp (α:=Nat) (fun i=>⟨[(6,.p (.int .i64 i)),(5,.p (.int .i64 (t.l8 v i))),(3,.ptr 1 []),(2,.ptr 0 [])],[.box false (.p (cR t)),.box false (.p (eV v))]⟩) (fun i=>i<=t.cs.length) (fun i=>t.cs.length-i) 0 (by simp) ?_ (hh:=by simp[aB.l8]) (he:=by simp[aB.l8]);rintro i f
 by_cases hi:i<t.cs.length
 ·have a:=X9 t i v b c hi d;have e:=b9 (i:=i) (by omega);have hs:=aB.Ak t v i;rw[EU]at hs;simp[hi,aa];refine c3 a ?_;simp[e,<-hs];exact rd (i+1) hi
 ·have:i=t.cs.length:=by omega
  subst this;simp[aB.on,aa]
def isLet(c:Int):Bool:=(decide (97<=c)&&decide (c<=122))||(decide (65<=c)&&decide (c<=90))
def iY(c:Int):Bool:=decide (48<=c)&&decide (c<=57)
def l7:Nat->List Nat->Bool
 |_,[]=>true
 |i,c::r=>(isLet c||(decide (i≠0)&&(iY c||decide ((c:Int)=95))))&&l7 (i+1) r
def isName(s:List Nat):Bool:=decide (1<=s.length)&&decide (s.length<=24)&&l7 0 s
theorem cls(c:Int):(97<=c/\c<=122)\/(¬97<=c/\65<=c/\c<=90)\/(¬97<=c/\¬65<=c/\¬48<=c/\¬c=95)\/(¬97<=c/\¬65<=c/\48<=c/\c<=57/\¬c=95)\/(¬97<=c/\¬65<=c/\48<=c/\¬c<=57/\¬c=95)\/
 (¬97<=c/\65<=c/\¬c<=90/\48<=c/\¬c<=57/\c=95)\/(¬97<=c/\65<=c/\¬c<=90/\48<=c/\¬c<=57/\¬c=95)\/(97<=c/\¬c<=122/\65<=c/\¬c<=90/\48<=c/\¬c<=57/\¬c=95):=by omega
theorem Eo(c:Int):au prog 277 [.int .i32 c] (.bool (isLet c)):=by
 refine aI nf E4 mix (by simp[f277]) ?_;rcases cls c with⟨a,b⟩|⟨a,b,d⟩|⟨a,b,d,e⟩|⟨a,b,d,e,f⟩|⟨a,b,d,e,f⟩|⟨a,b,d,e,f,g⟩|⟨a,b,d,e,f,g⟩|⟨a,b,d,e,f,g,h⟩<;>simp[f277,isLet, *]
theorem Ei{s:List Nat}{i:Nat}(hi:i<s.length):l7 i (s.drop i)=((isLet s[i]||(decide (i≠0)&&(iY s[i]||decide ((s[i]:Int)=95))))&&l7 (i+1) (s.drop (i+1))):=by
 rw[b4 hi,l7]
theorem Aj(s:List Nat)(h:s.length<=1048576):au prog 110 [.str s] (.bool (isName s)):=by
 refine aI nf FC mix (by simp[f110]) ?_;rcases Al s.length 1 with⟨g1,m⟩|⟨g1,m⟩
 ·have:s.length=0:=by omega
  simp[f110,g1,isName,this]
 rcases Al 24 s.length with⟨g2,n⟩|⟨g2,n⟩
 ·have:¬s.length<=24:=by omega
  simp[f110,g1,g2,isName,this]
 simp[f110,g1,g2];have e0:isName s=l7 0 s:=by simp[isName];omega
 refine lp (α:=Nat) (fun i=>⟨[(3,.p (.int .i64 i)),(0,.p (.str s))],[]⟩) (fun i=>i<=s.length/\isName s=l7 i (s.drop i)) (fun i=>s.length-i) 0 (by simp[e0]) ?_;rintro i ⟨k1,k2⟩
 by_cases hi:i<s.length
 ·rw[Ei hi]at k2;have k:=b9 (i:=i) (by omega);generalize hc:(s[i]:Int)=c at*
  by_cases j:i=0
  ·subst j;have l:av.wrap 1=1:=aP 1 (by omega) (by omega);rcases cls c with⟨a,b⟩|⟨a,b,d⟩|⟨a,b,d,e⟩|⟨a,b,d,e,f⟩|⟨a,b,d,e,f⟩|⟨a,b,d,e,f,g⟩|⟨a,b,d,e,f,g⟩|⟨a,b,d,e,f,g,h⟩
   ·simp[isLet,a,b]at k2;simp[hi,hc,a,b,l];exact rd 1 ⟨hi,by simpa using k2⟩
   ·simp[isLet,a,b,d]at k2;simp[hi,hc,a,b,d,l];exact rd 1 ⟨hi,by simpa using k2⟩
   all_goals
    simp[isLet, *]at k2;simp[hi,hc, *]
  ·rcases cls c with⟨a,b⟩|⟨a,b,d⟩|⟨a,b,d,e⟩|⟨a,b,d,e,f⟩|⟨a,b,d,e,f⟩|⟨a,b,d,e,f,g⟩|⟨a,b,d,e,f,g⟩|⟨a,b,d,e,f,g,h⟩
   ·simp[isLet,a,b]at k2;simp[hi,hc,a,b,k];exact rd (i+1) ⟨hi,k2⟩
   ·simp[isLet,a,b,d]at k2;simp[hi,hc,a,b,d,k];exact rd (i+1) ⟨hi,k2⟩
   ·simp[isLet,iY,a,b,d,e]at k2;simp[hi,hc,j,a,b,d,e,k2]
   ·simp[isLet,iY,a,b,d,e,j]at k2;simp[hi,hc,j,a,b,d,e,k];exact rd (i+1) ⟨hi,k2⟩
   ·simp[isLet,iY,a,b,d,e,f]at k2;simp[hi,hc,j,a,b,d,e,f,k2]
   ·subst g;simp[isLet,iY,j]at k2;simp[hi,hc,j,k];exact rd (i+1) ⟨hi,k2⟩
   ·simp[isLet,iY,a,b,d,e,f,g]at k2;simp[hi,hc,j,a,b,d,e,f,g,k2]
   ·simp[isLet,iY,a,b,d,e,f,g,h]at k2;simp[hi,hc,j,a,b,d,e,f,g,h,k2]
 ·have:i=s.length:=by omega
  subst this;simp[l7]at k2;simp[k2]
theorem Eg(s:List Nat):(gh s).size=s.length:=by
 show(s.map UInt8.ofNat).toArray.size=_;simp
theorem EF(s:List Nat)(b:∀c∈s,c<256)(i:Nat)(h:i<s.length)(a:i<(gh s).size):((gh s)[i]'a).toNat=s[i]:=by
 have e:(gh s)[i]'a=UInt8.ofNat s[i]:=by
  have:(gh s)[i]'a=(s.map UInt8.ofNat).toArray[i]'(by simpa using h):=rfl;rw[this];simp
 rw[e];have:=b s[i] (List.getElem_mem h);simp;omega
theorem Zv{s:List Nat}(d:∀c∈s,c<256){i:Nat}(h:i<s.length)(b:s[i]<128):ax (gh s) i=(s[i],1):=by
 have a:i<(gh s).size:=by rw[Eg];exact h
 have e:=EF s d i h a;rw[decode_ascii (gh s) i a (by rw[e];exact b),e]
theorem Zu{s:List Nat}(b:∀c∈s,c<256){i:Nat}(h:i<s.length)(d:¬s[i]<128):128<=(ax (gh s) i).1/\1<=(ax (gh s) i).2:=by
 have a:i<(gh s).size:=by rw[Eg];exact h
 have e:=EF s b i h a;exact decode_high (gh s) i a (by rw[e];omega)
theorem Ap(s:List Nat)(h:s.length<=1048576):au prog 209 [.str s] (.bool (isName s)):=by
 refine Rv fun m=>?_;have m:∀c∈s,c<256:=by simpa[lP,dQ]using m
 refine aI nf ER mix (by simp[f209]) ?_;simp[f209];refine lp (α:=Nat) (fun i=>⟨[(6,.ptr 0 []),(0,.p (.str s))],[.du s i]⟩) (fun i=>i<=s.length/\l7 0 s=l7 i (s.drop i)) (fun i=>s.length-i) 0 (by simp) ?_;rintro i ⟨k1,k2⟩
 by_cases hi:i<s.length
 ·rw[Ei hi]at k2
  by_cases o:s[i]<128
  ·have n:=Zv m hi o;simp[hi,n];refine c1 (Eo _) ?_;generalize hc:(s[i]:Int)=c at*
   by_cases j:i=0
   ·rcases cls c with⟨a,b⟩|⟨a,b,d⟩|⟨a,b,d,e⟩|⟨a,b,d,e,f⟩|⟨a,b,d,e,f⟩|⟨a,b,d,e,f,g⟩|⟨a,b,d,e,f,g⟩|⟨a,b,d,e,f,g,h⟩
    ·simp[isLet,a,b]at k2;simp[isLet,a,b];exact rd (i+1) ⟨hi,k2⟩
    ·simp[isLet,a,b,d]at k2;simp[isLet,a,b,d];exact rd (i+1) ⟨hi,k2⟩
    all_goals
     simp[isLet,isName, *]at k2;simp[isLet,isName, *]
   ·rcases cls c with⟨a,b⟩|⟨a,b,d⟩|⟨a,b,d,e⟩|⟨a,b,d,e,f⟩|⟨a,b,d,e,f⟩|⟨a,b,d,e,f,g⟩|⟨a,b,d,e,f,g⟩|⟨a,b,d,e,f,g,h⟩
    ·simp[isLet,a,b]at k2;simp[isLet,a,b];exact rd (i+1) ⟨hi,k2⟩
    ·simp[isLet,a,b,d]at k2;simp[isLet,a,b,d];exact rd (i+1) ⟨hi,k2⟩
    ·simp[isLet,iY,a,b,d,e]at k2;have k:c<48:=by omega
     simp[isLet,isName,a,b,e,j,k,k2]
    ·simp[isLet,iY,a,b,d,e,f,j]at k2;have k:¬c<48:=by omega
     have e2:¬57<c:=by omega
     simp[isLet,a,b,k,e2,f,j];exact rd (i+1) ⟨hi,k2⟩
    ·simp[isLet,iY,a,b,d,e,f]at k2;have k:¬c<48:=by omega
     have e2:57<c:=by omega
     simp[isLet,isName,a,b,k,e2,f,j,k2]
    ·subst g;simp[isLet,iY,j]at k2;simp[isLet,j];exact rd (i+1) ⟨hi,k2⟩
    ·simp[isLet,iY,a,b,d,e,f,g]at k2;have k:¬c<48:=by omega
     have e2:57<c:=by omega
     simp[isLet,isName,a,b,d,k,e2,g,j,k2]
    ·simp[isLet,iY,a,b,d,e,f,g,h]at k2;have k:¬c<48:=by omega
     have e2:57<c:=by omega
     simp[isLet,isName,a,b,d,e,k,e2,h,j,k2]
  ·obtain⟨n,_⟩:=Zu m hi o;have z:isLet (s[i]:Int)=false:=by simp[isLet];omega
   have y:iY (s[i]:Int)=false:=by simp[iY];omega
   have x:¬(s[i]:Int)=95:=by omega
   simp[z,y,x]at k2;rcases q:ax (gh s) i with⟨c,d⟩
   rw[q]at n;have t:isLet (c:Int)=false:=by simp[isLet];omega
   have u:¬(c:Int)=95:=by omega
   have v:¬(c:Int)<48:=by omega
   have w:57<(c:Int):=by omega
   simp[hi,q];refine c1 (Eo _) ?_
   by_cases j:i=0
   ·simp[t,j,isName,k2]
   ·simp[t,j,u,v,w,isName,k2]
 ·have:i=s.length:=by omega
  subst this;simp[l7]at k2;cases hs:s with
  |nil=>simp[isName]
  |cons a r=>
   rw[hs]at k2;rcases Al 24 s.length with⟨g,l⟩|⟨g,l⟩
   ·rw[hs]at g l;have:¬(r.length+1)<=24:=by simp at g;omega
    simp at l;simp[isName,k2,this];omega
   ·rw[hs]at g l;have:(r.length+1)<=24:=by simp at l;omega
    simp at l;simp[isName,k2,this];omega
theorem gp{s:List Nat}(h:b7 s=0):bL 2000 (bd s):=by
 obtain⟨b,c⟩:=Ff h;have a:(10:Nat)^mD<=2^2000:=by decide+kernel
 exact⟨dg b a,dg c a⟩
theorem aIW:bg 1=[49]:=aIX (n:=1) (by decide)
def fo(q:Rat):Int:=if dF q<0\/0<dw q 1 then 3 else 0
def wO(s:List Nat):Int:=if b7 s=0 then fo (bd s)else b7 s
theorem Et(s:List Nat)(hs:iU s):au prog 195 [.str s] (.int .i64 (wO s)):=by
 have d:=vA s hs;refine aI nf Fj mix (by simp[f195]) ?_;rw[wO]
 by_cases c:b7 s=0
 ·have o:=gp c;have f:=s9 (bd s) (o.mono (by decide));have g:=pO (bd s) 1 (o.mono (by decide)) (by exact⟨by decide+kernel,by decide+kernel⟩);rw[(jG c).1]at f g;rw[aIW]at g;rw[if_pos c,fo];rw[c]at d;generalize dF (bd s)=x at*;generalize dw (bd s) 1=y at*
  by_cases a:x<0
  ·simp[f195,aa];refine c1 d ?_;simp[aa];refine c1 f ?_;simp[a,aa]
  ·by_cases b:0<y
   ·simp[f195,aa];refine c1 d ?_;simp[aa];refine c1 f ?_;simp[a,aa];refine c2 g ?_;simp[a,b,aa]
   ·simp[f195,aa];refine c1 d ?_;simp[aa];refine c1 f ?_;simp[a,aa];refine c2 g ?_;simp[a,b,aa]
 ·rw[if_neg c];generalize b7 s=e at*;simp[f195,aa];refine c1 d ?_;simp[c,aa]
def gG(o p:dK):Bool:=decide (o.eH=p.eH)&&(decide (dw (bd o.a) (bd p.b)<=0)&&decide (dw (bd p.a) (bd o.b)<=0))
def iv(n:Nat)(c:List dK)(p:dK):Int:=
 if isName p.name=false then 8
 else if c.any (fun o=>decide (o.name=p.name))=true then 9
 else if p.eH<0\/(n:Int)<=p.eH then 10
 else if b7 p.a≠0 then b7 p.a
 else if b7 p.b≠0 then b7 p.b
 else if max (fo (bd p.a)) (fo (bd p.b))≠0 then max (fo (bd p.a)) (fo (bd p.b))
 else if 0<dw (bd p.a) (bd p.b)then 11
 else if c.any (fun o=>gG o p)=true then 17 else 0
def rH(p:dK):Prop:=iU p.name/\iU p.a/\iU p.b
def aB.pk(t:aB)(i:Nat):dK:=t.bm.getD i ⟨[],0,[],[]⟩
@[simp] theorem aB.Qe{t:aB}{i:Nat}(h:i<t.bm.length):t.bm[i]'h=t.pk i:=by
 rw[aB.pk,bi,bb h];rfl
theorem aB.lg{t:aB}{i:Nat}(h:i<t.bm.length):t.bm[i]?=some (t.pk i):=by rw[bb h,aB.Qe]
theorem tY{α:Type}{f:α->Bool}{l:List α}{i:Nat}{x:α}(h:l[i]?=some x):(l.take (i+1)).any f=((l.take i).any f||f x):=by
 rw[List.take_add_one,h];simp
theorem QZ(t:aB)(i:Nat)(hi:i<t.bm.length)(V:t.bm.length<=1000000)(hc:t.cs.length<=1000000)(Q:∀p∈t.bm,rH p)(R:∀j,j<i->b7 (t.pk j).a=0/\b7 (t.pk j).b=0):
 au prog 109 [cR t,.int .i64 i] (.int .i64 (iv t.cs.length (t.bm.take i) (t.pk i))):=by
 have v:=aB.lg hi;obtain⟨S,E,F⟩:=Q _ (be v);have m:=Aj (t.pk i).name S.1;have O:=vA (t.pk i).a E;have P:=vA (t.pk i).b F;refine aI nf FD mix (by simp[f109]) ?_;rw[iv];cases B:isName (t.pk i).name
 ·rw[B]at m;simp[f109,aa,v,hi];refine c1 m ?_;simp[aa]
 rw[B]at m;rw[if_neg (by decide)];simp[f109,aa,v,hi];refine c1 m ?_;simp[aa];refine lp (α:=Nat) (fun j=>⟨[(6,.p (.int .i64 j)),(5,.ptr 1 []),(2,.ptr 0 []),(1,.p (.int .i64 i))],[.box false (.p (cR t)),.box false (.p (fj (t.pk i)))]⟩) (fun j=>j<=i/\(t.bm.take j).any (fun o=>decide (o.name=(t.pk i).name))=false) (fun j=>i-j) 0 (by simp) ?_;rintro j ⟨W,D⟩
 by_cases q:j<i
 ·have z:j<t.bm.length:=by omega
  have g:=aB.lg z;have f:=b9 (i:=j) (by omega)
  by_cases n:(t.pk j).name=(t.pk i).name
  ·have:(t.bm.take i).any (fun o=>decide (o.name=(t.pk i).name))=true:=by
    rw[bl];exact⟨t.pk j,be (i:=j) (by rw[bV,if_pos q];exact g),by simp[n]⟩
   rw[if_pos this];simp[q,z,g,n,aa]
  ·simp[q,z,g,n,f,aa];exact rd (j+1) ⟨q,by rw[tY g,D];simp[n]⟩
 have:j=i:=by omega
 subst this;rw[D,if_neg (by decide)];have u:((t.pk j).eH<0\/(t.cs.length:Int)<=(t.pk j).eH)\/(¬(t.pk j).eH<0/\¬(t.cs.length:Int)<=(t.pk j).eH):=by omega
 rcases u with u|⟨L,N⟩
 ·rw[if_pos u]
  by_cases e1:(t.pk j).eH<0
  ·simp[e1,aa]
  ·have e2:(t.cs.length:Int)<=(t.pk j).eH:=by omega
   simp[e1,e2,aa]
 rw[if_neg (by omega)];have K:¬j<j:=by omega
 simp[L,N,K,aa];refine c1 O ?_
 by_cases c:b7 (t.pk j).a=0
 case neg=>
  rw[if_pos c];simp[c,aa]
 rw[if_neg (by simp[c])];simp[c,aa];refine c1 P ?_
 by_cases d:b7 (t.pk j).b=0
 case neg=>
  rw[if_pos d];simp[d,aa]
 rw[if_neg (by simp[d])];simp[d,aa];have G:=gp c;have H:=gp d;have x:=Et (t.pk j).a E;have y:=Et (t.pk j).b F;rw[wO,if_pos c]at x;rw[wO,if_pos d]at y;have A:=pO (bd (t.pk j).a) (bd (t.pk j).b) (G.mono (by decide)) (H.mono (by decide));rw[(jG c).1,(jG d).1]at A;refine e1 x ?_;simp[aa];refine e1 y ?_;have em:max (fo (bd (t.pk j).a)) (fo (bd (t.pk j).b))=if fo (bd (t.pk j).a)<fo (bd (t.pk j).b)then fo (bd (t.pk j).b)else fo (bd (t.pk j).a):=by split<;>omega
 simp[aa,<-em];clear em x y;generalize max (fo (bd (t.pk j).a)) (fo (bd (t.pk j).b))=M at*
 by_cases hm:M=0
 case neg=>
  simp[hm,aa]
 subst hm;simp[aa];refine c2 A ?_
 by_cases s:0<dw (bd (t.pk j).a) (bd (t.pk j).b)
 ·rw[if_pos s];simp[s,aa]
 rw[if_neg s];simp[s,aa];refine lp (α:=Nat) (fun k=>⟨[(8,.p (.int .i64 k)),(5,.ptr 1 []),(2,.ptr 0 []),(1,.p (.int .i64 j))],[.box false (.p (cR t)),.box false (.p (fj (t.pk j)))]⟩) (fun k=>k<=j/\(t.bm.take k).any (fun o=>gG o (t.pk j))=false) (fun k=>j-k) 0 (by simp) ?_;rintro k ⟨k1,k2⟩
 by_cases hk:k<j
 ·have e:k<t.bm.length:=by omega
  have gk:=aB.lg e;have f:=b9 (i:=k) (by omega);obtain⟨I,J⟩:=R k hk;have T:=gp I;have U:=gp J;have l:=pO (bd (t.pk k).a) (bd (t.pk j).b) (T.mono (by decide)) (H.mono (by decide));have w:=pO (bd (t.pk j).a) (bd (t.pk k).b) (G.mono (by decide)) (U.mono (by decide));rw[(jG I).1,(jG d).1]at l;rw[(jG c).1,(jG J).1]at w;have C:gG (t.pk k) (t.pk j)=true->(t.bm.take j).any (fun o=>gG o (t.pk j))=true:=fun h=>by
   rw[bl];exact⟨t.pk k,be (i:=k) (by rw[bV,if_pos hk];exact gk),h⟩
  have r:gG (t.pk k) (t.pk j)=false->(t.bm.take (k+1)).any (fun o=>gG o (t.pk j))=false:=fun h=>by
   rw[tY gk,k2,h];rfl
  rw[gG]at C r
  by_cases e1:(t.pk k).eH=(t.pk j).eH
  ·by_cases e2:dw (bd (t.pk k).a) (bd (t.pk j).b)<=0
   ·by_cases e3:dw (bd (t.pk j).a) (bd (t.pk k).b)<=0
    ·rw[if_pos (C (by simp[e1,e2,e3]))];simp[hk,e,gk,e1,aa];refine c2 l ?_;simp[e1,e2,aa];refine c2 w ?_;simp[e1,e2,e3,aa]
    ·simp[hk,e,gk,e1,aa];refine c2 l ?_;simp[e1,e2,aa];refine c2 w ?_;simp[e1,e2,e3,f,aa];exact rd (k+1) ⟨hk,r (by simp[e3])⟩
   ·simp[hk,e,gk,e1,aa];refine c2 l ?_;simp[e1,e2,f,aa];exact rd (k+1) ⟨hk,r (by simp[e2])⟩
  ·simp[hk,e,gk,e1,f,aa];exact rd (k+1) ⟨hk,r (by simp[e1])⟩
 ·have:k=j:=by omega
  subst this;rw[k2,if_neg (by decide)];simp[aa]
structure NV where
 x:NF
 y:NF
noncomputable def b8(v:NV):PV:=.st 132 [eF v.x,eF v.y]
@[simp] theorem aMv(v:NV):aL (b8 v)=.agg 132:=rfl
@[simp] theorem aKX(v:NV):bW (b8 v)=[eF v.x,eF v.y]:=rfl
@[simp] theorem aKc:prog.cellsOf 132=8:=by kernel_rfl
theorem nM(x y:NF):b8 ⟨x,y⟩=.st 132 [eF x,eF y]:=rfl
def NV.q(v:NV):V2:=⟨v.x.q,v.y.q⟩
def NV.add(v w:NV):NV:=⟨v.x.add w.x,v.y.add w.y⟩
def NV.sub(v w:NV):NV:=⟨v.x.sub w.x,v.y.sub w.y⟩
def NV.times(v:NV)(k:NF):NV:=⟨v.x.mul k,v.y.mul k⟩
def NV.dot(v w:NV):NF:=(v.x.mul w.x).add (v.y.mul w.y)
def NV.cU(v w:NV):NF:=(v.x.mul w.y).sub (v.y.mul w.x)
theorem NV.fQ(v w:NV):(v.sub w).q=v.q.sub w.q:=by simp only[NV.sub,NV.q,V2.sub,NF.fQ]
theorem NV.Gw(v w:NV):(v.add w).q=v.q.add w.q:=rfl
theorem NV.Aq(v:NV)(k:NF):(v.times k).q=v.q.mul k.q:=rfl
theorem NV.kj(v w:NV):(v.dot w).q=v.q.dot w.q:=rfl
theorem NV.rO(v w:NV):(v.cU w).q=v.q.cU w.q:=NF.fQ _ _
theorem YO(v w:NV)(a:bA kQ v.q)(b:bA kQ w.q):au prog 103 [b8 v,b8 w] (b8 (v.add w)):=by
 have c:=tA v.x w.x (cT a.1) (cT b.1);have d:=tA v.y w.y (cT a.2) (cT b.2);refine aI nf Fb mix (by simp[f103]) ?_;rw[NV.add,nM];simp[f103,aa];refine e2 c ?_;simp[aa];refine e2 d ?_;simp[aa]
theorem rz(v w:NV)(a:bA kQ v.q)(b:bA kQ w.q):au prog 78 [b8 v,b8 w] (b8 (v.sub w)):=by
 have c:=qQ v.x w.x (cT a.1) (cT b.1);have d:=qQ v.y w.y (cT a.2) (cT b.2);refine aI nf PB mix (by simp[f78]) ?_;rw[NV.sub,nM];simp[f78,aa];refine e2 c ?_;simp[aa];refine e2 d ?_;simp[aa]
theorem Ma(v:NV)(k:NF)(a:bA kQ v.q)(hk:bL kQ k.q):au prog 104 [b8 v,eF k] (b8 (v.times k)):=by
 have b:=jI v.x k (cT a.1) (cT hk);have c:=jI v.y k (cT a.2) (cT hk);refine aI nf NG mix (by simp[f104]) ?_;rw[NV.times,nM];simp[f104,aa];refine e2 b ?_;simp[aa];refine e2 c ?_;simp[aa]
theorem Dj(v w:NV)(a:bA kQ v.q)(b:bA kQ w.q):au prog 119 [b8 v,b8 w] (eF (v.dot w)):=by
 have c:=jI v.x w.x (cT a.1) (cT b.1);have d:=jI v.y w.y (cT a.2) (cT b.2);have e:=tA (v.x.mul w.x) (v.y.mul w.y) ((fK a.1 b.1).mono (by decide)) ((fK a.2 b.2).mono (by decide));refine aI nf Ny mix (by simp[f119]) ?_;rw[NV.dot];simp[f119,aa];refine e2 c ?_;simp[aa];refine e2 d ?_;simp[aa];refine e2 e ?_;simp[aa]
theorem Ep(v w:NV)(a:bA kQ v.q)(b:bA kQ w.q):au prog 185 [b8 v,b8 w] (eF (v.cU w)):=by
 have c:=jI v.x w.y (cT a.1) (cT b.2);have d:=jI v.y w.x (cT a.2) (cT b.1);have e:=qQ (v.x.mul w.y) (v.y.mul w.x) ((fK a.1 b.2).mono (by decide)) ((fK a.2 b.1).mono (by decide));refine aI nf Fm mix (by simp[f185]) ?_;rw[NV.cU];simp[f185,aa];refine e2 c ?_;simp[aa];refine e2 d ?_;simp[aa];refine e2 e ?_;simp[aa]
theorem A8(v:NV)(a:bA kQ v.q):au prog 79 [b8 v] (eF (v.dot v)):=by
 refine aI nf PC mix (by simp[f79]) ?_;simp[f79,aa];refine c2 (Dj v v a a) ?_;simp[aa]
def NV.from(p:gF):NV:=⟨⟨bd p.x,false⟩,⟨bd p.y,false⟩⟩
theorem Yq(p:gF)(d:b7 p.x=0)(e:b7 p.y=0)(a:n8 p):au prog 77 [ga p] (b8 (.from p)):=by
 have b:=kX p.x d a.1.1;have c:=kX p.y e a.2.1;refine aI nf PA mix (by simp[f77]) ?_;rw[NV.from,nM];simp[f77,aa];refine e1 b ?_;simp[aa];refine e1 c ?_;simp[aa]
structure NS where
 a:NF
 b:NF
 d:NF
noncomputable def zD(s:NS):PV:=.st 149 [eF s.a,eF s.b,eF s.d]
@[simp] theorem aMu(s:NS):aL (zD s)=.agg 149:=rfl
@[simp] theorem aKW(s:NS):bW (zD s)=[eF s.a,eF s.b,eF s.d]:=rfl
def NS.q(s:NS):S3:=⟨s.a.q,s.b.q,s.d.q⟩
def DS(k:Nat)(s:NS):Prop:=bL k s.a.q/\bL k s.b.q/\bL k s.d.q
def NF.width(r:Int):NF:=.int (4*r*r)
theorem FR(r:Int):(NF.width r).q=im r:=rfl
theorem YP(r:Int)(a:0<=r)(b:r<=1000000):au prog 81 [.int .i64 r] (eF (.width r)):=by
 have e:=vi a b;have c:=kY (4*r*r) (by omega) (by omega);have w1:av.wrap (4*r)=4*r:=aP _ (by omega) (by omega);have d:av.wrap (4*r*r)=4*r*r:=aP _ (by omega) (by omega);refine aI nf PE mix (by simp[f81]) ?_;rw[NF.width];simp[f81,w1,d];refine c1 c ?_;simp[aa]
structure NM where
 w:NV
 d:NV
 root:NF
noncomputable def OX(m:NM):PV:=.st 144 [b8 m.w,b8 m.d,eF m.root]
@[simp] theorem aMt(m:NM):aL (OX m)=.agg 144:=rfl
@[simp] theorem aKV(m:NM):bW (OX m)=[b8 m.w,b8 m.d,eF m.root]:=rfl
def NM.of(width:NF)(p d b:NV):NM:=⟨b.sub p,d,(((b.sub p).dot d).mul ((b.sub p).dot d)).sub ((d.dot d).mul (((b.sub p).dot (b.sub p)).sub width))⟩
theorem oL:∀l:List Int,bK l=0↔∀e∈l,e=0
 |[]=>by simp[bK]
 |e::r=>by
  rw[bK]
  by_cases h:e=0
  ·rw[if_pos h,oL r];simp[h]
  ·rw[if_neg h];simp[h]
theorem jF{p:gF}(h:ek p=0):b7 p.x=0/\b7 p.y=0:=by
 have:=(oL _).1 h;exact⟨this _ (by simp),this _ (by simp)⟩
def vP(p:gF):V2:=⟨bd p.x,bd p.y⟩
theorem kl(p:gF):(NV.from p).q=vP p:=rfl
theorem AO{k:Nat}{p:gF}(h:bA k (vP p)):bA k (NV.from p).q:=h
def V2.zY(v:V2):V2:=⟨-v.y,v.x⟩
def eJ:Nat->V2->V2
 |0,v=>v
 |i+1,v=>(eJ i v).zY
def o9(k:Nat):V2:=⟨iJ (64-(k:Int)*k) (64+(k:Int)*k),iJ (16*(k:Int)) (64+(k:Int)*k)⟩
def ru(n:Nat):V2:=eJ (n/8) (o9 (n% 8))
theorem K3{n d:Int}{k:Nat}(c:0<d)(a:n.natAbs<2^k)(b:d.natAbs<2^k):bL k (iJ n d):=by
 obtain⟨m,rfl⟩:∃m:Nat,d=m:=⟨d.natAbs,by omega⟩
 exact yu (by omega) a (by simpa using b)
theorem Bv{k:Nat}(h:k<8):bA 8 (o9 k):=by
 have b:k*k<=7*7:=da (by omega) (by omega);have a:((k:Int)*k)=((k*k:Nat):Int):=by rw[ay]
 refine⟨?_,?_⟩
 ·rw[o9,a];exact K3 (by omega) (by omega) (by omega)
 ·rw[o9,a];exact K3 (by omega) (by omega) (by omega)
theorem aHi{k:Nat}{v:V2}(h:bA k v):bA k v.zY:=⟨xY h.2,h.1⟩
theorem xO{k:Nat}{v:V2}(h:bA k v):∀i,bA k (eJ i v)
 |0=>h
 |i+1=>aHi (xO h i)
theorem Yc(n:Nat)(h:n<32):au prog 14 [.int .i64 n] (eV (ru n)):=by
 obtain⟨k,hk⟩:∃k,n% 8=k:=⟨_,rfl⟩
 have w:k<8:=by omega
 obtain⟨m,A⟩:∃m,n/8=m:=⟨_,rfl⟩
 have z:k*k<=7*7:=da (by omega) (by omega);obtain⟨a,g⟩:∃a:Nat,k*k=a:=⟨_,rfl⟩
 have hI:(k:Int)*k=a:=by rw[<-ay,g]
 rw[g]at z;have j:=zh (64-(k:Int)*k) (64+(k:Int)*k) (by rw[hI];omega) (by rw[hI];omega) (by rw[hI];omega);have l:=zh (16*(k:Int)) (64+(k:Int)*k) (by rw[hI];omega) (by omega) (by rw[hI];omega);have o:=Bv w;rw[ru,hk,A];have e0:o9 k=⟨iJ (64-(k:Int)*k) (64+(k:Int)*k),iJ (16*(k:Int)) (64+(k:Int)*k)⟩:=rfl;rw[hI]at j l e0;have D:(n:Int).tmod 8=k:=by rw[aT (a0 _)];omega
 have b:(n:Int).tdiv 8=m:=by rw[a1 (a0 _)];omega
 have w0:av.wrap (k:Int)=k:=aP _ (by omega) (by omega);have w1:av.wrap (a:Int)=a:=aP _ (by omega) (by omega);have c:av.wrap (64-(a:Int))=64-(a:Int):=aP _ (by omega) (by omega);have d:av.wrap (64+(a:Int))=64+(a:Int):=aP _ (by omega) (by omega);have e:av.wrap (16*(k:Int))=16*(k:Int):=aP _ (by omega) (by omega);have q:av.wrap (m:Int)=m:=aP _ (by omega) (by omega);have F:m<4:=by omega
 obtain⟨u,C⟩:∃u,o9 k=u:=⟨_,rfl⟩
 rw[C]at e0 o⊢;refine aI nf Pa mix (by simp[f14]) ?_;simp[f14,D,b,w0,w1,c,d,e,hI,aa];refine c2 j ?_;simp[w0,w1,c,d,e,hI,aa];refine c2 l ?_;simp[w0,w1,c,d,e,hI,aa];refine lp (α:=Nat) (fun i=>⟨[(5,.p (.int .i64 i)),(4,.ptr 1 []),(2,.ptr 0 []),(0,.p (.int .i64 n))],[.box false (.p (.st 23 [.str [],.str []])),.box false (.p (eV (eJ i u)))]⟩)
  (fun i=>i<=m) (fun i=>m-i) 0 (db _) ?_ (hh:=by simp[eJ,e0,pq])
 intro i hi;have E:av.wrap ((i:Int)+1)=(i:Int)+1:=aP _ (by omega) (by omega);have r:=LP (eJ i u).y ((xO o i).2.mono (by decide))
 by_cases s:i<m
 ·have f:(i:Int)<m:=by omega
  have B:eJ (i+1) u=⟨-(eJ i u).y,(eJ i u).x⟩:=rfl;generalize G:eJ i u=v at*;obtain⟨x,y⟩:=v;rw[pq];simp[b,q,f,s,aa];refine e1 r ?_;simp[aa];refine⟨by repeat' first|rfl|apply And.intro,?_⟩;exact rd (i+1) (show i+1<=m by omega) (he:=by simp[E]) (hh:=by simp[B,pq])
 ·have f:¬(i:Int)<m:=by omega
  have t:i=m:=by omega
  subst t;simp[b,q,aa]
def NV.zY(v:NV):NV:=⟨v.y.neg,v.x⟩
def NV.eJ:Nat->NV->NV
 |0,v=>v
 |i+1,v=>(NV.eJ i v).zY
theorem NV.yV(v:NV):∀i,(NV.eJ i v).q=Go.ak.eJ i v.q
 |0=>rfl
 |i+1=>by rw[NV.eJ,Go.ak.eJ,<-NV.yV v i];rfl
def jJ(k:Nat):NV:=NV.times ⟨.int (64-(k:Int)*k),.int (16*(k:Int))⟩ (NF.int (64+(k:Int)*k)).inv
theorem Hl(n d:Int):iJ n d=(n:Rat)*((d:Int):Rat)⁻¹:=by
 rw[iJ,ei,ea]
theorem CQ(k:Nat):(jJ k).q=o9 k:=by
 rw[jJ,NV.Aq,o9,Hl,Hl];rfl
def vD:PV:=.st 128 [.int .i64 0,.aO]
def zeroV:PV:=.st 132 [.st 130 [vD,vD],.st 130 [vD,vD]]
@[simp] theorem aMZ:aL zeroV=.agg 132:=rfl
theorem YN(n:Nat)(h:n<32):au prog 71 [.int .i64 n] (b8 (NV.eJ (n/8) (jJ (n% 8)))):=by
 obtain⟨k,hk⟩:∃k,n% 8=k:=⟨_,rfl⟩
 have D:k<8:=by omega
 obtain⟨m,F⟩:∃m,n/8=m:=⟨_,rfl⟩
 have E:k*k<=7*7:=da (by omega) (by omega);obtain⟨a,o⟩:∃a:Nat,k*k=a:=⟨_,rfl⟩
 have hI:(k:Int)*k=a:=by rw[<-ay,o]
 rw[o]at E;rw[hk,F];have I:=kY (64-(a:Int)) (by omega) (by omega);have J:=kY (16*(k:Int)) (by omega) (by omega);have K:=kY (64+(a:Int)) (by omega) (by omega);have j:bL 8 (NF.int (64+(a:Int))).q:=nR (by omega) (by decide);have s:bL 8 (NF.int (64-(a:Int))).q:=nR (by omega) (by decide);have t:bL 8 (NF.int (16*(k:Int))).q:=nR (by omega) (by decide);have H:(NF.int (64+(a:Int))).q≠0:=by
  show((64+(a:Int):Int):Rat)≠0;intro h;have O:(64+(a:Int):Int)=0:=by exact_mod_cast h
  omega
 have L:=CO (NF.int (64+(a:Int))) (j.mono (by decide)) H;have z:bA kQ (NV.mk (.int (64-(a:Int))) (.int (16*(k:Int)))).q:=⟨s.mono (by decide),t.mono (by decide)⟩
 have r:=Ma ⟨.int (64-(a:Int)),.int (16*(k:Int))⟩ (NF.int (64+(a:Int))).inv z ((xm j).mono (by decide));have M:bA 8 (jJ k).q:=by rw[CQ];exact Bv D
 have e0:jJ k=NV.times ⟨.int (64-(a:Int)),.int (16*(k:Int))⟩ (NF.int (64+(a:Int))).inv:=by rw[jJ,hI]
 rw[<-e0,nM]at r;have b:(n:Int).tmod 8=k:=by rw[aT (a0 _)];omega
 have c:(n:Int).tdiv 8=m:=by rw[a1 (a0 _)];omega
 have w0:av.wrap (k:Int)=k:=aP _ (by omega) (by omega);have w1:av.wrap (a:Int)=a:=aP _ (by omega) (by omega);have d:av.wrap (64-(a:Int))=64-(a:Int):=aP _ (by omega) (by omega);have e:av.wrap (64+(a:Int))=64+(a:Int):=aP _ (by omega) (by omega);have f:av.wrap (16*(k:Int))=16*(k:Int):=aP _ (by omega) (by omega);have g:av.wrap (m:Int)=m:=aP _ (by omega) (by omega);have P:m<4:=by omega
 generalize jJ k=u at*;clear e0;refine aI nf Px mix (by simp[f71]) ?_;simp[f71,b,c,w0,w1,d,e,f,g,hI,aa];refine c1 I ?_;simp[b,c,w0,w1,d,e,f,g,hI,aa];refine c1 J ?_;simp[b,c,w0,w1,d,e,f,g,hI,aa];refine c1 K ?_;simp[b,c,w0,w1,d,e,f,g,hI,aa];refine c1 L ?_;simp[b,c,w0,w1,d,e,f,g,hI,aa];refine c2 r ?_;simp[b,c,w0,w1,d,e,f,g,hI,aa];refine lp (α:=Nat) (fun i=>⟨[(25,.p (.int .i64 i)),(24,.p (.int .i64 m)),(4,.ptr 1 []),(2,.ptr 0 [])],[.box false (.p zeroV),.box false (.p (b8 (NV.eJ i u)))]⟩)
  (fun i=>i<=m) (fun i=>m-i) 0 (db _) ?_ (hh:=by simp[NV.eJ,nM,b8,zeroV,vD])
 intro i hi;have N:av.wrap ((i:Int)+1)=(i:Int)+1:=aP _ (by omega) (by omega);have w:bA 8 (NV.eJ i u).q:=by rw[NV.yV];exact xO M i
 have A:=CN (NV.eJ i u).y (w.2.mono (by decide))
 by_cases B:i<m
 ·have G:NV.eJ (i+1) u=⟨(NV.eJ i u).y.neg,(NV.eJ i u).x⟩:=rfl;generalize Q:NV.eJ i u=v at*;obtain⟨x,y⟩:=v;have l:(i:Int)<m:=by omega
  rw[nM];simp[l,B,aa];refine e1 A ?_;simp[aa];refine⟨by repeat' first|rfl|apply And.intro,?_⟩;exact rd (i+1) (show i+1<=m by omega) (he:=by simp[N]) (hh:=by simp[G,nM])
 ·have l:¬(i:Int)<m:=by omega
  have C:i=m:=by omega
  subst C;simp[zeroV,aa]
theorem NQ{s:List Nat}(h:fq s 9=true):bL 30 (bd s):=by
 simp only[fq,ac,decide_eq_true_eq]at h;have a:=LU h.1.2;have b:=LU h.2;exact⟨dk a (by decide),dk b (by decide)⟩
structure NB where
 a:NV
 b:NV
 d:NF
noncomputable def OW(n:NB):PV:=.st 171 [b8 n.a,b8 n.b,eF n.d]
@[simp] theorem aMs(n:NB):aL (OW n)=.agg 171:=rfl
@[simp] theorem aKU(n:NB):bW (OW n)=[b8 n.a,b8 n.b,eF n.d]:=rfl
def NB.q(n:NB):P4:=⟨⟨n.a.x.q,n.b.x.q,n.d.q⟩,⟨n.a.y.q,n.b.y.q,n.d.q⟩⟩
def okB(k:Nat)(n:NB):Prop:=bA k n.a.q/\bA k n.b.q/\bL k n.d.q
theorem okB.mono{k l:Nat}{n:NB}(h:okB k n)(a:k<=l):okB l n:=⟨h.1.mono a,h.2.1.mono a,h.2.2.mono a⟩
theorem Ov(e:Int):∀l:List Int,bK (l++[e])=if bK l=0 then e else bK l
 |[]=>by by_cases h:e=0<;>simp[bK,h]
 |x::l=>by
  simp only[List.cons_append,bK,Ov e l]
  by_cases hx:x=0
  ·simp[hx]
  ·simp[hx]
theorem QT{b t:V2}(h:b≠t):nE (bg b.x) (bg b.y) (bg t.x) (bg t.y)=false:=by
 rw[nE,decide_eq_false_iff_not];rintro⟨a,c⟩;obtain⟨bx,d⟩:=b;obtain⟨e,ty⟩:=t;dsimp only at a c;exact h (by rw[Ai a,Ai c])
def gH{α:Type}(a:List α->α->Int)(l:List α)(i:Nat):Int:=match l[i]? with
 |some x=>a (l.take i) x
 |none=>0
def jT{α:Type}(a:List α->α->Int)(l:List α):Int:=bK ((cb l.length).map (gH a l))
theorem Ek{f:Nat->Int}:∀(n i:Nat),(∀j,j<i->f j=0)->i<n->f i≠0->bK ((cb n).map f)=f i
 |0,i,_,h,_=>by omega
 |n+1,i,a,g,b=>by
  rw[cc,List.map_append,bo,bI,Ov]
  by_cases hi:i<n
  ·rw[Ek n i a hi b,if_neg b]
  ·have:i=n:=by omega
   subst this;rw[(oL _).2 (by intro e c;obtain⟨j,d,rfl⟩:=b1.1 c;exact a j (b2.1 d)),if_pos rfl]
theorem rQ{α:Type}{a:List α->α->Int}{l:List α}{i:Nat}{x:α}(h:∀j,j<i->gH a l j=0)(hx:l[i]?=some x)(b:a (l.take i) x≠0):jT a l=a (l.take i) x:=by
 have hi:=(List.getElem?_eq_some_iff.1 hx).1;have e:gH a l i=a (l.take i) x:=by rw[gH,hx]
 rw[jT,Ek _ i h hi (by rw[e];exact b),e]
theorem pM{α:Type}{b:List α->α->Int}{l:List α}:jT b l=0↔∀j,j<l.length->gH b l j=0:=by
 rw[jT,oL];constructor
 ·intro h j a;exact h _ (b1.2 ⟨j,b2.2 a,rfl⟩)
 ·intro h e c;obtain⟨j,a,rfl⟩:=b1.1 c;exact h j (b2.1 a)
theorem rP{α:Type}{a:List α->α->Int}{l:List α}{i:Nat}{x:α}(h:∀j,j<i->gH a l j=0)(hx:l[i]?=some x)(c:a (l.take i) x=0):∀j,j<i+1->gH a l j=0:=by
 intro j d
 by_cases b:j=i
 ·subst b;rw[gH,hx];exact c
 ·exact h j (by omega)
def iX(t:aB)(bef:List cB)(s:cB):Int:=
 if isName s.name=false then 8
 else if bef.any (fun o=>decide (o.name=s.name))=true then 9
 else if ek s.pt≠0 then ek s.pt
 else if t.on (vP s.pt)<0 then 16 else 0
def ia(t:aB):Int:=
 if t.cs.length<3 then 2
 else if 12<t.cs.length then 5
 else if t.cs.any fI=true then 3
 else if t.fU=false then 15
 else if t.aR<1\/1000<t.aR then 3
 else if 12<t.bm.length then 5
 else if jT (iv t.cs.length) t.bm≠0 then jT (iv t.cs.length) t.bm
 else if 256<t.ar.length then 5
 else jT (iX t) t.ar
def mN(p:cB):Prop:=iU p.name/\n8 p.pt
def aB.sp(t:aB)(i:Nat):cB:=t.ar.getD i ⟨[],⟨[],[]⟩⟩
@[simp] theorem aB.jz{t:aB}{i:Nat}(h:i<t.ar.length):t.ar[i]'h=t.sp i:=by
 rw[aB.sp,bi,bb h];rfl
theorem aB.fe{t:aB}{i:Nat}(h:i<t.ar.length):t.ar[i]?=some (t.sp i):=by rw[bb h,aB.jz]
structure ib(t:aB):Prop where
 cl:t.cs.length<=1000000
 pl:t.bm.length<=1000000
 sl:t.ar.length<=1000000
 pk:∀p∈t.bm,rH p
 sp:∀s∈t.ar,mN s
def iN(t:aB)(name:List Nat):Int:=match t.ar.findIdx? (fun s=>decide (s.name=name))with
 |some i=>i
 |none=>-1
theorem Ey{n:Nat}{c:List dK}{p:dK}(h:iv n c p=0):b7 p.a=0/\b7 p.b=0:=by
 rw[iv]at h
 split at h
 ·omega
 split at h
 ·omega
 split at h
 ·omega
 split at h
 ·contradiction
 split at h
 ·contradiction
 rename_i d e;exact⟨Decidable.not_not.1 d,Decidable.not_not.1 e⟩
theorem Ya(t:aB)(name:List Nat)(h:t.ar.length<=1000000):au prog 111 [cR t,.str name] (.int .i64 (iN t name)):=by
 refine aI nf FB mix (by simp[f111]) ?_;simp[f111,aa];refine lp (α:=Nat) (fun i=>⟨[(5,.p (.int .i64 i)),(2,.ptr 0 []),(1,.p (.str name))],[.box false (.p (cR t))]⟩) (fun i=>i<=t.ar.length/\∀j,j<i->¬(t.sp j).name=name) (fun i=>t.ar.length-i) 0 (by simp) ?_;rintro i ⟨g,c⟩
 by_cases hi:i<t.ar.length
 ·have d:=aB.fe hi;have f:=b9 (i:=i) (by omega)
  by_cases a:(t.sp i).name=name
  ·have:iN t name=i:=by
    have:t.ar.findIdx? (fun s=>decide (s.name=name))=some i:=by
     rw[b0];refine⟨hi,by rw[aB.jz];simp[a],fun j b=>?_⟩;rw[aB.jz];simp[c j b]
    rw[iN,this]
   simp[hi,d,a,this,aa]
  ·simp[hi,d,a,f,aa];exact rd (i+1) ⟨hi,fun j b=>by
    by_cases e:j=i
    ·subst e;exact a
    ·exact c j (by omega)⟩
 ·have:i=t.ar.length:=by omega
  subst this;have:iN t name= -1:=by
   have:t.ar.findIdx? (fun s=>decide (s.name=name))=none:=by
    rw[b3];intro s hs;obtain⟨j,b,rfl⟩:=b5.1 hs;rw[aB.jz];simp[c j b]
   rw[iN,this]
  simp[this,aa]
theorem aIv{t:aB}{i:Nat}(hi:i<t.ar.length):iN t (t.sp i).name<i↔(t.ar.take i).any (fun o=>decide (o.name=(t.sp i).name))=true:=by
 obtain⟨k,hk⟩:∃k,t.ar.findIdx? (fun s=>decide (s.name=(t.sp i).name))=some k:=by
  cases h:t.ar.findIdx? (fun s=>decide (s.name=(t.sp i).name))with
  |some k=>exact⟨k,rfl⟩
  |none=>
   rw[b3]at h;have:=h _ (be (aB.fe hi));simp at this
 rw[iN,hk];rw[b0]at hk;obtain⟨k1,k2,k3⟩:=hk;rw[bl];constructor
 ·intro h;have h:k<i:=by simp only at h;omega
  exact⟨t.ar[k],be (i:=k) (by rw[bV,if_pos h,bb k1]),k2⟩
 ·rintro⟨o,b,a⟩;obtain⟨j,c,rfl⟩:=b5.1 b;simp only[List.length_take]at c;simp only;rw[List.getElem_take]at a;have:¬j<k:=fun d=>by
   have:=k3 j d;rw[a]at this;simp at this
  omega
theorem QW(t:aB)(L:ib t):au prog 25 [cR t] (.int .i64 (ia t)):=by
 obtain⟨s,M,N,J,K⟩:=L;refine aI nf Pf mix (by simp[f25]) ?_;rw[ia]
 by_cases c1:t.cs.length<3
 ·have cI:(t.cs.length:Int)<3:=by omega
  rw[if_pos c1];simp[f25,aa,cI]
 have v:¬(t.cs.length:Int)<3:=by omega
 rw[if_neg c1]
 by_cases c2:12<t.cs.length
 ·have cI:(12:Int)<t.cs.length:=by omega
  rw[if_pos c2];simp[f25,aa,v,cI]
 have A:¬(12:Int)<t.cs.length:=by omega
 rw[if_neg c2];simp[f25,aa,v,A];refine lp (α:=Nat) (fun i=>⟨[(3,.p (.int .i64 i)),(1,.ptr 0 [])],[.box false (.p (cR t))]⟩) (fun i=>i<=t.cs.length/\(t.cs.take i).any fI=false) (fun i=>t.cs.length-i) 0 (by simp) ?_;rintro i ⟨i1,i2⟩
 by_cases hi:i<t.cs.length
 ·have k:=aB.get hi;have f:=b9 (i:=i) (by omega);have l:=Yo (t.at i);cases hf:fI (t.at i)
  ·rw[hf]at l;simp[hi,k,aa];refine Go.ak.c1 l ?_;simp[f,aa];exact rd (i+1) ⟨hi,by rw[tY k,i2,hf];rfl⟩
  ·rw[hf]at l;have:t.cs.any fI=true:=bl.2 ⟨t.at i,be k,hf⟩;rw[if_pos this];simp[hi,k,aa];refine Go.ak.c1 l ?_;simp[aa]
 have:i=t.cs.length:=by omega
 subst this;rw[List.take_length]at i2;have x:∀p∈t.cs,dW p:=fun p I=>Ew (by
  cases h:fI p
  ·rfl
  ·rw[bl.2 ⟨p,I,h⟩]at i2;cases i2)
 have E:=Rs t s x;rw[i2,if_neg (by decide)];simp[aa];refine Go.ak.c1 E ?_;cases R:t.fU
 ·simp[aa]
 rw[if_neg (by decide)];have u:(t.aR<1\/1000<t.aR)\/(¬t.aR<1/\¬1000<t.aR):=by omega
 rcases u with u|⟨y,z⟩
 ·rw[if_pos u]
  by_cases e1:t.aR<1
  ·simp[e1,aa]
  ·have e2:1000<t.aR:=by omega
   simp[e1,e2,aa]
 rw[if_neg (by omega)]
 by_cases c3:12<t.bm.length
 ·have cI:(12:Int)<t.bm.length:=by omega
  rw[if_pos c3];simp[y,z,cI,aa]
 have B:¬(12:Int)<t.bm.length:=by omega
 rw[if_neg c3];simp[y,z,B,aa];refine lp (α:=Nat) (fun i=>⟨[(4,.p (.int .i64 i)),(1,.ptr 0 [])],[.box false (.p (cR t))]⟩) (fun i=>i<=t.bm.length/\∀j,j<i->gH (iv t.cs.length) t.bm j=0) (fun i=>t.bm.length-i) 0 (by simp) ?_;rintro i ⟨k1,k2⟩
 by_cases hk:i<t.bm.length
 ·have gk:=aB.lg hk;have f:=b9 (i:=i) (by omega);have b:=QZ t i hk M s J (fun j H=>by
   have:=k2 j H;rw[gH,aB.lg (by omega)]at this;exact Ey this)
  by_cases he:iv t.cs.length (t.bm.take i) (t.pk i)=0
  ·rw[he]at b;simp[hk,aa];refine Go.ak.c2 b ?_;simp[f,aa];exact rd (i+1) ⟨hk,rP k2 gk he⟩
  ·have G:=rQ k2 gk he;rw[G,if_pos he];simp[hk,aa];refine Go.ak.c2 b ?_;simp[he,aa]
 have:i=t.bm.length:=by omega
 subst this;have F:=pM.2 k2;rw[F,if_neg (by decide)]
 by_cases c4:256<t.ar.length
 ·have cI:(256:Int)<t.ar.length:=by omega
  rw[if_pos c4];simp[cI,aa]
 have C:¬(256:Int)<t.ar.length:=by omega
 rw[if_neg c4];simp[C,aa];refine lp (α:=Nat) (fun i=>⟨[(6,.p (.int .i64 i)),(1,.ptr 0 [])],[.box false (.p (cR t))]⟩) (fun i=>i<=t.ar.length/\∀j,j<i->gH (iX t) t.ar j=0) (fun i=>t.ar.length-i) 0 (by simp) ?_;rintro i ⟨s1,s2⟩
 by_cases hs:i<t.ar.length
 ·have a:=aB.fe hs;have f:=b9 (i:=i) (by omega);obtain⟨P,Q⟩:=K _ (be a);have c:=Aj (t.sp i).name P.1;have m:=Ya t (t.sp i).name N;have b:=Gv (t.sp i).pt Q;have w:=aIv hs;have g:iX t (t.ar.take i) (t.sp i)≠0->jT (iX t) t.ar=iX t (t.ar.take i) (t.sp i):=rQ s2 a;have O:iX t (t.ar.take i) (t.sp i)=0->∀j,j<i+1->gH (iX t) t.ar j=0:=rP s2 a;have ev:iX t (t.ar.take i) (t.sp i)=if isName (t.sp i).name=false then 8 else if(t.ar.take i).any (fun o=>decide (o.name=(t.sp i).name))=true then 9 else if ek (t.sp i).pt≠0 then ek (t.sp i).pt else if t.on (vP (t.sp i).pt)<0 then 16 else 0:=rfl
  cases n:isName (t.sp i).name
  ·rw[n]at c;rw[n,if_pos rfl]at ev;rw[g (by rw[ev];decide),ev];simp[hs,a,aa];refine Go.ak.c1 c ?_;simp[aa]
  rw[n]at c;rw[n,if_neg (by decide)]at ev
  by_cases e:iN t (t.sp i).name<i
  ·rw[if_pos (w.1 e)]at ev;rw[g (by rw[ev];decide),ev];simp[hs,a,aa];refine Go.ak.c1 c ?_;simp[aa];refine Go.ak.c2 m ?_;simp[e,aa]
  rw[if_neg (fun h=>e (w.2 h))]at ev
  by_cases d:ek (t.sp i).pt=0
  case neg=>
   rw[if_pos d]at ev;rw[g (by rw[ev];exact d),ev];simp[hs,a,aa];refine Go.ak.c1 c ?_;simp[aa];refine Go.ak.c2 m ?_;simp[e,aa];refine Go.ak.c1 b ?_;simp[d,aa]
  rw[if_neg (by simp[d])]at ev;obtain⟨g1,g2⟩:=jF d;have r:=Dt t (vP (t.sp i).pt) s x ⟨(gp g1).mono (by decide),(gp g2).mono (by decide)⟩;have D:eV (vP (t.sp i).pt)=ga (t.sp i).pt:=by
   rw[eV,vP];dsimp only;rw[(jG g1).1,(jG g2).1]
  rw[D]at r;rw[d]at b
  by_cases q:t.on (vP (t.sp i).pt)<0
  ·rw[if_pos q]at ev;rw[g (by rw[ev];decide),ev];simp[hs,a,aa];refine Go.ak.c1 c ?_;simp[aa];refine Go.ak.c2 m ?_;simp[e,aa];refine Go.ak.c1 b ?_;simp[aa];refine Go.ak.c2 r ?_;simp[q,aa]
  ·rw[if_neg q]at ev;simp[hs,a,aa];refine Go.ak.c1 c ?_;simp[aa];refine Go.ak.c2 m ?_;simp[e,aa];refine Go.ak.c1 b ?_;simp[aa];refine Go.ak.c2 r ?_;simp[q,f,aa];exact rd (i+1) ⟨hs,O ev⟩
 ·have:i=t.ar.length:=by omega
  subst this;rw[pM.2 s2];simp[aa]
open Go.Proofs Go.Proofs.YtanjnahmbanmaaaGreatDoor
section
variable{H:Type}{W:World}{ad:Nat->Prop}
theorem wG:∀d:ao H,1<=Rows.uptoBulk d:=by
 intro d;cases d with
 |lit l=>cases l<;>simp[Rows.uptoBulk]
 |_=>simp[Rows.uptoBulk]
theorem wP{α:Type}{n:Nat}{t e:TypeId}{F:α->PV}{ok:α->Prop}(g:prog.underlying t=some (.slice e))
 (p:∀(d:ao H),(∃c,aY prog W ad (bG prog n e d) c)->Rows.uptoBulk d<=1048576->∃a,bG prog n e d=F a/\ok a/\2<=Rows.uptoBulk d)
 {d:ao H}(h:∃cs,aY prog W ad (bG prog (n+1) t d) cs)(k:Rows.uptoBulk d<=1048576):∃l:List α,bG prog (n+1) t d=.seq (l.map F)/\(∀a∈l,ok a)/\l.length<=1000000:=by
 obtain⟨cs,h⟩:=h;cases d with
 |nil=>exact⟨[],by simp[bG,g],(fun _ h=>nomatch h),by simp⟩
 |slice f sp=>
  simp only[bG,g,aY]at h⊢;have i:∀e'∈f.map (bG prog n e),∃c,aY prog W ad e' c:=by
   rcases h with⟨h,_⟩|⟨_,_,_,_,w,h,_⟩
   ·rw[h];intro _ h;cases h
   ·exact EG h
  have key:∀f:List (ao H),(∀e'∈f.map (bG prog n e),∃c,aY prog W ad e' c)->Rows.uptoBulkAll f<=1048576->∃l:List α,f.map (bG prog n e)=l.map F/\(∀a∈l,ok a)/\2*l.length<=Rows.uptoBulkAll f:=by
   intro f
   induction f with
   |nil=>intro _ _;exact⟨[],rfl,(fun _ h=>nomatch h),by simp⟩
   |cons d r v=>
    intro i k;rw[Rows.uptoBulkAll]at k⊢;obtain⟨a,q,u,m⟩:=p d (i _ List.mem_cons_self) (by omega);obtain⟨l,j,o,y⟩:=v (fun e' s=>i e' (List.mem_cons_of_mem _ s)) (by omega);refine⟨a::l,by simp only[bo];rw[q,j],fun x hx=>?_,by rw[List.length_cons];omega⟩;rcases ce.1 hx with rfl|hx
    ·exact u
    ·exact o x hx
  rw[Rows.uptoBulk]at k;obtain⟨l,j,m,o⟩:=key f i (by omega);exact⟨l,by rw[j],m,by omega⟩
 |lit l=>simp only[bG,g,aY]at h
 |ptr d=>simp only[bG,g,aY]at h
 |agg l=>simp only[bG,g,aY]at h
 |iface a b=>simp only[bG,g,aY]at h
 |map l=>simp only[bG,g,aY]at h
 |held a=>simp only[bG,g,aY]at h
theorem ua{n:Nat}{d:ao H}(h:∃cs,aY prog W ad (bG prog (n+1) 9 d) cs)(a:Rows.uptoBulk d<=1048576):∃s:List Nat,bG prog (n+1) 9 d=.str s/\iU s:=by
 obtain⟨cs,h⟩:=h;cases d with
 |lit l=>
  cases l with
  |string bytes=>
   refine⟨bytes.map (·.toNat),by simp only[bG,D9],?_,?_⟩
   ·rw[Rows.uptoBulk]at a;rw[List.length_map];omega
   ·intro c hc;obtain⟨u,_,rfl⟩:=b1.1 hc;exact u.toNat_lt
  |_=>simp only[bG,D9,aY]at h
 |_=>simp only[bG,D9,aY]at h
theorem aI7:∃a b:ap,prog.underlying 179=some (.struct #[a,b])/\a.type=3/\b.type=3:=⟨_,_,underlying179,rfl,rfl⟩
theorem Qy:prog.underlyingId 179=178:=by kernel_rfl
theorem Ru{m n:Nat}(j:m=n+1){d:ao H}(h:∃cs,aY prog W ad (bG prog (m+1) 179 d) cs)(o:Rows.uptoBulk d<=1048576):∃p:dN,bG prog (m+1) 179 d=cA p/\True/\2<=Rows.uptoBulk d:=by
 obtain⟨cs,h⟩:=h;obtain⟨f0,f1,f,t0,t1⟩:=aI7;cases d with
 |agg l=>
  simp only[bG,f,aY]at h⊢;obtain⟨q,k,e,c,_⟩:=h;rw[Qy,aIH]at e;cases e
  match l,c with
  |[],c=>simp[bk]at c
  |[x],c=>simp[bk]at c
  |x::y::r,c=>
   have:=wG x;simp only[bp,bo,bk,bv,bI,t0,t1]at c⊢;obtain⟨c0,_,_,g1,_,c1,_,_,g2,_⟩:=c;subst j;obtain⟨a,g⟩:=tZ (n:=n) x c0 g1;obtain⟨b,i⟩:=tZ (n:=n) y c1 g2;refine⟨⟨a,b⟩,by rw[g,i,Qy];rfl,trivial,?_⟩;rw[Rows.uptoBulk,Rows.uptoBulkAll];omega
 |_=>simp only[bG,f,aY]at h
theorem aI5:∃a b f2 f3:ap,prog.underlying 161=some (.struct #[a,b,f2,f3])/\a.type=9/\b.type=3/\f2.type=22/\f3.type=22:=⟨_,_,_,_,underlying161,rfl,rfl,rfl,rfl⟩
theorem Qw:prog.underlyingId 161=160:=by kernel_rfl
theorem Ra{m n:Nat}(q:m=n+1){d:ao H}(h:∃cs,aY prog W ad (bG prog (m+1) 161 d) cs)(o:Rows.uptoBulk d<=1048576):∃p:dK,bG prog (m+1) 161 d=fj p/\rH p/\2<=Rows.uptoBulk d:=by
 obtain⟨cs,h⟩:=h;obtain⟨f0,f1,f2,f3,g,t0,t1,t2,t3⟩:=aI5;cases d with
 |agg l=>
  have e:∀x∈l,Rows.uptoBulk x<=1048576:=fun x hx=>by
   have:=pz.tz hx;rw[Rows.uptoBulk]at o;omega
  simp only[bG,g,aY]at h⊢;obtain⟨B,A,f,c,_⟩:=h;rw[Qw,aIG]at f;cases f
  match l,c with
  |[],c=>simp[bk]at c
  |[x],c=>simp[bk]at c
  |[x,y],c=>simp[bk]at c
  |[x,y,z],c=>simp[bk]at c
  |x::y::z::w::r,c=>
   have:=wG x;simp only[bp,bo,bk,bv,bI,t0,t1,t2,t3]at c⊢;obtain⟨c0,_,_,g0,_,c1,_,_,g1,_,c2,_,_,g2,_,c3,_,_,g3,_⟩:=c;subst q;obtain⟨a,i,k⟩:=ua (n:=n) ⟨c0,g0⟩ (e x (by simp));obtain⟨b,j⟩:=tZ (n:=n) y c1 g1;obtain⟨u,eu,s⟩:=zg (n:=n) ⟨c2,g2⟩ (e z (by simp));obtain⟨v,ev,t⟩:=zg (n:=n) ⟨c3,g3⟩ (e w (by simp));refine⟨⟨a,b,u,v⟩,by rw[i,j,eu,ev,Qw];rfl,⟨k,s,t⟩,?_⟩;rw[Rows.uptoBulk,Rows.uptoBulkAll];omega
 |_=>simp only[bG,g,aY]at h
theorem aI9:∃a b:ap,prog.underlying 163=some (.struct #[a,b])/\a.type=9/\b.type=24:=⟨_,_,underlying163,rfl,rfl⟩
theorem QA:prog.underlyingId 163=123:=by kernel_rfl
theorem Rt{m n:Nat}(s:m=n+2){d:ao H}(h:∃cs,aY prog W ad (bG prog (m+1) 163 d) cs)(o:Rows.uptoBulk d<=1048576):∃p:cB,bG prog (m+1) 163 d=bH p/\mN p/\2<=Rows.uptoBulk d:=by
 obtain⟨cs,h⟩:=h;obtain⟨f0,f1,g,t0,t1⟩:=aI9;cases d with
 |agg l=>
  have f:∀x∈l,Rows.uptoBulk x<=1048576:=fun x hx=>by
   have:=pz.tz hx;rw[Rows.uptoBulk]at o;omega
  simp only[bG,g,aY]at h⊢;obtain⟨u,t,e,c,_⟩:=h;rw[QA,Qs]at e;cases e
  match l,c with
  |[],c=>simp[bk]at c
  |[x],c=>simp[bk]at c
  |x::y::r,c=>
   have:=wG x;simp only[bp,bo,bk,bv,bI,t0,t1]at c⊢;obtain⟨c0,_,_,g1,_,c1,_,_,g2,_⟩:=c;subst s;obtain⟨a,i,k⟩:=ua (n:=n+1) ⟨c0,g1⟩ (f x (by simp));obtain⟨b,j,q⟩:=Ia (n:=n) ⟨c1,g2⟩ (f y (by simp));refine⟨⟨a,b⟩,by rw[i,j,QA];rfl,⟨k,q⟩,?_⟩;rw[Rows.uptoBulk,Rows.uptoBulkAll];omega
 |_=>simp only[bG,g,aY]at h
theorem aJa:∃a b f2 f3:ap,prog.underlying 48=some (.struct #[a,b,f2,f3])/\a.type=44/\b.type=3/\f2.type=45/\f3.type=46:=⟨_,_,_,_,underlying48,rfl,rfl,rfl,rfl⟩
theorem QB:prog.underlyingId 48=47:=by kernel_rfl
theorem aIL{m n:Nat}(p:m=n+4){d:ao H}(h:∃cs,aY prog W ad (bG prog (m+1) 48 d) cs)(e:Rows.uptoBulk d<=1048576):∃t:aB,bG prog (m+1) 48 d=cR t/\True/\ib t:=by
 obtain⟨cs,h⟩:=h;obtain⟨f0,f1,f2,f3,j,t0,t1,t2,t3⟩:=aJa;cases d with
 |agg l=>
  have g:∀x∈l,Rows.uptoBulk x<=1048576:=fun x hx=>by
   have:=pz.tz hx;rw[Rows.uptoBulk]at e;omega
  simp only[bG,j,aY]at h⊢;obtain⟨E,D,i,c,_⟩:=h;rw[QB,aIJ]at i;cases i
  match l,c with
  |[],c=>simp[bk]at c
  |[x],c=>simp[bk]at c
  |[x,y],c=>simp[bk]at c
  |[x,y,z],c=>simp[bk]at c
  |x::y::z::w::r,c=>
   simp only[bp,bo,bk,bv,bI,t0,t1,t2,t3]at c⊢;obtain⟨c0,_,_,g0,_,c1,_,_,g1,_,c2,_,_,g2,_,c3,_,_,g3,_⟩:=c;subst p;obtain⟨a,k,_,A⟩:=wP (n:=n+3) aI0 (F:=cA) (ok:=fun _=>True) (fun d f e=>Ru (n:=n+1) rfl f e) ⟨c0,g0⟩ (g x (by simp));obtain⟨b,o⟩:=tZ (n:=n+3) y c1 g1;obtain⟨u,eu,q,B⟩:=wP (n:=n+3) aI1 (F:=fj) (ok:=rH) (fun d f e=>Ra (n:=n+1) rfl f e) ⟨c2,g2⟩ (g z (by simp));obtain⟨v,ev,s,C⟩:=wP (n:=n+3) aI2 (F:=bH) (ok:=mN) (fun d f e=>Rt (n:=n) rfl f e) ⟨c3,g3⟩ (g w (by simp));exact⟨⟨a,b,u,v⟩,by rw[k,o,eu,ev,QB];rfl,trivial,A,B,C,q,s⟩
 |_=>simp only[bG,j,aY]at h
end
def fa(p:dK):PV:=.st 160 [.str p.name,.int .i64 p.eH,.str p.a,.str p.b]
def gw(p:cB):PV:=.st 123 [.str p.name,ga p.pt]
def cj(t:aB):PV:=.st 54 [.seq (t.cs.map cA),.int .i64 t.aR,.seq (t.bm.map fa),.seq (t.ar.map gw)]
@[simp] theorem aMy(p:dK):aL (fa p)=.agg 160:=rfl
@[simp] theorem aK0(p:dK):bW (fa p)=[.str p.name,.int .i64 p.eH,.str p.a,.str p.b]:=rfl
@[simp] theorem aMF(p:cB):aL (gw p)=.agg 123:=rfl
@[simp] theorem aK7(p:cB):bW (gw p)=[.str p.name,ga p.pt]:=rfl
@[simp] theorem aMI(t:aB):aL (cj t)=.agg 54:=rfl
@[simp] theorem aK9(t:aB):bW (cj t)=[.seq (t.cs.map cA),.int .i64 t.aR,.seq (t.bm.map fa),.seq (t.ar.map gw)]:=rfl
@[simp] theorem aKi:prog.cellsOf 54=4:=by kernel_rfl
theorem YK(p:dN):au prog 178 [cA p] (.bool (fI p)):=by
 obtain⟨x,y⟩:=p;refine aI nf Fv mix (by simp[f178]) ?_;have e1:max x y=if x<y then y else x:=by split<;>omega
 have e2:min x y=if y<x then y else x:=by split<;>omega
 rw[fI,e1,e2]
 by_cases h:(if x<y then y else x)<=10000
 ·have a:¬10000<(if x<y then y else x):=by omega
  by_cases b:(if y<x then y else x)< -10000
  ·simp[f178,aa,h,a,b]
  ·simp[f178,aa,h,a,b]
 ·have a:10000<(if x<y then y else x):=by omega
  simp[f178,aa,h,a]
def idxFrom{α:Type}(p:α->Bool):List α->Nat->Int
 |[],_=>-1
 |x::r,i=>if p x then(i:Int)else idxFrom p r (i+1)
theorem oi{α:Type}(p:α->Bool):∀(l:List α)(i:Nat),decide (0<=idxFrom p l i)=l.any p
 |[],i=>by simp[idxFrom]
 |x::r,i=>by
  by_cases h:p x
  ·simp[idxFrom,h]
  ·simp[idxFrom,h,oi p r]
theorem Q8(l:List dN)(h:l.length<=1000000):
 au prog 260 [.seq (l.map cA),.func 178 [] []] (.int .i64 (idxFrom fI l 0)):=by
 refine aI nf EM mix (by simp[f260]) ?_;simp[f260];refine lp (α:=Nat) (fun i=>⟨[(8,.p (.int .i64 i)),(7,.p (.int .i64 l.length)),(1,.p (.func 178 [] [])),(0,.p (.seq (l.map cA)))],[]⟩) (fun i=>i<=l.length/\idxFrom fI l 0=idxFrom fI (l.drop i) i) (fun i=>l.length-i) 0 (by simp) ?_;rintro i ⟨k1,k2⟩
 by_cases hi:i<l.length
 ·rw[b4 hi]at k2;have b:=b9 (i:=i) (by omega);simp[hi];refine c1 (YK l[i]) ?_
  by_cases a:fI l[i]
  ·simp[idxFrom,a]at k2;simp[a,k2]
  ·simp[idxFrom,a]at k2;simp[a,b];exact rd (i+1) ⟨hi,k2⟩
 ·have:i=l.length:=by omega
  subst this;simp[idxFrom]at k2;simp[k2]
theorem QV(l:List dN)(h:l.length<=1000000):
 au prog 177 [.seq (l.map cA),.func 178 [] []] (.bool (l.any fI)):=by
 refine aI nf Fw mix (by simp[f177]) ?_;simp[f177];refine c2 (Q8 l h) ?_;simp[<-oi fI l 0]
end Go.ak
