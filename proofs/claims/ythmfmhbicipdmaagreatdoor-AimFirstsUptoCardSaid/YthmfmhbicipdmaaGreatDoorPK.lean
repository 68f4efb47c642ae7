import Derived.Test.YthmfmhbicipdmaaGreatDoorPH
import Derived.Test.YthmfmhbicipdmaaGreatDoorPJ
/- Parts of a proof. -/
set_option linter.unusedSimpArgs false
set_option linter.unusedVariables false
set_option linter.unusedSectionVars false
open Go.Proofs.Tryz
open And renaming intro->ab
open Bool renaming cond_eq_ite->ac, and_eq_true->am, or_eq_true->ao, eq_iff_iff->av
open Go.IntKind renaming i64->ax
open Go.Utf8 renaming decode->ay
open Int renaming natCast_mul->aT, tmod_eq_emod_of_nonneg->a0, negSucc->a1, natCast_emod->a4, natCast_one->a5, natAbs_mul->a6, mul_nonneg->a7, ediv_one->a8
open List renaming getElem?_eq_getElem->a9, mem_of_getElem?->bb, getD_eq_getElem?_getD->be, any_eq_true->bf, getElem?_take->bi, findIdx?_eq_some_iff_getElem->bl, mem_range->bo, findIdx?_eq_none_iff->bv, mem_map->bw, mem_iff_getElem->b0, range->b1, range_succ->b2
open Nat renaming eq_of_beq_eq_true->b3, beq->b4, mul_ne_zero->b5, blt->cb, blt_eq->cc, gcd->cd, lt_of_lt_of_le->ce, lt_trans->ck, div_one->cv
open Option.some renaming injEq->cx
open Rat renaming divInt->cy, divInt_mul_divInt->c6, sub_add_cancel->c9, div_def->da, zero_add->db, divInt_add_divInt->dg, add_lt_add_right->dl, neg_divInt->dp, mul_nonneg->dq, inv_divInt->dx
namespace Go.ak
open Go.Proofs
set_option maxHeartbeats 4000000
set_option maxRecDepth 100000
namespace Hk
def lx:Nat:=9223372036854775808
def Ak:Nat:=1606938044258990275541962092341162602522202993782792835301376
def qK{α:Type}(n:Nat)(f:Nat->α):α:=match n with
 |0=>f 0
 |k+1=>f (k+1)
theorem xe{α:Type}(n:Nat)(f:Nat->α):qK n f=f n:=by cases n<;>rfl
def Bg{α:Type}(z:Int)(f:Int->α):α:=match z with
 | .ofNat n=>qK n fun n=>f (.ofNat n)
 | .negSucc n=>qK n fun n=>f (.negSucc n)
theorem NK{α:Type}(z:Int)(f:Int->α):Bg z f=f z:=by cases z<;>simp[Bg,xe]
def qR:Int->Bool
 | .ofNat n=>cb n lx
 | .negSucc n=>cb (n+1) lx
theorem DL{z:Int}:qR z=true↔z.natAbs<9223372036854775808:=by
 cases z with
 |ofNat n=>simp only[qR,cc,lx];exact Iff.rfl
 |negSucc n=>simp only[qR,cc,lx];exact Iff.rfl
def ph:Int->Int->Bool
 | .ofNat a,.ofNat b=>b4 a b
 | .negSucc a,.negSucc b=>b4 a b
 |_,_=>false
theorem Aw:∀{a b:Int},ph a b=true->a=b
 | .ofNat a,.ofNat b,h=>by simp only[ph]at h;rw[b3 h]
 | .negSucc a,.negSucc b,h=>by simp only[ph]at h;rw[b3 h]
 | .ofNat a,.negSucc b,h=>by simp[ph]at h
 | .negSucc a,.ofNat b,h=>by simp[ph]at h
def u5(z:Int):Option PV:=bif qR z then some (fA z)else bif b4 z.natAbs lx then none else some (lr z)
theorem zT{z:Int}{p:PV}(h:u5 z=some p)(m:Bool):eI ⟨z,m⟩=p:=by
 unfold u5 at h;rw[jI];rcases hs:qR z with _|_
 ·simp only[hs,cond_false]at h;rcases a:b4 z.natAbs lx with _|_
  case true=>rw[a]at h;cases h
  ·have c:¬b4 z.natAbs lx=true:=by rw[a];decide
   rw[a,cond_false]at h;simp only[cx]at h;have b:¬z.natAbs<9223372036854775808:=fun h=>by rw[DL.2 h]at hs;cases hs
   have d:z.natAbs≠9223372036854775808:=fun e=>c (by rw[e];rfl);rw[if_neg,h];simp only[NI.sm,ao,decide_eq_true_eq,am,not_or,not_and];exact⟨by omega,fun h=>by omega⟩
 ·simp only[hs,cond_true,cx]at h;have b:=DL.1 hs;rw[if_pos,h];simp only[NI.sm,ao,decide_eq_true_eq,am];exact .inl (by omega)
def yf:List PV->Option (List Nat)
 |[]=>some []
 | .int .u64 (.ofNat x)::r=>match yf r with
  |some l=>some (x::l)
  |none=>none
 |_=>none
theorem OB:∀{l:List PV}{a:List Nat},yf l=some a->l=a.map fun x:Nat=>PV.int .u64 x
 |[],a,h=>by simp only[yf,cx]at h;subst h;rfl
 |v::r,a,h=>by
  unfold yf at h
  split at h
  ·rename_i e;cases e
  ·rename_i x c e;cases e
   split at h
   ·rename_i l b;simp only[cx]at h;subst h;rw[OB b];rfl
   ·cases h
  ·cases h
def tA:List Nat->List Nat->Bool
 |[],[]=>true
 |x::a,y::b=>bif b4 x y then tA a b else false
 |_,_=>false
theorem DH:∀{a b:List Nat},tA a b=true->a=b
 |[],[],_=>rfl
 |[],_::_,h=>by simp[tA]at h
 |_::_,[],h=>by simp[tA]at h
 |x::a,y::b,h=>by
  simp only[tA,ac]at h
  split at h
  ·rename_i hx;rw[b3 hx,DH h]
  ·cases h
def Be:PV->Option Int
 | .st u [.int .i64 z,.aH]=>bif b4 u 124 then(bif qR z then some z else none)else none
 | .st u [.int .i64 s,.seq l]=>match yf l with
  |some a=>qK (jq wB a) fun n=>bif b4 u 124&&(cb lx n&&tA (az wB n) a)then
   (bif ph s 1 then some (.ofNat n)else bif ph s (-1)then some (.negSucc (n-1))else none)else none
  |none=>none
 |_=>none
theorem NP{p:PV}{z:Int}(h:Be p=some z):p=eI ⟨z,false⟩:=by
 unfold Be at h
 split at h
 ·rename_i u y;simp only[ac]at h
  split at h
  ·rename_i g
   split at h
   ·rename_i hs;simp only[cx]at h;subst h;rw[b3 g];exact(zT (by rw[u5,hs];rfl) false).symm
   ·cases h
  ·cases h
 ·rename_i u s l
  split at h
  ·rename_i i f;rw[xe]at h;have e:=OB f;generalize jq wB i=n at h;simp only[ac]at h
   split at h
   ·rename_i hc;simp only[am,cc]at hc;obtain⟨b,j,c⟩:=hc;have d:=DH c;have k:lx=9223372036854775808:=rfl;rw[b3 b,e,<-d];have key:∀z:Int,z.natAbs=n->eI ⟨z,false⟩=lr z:=fun z m=>by
     refine zT ?_ false;have e1:qR z=false:=by
      rcases a:qR z with _|_
      ·rfl
      ·have:=DL.1 a;omega
     have e2:b4 z.natAbs lx=false:=by
      rcases a:b4 z.natAbs lx with _|_
      ·rfl
      ·have:=b3 a;omega
     rw[u5,e1,e2];rfl
    split at h
    ·rename_i hs;simp only[cx]at h;subst h;rw[Aw hs,key _ rfl,lr,if_neg (by show¬((n:Int)<0);omega)];rfl
    ·split at h
     ·rename_i hs;simp only[cx]at h;subst h;rw[Aw hs,key _ (by show n-1+1=n;omega),lr,if_pos (by omega)];have:(a1 (n-1)).natAbs=n:=by show n-1+1=n;omega
      rw[this];rfl
     ·cases h
   ·cases h
  ·cases h
 ·cases h
def Fo(n:Int)(d:Nat):Bool:=cb 0 d&&(cb n.natAbs Ak&&(cb d Ak&&b4 (cd n.natAbs d) 1))
def qH:PV->Option (Int×Nat)
 | .st u [a,b]=>match Be a,Be b with
  |some n,some (.ofNat d)=>bif b4 u 126&&Fo n d then some (n,d)else none
  |_,_=>none
 |_=>none
def fr(n:Int)(d:Nat):NF:=⟨cy n d,false⟩
theorem WO:Ak=2^200:=by decide
theorem DM{p:PV}{n:Int}{d:Nat}(h:qH p=some (n,d)):p=eF (fr n d)/\d≠0/\br kB (fr n d).q:=by
 unfold qH at h
 split at h
 case h_2=>cases h
 rename_i u a b
 split at h
 case h_2=>cases h
 rename_i c d' g i;simp only[ac]at h
 split at h
 case isFalse=>cases h
 rename_i hc;simp only[cx,Prod.mk.injEq]at h;obtain⟨rfl,rfl⟩:=h;simp only[Fo,am,cc]at hc;obtain⟨c1,c2,c3,c4,c5⟩:=hc;have f:=b3 c5;have e:d'≠0:=by omega
 obtain⟨e1,e2⟩:=mv (n:=c) e;rw[f]at e1 e2;simp only[a5,a8,cv]at e1 e2;rw[WO]at c3 c4;refine⟨?_,e,(Dt e c3 c4).mono (by decide)⟩;rw[b3 c1,NP g,NP i,eF];have g1:(fr c d').num=⟨c,false⟩:=by rw[NF.num,fr,e1]
 have g2:(fr c d').den=⟨(d':Int),false⟩:=by rw[NF.den,fr,e2];rfl
 rw[g1,g2];rfl
def nQ(n:Int)(d:Nat):Option PV:=
 qK (cd n.natAbs d) fun g=>Bg (n/g) fun n=>qK (d/g) fun d=>match u5 n,u5 (.ofNat d)with
  |some a,some b=>some (.st 126 [a,b])
  |_,_=>none
theorem qc{n:Int}{d:Nat}{p:PV}(f:d≠0)(h:nQ n d=some p)(m:Bool):p=eF ⟨cy n d,m⟩:=by
 obtain⟨e1,e2⟩:=mv (n:=n) f;simp only[nQ,xe,NK]at h
 split at h
 case h_2=>cases h
 rename_i a b c e;simp only[cx]at h;subst h;rw[eF];have g1:(NF.num ⟨cy n d,m⟩)=⟨n/(cd n.natAbs d:Nat),m⟩:=by rw[NF.num,e1]
 have g2:(NF.den ⟨cy n d,m⟩)=⟨((d/cd n.natAbs d:Nat):Int),false⟩:=by rw[NF.den,e2];rfl
 rw[g1,g2,zT c,<-zT e false];rfl
def two(op:Int->Nat->Int->Nat->Option PV)(a b:PV):Option PV:=match qH a,qH b with
 |some (n,d),some (m,e)=>op n d m e
 |_,_=>none
theorem xj{op:Int->Nat->Int->Nat->Option PV}{a b p:PV}(h:two op a b=some p):
 ∃n d m e,a=eF (fr n d)/\b=eF (fr m e)/\d≠0/\e≠0/\br kB (fr n d).q/\br kB (fr m e).q/\op n d m e=some p:=by
 unfold two at h
 split at h
 case h_2=>cases h
 rename_i n d m e j k;obtain⟨c,a2,a3⟩:=DM j;obtain⟨f,g,i⟩:=DM k;exact⟨n,d,m,e,c,f,a2,g,a3,i,h⟩
def RP(n:Int)(d:Nat)(m:Int)(e:Nat):Option PV:=nQ (n*e+m*d) (d*e)
def RR(n:Int)(d:Nat)(m:Int)(e:Nat):Option PV:=nQ (n*e-m*d) (d*e)
def RQ(n:Int)(d:Nat)(m:Int)(e:Nat):Option PV:=nQ (n*m) (d*e)
def BB:Int->Int
 | .ofNat n=>bif b4 n 0 then 0 else 1
 | .negSucc _=>-1
theorem MW(z:Int):BB z=if z<0 then -1 else if z=0 then 0 else 1:=by
 cases z with
 |ofNat n=>
  rw[if_neg (by simp)];cases n with
  |zero=>rfl
  |succ n=>rw[if_neg (by simp;omega)];rfl
 |negSucc n=>rw[if_pos (by omega)];rfl
def Fl(n:Int)(d:Nat)(m:Int)(e:Nat):Option PV:=some (.int .i64 (BB (n*e-m*d)))
def Bq(n:Int)(d:Nat)(m:Int)(e:Nat):Option PV:=match m with
 | .ofNat k=>bif b4 k 0 then none else nQ (n*e) (d*k)
 | .negSucc k=>nQ (-(n*e)) (d*(k+1))
theorem uZ{d:Nat}(h:d≠0):(d:Int)≠0:=by omega
theorem aob{n m:Int}{d e:Nat}{p:PV}(a:d≠0)(b:e≠0)(h:RP n d m e=some p):p=eF ((fr n d).add (fr m e)):=by
 rw[NF.add,fr,fr];dsimp only;rw[dg _ _ (uZ a) (uZ b)];have:=qc (b5 a b) h;rw[aT]at this;exact this _
theorem aqk{n m:Int}{d e:Nat}{p:PV}(a:d≠0)(b:e≠0)(h:RR n d m e=some p):p=eF ((fr n d).sub (fr m e)):=by
 rw[NF.sub,NF.add,NF.neg,fr,fr];dsimp only;rw[dp,dg _ _ (uZ a) (uZ b)];have:=qc (b5 a b) h;rw[aT]at this;rw[Int.neg_mul,<-Int.sub_eq_add_neg];exact this _
theorem aog{n m:Int}{d e:Nat}{p:PV}(a:d≠0)(b:e≠0)(h:RQ n d m e=some p):p=eF ((fr n d).mul (fr m e)):=by
 rw[NF.mul,fr,fr];dsimp only;rw[c6];have:=qc (b5 a b) h;rw[aT]at this;exact this _
theorem Zc(x y:Rat):dA x y=if x-y<0 then -1 else if x-y=0 then 0 else 1:=by
 have b:x-y<0↔x<y:=by
  constructor
  ·intro h;have a:=(dl (c:=y)).2 h
   rwa [c9,db]at a
  ·intro h;refine(dl (c:=y)).1 ?_
   rwa [c9,db]
 have a:x-y=0↔x=y:=by
  constructor
  ·intro h;have d:=congrArg (·+y) h
   simpa[c9,db]using d
  ·intro h;rw[h,Rat.sub_self]
 simp only[dA,b,a]
theorem CX(n:Int){d:Nat}(i:d≠0):(if cy n d<0 then(-1:Int)else if cy n d=0 then 0 else 1)=BB n:=by
 rw[El,MW];obtain⟨e1,-⟩:=mv (n:=n) i;have k:0<cd n.natAbs d:=Nat.gcd_pos_of_pos_right _ (by omega);have j:((cd n.natAbs d:Nat):Int)∣n:=by
  rw[Int.ofNat_dvd_left];exact Nat.gcd_dvd_left _ _
 obtain⟨c,hc⟩:=j;rw[e1];generalize cd n.natAbs d=g at*;have a:(0:Int)<g:=by omega
 subst hc;rw[Int.mul_ediv_cancel_left _ (by omega)];have b:(g:Int)*c<0↔c<0:=by
  constructor
  ·intro h;refine Int.not_le.1 fun f=>?_;have:=a7 (Int.le_of_lt a) f;omega
  ·intro h;exact Int.mul_neg_of_pos_of_neg a h
 have e:(g:Int)*c=0↔c=0:=by
  rw[Int.mul_eq_zero];constructor
  ·rintro(h|h)
   ·omega
   ·exact h
  ·exact fun h=>.inr h
 simp only[b,e]
theorem aof{n m:Int}{d e:Nat}{p:PV}(a:d≠0)(b:e≠0)(h:Fl n d m e=some p):p=.int .i64 (dA (fr n d).q (fr m e).q):=by
 simp only[Fl,cx]at h;rw[<-h,Zc,fr,fr];dsimp only;rw[Rat.divInt_sub_divInt _ _ (uZ a) (uZ b),<-aT,CX _ (b5 a b)]
theorem Pw{n m:Int}{d e:Nat}{p:PV}(a:d≠0)(c:e≠0)(h:Bq n d m e=some p):p=eF ((fr n d).div (fr m e))/\(fr m e).q≠0:=by
 have b:m≠0->(fr m e).q≠0:=fun g hq=>by
  rw[fr]at hq;dsimp only at hq;have:=CX m c;rw[hq,if_neg (by decide),if_pos rfl,MW]at this
  split at this
  ·omega
  ·first
     |omega
     |(rw[if_neg g]at this;omega)
 rw[NF.div,fr,fr];dsimp only;unfold Bq at h;cases m with
 |ofNat k=>
  simp only[ac]at h
  split at h
  ·cases h
  ·rename_i hk;have f:k≠0:=fun e=>hk (by rw[e];rfl);have:=qc (b5 a f) h;refine⟨?_,b (by show(k:Int)≠0;omega)⟩;have e:(cy n d:Rat)/cy (Int.ofNat k) e=cy (n*e) (d*k):=by
    rw[da,dx,c6];rfl
   rw[e];rw[aT]at this;exact this _
 |negSucc k=>
  dsimp only at h;have:=qc (b5 a (Nat.succ_ne_zero k)) h;refine⟨?_,b (by omega)⟩;have e:(cy n d:Rat)/cy (a1 k) e=cy (-(n*e)) ((d:Int)*((k+1:Nat):Int)):=by
   rw[da,dx,c6];rw[show a1 k= -((k+1:Nat):Int)from rfl,Int.mul_neg];rw[Rat.divInt_neg']
  rw[e];rw[aT]at this;exact this _
def Bp:Nat->Nat->Nat
 |0,_=>0
 |f+1,n=>bif b4 n 0 then 0 else Bp f (n/10)+1
theorem ZO{a b:Nat}(h:a<b):cb a b=true:=by rw[cc];exact h
theorem Bb{a b:Nat}(h:cb a b=true):a<b:=by rw[cc]at h;exact h
theorem Pm:∀(f n:Nat),n<10^f->Bp f n=nd n
 |0,n,h=>by
  have:n=0:=by simpa using h
  subst this;rw[nd];rfl
 |f+1,n,h=>by
  rw[Bp,nd]
  by_cases a:n=0
  ·subst a;rfl
  ·have b:b4 n 0=false:=by
    rcases c:b4 n 0 with _|_
    ·rfl
    ·exact(a (b3 c)).elim
   rw[b,cond_false,dif_neg a,Pm f (n/10) (by rw[Nat.div_lt_iff_lt_mul (by omega)];rw[Nat.pow_succ]at h;exact h)]
def vt(n:Nat):List Nat:=qK (Bp 80 n) fun k=>bif cb 1 k then low k n else low 1 n
theorem AD{n:Nat}(h:n<10^80):vt n=bd n:=by
 rw[vt,xe,Pm _ _ h,bd];rcases a:cb 1 (nd n)with _|_
 ·have:¬1<nd n:=fun b=>by rw[ZO b]at a;cases a
  rw[cond_false,Nat.max_eq_left (by omega)]
 ·have:1<nd n:=Bb a;rw[cond_true,Nat.max_eq_right (by omega)]
def FB:Int->List Nat
 | .ofNat n=>vt n
 | .negSucc n=>45::vt (n+1)
theorem aLJ{z:Int}(h:z.natAbs<10^80):FB z=bN z:=by
 cases z with
 |ofNat n=>rw[bN,if_neg (by show¬((n:Int)<0);omega)];exact AD h
 |negSucc n=>rw[bN,if_pos (by omega)];exact congrArg (45::·) (AD h)
def FA(n:Int)(d:Nat):List Nat:=bif b4 d 1 then FB n else FB n++47::vt d
theorem Mb{n:Int}{d:Nat}(a:d≠0)(b:cd n.natAbs d=1):(fr n d).q.num=n/\(fr n d).q.den=d:=by
 obtain⟨e1,e2⟩:=mv (n:=n) a;rw[b]at e1 e2;simp only[a5,a8,cv]at e1 e2;exact⟨e1,e2⟩
theorem Mh{p:PV}{n:Int}{d:Nat}(h:qH p=some (n,d)):cd n.natAbs d=1/\n.natAbs<10^80/\d<10^80:=by
 unfold qH at h
 split at h
 case h_2=>cases h
 split at h
 case h_2=>cases h
 simp only[ac]at h
 split at h
 case isFalse=>cases h
 rename_i hc;simp only[cx,Prod.mk.injEq]at h;obtain⟨rfl,rfl⟩:=h;simp only[Fo,am,cc]at hc;obtain⟨c1,c2,c3,c4,c5⟩:=hc;have a:Ak<10^80:=by decide
 exact⟨b3 c5,by omega,by omega⟩
theorem aLI{p:PV}{n:Int}{d:Nat}(h:qH p=some (n,d))(f:d≠0):FA n d=bc (fr n d).q:=by
 obtain⟨g,b,c⟩:=Mh h;obtain⟨e1,e2⟩:=Mb f g;rw[FA,bc,e1,e2,aLJ b,AD c];rcases a:b4 d 1 with _|_
 ·rw[cond_false,if_neg (fun e=>by rw[e]at a;cases a)]
 ·rw[cond_true,if_pos (b3 a)]
def qG:List Nat->Nat->Bool
 |[],_=>true
 |c::r,f=>match f with
  |0=>false
  |f+1=>bif cb c 256 then qG r f else false
theorem xp:∀{s:List Nat}{f:Nat},qG s f=true->s.length<=f/\∀c∈s,c<256
 |[],_,_=>⟨Nat.zero_le _,fun c hc=>by cases hc⟩
 |c::r,0,h=>by simp[qG]at h
 |c::r,f+1,h=>by
  simp only[qG,ac]at h
  split at h
  ·rename_i hc;obtain⟨b,a⟩:=xp h;refine⟨by simp;omega,fun x hx=>?_⟩;rcases List.mem_cons.1 hx with rfl|hx
   ·exact Bb hc
   ·exact a x hx
  ·cases h
def RI(z:Int):Bool:=match z with
 | .ofNat n=>b4 n 0
 |_=>false
theorem aJi{z:Int}(h:RI z=true):z=0:=by
 cases z with
 |ofNat n=>rw[b3 (show b4 n 0=true from h)];rfl
 |negSucc n=>cases h
def EZ(n:Int)(d:Nat):Option PV:=bif b4 d 0 then none else nQ n d
theorem az4{n:Int}{d:Nat}{p:PV}(h:EZ n d=some p)(m:Bool):p=eF ⟨cy n d,m⟩:=by
 unfold EZ at h;rcases a:b4 d 0 with _|_
 ·rw[a]at h;exact qc (fun e=>by rw[e]at a;cases a) h m
 ·rw[a]at h;cases h
def E0(s:List Nat):Option PV:=bif RI (b6 s)&&qG s 1000 then
 Bg (if bY s=true then -(aX (bH s):Int)else aX (bH s)) fun n=>qK (if eL s=true then aX (bP s)else 1) fun d=>EZ n d else none
theorem az7{s:List Nat}{p:PV}(h:E0 s=some p):p=eF ⟨bg s,false⟩/\b6 s=0/\s.length<=1048576:=by
 unfold E0 at h;simp only[ac,NK,xe]at h
 split at h
 case isFalse=>cases h
 rename_i hc;rw[am]at hc;obtain⟨c1,c2⟩:=hc;obtain⟨a,b⟩:=xp c2;refine⟨?_,aJi c1,by omega⟩;rw[bg];exact az4 h false
def QZ:Int->Bool
 | .ofNat n=>cb n lx
 | .negSucc n=>cb n lx
theorem aAD{z:Int}(h:QZ z=true):-9223372036854775808<=z/\z<=9223372036854775807:=by
 cases z with
 |ofNat n=>have:n<9223372036854775808:=Bb h;refine⟨?_,?_⟩<;>show _<=_<;>simp only[Int.ofNat_eq_natCast]<;>omega
 |negSucc n=>have:n<9223372036854775808:=Bb h;omega
def Fq(f:Nat)(a:PV):Option PV:=match a with
 | .int .i64 z=>bif b4 f 132&&QZ z then nQ z 1 else none
 | .str s=>bif b4 f 147 then E0 s else bif b4 f 278&&qG s 1000 then some (.int .i64 (b6 s))else none
 | .st u [.str x,.str y]=>bif b4 f 120&&(b4 u 31&&(qG x 1000&&qG y 1000))then some (.int .i64 (dL ⟨x,y⟩))else none
 | .st u [c,e]=>match qH (.st u [c,e])with
  |some (n,d)=>bif b4 f 145 then nQ (-n) d else
   bif b4 f 194 then some (.int .i64 (BB n))else
   bif b4 f 144 then Bq 1 1 n d else
   bif b4 f 146 then some (.str (FA n d))else
   bif b4 f 131 then some (.bool false)else none
  |none=>none
 |_=>none
def vr(f:Nat)(a b:PV):Option PV:=
 bif b4 f 148 then two RP a b else
 bif b4 f 168 then two RR a b else
 bif b4 f 149 then two RQ a b else
 bif b4 f 133 then two Bq a b else
 bif b4 f 124 then two Fl a b else none
def hk(f:Nat):List PV->Option PV
 |[a]=>Fq f a
 |[a,b]=>vr f a b
 |_=>none
theorem QK(z:Int):cy z ((1:Nat):Int)=(z:Rat):=by
 rw[show((1:Nat):Int)=1 from rfl,Rat.divInt_eq_div];rw[show((1:Int):Rat)=1 from rfl,da,show(1:Rat)⁻¹=1 from by decide+kernel,Rat.mul_one]
theorem bq{a b:Nat}(h:b4 a b=true):a=b:=b3 h
theorem aJ4{f:Nat}{a v:PV}(h:Fq f a=some v):au prog f [a] v:=by
 unfold Fq at h
 split at h
 ·rename_i z;simp only[ac]at h
  split at h
  ·rename_i hc;rw[am]at hc;obtain⟨w,A⟩:=aAD hc.2;rw[bq hc.1,qc (by decide) h true];have:=ma z w A;rw[NF.int]at this;rw[QK];exact this
  ·cases h
 ·rename_i s;simp only[ac]at h
  split at h
  ·rename_i hf;obtain⟨e1,e2,e3⟩:=az7 h;rw[bq hf,e1];exact l9 s e2 e3
  ·split at h
   ·rename_i hc;rw[am]at hc;obtain⟨j,b⟩:=xp hc.2;simp only[cx]at h;subst h;rw[bq hc.1];exact AH s (by omega) b
   ·cases h
 ·rename_i u x y;simp only[ac]at h
  split at h
  ·rename_i hc;simp only[am]at hc;obtain⟨c1,c2,c3,c4⟩:=hc;obtain⟨j,b⟩:=xp c3;obtain⟨B,p⟩:=xp c4;simp only[cx]at h;subst h;rw[bq c1,bq c2];exact yG ⟨x,y⟩ ⟨⟨by show x.length<=_;omega,b⟩,⟨by show y.length<=_;omega,p⟩⟩
  ·cases h
 ·rename_i u c e _
  split at h
  case h_2=>cases h
  rename_i n d l;obtain⟨t,g,i⟩:=DM l;rw[t];simp only[ac]at h
  split at h
  ·rename_i hf;rw[bq hf,qc g h false,<-dp];exact sZ _ i
  split at h
  ·rename_i hf;simp only[cx]at h;subst h;rw[bq hf,<-CX n g];exact l8 _
  split at h
  ·rename_i hf;obtain⟨e1,e2⟩:=Pw (by decide) g h;have e3:(fr 1 1).div (fr n d)=(fr n d).inv:=by
    rw[NF.div,NF.inv,fr,fr];dsimp only;rw[QK,da];rw[show((1:Int):Rat)=1 from rfl,Rat.one_mul]
   rw[bq hf,e1,e3];exact Ea _ i e2
  split at h
  ·rename_i hf;simp only[cx]at h;subst h;rw[bq hf,aLI l g];exact zP _ i
  split at h
  ·rename_i hf;simp only[cx]at h;subst h;rw[bq hf];have m:=zX _ i;obtain⟨q,j,b⟩:=Mh l;obtain⟨e1,e2⟩:=Mb g q;have o:∀k,k<10^80->lC k=false:=fun k hk=>by
    rw[lC,decide_eq_false_iff_not];have C:nd k<=80:=Nat.not_lt.1 fun r=>by have:=(oY _ _).1 r;omega
    rw[rR];omega
   rw[mW,e1,e2,o _ j,o _ b]at m;exact m
  ·cases h
 ·cases h
theorem aLB{f:Nat}{a b v:PV}(h:vr f a b=some v):au prog f [a,b] v:=by
 unfold vr at h;simp only[ac]at h
 split at h
 ·rename_i hf;obtain⟨n,d,m,e,rfl,rfl,c,g,j,k,i⟩:=xj h;rw[bq hf,aob c g i];exact mR _ _ j k
 split at h
 ·rename_i hf;obtain⟨n,d,m,e,rfl,rfl,c,g,j,k,i⟩:=xj h;rw[bq hf,aqk c g i];exact mP _ _ j k
 split at h
 ·rename_i hf;obtain⟨n,d,m,e,rfl,rfl,c,g,j,k,i⟩:=xj h;rw[bq hf,aog c g i];exact ft _ _ j k
 split at h
 ·rename_i hf;obtain⟨n,d,m,e,rfl,rfl,c,g,j,k,i⟩:=xj h;obtain⟨e1,e2⟩:=Pw c g i;rw[bq hf,e1];exact xN _ _ j k e2
 split at h
 ·rename_i hf;obtain⟨n,d,m,e,rfl,rfl,c,g,j,k,i⟩:=xj h;rw[bq hf,aof c g i];exact qB _ _ j k
 ·cases h
theorem aAy{f:Nat}{vs:List PV}{v:PV}(h:hk f vs=some v):au prog f vs v:=by
 unfold hk at h
 split at h
 ·exact aJ4 h
 ·exact aLB h
 ·cases h
end Hk
theorem FJ{n:Nat}(h:n<10^80):bc ((n:Nat):Rat)=Hk.vt n:=by
 rw[Hk.AD h,bc,if_pos (by rfl),bN,if_neg (by show¬((n:Int)<0);omega)];rfl
theorem aLL:bc 2=[50]:=FJ (n:=2) (by decide)
def gE(s t:S3):Int:=lJ (gv ⟨s.a-t.a,s.b,s.d⟩) (-(bX t.b*bX t.d)) (gv ⟨(s.a-t.a)*(s.a-t.a)+s.b*s.b*s.d-t.b*t.b*t.d,2*((s.a-t.a)*s.b),s.d⟩)
def Bs(s:S3):Prop:=br 600 s.a/\br 600 s.b/\br 1200 s.d
theorem ym{a:Int}(h:a= -1\/a=0\/a=1):-a= -1\/-a=0\/-a=1:=by omega
theorem RU:br 2 (2:Rat):=⟨by decide,by decide⟩
theorem FN(s t:S3)(hs:Bs s)(e:Bs t):au prog 72 [eS s,eS t] (.int .i64 (gE s t)):=by
 have f:=jW hs.1 e.1;have p:=qx s.a t.a (hs.1.mono (by decide)) (e.1.mono (by decide));have l:=Qd ⟨s.a-t.a,s.b,s.d⟩ ⟨f.mono (by decide),hs.2.1.mono (by decide),hs.2.2.mono (by decide)⟩;have q:=l7 t.b (e.2.1.mono (by decide));have r:=l7 t.d (e.2.2.mono (by decide));have k1:=iG (s.a-t.a) (s.a-t.a) (f.mono (by decide)) (f.mono (by decide));have k2:=iG s.b s.b (hs.2.1.mono (by decide)) (hs.2.1.mono (by decide));have k3:=iG (s.b*s.b) s.d ((cW hs.2.1 hs.2.1).mono (by decide)) (hs.2.2.mono (by decide));have h:=qA (cW f f) (cW (cW hs.2.1 hs.2.1) hs.2.2);have k4:=xO ((s.a-t.a)*(s.a-t.a)) (s.b*s.b*s.d) ((cW f f).mono (by decide)) ((cW (cW hs.2.1 hs.2.1) hs.2.2).mono (by decide));have i:=cW f hs.2.1;have k5:=iG (s.a-t.a) s.b (f.mono (by decide)) (hs.2.1.mono (by decide));have k6:=iG 2 ((s.a-t.a)*s.b) (RU.mono (by decide)) (i.mono (by decide));rw[aLL]at k6;have k7:=iG t.b t.b (e.2.1.mono (by decide)) (e.2.1.mono (by decide));have k8:=iG (t.b*t.b) t.d ((cW e.2.1 e.2.1).mono (by decide)) (e.2.2.mono (by decide));have j:=cW (cW e.2.1 e.2.1) e.2.2;have k9:=qx ((s.a-t.a)*(s.a-t.a)+s.b*s.b*s.d) (t.b*t.b*t.d) (h.mono (by decide)) (j.mono (by decide));have vh:=Qd ⟨(s.a-t.a)*(s.a-t.a)+s.b*s.b*s.d-t.b*t.b*t.d,2*((s.a-t.a)*s.b),s.d⟩ ⟨(jW h j).mono (by decide),(cW RU i).mono (by decide),hs.2.2.mono (by decide)⟩;have k:=A7 ⟨s.a-t.a,s.b,s.d⟩;have g:=ky (kt t.b) (kt t.d);have n:=A7 ⟨(s.a-t.a)*(s.a-t.a)+s.b*s.b*s.d-t.b*t.b*t.d,2*((s.a-t.a)*s.b),s.d⟩;have w1:=ku g;refine aG nf Rs mix (by simp[f72]) ?_;rw[gE];generalize gv ⟨(s.a-t.a)*(s.a-t.a)+s.b*s.b*s.d-t.b*t.b*t.d,2*((s.a-t.a)*s.b),s.d⟩=o at*;generalize gv ⟨s.a-t.a,s.b,s.d⟩=x at*;generalize bX t.b=y1 at*;generalize bX t.d=y2 at*;rw[qD]at l vh;clear h i j f;have v:=ku (ym g);have m:=ku (ky k (ym g));have w:=ku (ky k n);have u:ax.wrap 0=0:=by decide
 simp[f72,aa,-aW];rw[aW];simp[-aW,aa];rw[aW];simp[-aW,aa];refine e2 p ?_;simp[aa,-aW];refine⟨by repeat' first|rfl|apply ab,?_⟩;rw[aW];simp[aa,-aW];refine e1 l ?_;simp[aa,-aW];refine e1 q ?_;simp[aa,-aW];refine e1 r ?_;simp[aa,w1,v];generalize -(y1*y2)=y at*;rw[lJ]
 by_cases c:0<=x*y
 ·rw[if_pos c]
  by_cases c2:x=0
  ·subst c2;simp[u,aa]
  ·rw[if_neg c2];simp[c,c2,m,aa]
 ·rw[if_neg c];simp[c,m,aa];refine e2 k1 ?_;simp[aa];refine e2 k2 ?_;simp[aa];refine e2 k3 ?_;simp[aa];refine e2 k4 ?_;simp[aa];refine e2 k5 ?_;simp[aa];refine e2 k6 ?_;simp[aa];refine⟨by repeat' first|rfl|apply ab,?_⟩;refine e2 k7 ?_;simp[aa];refine e2 k8 ?_;simp[aa];refine e2 k9 ?_;simp[aa];refine⟨by repeat' first|rfl|apply ab,?_⟩;refine c1 vh ?_;simp[aa,w]
structure dZ where
 x:Int
 y:Int
 deriving DecidableEq
structure dV where
 name:List Nat
 fg:Int
 a:List Nat
 b:List Nat
structure cL where
 name:List Nat
 pt:cw
structure aw where
 cs:List dZ
 ba:Int
 bn:List dV
 an:List cL
def cE(p:dZ):PV:=.st 201 [.int .i64 p.x,.int .i64 p.y]
def fL(p:dV):PV:=.st 90 [.str p.name,.int .i64 p.fg,.str p.a,.str p.b]
def bC(p:cL):PV:=.st 56 [.str p.name,dm p.pt]
def cC(t:aw):PV:=.st 25 [.seq (t.cs.map cE),.int .i64 t.ba,.seq (t.bn.map fL),.seq (t.an.map bC)]
@[simp] theorem aPw(p:dZ):aI (cE p)=.agg 201:=rfl
@[simp] theorem aNX(p:dZ):bW (cE p)=[.int .i64 p.x,.int .i64 p.y]:=rfl
@[simp] theorem aPt(p:dV):aI (fL p)=.agg 90:=rfl
@[simp] theorem aNU(p:dV):bW (fL p)=[.str p.name,.int .i64 p.fg,.str p.a,.str p.b]:=rfl
@[simp] theorem aPA(p:cL):aI (bC p)=.agg 56:=rfl
@[simp] theorem aN1(p:cL):bW (bC p)=[.str p.name,dm p.pt]:=rfl
@[simp] theorem aPF(t:aw):aI (cC t)=.agg 25:=rfl
@[simp] theorem aN5(t:aw):bW (cC t)=[.seq (t.cs.map cE),.int .i64 t.ba,.seq (t.bn.map fL),.seq (t.an.map bC)]:=rfl
@[simp] theorem aM3:prog.cellsOf 201=2:=by kernel_rfl
@[simp] theorem aM2:prog.cellsOf 90=4:=by kernel_rfl
@[simp] theorem aM5:prog.cellsOf 56=3:=by kernel_rfl
def gl(p:dZ):Bool:=decide (10000<max p.x p.y)||decide (min p.x p.y< -10000)
theorem acH(p:dZ):au prog 201 [cE p] (.bool (gl p)):=by
 obtain⟨x,y⟩:=p;refine aG nf Hy mix (by simp[f201]) ?_;have e1:max x y=if x<y then y else x:=by split<;>omega
 have e2:min x y=if y<x then y else x:=by split<;>omega
 rw[gl,e1,e2]
 by_cases h:(if x<y then y else x)<=10000
 ·have a:¬10000<(if x<y then y else x):=by omega
  by_cases b:(if y<x then y else x)< -10000
  ·simp[f201,aa,h,a,b]
  ·simp[f201,aa,h,a,b]
 ·have a:10000<(if x<y then y else x):=by omega
  simp[f201,aa,h,a]
def dW(p:dZ):Prop:=-10000<=p.x/\p.x<=10000/\-10000<=p.y/\p.y<=10000
theorem F7{p:dZ}(h:gl p=false):dW p:=by
 simp only[gl,Bool.or_eq_false_iff,decide_eq_false_iff_not]at h;unfold dW;omega
def lP(a b c:dZ):Int:=(b.x-a.x)*(c.y-a.y)-(b.y-a.y)*(c.x-a.x)
theorem yo{a b:Int}{A B:Int}(c:-A<=a)(d:a<=A)(e:-B<=b)(f:b<=B):-(A*B)<=a*b/\a*b<=A*B:=by
 have k1:a.natAbs<=A.natAbs:=by omega
 have k2:b.natAbs<=B.natAbs:=by omega
 have k3:=Nat.mul_le_mul k1 k2;rw[<-a6,<-a6]at k3;have k4:0<=A*B:=a7 (by omega) (by omega);omega
theorem Tn(a b c:dZ)(i:dW a)(j:dW b)(hc:dW c):au prog 264 [cE a,cE b,cE c] (.int .i64 (lP a b c)):=by
 obtain⟨d,e⟩:=a;obtain⟨bx,f⟩:=b;obtain⟨g,h⟩:=c;simp only[dW]at i j hc;have w1:ax.wrap (bx-d)=bx-d:=aO _ (by omega) (by omega);have k:ax.wrap (h-e)=h-e:=aO _ (by omega) (by omega);have l:ax.wrap (f-e)=f-e:=aO _ (by omega) (by omega)
 have m:ax.wrap (g-d)=g-d:=aO _ (by omega) (by omega);have q:=yo (a:=bx-d) (b:=h-e) (A:=20000) (B:=20000) (by omega) (by omega) (by omega) (by omega);have r:=yo (a:=f-e) (b:=g-d) (A:=20000) (B:=20000) (by omega) (by omega) (by omega) (by omega);have n:ax.wrap ((bx-d)*(h-e))=(bx-d)*(h-e):=aO _ (by omega) (by omega);have o:ax.wrap ((f-e)*(g-d))=(f-e)*(g-d):=aO _ (by omega) (by omega);have p:ax.wrap ((bx-d)*(h-e)-(f-e)*(g-d))=(bx-d)*(h-e)-(f-e)*(g-d):=aO _ (by omega) (by omega);refine aG nf Gt mix (by simp[f264]) ?_;rw[lP];simp[f264,aa,w1,k,l,m,n,o,p]
def aw.nx(t:aw)(i:Nat):Nat:=(i+1)% t.cs.length
def aw.at(t:aw)(i:Nat):dZ:=t.cs.getD i ⟨0,0⟩
theorem aw.get{t:aw}{i:Nat}(h:i<t.cs.length):t.cs[i]?=some (t.at i):=by
 rw[aw.at,be,a9 h];rfl
@[simp] theorem aw.aN{t:aw}{i:Nat}(h:i<t.cs.length):t.cs[i]'h=t.at i:=by
 rw[aw.at,be,a9 h];rfl
theorem aw.kl{t:aw}(h:0<t.cs.length)(i:Nat):t.nx i<t.cs.length:=Nat.mod_lt _ h
theorem B4(t:aw)(i:Nat)(h:i<t.cs.length)(f:t.cs.length<=1000000):au prog 187 [cC t,.int .i64 i] (cE (t.at (t.nx i))):=by
 have w1:ax.wrap ((i:Int)+1)=(i:Int)+1:=aO _ (by omega) (by omega);have c:=t.kl (by omega) i;have e1:((i:Int)+1).tmod (t.cs.length:Int)=((t.nx i:Nat):Int):=by
  rw[aw.nx,a4,a0 (by omega)];rfl
 have b:=aw.get c;have d:¬t.cs.length=0:=by omega
 have a:¬t.cs=[]:=by intro e;rw[e]at h;simp at h
 refine aG nf G0 mix (by simp[f187]) ?_;simp[f187,aa,w1,e1,b,d,a]
def aw.nY(t:aw)(i:Nat)(m:Nat):Prop:=∀k,k<m->k≠i->k≠t.nx i->0<lP (t.at i) (t.at (t.nx i)) (t.at k)
instance(t:aw)(i m:Nat):Decidable (t.nY i m):=inferInstanceAs (Decidable (∀k,k<m->_))
def aw.fX(t:aw):Bool:=decide (∀i,i<t.cs.length->t.nY i t.cs.length)
theorem aw.fj{t:aw}(h:∀p∈t.cs,dW p){i:Nat}(hi:i<t.cs.length):dW (t.at i):=h _ (bb (aw.get hi))
theorem Tz(t:aw)(x:t.cs.length<=1000000)(m:∀p∈t.cs,dW p):au prog 202 [cC t] (.bool t.fX):=by
 refine aG nf Ie mix (by simp[f202]) ?_;generalize a:t.cs.length=n at*;simp[f202,aa,a];refine lp (α:=Nat) (fun i=>⟨[(4,.p (.int .i64 i)),(3,.p (.int .i64 n)),(1,.ptr 0 [])],[.box false (.p (cC t))]⟩) (fun i=>i<=n/\∀j,j<i->t.nY j n) (fun i=>n-i) 0 (by simp) ?_;rintro i ⟨v,q⟩
 by_cases hi:i<n
 ·simp[hi];refine lp (α:=Nat) (fun k=>⟨[(5,.p (.int .i64 k)),(4,.p (.int .i64 i)),(3,.p (.int .i64 n)),(1,.ptr 0 [])],[.box false (.p (cC t))]⟩) (fun k=>k<=n/\t.nY i k) (fun k=>n-k) 0 (by simp[aw.nY]) ?_;rintro k ⟨g1,g2⟩
  by_cases hk:k<n
  ·have r:=B4 t i (by omega) (by omega);have y:t.nx i<n:=by rw[<-a];exact t.kl (by omega) i
   have d:=ct (i:=i) (by omega);have e:=ct (i:=k) (by omega);have e1:((i:Int)+1).tmod (n:Int)=((t.nx i:Nat):Int):=by
    rw[aw.nx,a,a4,a0 (by omega)];rfl
   have s:=Tn (t.at i) (t.at (t.nx i)) (t.at k) (aw.fj m (by omega)) (aw.fj m (by omega)) (aw.fj m (by omega));have f:=aw.get (t:=t) (i:=i) (by omega);have gk:=aw.get (t:=t) (i:=k) (by omega);have o:¬n=0:=by omega
   by_cases c1:k=i
   ·subst c1;simp[hk,e];exact rd (k+1) ⟨hk,fun j g=>by
     by_cases l:j=k
     ·intro h;exact(h l).elim
     ·exact g2 j (by omega)⟩
   ·have b:¬(k:Int)=(i:Int):=by omega
    by_cases c2:k=t.nx i
    ·rw[<-c2]at e1;simp[hk,b,d,e,e1,o];exact rd (k+1) ⟨hk,fun j g=>by
      by_cases l:j=k
      ·intro _ h;exact(h (by omega)).elim
      ·exact g2 j (by omega)⟩
    ·have c:¬(k:Int)=((t.nx i:Nat):Int):=by omega
     by_cases c3:lP (t.at i) (t.at (t.nx i)) (t.at k)<=0
     ·simp[hk,b,c,d,e,e1,o,f,gk,a,aa];refine Go.ak.e2 r ?_;simp[hk,a,f,gk,b,c,aa];refine Go.ak.e3 s ?_;simp[c3,b,c];have:t.fX=false:=by
       rw[aw.fX,decide_eq_false_iff_not];intro h;have:=h i (by omega) k (by omega) c1 c2;omega
      rw[this]
     ·simp[hk,b,c,d,e,e1,o,f,gk,a,aa];refine Go.ak.e2 r ?_;simp[hk,a,f,gk,b,c,aa];refine Go.ak.e3 s ?_;simp[c3,e,b,c];exact rd (k+1) ⟨hk,fun j g=>by
       by_cases l:j=k
       ·subst l;intro _ _;omega
       ·exact g2 j (by omega)⟩
  ·have:k=n:=by omega
   subst this;have d:=ct (i:=i) (by omega);simp[d];exact rd (i+1) ⟨hi,fun j g=>by
    by_cases u:j=i
    ·subst u;exact g2
    ·exact q j (by omega)⟩
 ·have w:i=n:=by omega
  have:t.fX=true:=by
   rw[aw.fX,decide_eq_true_eq,a];intro j g;exact q j (by omega)
  simp[hi,this]
def fk(p:dZ):V2:=⟨(p.x:Rat),(p.y:Rat)⟩
theorem jj{p:dZ}(h:dW p):bt 14 (fk p):=by
 simp only[dW]at h;exact⟨Ac (by omega) (by decide),Ac (by omega) (by decide)⟩
theorem yr(p:dZ)(h:dW p):au prog 186 [cE p] (eV (fk p)):=by
 have c:=h;simp only[dW]at h;have a:=AA p.x (by omega) (by omega);have b:=AA p.y (by omega) (by omega);refine aG nf G1 mix (by simp[f186]) ?_;rw[fk,uL];simp[f186,aa];refine e1 a ?_;simp[aa];refine e1 b ?_;simp[aa]
def aw.gF(t:aw)(i:Nat):V2:=(fk (t.at (t.nx i))).sub (fk (t.at i))
def aw.side(t:aw)(i:Nat)(v:V2):Int:=bX ((t.gF i).bL (v.sub (fk (t.at i))))
theorem aw.okW{t:aw}(h:∀p∈t.cs,dW p){i:Nat}(hi:i<t.cs.length):bt 29 (t.gF i):=iH (jj (aw.fj h (t.kl (by omega) i))) (jj (aw.fj h hi))
theorem Z1(t:aw)(i:Nat)(v:V2)(e:t.cs.length<=1000000)(b:∀p∈t.cs,dW p)(hi:i<t.cs.length)(d:bt 3000 v):au prog 263 [cC t,.int .i64 i,eV v] (.int .i64 (t.side i v)):=by
 have a:=aw.get hi;have c:=jj (aw.fj b hi);have n:=jj (aw.fj b (t.kl (by omega) i));have f:=yr (t.at i) (aw.fj b hi);have g:=B4 t i hi e;have h:=yr (t.at (t.nx i)) (aw.fj b (t.kl (by omega) i));have j:=uU (fk (t.at (t.nx i))) (fk (t.at i)) (n.mono (by decide)) (c.mono (by decide));have k:=uU v (fk (t.at i)) (d.mono (by decide)) (c.mono (by decide));have l:=BK (t.gF i) (v.sub (fk (t.at i))) ((aw.okW b hi).mono (by decide)) ((iH d c).mono (by decide));have m:=l7 ((t.gF i).bL (v.sub (fk (t.at i)))) ((pB (aw.okW b hi) (iH d c)).mono (by decide));refine aG nf O5 mix (by simp[f263]) ?_;rw[aw.side];simp[f263,aa,a,hi];refine e1 f ?_;simp[aa,a,hi];refine e2 g ?_;simp[aa,a,hi];refine e1 h ?_;simp[aa,a,hi];refine⟨by repeat' first|rfl|apply ab,?_⟩;refine e2 j ?_;simp[aa,a,hi];refine e2 k ?_;simp[aa,a,hi];refine e2 l ?_;simp[aa,a,hi];refine e1 m ?_;simp[aa,a,hi]
def aw.qM(t:aw)(v:V2)(m:Nat):Int:=(b1 m).foldl (fun o i=>min o (t.side i v)) 1
theorem aw.F0(t:aw)(v:V2)(m:Nat):t.qM v (m+1)=min (t.qM v m) (t.side m v):=by
 rw[aw.qM,b2,List.foldl_append];rfl
def aw.on(t:aw)(v:V2):Int:=t.qM v t.cs.length
theorem GA(a b:Int):min a b=if b<a then b else a:=by split<;>omega
theorem Qt(t:aw)(v:V2)(b:t.cs.length<=1000000)(c:∀p∈t.cs,dW p)(d:bt 3000 v):au prog 197 [cC t,eV v] (.int .i64 (t.on v)):=by
 refine aG nf P3 mix (by simp[f197]) ?_;simp[f197,aa];refine lp (α:=Nat) (fun i=>⟨[(6,.p (.int .i64 i)),(5,.p (.int .i64 (t.qM v i))),(3,.ptr 1 []),(2,.ptr 0 [])],[.box false (.p (cC t)),.box false (.p (eV v))]⟩) (fun i=>i<=t.cs.length) (fun i=>t.cs.length-i) 0 (by simp) ?_ (hh:=by simp[aw.qM]) (he:=by simp[aw.qM]);rintro i f
 by_cases hi:i<t.cs.length
 ·have a:=Z1 t i v b c hi d;have e:=ct (i:=i) (by omega);have hs:=aw.F0 t v i;rw[GA]at hs;simp[hi,aa];refine c3 a ?_;simp[e,<-hs];exact rd (i+1) hi
 ·have:i=t.cs.length:=by omega
  subst this;simp[aw.on,aa]
def isLet(c:Int):Bool:=(decide (97<=c)&&decide (c<=122))||(decide (65<=c)&&decide (c<=90))
def jF(c:Int):Bool:=decide (48<=c)&&decide (c<=57)
def mX:Nat->List Nat->Bool
 |_,[]=>true
 |i,c::r=>(isLet c||(decide (i≠0)&&(jF c||decide ((c:Int)=95))))&&mX (i+1) r
def isName(s:List Nat):Bool:=decide (1<=s.length)&&decide (s.length<=24)&&mX 0 s
theorem cls(c:Int):(97<=c/\c<=122)\/(¬97<=c/\65<=c/\c<=90)\/(¬97<=c/\¬65<=c/\¬48<=c/\¬c=95)\/(¬97<=c/\¬65<=c/\48<=c/\c<=57/\¬c=95)\/(¬97<=c/\¬65<=c/\48<=c/\¬c<=57/\¬c=95)\/
 (¬97<=c/\65<=c/\¬c<=90/\48<=c/\¬c<=57/\c=95)\/(¬97<=c/\65<=c/\¬c<=90/\48<=c/\¬c<=57/\¬c=95)\/(97<=c/\¬c<=122/\65<=c/\¬c<=90/\48<=c/\¬c<=57/\¬c=95):=by omega
theorem FZ(c:Int):au prog 286 [.int .i32 c] (.bool (isLet c)):=by
 refine aG nf IB mix (by simp[f286]) ?_;rcases cls c with⟨a,b⟩|⟨a,b,d⟩|⟨a,b,d,e⟩|⟨a,b,d,e,f⟩|⟨a,b,d,e,f⟩|⟨a,b,d,e,f,g⟩|⟨a,b,d,e,f,g⟩|⟨a,b,d,e,f,g,h⟩<;>simp[f286,isLet, *]
theorem FT{s:List Nat}{i:Nat}(hi:i<s.length):mX i (s.drop i)=((isLet s[i]||(decide (i≠0)&&(jF s[i]||decide ((s[i]:Int)=95))))&&mX (i+1) (s.drop (i+1))):=by
 rw[List.drop_eq_getElem_cons hi,mX]
theorem BL(s:List Nat)(h:s.length<=1048576):au prog 204 [.str s] (.bool (isName s)):=by
 refine aG nf Ib mix (by simp[f204]) ?_;rcases BM s.length 1 with⟨g1,m⟩|⟨g1,m⟩
 ·have:s.length=0:=by omega
  simp[f204,g1,isName,this]
 rcases BM 24 s.length with⟨g2,n⟩|⟨g2,n⟩
 ·have:¬s.length<=24:=by omega
  simp[f204,g1,g2,isName,this]
 simp[f204,g1,g2];have e0:isName s=mX 0 s:=by simp[isName];omega
 refine lp (α:=Nat) (fun i=>⟨[(3,.p (.int .i64 i)),(0,.p (.str s))],[]⟩) (fun i=>i<=s.length/\isName s=mX i (s.drop i)) (fun i=>s.length-i) 0 (by simp[e0]) ?_;rintro i ⟨k1,k2⟩
 by_cases hi:i<s.length
 ·rw[FT hi]at k2;have k:=ct (i:=i) (by omega);generalize hc:(s[i]:Int)=c at*
  by_cases j:i=0
  ·subst j;have l:ax.wrap 1=1:=aO 1 (by omega) (by omega);rcases cls c with⟨a,b⟩|⟨a,b,d⟩|⟨a,b,d,e⟩|⟨a,b,d,e,f⟩|⟨a,b,d,e,f⟩|⟨a,b,d,e,f,g⟩|⟨a,b,d,e,f,g⟩|⟨a,b,d,e,f,g,h⟩
   ·simp[isLet,a,b]at k2;simp[hi,hc,a,b,l];exact rd 1 ⟨hi,by simpa using k2⟩
   ·simp[isLet,a,b,d]at k2;simp[hi,hc,a,b,d,l];exact rd 1 ⟨hi,by simpa using k2⟩
   all_goals
    simp[isLet, *]at k2;simp[hi,hc, *]
  ·rcases cls c with⟨a,b⟩|⟨a,b,d⟩|⟨a,b,d,e⟩|⟨a,b,d,e,f⟩|⟨a,b,d,e,f⟩|⟨a,b,d,e,f,g⟩|⟨a,b,d,e,f,g⟩|⟨a,b,d,e,f,g,h⟩
   ·simp[isLet,a,b]at k2;simp[hi,hc,a,b,k];exact rd (i+1) ⟨hi,k2⟩
   ·simp[isLet,a,b,d]at k2;simp[hi,hc,a,b,d,k];exact rd (i+1) ⟨hi,k2⟩
   ·simp[isLet,jF,a,b,d,e]at k2;simp[hi,hc,j,a,b,d,e,k2]
   ·simp[isLet,jF,a,b,d,e,j]at k2;simp[hi,hc,j,a,b,d,e,k];exact rd (i+1) ⟨hi,k2⟩
   ·simp[isLet,jF,a,b,d,e,f]at k2;simp[hi,hc,j,a,b,d,e,f,k2]
   ·subst g;simp[isLet,jF,j]at k2;simp[hi,hc,j,k];exact rd (i+1) ⟨hi,k2⟩
   ·simp[isLet,jF,a,b,d,e,f,g]at k2;simp[hi,hc,j,a,b,d,e,f,g,k2]
   ·simp[isLet,jF,a,b,d,e,f,g,h]at k2;simp[hi,hc,j,a,b,d,e,f,g,h,k2]
 ·have:i=s.length:=by omega
  subst this;simp[mX]at k2;simp[k2]
theorem FP(s:List Nat):(gP s).size=s.length:=by
 show(s.map UInt8.ofNat).toArray.size=_;simp
theorem Gn(s:List Nat)(b:∀c∈s,c<256)(i:Nat)(h:i<s.length)(a:i<(gP s).size):((gP s)[i]'a).toNat=s[i]:=by
 have e:(gP s)[i]'a=UInt8.ofNat s[i]:=by
  have:(gP s)[i]'a=(s.map UInt8.ofNat).toArray[i]'(by simpa using h):=rfl;rw[this];simp
 rw[e];have:=b s[i] (List.getElem_mem h);simp;omega
theorem azL{s:List Nat}(d:∀c∈s,c<256){i:Nat}(h:i<s.length)(b:s[i]<128):ay (gP s) i=(s[i],1):=by
 have a:i<(gP s).size:=by rw[FP];exact h
 have e:=Gn s d i h a;rw[decode_ascii (gP s) i a (by rw[e];exact b),e]
theorem azK{s:List Nat}(b:∀c∈s,c<256){i:Nat}(h:i<s.length)(d:¬s[i]<128):128<=(ay (gP s) i).1/\1<=(ay (gP s) i).2:=by
 have a:i<(gP s).size:=by rw[FP];exact h
 have e:=Gn s b i h a;exact decode_high (gP s) i a (by rw[e];omega)
theorem BS(s:List Nat)(h:s.length<=1048576):au prog 231 [.str s] (.bool (isName s)):=by
 refine TE fun m=>?_;have m:∀c∈s,c<256:=by simpa[mI,eh]using m
 refine aG nf P1 mix (by simp[f231]) ?_;simp[f231];refine lp (α:=Nat) (fun i=>⟨[(6,.ptr 0 []),(0,.p (.str s))],[.dG s i]⟩) (fun i=>i<=s.length/\mX 0 s=mX i (s.drop i)) (fun i=>s.length-i) 0 (by simp) ?_;rintro i ⟨k1,k2⟩
 by_cases hi:i<s.length
 ·rw[FT hi]at k2
  by_cases o:s[i]<128
  ·have n:=azL m hi o;simp[hi,n];refine c1 (FZ _) ?_;generalize hc:(s[i]:Int)=c at*
   by_cases j:i=0
   ·rcases cls c with⟨a,b⟩|⟨a,b,d⟩|⟨a,b,d,e⟩|⟨a,b,d,e,f⟩|⟨a,b,d,e,f⟩|⟨a,b,d,e,f,g⟩|⟨a,b,d,e,f,g⟩|⟨a,b,d,e,f,g,h⟩
    ·simp[isLet,a,b]at k2;simp[isLet,a,b];exact rd (i+1) ⟨hi,k2⟩
    ·simp[isLet,a,b,d]at k2;simp[isLet,a,b,d];exact rd (i+1) ⟨hi,k2⟩
    all_goals
     simp[isLet,isName, *]at k2;simp[isLet,isName, *]
   ·rcases cls c with⟨a,b⟩|⟨a,b,d⟩|⟨a,b,d,e⟩|⟨a,b,d,e,f⟩|⟨a,b,d,e,f⟩|⟨a,b,d,e,f,g⟩|⟨a,b,d,e,f,g⟩|⟨a,b,d,e,f,g,h⟩
    ·simp[isLet,a,b]at k2;simp[isLet,a,b];exact rd (i+1) ⟨hi,k2⟩
    ·simp[isLet,a,b,d]at k2;simp[isLet,a,b,d];exact rd (i+1) ⟨hi,k2⟩
    ·simp[isLet,jF,a,b,d,e]at k2;have k:c<48:=by omega
     simp[isLet,isName,a,b,e,j,k,k2]
    ·simp[isLet,jF,a,b,d,e,f,j]at k2;have k:¬c<48:=by omega
     have e2:¬57<c:=by omega
     simp[isLet,a,b,k,e2,f,j];exact rd (i+1) ⟨hi,k2⟩
    ·simp[isLet,jF,a,b,d,e,f]at k2;have k:¬c<48:=by omega
     have e2:57<c:=by omega
     simp[isLet,isName,a,b,k,e2,f,j,k2]
    ·subst g;simp[isLet,jF,j]at k2;simp[isLet,j];exact rd (i+1) ⟨hi,k2⟩
    ·simp[isLet,jF,a,b,d,e,f,g]at k2;have k:¬c<48:=by omega
     have e2:57<c:=by omega
     simp[isLet,isName,a,b,d,k,e2,g,j,k2]
    ·simp[isLet,jF,a,b,d,e,f,g,h]at k2;have k:¬c<48:=by omega
     have e2:57<c:=by omega
     simp[isLet,isName,a,b,d,e,k,e2,h,j,k2]
  ·obtain⟨n,_⟩:=azK m hi o;have z:isLet (s[i]:Int)=false:=by simp[isLet];omega
   have y:jF (s[i]:Int)=false:=by simp[jF];omega
   have x:¬(s[i]:Int)=95:=by omega
   simp[z,y,x]at k2;rcases q:ay (gP s) i with⟨c,d⟩
   rw[q]at n;have t:isLet (c:Int)=false:=by simp[isLet];omega
   have u:¬(c:Int)=95:=by omega
   have v:¬(c:Int)<48:=by omega
   have w:57<(c:Int):=by omega
   simp[hi,q];refine c1 (FZ _) ?_
   by_cases j:i=0
   ·simp[t,j,isName,k2]
   ·simp[t,j,u,v,w,isName,k2]
 ·have:i=s.length:=by omega
  subst this;simp[mX]at k2;cases hs:s with
  |nil=>simp[isName]
  |cons a r=>
   rw[hs]at k2;rcases BM 24 s.length with⟨g,l⟩|⟨g,l⟩
   ·rw[hs]at g l;have:¬(r.length+1)<=24:=by simp at g;omega
    simp at l;simp[isName,k2,this];omega
   ·rw[hs]at g l;have:(r.length+1)<=24:=by simp at l;omega
    simp at l;simp[isName,k2,this];omega
theorem gU{s:List Nat}(h:b6 s=0):br 2000 (bg s):=by
 obtain⟨b,c⟩:=GW h;have a:(10:Nat)^mD<=2^2000:=by decide+kernel
 exact⟨ce b a,ce c a⟩
theorem aLK:bc 1=[49]:=FJ (n:=1) (by decide)
def fO(q:Rat):Int:=if bX q<0\/0<dA q 1 then 3 else 0
def yt(s:List Nat):Int:=if b6 s=0 then fO (bg s)else b6 s
theorem F3(s:List Nat)(hs:jB s):au prog 265 [.str s] (.int .i64 (yt s)):=by
 have d:=xB s hs;refine aG nf Gs mix (by simp[f265]) ?_;rw[yt]
 by_cases c:b6 s=0
 ·have o:=gU c;have f:=l7 (bg s) (o.mono (by decide));have g:=qX (bg s) 1 (o.mono (by decide)) (by exact⟨by decide+kernel,by decide+kernel⟩);rw[(jm c).1]at f g;rw[aLK]at g;rw[if_pos c,fO];rw[c]at d;generalize bX (bg s)=x at*;generalize dA (bg s) 1=y at*
  by_cases a:x<0
  ·simp[f265,aa];refine c1 d ?_;simp[aa];refine c1 f ?_;simp[a,aa]
  ·by_cases b:0<y
   ·simp[f265,aa];refine c1 d ?_;simp[aa];refine c1 f ?_;simp[a,aa];refine c2 g ?_;simp[a,b,aa]
   ·simp[f265,aa];refine c1 d ?_;simp[aa];refine c1 f ?_;simp[a,aa];refine c2 g ?_;simp[a,b,aa]
 ·rw[if_neg c];generalize b6 s=e at*;simp[f265,aa];refine c1 d ?_;simp[c,aa]
def il(o p:dV):Bool:=decide (o.fg=p.fg)&&(decide (dA (bg o.a) (bg p.b)<=0)&&decide (dA (bg p.a) (bg o.b)<=0))
def iW(n:Nat)(c:List dV)(p:dV):Int:=
 if isName p.name=false then 8
 else if c.any (fun o=>decide (o.name=p.name))=true then 9
 else if p.fg<0\/(n:Int)<=p.fg then 10
 else if b6 p.a≠0 then b6 p.a
 else if b6 p.b≠0 then b6 p.b
 else if max (fO (bg p.a)) (fO (bg p.b))≠0 then max (fO (bg p.a)) (fO (bg p.b))
 else if 0<dA (bg p.a) (bg p.b)then 11
 else if c.any (fun o=>il o p)=true then 17 else 0
def tv(p:dV):Prop:=jB p.name/\jB p.a/\jB p.b
def aw.pk(t:aw)(i:Nat):dV:=t.bn.getD i ⟨[],0,[],[]⟩
@[simp] theorem aw.R8{t:aw}{i:Nat}(h:i<t.bn.length):t.bn[i]'h=t.pk i:=by
 rw[aw.pk,be,a9 h];rfl
theorem aw.mg{t:aw}{i:Nat}(h:i<t.bn.length):t.bn[i]?=some (t.pk i):=by rw[a9 h,aw.R8]
theorem vC{α:Type}{f:α->Bool}{l:List α}{i:Nat}{x:α}(h:l[i]?=some x):(l.take (i+1)).any f=((l.take i).any f||f x):=by
 rw[List.take_add_one,h];simp
theorem SV(t:aw)(i:Nat)(hi:i<t.bn.length)(V:t.bn.length<=1000000)(hc:t.cs.length<=1000000)(Q:∀p∈t.bn,tv p)(R:∀j,j<i->b6 (t.pk j).a=0/\b6 (t.pk j).b=0):
 au prog 203 [cC t,.int .i64 i] (.int .i64 (iW t.cs.length (t.bn.take i) (t.pk i))):=by
 have v:=aw.mg hi;obtain⟨S,E,F⟩:=Q _ (bb v);have m:=BL (t.pk i).name S.1;have O:=xB (t.pk i).a E;have P:=xB (t.pk i).b F;refine aG nf Ic mix (by simp[f203]) ?_;rw[iW];cases B:isName (t.pk i).name
 ·rw[B]at m;simp[f203,aa,v,hi];refine c1 m ?_;simp[aa]
 rw[B]at m;rw[if_neg (by decide)];simp[f203,aa,v,hi];refine c1 m ?_;simp[aa];refine lp (α:=Nat) (fun j=>⟨[(6,.p (.int .i64 j)),(5,.ptr 1 []),(2,.ptr 0 []),(1,.p (.int .i64 i))],[.box false (.p (cC t)),.box false (.p (fL (t.pk i)))]⟩) (fun j=>j<=i/\(t.bn.take j).any (fun o=>decide (o.name=(t.pk i).name))=false) (fun j=>i-j) 0 (by simp) ?_;rintro j ⟨W,D⟩
 by_cases q:j<i
 ·have z:j<t.bn.length:=by omega
  have g:=aw.mg z;have f:=ct (i:=j) (by omega)
  by_cases n:(t.pk j).name=(t.pk i).name
  ·have:(t.bn.take i).any (fun o=>decide (o.name=(t.pk i).name))=true:=by
    rw[bf];exact⟨t.pk j,bb (i:=j) (by rw[bi,if_pos q];exact g),by simp[n]⟩
   rw[if_pos this];simp[q,z,g,n,aa]
  ·simp[q,z,g,n,f,aa];exact rd (j+1) ⟨q,by rw[vC g,D];simp[n]⟩
 have:j=i:=by omega
 subst this;rw[D,if_neg (by decide)];have u:((t.pk j).fg<0\/(t.cs.length:Int)<=(t.pk j).fg)\/(¬(t.pk j).fg<0/\¬(t.cs.length:Int)<=(t.pk j).fg):=by omega
 rcases u with u|⟨L,N⟩
 ·rw[if_pos u]
  by_cases e1:(t.pk j).fg<0
  ·simp[e1,aa]
  ·have e2:(t.cs.length:Int)<=(t.pk j).fg:=by omega
   simp[e1,e2,aa]
 rw[if_neg (by omega)];have K:¬j<j:=by omega
 simp[L,N,K,aa];refine c1 O ?_
 by_cases c:b6 (t.pk j).a=0
 case neg=>
  rw[if_pos c];simp[c,aa]
 rw[if_neg (by simp[c])];simp[c,aa];refine c1 P ?_
 by_cases d:b6 (t.pk j).b=0
 case neg=>
  rw[if_pos d];simp[d,aa]
 rw[if_neg (by simp[d])];simp[d,aa];have G:=gU c;have H:=gU d;have x:=F3 (t.pk j).a E;have y:=F3 (t.pk j).b F;rw[yt,if_pos c]at x;rw[yt,if_pos d]at y;have A:=qX (bg (t.pk j).a) (bg (t.pk j).b) (G.mono (by decide)) (H.mono (by decide));rw[(jm c).1,(jm d).1]at A;refine e1 x ?_;simp[aa];refine e1 y ?_;have em:max (fO (bg (t.pk j).a)) (fO (bg (t.pk j).b))=if fO (bg (t.pk j).a)<fO (bg (t.pk j).b)then fO (bg (t.pk j).b)else fO (bg (t.pk j).a):=by split<;>omega
 simp[aa,<-em];clear em x y;generalize max (fO (bg (t.pk j).a)) (fO (bg (t.pk j).b))=M at*
 by_cases hm:M=0
 case neg=>
  simp[hm,aa]
 subst hm;simp[aa];refine c2 A ?_
 by_cases s:0<dA (bg (t.pk j).a) (bg (t.pk j).b)
 ·rw[if_pos s];simp[s,aa]
 rw[if_neg s];simp[s,aa];refine lp (α:=Nat) (fun k=>⟨[(8,.p (.int .i64 k)),(5,.ptr 1 []),(2,.ptr 0 []),(1,.p (.int .i64 j))],[.box false (.p (cC t)),.box false (.p (fL (t.pk j)))]⟩) (fun k=>k<=j/\(t.bn.take k).any (fun o=>il o (t.pk j))=false) (fun k=>j-k) 0 (by simp) ?_;rintro k ⟨k1,k2⟩
 by_cases hk:k<j
 ·have e:k<t.bn.length:=by omega
  have gk:=aw.mg e;have f:=ct (i:=k) (by omega);obtain⟨I,J⟩:=R k hk;have T:=gU I;have U:=gU J;have l:=qX (bg (t.pk k).a) (bg (t.pk j).b) (T.mono (by decide)) (H.mono (by decide));have w:=qX (bg (t.pk j).a) (bg (t.pk k).b) (G.mono (by decide)) (U.mono (by decide));rw[(jm I).1,(jm d).1]at l;rw[(jm c).1,(jm J).1]at w;have C:il (t.pk k) (t.pk j)=true->(t.bn.take j).any (fun o=>il o (t.pk j))=true:=fun h=>by
   rw[bf];exact⟨t.pk k,bb (i:=k) (by rw[bi,if_pos hk];exact gk),h⟩
  have r:il (t.pk k) (t.pk j)=false->(t.bn.take (k+1)).any (fun o=>il o (t.pk j))=false:=fun h=>by
   rw[vC gk,k2,h];rfl
  rw[il]at C r
  by_cases e1:(t.pk k).fg=(t.pk j).fg
  ·by_cases e2:dA (bg (t.pk k).a) (bg (t.pk j).b)<=0
   ·by_cases e3:dA (bg (t.pk j).a) (bg (t.pk k).b)<=0
    ·rw[if_pos (C (by simp[e1,e2,e3]))];simp[hk,e,gk,e1,aa];refine c2 l ?_;simp[e1,e2,aa];refine c2 w ?_;simp[e1,e2,e3,aa]
    ·simp[hk,e,gk,e1,aa];refine c2 l ?_;simp[e1,e2,aa];refine c2 w ?_;simp[e1,e2,e3,f,aa];exact rd (k+1) ⟨hk,r (by simp[e3])⟩
   ·simp[hk,e,gk,e1,aa];refine c2 l ?_;simp[e1,e2,f,aa];exact rd (k+1) ⟨hk,r (by simp[e2])⟩
  ·simp[hk,e,gk,e1,f,aa];exact rd (k+1) ⟨hk,r (by simp[e1])⟩
 ·have:k=j:=by omega
  subst this;rw[k2,if_neg (by decide)];simp[aa]
structure NV where
 x:NF
 y:NF
noncomputable def cO(v:NV):PV:=.st 130 [eF v.x,eF v.y]
@[simp] theorem aPr(v:NV):aI (cO v)=.agg 130:=rfl
@[simp] theorem aNS(v:NV):bW (cO v)=[eF v.x,eF v.y]:=rfl
@[simp] theorem aM1:prog.cellsOf 130=8:=by kernel_rfl
@[simp] theorem aM0:prog.cellsOf 136=12:=by kernel_rfl
theorem oR(x y:NF):cO ⟨x,y⟩=.st 130 [eF x,eF y]:=rfl
def NV.q(v:NV):V2:=⟨v.x.q,v.y.q⟩
def NV.add(v w:NV):NV:=⟨v.x.add w.x,v.y.add w.y⟩
def NV.sub(v w:NV):NV:=⟨v.x.sub w.x,v.y.sub w.y⟩
def NV.times(v:NV)(k:NF):NV:=⟨v.x.mul k,v.y.mul k⟩
def NV.dot(v w:NV):NF:=(v.x.mul w.x).add (v.y.mul w.y)
def NV.bL(v w:NV):NF:=(v.x.mul w.y).sub (v.y.mul w.x)
theorem NV.fu(v w:NV):(v.sub w).q=v.q.sub w.q:=by simp only[NV.sub,NV.q,V2.sub,NF.fu]
theorem NV.I1(v w:NV):(v.add w).q=v.q.add w.q:=rfl
theorem NV.Gi(v:NV)(k:NF):(v.times k).q=v.q.mul k.q:=rfl
theorem NV.o8(v w:NV):(v.dot w).q=v.q.dot w.q:=rfl
theorem NV.nr(v w:NV):(v.bL w).q=v.q.bL w.q:=NF.fu _ _
theorem awD(v w:NV)(a:bt kQ v.q)(b:bt kQ w.q):au prog 65 [cO v,cO w] (cO (v.add w)):=by
 have c:=mR v.x w.x (dM a.1) (dM b.1);have d:=mR v.y w.y (dM a.2) (dM b.2);refine aG nf Rk mix (by simp[f65]) ?_;rw[NV.add,oR];simp[f65,aa];refine e2 c ?_;simp[aa];refine e2 d ?_;simp[aa]
theorem EL(v w:NV)(a:bt kQ v.q)(b:bt kQ w.q):au prog 122 [cO v,cO w] (cO (v.sub w)):=by
 have c:=mP v.x w.x (dM a.1) (dM b.1);have d:=mP v.y w.y (dM a.2) (dM b.2);refine aG nf IX mix (by simp[f122]) ?_;rw[NV.sub,oR];simp[f122,aa];refine e2 c ?_;simp[aa];refine e2 d ?_;simp[aa]
theorem OI(v:NV)(k:NF)(a:bt kQ v.q)(hk:br kQ k.q):au prog 66 [cO v,eF k] (cO (v.times k)):=by
 have b:=ft v.x k (dM a.1) (dM hk);have c:=ft v.y k (dM a.2) (dM hk);refine aG nf Rl mix (by simp[f66]) ?_;rw[NV.times,oR];simp[f66,aa];refine e2 b ?_;simp[aa];refine e2 c ?_;simp[aa]
theorem Ez(v w:NV)(a:bt kQ v.q)(b:bt kQ w.q):au prog 134 [cO v,cO w] (eF (v.dot w)):=by
 have c:=ft v.x w.x (dM a.1) (dM b.1);have d:=ft v.y w.y (dM a.2) (dM b.2);have e:=mR (v.x.mul w.x) (v.y.mul w.y) ((cW a.1 b.1).mono (by decide)) ((cW a.2 b.2).mono (by decide));refine aG nf IH mix (by simp[f134]) ?_;rw[NV.dot];simp[f134,aa];refine e2 c ?_;simp[aa];refine e2 d ?_;simp[aa];refine e2 e ?_;simp[aa]
theorem BO(v w:NV)(a:bt kQ v.q)(b:bt kQ w.q):au prog 173 [cO v,cO w] (eF (v.bL w)):=by
 have c:=ft v.x w.y (dM a.1) (dM b.2);have d:=ft v.y w.x (dM a.2) (dM b.1);have e:=mP (v.x.mul w.y) (v.y.mul w.x) ((cW a.1 b.2).mono (by decide)) ((cW a.2 b.1).mono (by decide));refine aG nf P6 mix (by simp[f173]) ?_;rw[NV.bL];simp[f173,aa];refine e2 c ?_;simp[aa];refine e2 d ?_;simp[aa];refine e2 e ?_;simp[aa]
theorem Cw(v:NV)(a:bt kQ v.q):au prog 123 [cO v] (eF (v.dot v)):=by
 refine aG nf IW mix (by simp[f123]) ?_;simp[f123,aa];refine c2 (Ez v v a a) ?_;simp[aa]
def NV.from(p:cw):NV:=⟨⟨bg p.x,false⟩,⟨bg p.y,false⟩⟩
theorem EC(p:cw)(d:b6 p.x=0)(e:b6 p.y=0)(a:iV p):au prog 64 [dm p] (cO (.from p)):=by
 have b:=l9 p.x d a.1.1;have c:=l9 p.y e a.2.1;refine aG nf Rj mix (by simp[f64]) ?_;rw[NV.from,oR];simp[f64,aa];refine e1 b ?_;simp[aa];refine e1 c ?_;simp[aa]
structure NS where
 a:NF
 b:NF
 d:NF
noncomputable def fD(s:NS):PV:=.st 136 [eF s.a,eF s.b,eF s.d]
@[simp] theorem aPq(s:NS):aI (fD s)=.agg 136:=rfl
@[simp] theorem aNR(s:NS):bW (fD s)=[eF s.a,eF s.b,eF s.d]:=rfl
theorem pc(a b d:NF):fD ⟨a,b,d⟩=.st 136 [eF a,eF b,eF d]:=rfl
def NS.q(s:NS):S3:=⟨s.a.q,s.b.q,s.d.q⟩
def fN(k:Nat)(s:NS):Prop:=br k s.a.q/\br k s.b.q/\br k s.d.q
def nS(s:S3):Bool:=mW s.a||mW s.b||mW s.d
theorem EI(s:NS)(h:fN kB s):au prog 62 [fD s] (.bool (nS s.q)):=by
 have c:=zX s.a h.1;have e:=zX s.b h.2.1;have f:=zX s.d h.2.2;refine aG nf Rh mix (by simp[f62]) ?_;rw[nS,NS.q];dsimp only;generalize mW s.a.q=x at*;generalize mW s.b.q=y at*;generalize mW s.d.q=z at*;cases x
 ·cases y
  ·simp[f62,aa];refine c1 c ?_;simp[aa];refine c1 e ?_;simp[aa];refine c1 f ?_;simp
  ·simp[f62,aa];refine c1 c ?_;simp[aa];refine c1 e ?_;simp[aa]
 ·simp[f62,aa];refine c1 c ?_;simp[aa]
theorem EO(s:NS)(h:fN kB s):au prog 63 [fD s] (eS s.q):=by
 have c:=zP s.a h.1;have e:=zP s.b h.2.1;have f:=zP s.d h.2.2;refine aG nf Ri mix (by simp[f63]) ?_;rw[NS.q,qD];simp[f63,aa];refine e1 c ?_;simp[aa];refine e1 e ?_;simp[aa];refine e1 f ?_;simp[aa]
theorem qC{q:Rat}(h:br 1800 q):mW q=false:=by
 have a:(bd q.num.natAbs).length<=600:=xP (K:=1800) (k:=600) h.1 (by decide) (by decide);have b:(bd q.den).length<=600:=xP (K:=1800) (k:=600) h.2 (by decide) (by decide);rw[mW,lC,lC,decide_eq_false (by omega),decide_eq_false (by omega)];rfl
def NF.width(r:Int):NF:=.int (4*r*r)
theorem aL9(r:Int):(NF.width r).q=ld r:=rfl
theorem awE(r:Int)(a:0<=r)(b:r<=1000000):au prog 125 [.int .i64 r] (eF (.width r)):=by
 have e:=xk a b;have c:=ma (4*r*r) (by omega) (by omega);have w1:ax.wrap (4*r)=4*r:=aO _ (by omega) (by omega);have d:ax.wrap (4*r*r)=4*r*r:=aO _ (by omega) (by omega);refine aG nf IU mix (by simp[f125]) ?_;rw[NF.width];simp[f125,w1,d];refine c1 c ?_;simp[aa]
structure NM where
 w:NV
 d:NV
 root:NF
noncomputable def nP(m:NM):PV:=.st 132 [cO m.w,cO m.d,eF m.root]
@[simp] theorem Hw(m:NM):aI (nP m)=.agg 132:=rfl
@[simp] theorem aNQ(m:NM):bW (nP m)=[cO m.w,cO m.d,eF m.root]:=rfl
theorem PQ(a b:NV)(d:NF):nP ⟨a,b,d⟩=.st 132 [cO a,cO b,eF d]:=rfl
def NM.of(width:NF)(p d b:NV):NM:=⟨b.sub p,d,(((b.sub p).dot d).mul ((b.sub p).dot d)).sub ((d.dot d).mul (((b.sub p).dot (b.sub p)).sub width))⟩
def xL(width:NF)(p d b:NV):Bool:=decide (0<=dA ((b.sub p).dot (b.sub p)).q width.q)&&decide (0<bX ((b.sub p).dot d).q)&&decide (0<bX (NM.of width p d b).root.q)
theorem ak3(width:NF)(p d b:NV)(k:br 500 width.q)(t:bt 200 p.q)(h:bt 500 d.q)(s:bt 200 b.q):au prog 126 [eF width,cO p,cO d,cO b] (.aC [nP (.of width p d b),.bool (xL width p d b)]):=by
 have c:bt 401 (b.sub p).q:=by rw[NV.fu];exact iH s t
 have g:=gJ c c;have e:=gJ c h;have l:=gJ h h;have i:=jW g k;have r:=EL b p (s.mono (by decide)) (t.mono (by decide));obtain⟨w,u⟩:∃w,b.sub p=w:=⟨_,rfl⟩
 have y:NM.of width p d b=⟨w,d,((w.dot d).mul (w.dot d)).sub ((d.dot d).mul ((w.dot w).sub width))⟩:=by rw[NM.of,u]
 rw[xL,y,PQ];rw[u]at r c g e i⊢;have x:bt kQ w.q:=c.mono (by decide);have v:bt kQ d.q:=h.mono (by decide);have C:=Ez w d x v;have D:=ft (w.dot d) (w.dot d) (e.mono (by decide)) (e.mono (by decide));have F:=Cw d v;have n:=Cw w x;have z:=mP (w.dot w) width (g.mono (by decide)) (k.mono (by decide));have q1:((w.dot w).sub width).q=w.q.dot w.q-width.q:=NF.fu _ _;have E:=ft (d.dot d) ((w.dot w).sub width) (l.mono (by decide)) (by rw[q1];exact i.mono (by decide));have G:(((w.dot d).mul (w.dot d)).sub ((d.dot d).mul ((w.dot w).sub width))).q=w.q.dot d.q*w.q.dot d.q-d.q.dot d.q*(w.q.dot w.q-width.q):=by rw[NF.fu,NF.Fj,NF.Fj,q1];rfl
 have A:=mP ((w.dot d).mul (w.dot d)) ((d.dot d).mul ((w.dot w).sub width)) ((cW e e).mono (by decide)) (by rw[NF.Fj,q1];exact(cW l i).mono (by decide));have B:=qB (w.dot w) width (g.mono (by decide)) (k.mono (by decide));have j:=l8 (w.dot d);have m:=l8 (((w.dot d).mul (w.dot d)).sub ((d.dot d).mul ((w.dot w).sub width)));simp only[show∀q:Rat,(if q<0 then(-1:Int)else if q=0 then 0 else 1)=bX q from fun _=>rfl]at j m;refine aG nf IQ mix (by simp[f126]) ?_;dsimp only;generalize ((w.dot d).mul (w.dot d)).sub ((d.dot d).mul ((w.dot w).sub width))=root at*;generalize bX root.q=s2 at*;generalize bX (w.dot d).q=s1 at*;generalize dA (w.dot w).q width.q=o at*;simp[f126,aa];refine c2 r ?_;simp[aa];refine c2 C ?_;simp[aa];refine e2 D ?_;simp[aa];refine e1 F ?_;simp[aa];refine e1 n ?_;simp[aa];refine e2 z ?_;simp[aa];refine e2 E ?_;simp[aa];refine e2 A ?_;simp[aa];refine⟨by repeat' first|rfl|apply ab,?_⟩;refine e1 n ?_;simp[aa];refine e2 B ?_
 by_cases a:0<=o
 ·by_cases f:0<s1
  ·simp[aa,a,f];refine e1 j ?_;simp[aa,a,f];refine e1 m ?_;simp[aa,a,f]
  ·simp[aa,a,f];refine e1 j ?_;simp[aa,a,f]
 ·simp[aa,a]
def NM.far(m:NM):NS:=⟨(m.w.dot m.d).div (m.d.dot m.d),(m.d.dot m.d).inv.neg,m.root⟩
theorem EU(m:NM)(c:bt 500 m.w.q)(a:bt 500 m.d.q)(e:m.d.q.dot m.d.q≠0):au prog 61 [nP m] (fD m.far):=by
 obtain⟨w,d,root⟩:=m;dsimp only at c a e;have b:=gJ a a;have h:=Cw d (a.mono (by decide));have f:=Ez w d (c.mono (by decide)) (a.mono (by decide));have i:=xN (w.dot d) (d.dot d) ((gJ c a).mono (by decide)) (b.mono (by decide)) e;have hI:=Ea (d.dot d) (b.mono (by decide)) e;have g:=sZ (d.dot d).inv ((rP b).mono (by decide));refine aG nf Rg mix (by simp[f61]) ?_;rw[NM.far,pc];dsimp only;rw[PQ];simp[f61,aa];refine c1 h ?_;simp[aa];refine e2 f ?_;simp[aa];refine e2 i ?_;simp[aa];refine e1 hI ?_;simp[aa];refine e1 g ?_;simp[aa]
theorem I3(p:cw)(j:iV p):au prog 121 [dm p] (.int .i64 (jd p)):=by
 have f:=yG p j;have k:bF [dL p,aY (decide (p.x=[48]/\p.y=[48])) 6]=jd p:=by
  rw[jd,bF,bF,bF,aY]
  by_cases h:dL p=0
  ·by_cases g:p.x=[48]/\p.y=[48]
   ·simp[h,g]
   ·simp[h,g]
  ·simp[h]
 refine aG nf Qh mix (by simp[f121]) ?_;rw[<-k];obtain⟨x,y⟩:=p;simp only[dm]at*;generalize dL ⟨x,y⟩=c at*;have e:∀b:Bool,decide (x=[48]/\y=[48])=b->au prog 106 [.bool b,.int .i64 6] (.int .i64 (aY b 6))/\au prog 86 [.seq [.int .i64 c,.int .i64 (aY b 6)]] (.int .i64 (bF [c,aY (decide (x=[48]/\y=[48])) 6])):=fun b i=>by
  rw[i];exact⟨vT b 6,za [c,aY b 6] (by simp)⟩
 generalize bF [c,aY (decide (x=[48]/\y=[48])) 6]=res at*
 by_cases hx:x=[48]
 ·by_cases hy:y=[48]
  ·obtain⟨d,a⟩:=e true (by simp[hx,hy]);simp[f121,aa];refine e1 f ?_;simp[aa,hx,hy];refine e2 d ?_;simp[aa];refine ep a (by simp;first|exact⟨rfl,rfl⟩|rfl) (by simp;first|exact⟨rfl,rfl⟩|rfl) ?_;simp
   repeat' first|rfl|apply ab
  ·obtain⟨d,a⟩:=e false (by simp[hx,hy]);simp[f121,aa];refine e1 f ?_;simp[aa,hx,hy];refine e2 d ?_ (h1:=by simp[hy]);simp[aa];refine ep a (by simp;first|exact⟨rfl,rfl⟩|rfl) (by simp;first|exact⟨rfl,rfl⟩|rfl) ?_;simp
   repeat' first|rfl|apply ab
 ·obtain⟨d,a⟩:=e false (by simp[hx]);simp[f121,aa];refine e1 f ?_;simp[aa,hx];refine e2 d ?_;simp[aa];refine ep a (by simp;first|exact⟨rfl,rfl⟩|rfl) (by simp;first|exact⟨rfl,rfl⟩|rfl) ?_;simp
  repeat' first|rfl|apply ab
theorem pS:∀l:List Int,bF l=0↔∀e∈l,e=0
 |[]=>by simp[bF]
 |e::r=>by
  rw[bF]
  by_cases h:e=0
  ·rw[if_pos h,pS r];simp[h]
  ·rw[if_neg h];simp[h]
theorem jw{p:cw}(h:dL p=0):b6 p.x=0/\b6 p.y=0:=by
 have:=(pS _).1 h;exact⟨this _ (by simp),this _ (by simp)⟩
theorem wX{p:cw}(h:jd p=0):dL p=0/\¬(p.x=[48]/\p.y=[48]):=by
 rw[jd]at h
 split at h
 ·cases h
 ·rename_i a;exact⟨h,fun x=>a ⟨h,x⟩⟩
def vP(p:cw):V2:=⟨bg p.x,bg p.y⟩
theorem iI(p:cw):(NV.from p).q=vP p:=rfl
theorem sq_nonneg(a:Rat):0<=a*a:=by
 rcases Rat.le_total (a:=0) (b:=a)with h|h
 ·exact dq h h
 ·have c:0<=-a:=by
   have:=Rat.neg_le_neg h
   rwa [Rat.neg_zero]at this
  have:=dq c c
  rwa [Rat.neg_mul,Rat.mul_neg,Rat.neg_neg]at this
theorem aLi{a b:Rat}(h:a*a+b*b=0):a=0/\b=0:=by
 have key:∀x y:Rat,x*x+y*y=0->x=0:=fun x y h=>by
  have c:=sq_nonneg x;have d:=sq_nonneg y;have e:x*x<=0:=by
   have f:x*x+0<=x*x+y*y:=(Rat.add_le_add_left).2 d
   rwa [Rat.add_zero,h]at f
  have g:x*x=0:=Rat.le_antisymm e c;rcases Rat.mul_eq_zero.1 g with h|h<;>exact h
 exact⟨key a b h,key b a (by rw[Rat.add_comm];exact h)⟩
theorem azU{p:cw}(h:jd p=0):(vP p).dot (vP p)≠0:=by
 obtain⟨c,d⟩:=wX h;obtain⟨e,f⟩:=jw c;intro g;obtain⟨a,b⟩:=aLi g;apply d;have e1:=(jm e).1;have e2:=(jm f).1;simp only[vP]at a b;rw[a,se]at e1;rw[b,se]at e2;exact⟨e1.symm,e2.symm⟩
def ln:PV:=.st 36 [.str [],.str [],.str []]
theorem Cf{k:Nat}{p:cw}(h:bt k (vP p)):bt k (NV.from p).q:=h
def AE:PV:=.st 124 [.int .i64 0,.aH]
def zeroV:PV:=.st 130 [.st 126 [AE,AE],.st 126 [AE,AE]]
@[simp] theorem aPV:aI zeroV=.agg 130:=rfl
def wU(p:cw):Bool:=decide (p.x.length<=40)&&decide (p.y.length<=40)&&(decide (dL p≠0)||(fh p.x 9&&fh p.y 9))
theorem arN(p:cw)(i:iV p):au prog 8 [dm p] (.bool (wU p)):=by
 have h:=yL p i;have j:=D6 p 9 i (by decide);refine aG nf Rx mix (by simp[f8]) ?_;rw[wU];obtain⟨x,y⟩:=p;simp only[dm]at*;generalize dL ⟨x,y⟩=c at*;generalize (fh x 9&&fh y 9)=f at*
 by_cases d:x.length<=40
 ·have a:(x.length:Int)<=40:=by omega
  by_cases e:y.length<=40
  ·have b:(y.length:Int)<=40:=by omega
   by_cases g:c=0
   ·simp[f8,a,b,aa];refine c1 h ?_;simp[g,aa];refine c2 j ?_;simp[d,e,g]
   ·simp[f8,a,b,aa];refine c1 h ?_;simp[d,e,g,aa]
  ·have b:¬(y.length:Int)<=40:=by omega
   simp[f8,a,b,e,aa]
 ·have a:¬(x.length:Int)<=40:=by omega
  simp[f8,a,d,aa]
theorem A6{s:List Nat}(h:fh s 9=true):br 30 (bg s):=by
 simp only[fh,am,decide_eq_true_eq]at h;have a:=Ou h.1.2;have b:=Ou h.2;exact⟨ck a (by decide),ck b (by decide)⟩
theorem Uo{p:cw}(h:wU p=true)(a:dL p=0):bt 30 (vP p):=by
 simp only[wU,a,ne_eq,not_true_eq_false,decide_false,Bool.false_or,am]at h;exact⟨A6 h.2.1,A6 h.2.2⟩
theorem Hu:prog.stoodInHeld 37=false:=by kernel_rfl
@[simp] theorem aNr:nR prog 37=true:=by kernel_rfl
def jA(a b c d e f:List Nat):Bool:=decide (a=d/\b=e/\c=f)
@[simp] theorem aNv{a b c d e f:List Nat}:gh prog 9 37 (.st 36 [.str a,.str b,.str c]) (.st 36 [.str d,.str e,.str f])=some (jA a b c d e f):=by
 have g:=underlying37;have:((a==d)&&((b==e)&&((c==f)&&true)))=jA a b c d e f:=by
  rw[jA,av];simp
 rw[<-this];simp[gh,g,Hu,ka,aI]
theorem q7{a b:Nat}{x y:NF}(h:br a x.q)(c:br b y.q):br (a+b+1) (x.add y).q:=qA h c
theorem BR{a b:Nat}{x y:NF}(h:br a x.q)(c:br b y.q):br (a+b+1) (x.sub y).q:=by rw[NF.fu];exact jW h c
theorem eZ{a b:Nat}{x y:NF}(h:br a x.q)(c:br b y.q):br (a+b) (x.mul y).q:=cW h c
theorem yw{a:Nat}{x:NF}(h:br a x.q):br a (x.neg).q:=qp h
theorem yy(s:NS)(hs:fN 8000 s):au prog 135 [fD s] (.int .i64 (gv s.q)):=by
 have g:=l8 s.a;have h:=l8 s.b;have i:=l8 s.d;have l:=ft s.a s.a (hs.1.mono (by decide)) (hs.1.mono (by decide));have m:=ft s.b s.b (hs.2.1.mono (by decide)) (hs.2.1.mono (by decide));have n:=ft (s.b.mul s.b) s.d ((eZ hs.2.1 hs.2.1).mono (by decide)) (hs.2.2.mono (by decide));have p:=qB (s.a.mul s.a) ((s.b.mul s.b).mul s.d) ((eZ hs.1 hs.1).mono (by decide)) ((eZ (eZ hs.2.1 hs.2.1) hs.2.2).mono (by decide));have q1:gv s.q=lJ (bX s.a.q) (bX s.b.q*bX s.d.q) (dA (s.a.mul s.a).q ((s.b.mul s.b).mul s.d).q):=rfl;rw[q1];rw[show(if s.a.q<0 then(-1:Int)else if s.a.q=0 then 0 else 1)=bX s.a.q from rfl]at g;rw[show(if s.b.q<0 then(-1:Int)else if s.b.q=0 then 0 else 1)=bX s.b.q from rfl]at h;rw[show(if s.d.q<0 then(-1:Int)else if s.d.q=0 then 0 else 1)=bX s.d.q from rfl]at i;have e:=kt s.a.q;have f:=ky (kt s.b.q) (kt s.d.q);have k:=EP (s.a.mul s.a).q ((s.b.mul s.b).mul s.d).q;have w1:=ku f;refine aG nf HJ mix (by simp[f135]) ?_;clear q1;generalize dA (s.a.mul s.a).q ((s.b.mul s.b).mul s.d).q=o at*;generalize bX s.a.q=x at*;generalize bX s.b.q=y1 at*;generalize bX s.d.q=y2 at*;have j:=ku (ky e f);have r:=ku (ky e k);simp[f135,aa,-aW];rw[aW];simp[-aW,aa];rw[aW];simp[-aW,aa];refine e1 g ?_;simp[aa];refine e1 h ?_;simp[aa];refine e1 i ?_;simp[aa,w1];generalize y1*y2=y at*;rw[lJ]
 by_cases c2:x=0
 ·subst c2;rw[if_pos (by omega),if_pos rfl];simp[aa]
 ·by_cases c:0<=x*y
  ·rw[if_pos c,if_neg c2];simp[c,c2,j,aa]
  ·rw[if_neg c];simp[c,c2,j,aa];refine e2 l ?_;simp[aa];refine e2 m ?_;simp[aa];refine e2 n ?_;simp[aa];refine e2 p ?_;simp[aa,r]
structure NB where
 a:NV
 b:NV
 d:NF
noncomputable def qI(n:NB):PV:=.st 146 [cO n.a,cO n.b,eF n.d]
@[simp] theorem aPp(n:NB):aI (qI n)=.agg 146:=rfl
@[simp] theorem aNP(n:NB):bW (qI n)=[cO n.a,cO n.b,eF n.d]:=rfl
theorem xM(a b:NV)(d:NF):qI ⟨a,b,d⟩=.st 146 [cO a,cO b,eF d]:=rfl
def NB.q(n:NB):P4:=⟨⟨n.a.x.q,n.b.x.q,n.d.q⟩,⟨n.a.y.q,n.b.y.q,n.d.q⟩⟩
def okB(k:Nat)(n:NB):Prop:=bt k n.a.q/\bt k n.b.q/\br k n.d.q
theorem okB.mono{k l:Nat}{n:NB}(h:okB k n)(a:k<=l):okB l n:=⟨h.1.mono a,h.2.1.mono a,h.2.2.mono a⟩
def NB.sx(n:NB):NS:=⟨n.a.x,n.b.x,n.d⟩
def NB.sy(n:NB):NS:=⟨n.a.y,n.b.y,n.d⟩
def Bn(p:P4):Bool:=nS p.x||nS p.y
def uV:PV:=.st 48 [ln,ln]
theorem ZI(n:NB)(h:okB kB n):au prog 67 [qI n] (if Bn n.q=true then .aC [uV,.int .i64 4]else .aC [pf n.q,.int .i64 0]):=by
 have f:fN kB n.sx:=⟨h.1.1,h.2.1.1,h.2.2⟩
 have g:fN kB n.sy:=⟨h.1.2,h.2.1.2,h.2.2⟩
 have a:=EI n.sx f;have b:=EI n.sy g;have c:=EO n.sx f;have e:=EO n.sy g;rw[show n.sx.q=n.q.x from rfl]at a c;rw[show n.sy.q=n.q.y from rfl]at b e;rw[NB.sx,pc]at a c;rw[NB.sy,pc]at b e;refine aG nf Rm mix (by simp[f67]) ?_;obtain⟨⟨i,j⟩,⟨bx,k⟩,d⟩:=n;rw[Bn,uV,ln,pf];generalize (NB.q ⟨⟨i,j⟩,⟨bx,k⟩,d⟩)=p at*;dsimp only at*;clear f g h;cases hx:nS p.x
 ·cases hy:nS p.y
  ·rw[hx]at a;rw[hy]at b;simp[f67,aa,xM,oR];refine⟨by repeat' first|rfl|apply ab,?_⟩;refine c1 a ?_;simp[aa];refine c1 b ?_;simp[aa];refine e1 c ?_;simp[aa];refine e1 e ?_;simp[aa]
  ·rw[hx]at a;rw[hy]at b;simp[f67,aa,xM,oR];refine⟨by repeat' first|rfl|apply ab,?_⟩;refine c1 a ?_;simp[aa];refine c1 b ?_;simp[aa]
 ·rw[hx]at a;simp[f67,aa,xM,oR];refine⟨by repeat' first|rfl|apply ab,?_⟩;refine c1 a ?_;simp[aa]
theorem Qm(e:Int):∀l:List Int,bF (l++[e])=if bF l=0 then e else bF l
 |[]=>by by_cases h:e=0<;>simp[bF,h]
 |x::l=>by
  simp only[List.cons_append,bF,Qm e l]
  by_cases hx:x=0
  ·simp[hx]
  ·simp[hx]
@[simp] theorem aNp:nR prog 58=true:=by kernel_rfl
theorem aLg:prog.stoodInHeld 58=false:=by kernel_rfl
theorem A9{n:Nat}{a b c d e f:List Nat}:gh prog (n+2) 37 (.st 36 [.str a,.str b,.str c]) (.st 36 [.str d,.str e,.str f])=some (jA a b c d e f):=by
 have g:=underlying37;have:((a==d)&&((b==e)&&((c==f)&&true)))=jA a b c d e f:=by
  rw[jA,av];simp
 rw[<-this];simp[gh,g,Hu,ka,aI]
@[simp] theorem aNt{a b c d e f a' b' c' d' e' g:List Nat}:gh prog 9 58 (.st 48 [.st 36 [.str a,.str b,.str c],.st 36 [.str d,.str e,.str f]]) (.st 48 [.st 36 [.str a',.str b',.str c'],.st 36 [.str d',.str e',.str g]])=some (jA a b c a' b' c'&&jA d e f d' e' g):=by
 have j:=underlying58;have h:=A9 (n:=6) (a:=a) (b:=b) (c:=c) (d:=a') (e:=b') (f:=c');have i:=A9 (n:=6) (a:=d) (b:=e) (c:=f) (d:=d') (e:=e') (f:=g);rw[show(6+2:Nat)=8 from rfl]at h i;rw[gh]
 case heq=>exact j
 simp[aLg,ka,h,i,aI]
def gV{α:Type}(a:List α->α->Int)(l:List α)(i:Nat):Int:=match l[i]? with
 |some x=>a (l.take i) x
 |none=>0
def kO{α:Type}(a:List α->α->Int)(l:List α):Int:=bF ((b1 l.length).map (gV a l))
theorem FV{f:Nat->Int}:∀(n i:Nat),(∀j,j<i->f j=0)->i<n->f i≠0->bF ((b1 n).map f)=f i
 |0,i,_,h,_=>by omega
 |n+1,i,a,g,b=>by
  rw[b2,List.map_append,List.map_cons,List.map_nil,Qm]
  by_cases hi:i<n
  ·rw[FV n i a hi b,if_neg b]
  ·have:i=n:=by omega
   subst this;rw[(pS _).2 (by intro e c;obtain⟨j,d,rfl⟩:=bw.1 c;exact a j (bo.1 d)),if_pos rfl]
theorem tH{α:Type}{a:List α->α->Int}{l:List α}{i:Nat}{x:α}(h:∀j,j<i->gV a l j=0)(hx:l[i]?=some x)(b:a (l.take i) x≠0):kO a l=a (l.take i) x:=by
 have hi:=(List.getElem?_eq_some_iff.1 hx).1;have e:gV a l i=a (l.take i) x:=by rw[gV,hx]
 rw[kO,FV _ i h hi (by rw[e];exact b),e]
theorem pC{α:Type}{b:List α->α->Int}{l:List α}:kO b l=0↔∀j,j<l.length->gV b l j=0:=by
 rw[kO,pS];constructor
 ·intro h j a;exact h _ (bw.2 ⟨j,bo.2 a,rfl⟩)
 ·intro h e c;obtain⟨j,a,rfl⟩:=bw.1 c;exact h j (bo.1 a)
theorem tG{α:Type}{a:List α->α->Int}{l:List α}{i:Nat}{x:α}(h:∀j,j<i->gV a l j=0)(hx:l[i]?=some x)(c:a (l.take i) x=0):∀j,j<i+1->gV a l j=0:=by
 intro j d
 by_cases b:j=i
 ·subst b;rw[gV,hx];exact c
 ·exact h j (by omega)
def jE(t:aw)(bef:List cL)(s:cL):Int:=
 if isName s.name=false then 8
 else if bef.any (fun o=>decide (o.name=s.name))=true then 9
 else if dL s.pt≠0 then dL s.pt
 else if t.on (vP s.pt)<0 then 16 else 0
def ij(t:aw):Int:=
 if t.cs.length<3 then 2
 else if 12<t.cs.length then 5
 else if t.cs.any gl=true then 3
 else if t.fX=false then 15
 else if t.ba<1\/1000<t.ba then 3
 else if 12<t.bn.length then 5
 else if kO (iW t.cs.length) t.bn≠0 then kO (iW t.cs.length) t.bn
 else if 256<t.an.length then 5
 else kO (jE t) t.an
def nT(p:cL):Prop:=jB p.name/\iV p.pt
def aw.sp(t:aw)(i:Nat):cL:=t.an.getD i ⟨[],⟨[],[]⟩⟩
@[simp] theorem aw.lK{t:aw}{i:Nat}(h:i<t.an.length):t.an[i]'h=t.sp i:=by
 rw[aw.sp,be,a9 h];rfl
theorem aw.et{t:aw}{i:Nat}(h:i<t.an.length):t.an[i]?=some (t.sp i):=by rw[a9 h,aw.lK]
structure jr(t:aw):Prop where
 cl:t.cs.length<=1000000
 pl:t.bn.length<=1000000
 sl:t.an.length<=1000000
 pk:∀p∈t.bn,tv p
 sp:∀s∈t.an,nT s
def jk(t:aw)(name:List Nat):Int:=match t.an.findIdx? (fun s=>decide (s.name=name))with
 |some i=>i
 |none=>-1
theorem Gb{n:Nat}{c:List dV}{p:dV}(h:iW n c p=0):b6 p.a=0/\b6 p.b=0:=by
 rw[iW]at h
 split at h
 ·omega
 split at h
 ·omega
 split at h
 ·omega
 split at h
 ·contradiction
 split at h
 ·contradiction
 rename_i d e;exact⟨Decidable.not_not.1 d,Decidable.not_not.1 e⟩
theorem Z2(t:aw)(name:List Nat)(h:t.an.length<=1000000):au prog 205 [cC t,.str name] (.int .i64 (jk t name)):=by
 refine aG nf Ia mix (by simp[f205]) ?_;simp[f205,aa];refine lp (α:=Nat) (fun i=>⟨[(5,.p (.int .i64 i)),(2,.ptr 0 []),(1,.p (.str name))],[.box false (.p (cC t))]⟩) (fun i=>i<=t.an.length/\∀j,j<i->¬(t.sp j).name=name) (fun i=>t.an.length-i) 0 (by simp) ?_;rintro i ⟨g,c⟩
 by_cases hi:i<t.an.length
 ·have d:=aw.et hi;have f:=ct (i:=i) (by omega)
  by_cases a:(t.sp i).name=name
  ·have:jk t name=i:=by
    have:t.an.findIdx? (fun s=>decide (s.name=name))=some i:=by
     rw[bl];refine⟨hi,by rw[aw.lK];simp[a],fun j b=>?_⟩;rw[aw.lK];simp[c j b]
    rw[jk,this]
   simp[hi,d,a,this,aa]
  ·simp[hi,d,a,f,aa];exact rd (i+1) ⟨hi,fun j b=>by
    by_cases e:j=i
    ·subst e;exact a
    ·exact c j (by omega)⟩
 ·have:i=t.an.length:=by omega
  subst this;have:jk t name= -1:=by
   have:t.an.findIdx? (fun s=>decide (s.name=name))=none:=by
    rw[bv];intro s hs;obtain⟨j,b,rfl⟩:=b0.1 hs;rw[aw.lK];simp[c j b]
   rw[jk,this]
  simp[this,aa]
theorem aLh{t:aw}{i:Nat}(hi:i<t.an.length):jk t (t.sp i).name<i↔(t.an.take i).any (fun o=>decide (o.name=(t.sp i).name))=true:=by
 obtain⟨k,hk⟩:∃k,t.an.findIdx? (fun s=>decide (s.name=(t.sp i).name))=some k:=by
  cases h:t.an.findIdx? (fun s=>decide (s.name=(t.sp i).name))with
  |some k=>exact⟨k,rfl⟩
  |none=>
   rw[bv]at h;have:=h _ (bb (aw.et hi));simp at this
 rw[jk,hk];rw[bl]at hk;obtain⟨k1,k2,k3⟩:=hk;rw[bf];constructor
 ·intro h;have h:k<i:=by simp only at h;omega
  exact⟨t.an[k],bb (i:=k) (by rw[bi,if_pos h,a9 k1]),k2⟩
 ·rintro⟨o,b,a⟩;obtain⟨j,c,rfl⟩:=b0.1 b;simp only[List.length_take]at c;simp only;rw[List.getElem_take]at a;have:¬j<k:=fun d=>by
   have:=k3 j d;rw[a]at this;simp at this
  omega
theorem SR(t:aw)(L:jr t):au prog 113 [cC t] (.int .i64 (ij t)):=by
 obtain⟨s,M,N,J,K⟩:=L;refine aG nf G9 mix (by simp[f113]) ?_;rw[ij]
 by_cases c1:t.cs.length<3
 ·have cI:(t.cs.length:Int)<3:=by omega
  rw[if_pos c1];simp[f113,aa,cI]
 have v:¬(t.cs.length:Int)<3:=by omega
 rw[if_neg c1]
 by_cases c2:12<t.cs.length
 ·have cI:(12:Int)<t.cs.length:=by omega
  rw[if_pos c2];simp[f113,aa,v,cI]
 have A:¬(12:Int)<t.cs.length:=by omega
 rw[if_neg c2];simp[f113,aa,v,A];refine lp (α:=Nat) (fun i=>⟨[(3,.p (.int .i64 i)),(1,.ptr 0 [])],[.box false (.p (cC t))]⟩) (fun i=>i<=t.cs.length/\(t.cs.take i).any gl=false) (fun i=>t.cs.length-i) 0 (by simp) ?_;rintro i ⟨i1,i2⟩
 by_cases hi:i<t.cs.length
 ·have k:=aw.get hi;have f:=ct (i:=i) (by omega);have l:=acH (t.at i);cases hf:gl (t.at i)
  ·rw[hf]at l;simp[hi,k,aa];refine Go.ak.c1 l ?_;simp[f,aa];exact rd (i+1) ⟨hi,by rw[vC k,i2,hf];rfl⟩
  ·rw[hf]at l;have:t.cs.any gl=true:=bf.2 ⟨t.at i,bb k,hf⟩;rw[if_pos this];simp[hi,k,aa];refine Go.ak.c1 l ?_;simp[aa]
 have:i=t.cs.length:=by omega
 subst this;rw[List.take_length]at i2;have x:∀p∈t.cs,dW p:=fun p I=>F7 (by
  cases h:gl p
  ·rfl
  ·rw[bf.2 ⟨p,I,h⟩]at i2;cases i2)
 have E:=Tz t s x;rw[i2,if_neg (by decide)];simp[aa];refine Go.ak.c1 E ?_;cases R:t.fX
 ·simp[aa]
 rw[if_neg (by decide)];have u:(t.ba<1\/1000<t.ba)\/(¬t.ba<1/\¬1000<t.ba):=by omega
 rcases u with u|⟨y,z⟩
 ·rw[if_pos u]
  by_cases e1:t.ba<1
  ·simp[e1,aa]
  ·have e2:1000<t.ba:=by omega
   simp[e1,e2,aa]
 rw[if_neg (by omega)]
 by_cases c3:12<t.bn.length
 ·have cI:(12:Int)<t.bn.length:=by omega
  rw[if_pos c3];simp[y,z,cI,aa]
 have B:¬(12:Int)<t.bn.length:=by omega
 rw[if_neg c3];simp[y,z,B,aa];refine lp (α:=Nat) (fun i=>⟨[(4,.p (.int .i64 i)),(1,.ptr 0 [])],[.box false (.p (cC t))]⟩) (fun i=>i<=t.bn.length/\∀j,j<i->gV (iW t.cs.length) t.bn j=0) (fun i=>t.bn.length-i) 0 (by simp) ?_;rintro i ⟨k1,k2⟩
 by_cases hk:i<t.bn.length
 ·have gk:=aw.mg hk;have f:=ct (i:=i) (by omega);have b:=SV t i hk M s J (fun j H=>by
   have:=k2 j H;rw[gV,aw.mg (by omega)]at this;exact Gb this)
  by_cases he:iW t.cs.length (t.bn.take i) (t.pk i)=0
  ·rw[he]at b;simp[hk,aa];refine Go.ak.c2 b ?_;simp[f,aa];exact rd (i+1) ⟨hk,tG k2 gk he⟩
  ·have G:=tH k2 gk he;rw[G,if_pos he];simp[hk,aa];refine Go.ak.c2 b ?_;simp[he,aa]
 have:i=t.bn.length:=by omega
 subst this;have F:=pC.2 k2;rw[F,if_neg (by decide)]
 by_cases c4:256<t.an.length
 ·have cI:(256:Int)<t.an.length:=by omega
  rw[if_pos c4];simp[cI,aa]
 have C:¬(256:Int)<t.an.length:=by omega
 rw[if_neg c4];simp[C,aa];refine lp (α:=Nat) (fun i=>⟨[(6,.p (.int .i64 i)),(1,.ptr 0 [])],[.box false (.p (cC t))]⟩) (fun i=>i<=t.an.length/\∀j,j<i->gV (jE t) t.an j=0) (fun i=>t.an.length-i) 0 (by simp) ?_;rintro i ⟨s1,s2⟩
 by_cases hs:i<t.an.length
 ·have a:=aw.et hs;have f:=ct (i:=i) (by omega);obtain⟨P,Q⟩:=K _ (bb a);have c:=BL (t.sp i).name P.1;have m:=Z2 t (t.sp i).name N;have b:=yL (t.sp i).pt Q;have w:=aLh hs;have g:jE t (t.an.take i) (t.sp i)≠0->kO (jE t) t.an=jE t (t.an.take i) (t.sp i):=tH s2 a;have O:jE t (t.an.take i) (t.sp i)=0->∀j,j<i+1->gV (jE t) t.an j=0:=tG s2 a;have ev:jE t (t.an.take i) (t.sp i)=if isName (t.sp i).name=false then 8 else if(t.an.take i).any (fun o=>decide (o.name=(t.sp i).name))=true then 9 else if dL (t.sp i).pt≠0 then dL (t.sp i).pt else if t.on (vP (t.sp i).pt)<0 then 16 else 0:=rfl
  cases n:isName (t.sp i).name
  ·rw[n]at c;rw[n,if_pos rfl]at ev;rw[g (by rw[ev];decide),ev];simp[hs,a,aa];refine Go.ak.c1 c ?_;simp[aa]
  rw[n]at c;rw[n,if_neg (by decide)]at ev
  by_cases e:jk t (t.sp i).name<i
  ·rw[if_pos (w.1 e)]at ev;rw[g (by rw[ev];decide),ev];simp[hs,a,aa];refine Go.ak.c1 c ?_;simp[aa];refine Go.ak.c2 m ?_;simp[e,aa]
  rw[if_neg (fun h=>e (w.2 h))]at ev
  by_cases d:dL (t.sp i).pt=0
  case neg=>
   rw[if_pos d]at ev;rw[g (by rw[ev];exact d),ev];simp[hs,a,aa];refine Go.ak.c1 c ?_;simp[aa];refine Go.ak.c2 m ?_;simp[e,aa];refine Go.ak.c1 b ?_;simp[d,aa]
  rw[if_neg (by simp[d])]at ev;obtain⟨g1,g2⟩:=jw d;have r:=Qt t (vP (t.sp i).pt) s x ⟨(gU g1).mono (by decide),(gU g2).mono (by decide)⟩;have D:eV (vP (t.sp i).pt)=dm (t.sp i).pt:=by
   rw[eV,vP];dsimp only;rw[(jm g1).1,(jm g2).1]
  rw[D]at r;rw[d]at b
  by_cases q:t.on (vP (t.sp i).pt)<0
  ·rw[if_pos q]at ev;rw[g (by rw[ev];decide),ev];simp[hs,a,aa];refine Go.ak.c1 c ?_;simp[aa];refine Go.ak.c2 m ?_;simp[e,aa];refine Go.ak.c1 b ?_;simp[aa];refine Go.ak.c2 r ?_;simp[q,aa]
  ·rw[if_neg q]at ev;simp[hs,a,aa];refine Go.ak.c1 c ?_;simp[aa];refine Go.ak.c2 m ?_;simp[e,aa];refine Go.ak.c1 b ?_;simp[aa];refine Go.ak.c2 r ?_;simp[q,f,aa];exact rd (i+1) ⟨hs,O ev⟩
 ·have:i=t.an.length:=by omega
  subst this;rw[pC.2 s2];simp[aa]
end Go.ak
