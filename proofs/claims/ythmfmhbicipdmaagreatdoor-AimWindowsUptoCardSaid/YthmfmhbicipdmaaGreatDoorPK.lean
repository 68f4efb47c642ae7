import Derived.Test.YthmfmhbicipdmaaGreatDoorPH
import Derived.Test.YthmfmhbicipdmaaGreatDoorPJ
/- Parts of a proof. -/
set_option linter.unusedSimpArgs false
set_option linter.unusedVariables false
set_option linter.unusedSectionVars false
open Go.Proofs.Tryz
open Bool renaming cond_eq_ite->ab, and_eq_true->ac, or_eq_true->am
open Go renaming DataW->ao, Field->ap
open Go.IntKind renaming i64->av
open Go.Utf8 renaming decode->ax
open Int renaming natCast_mul->ay, tmod_eq_emod_of_nonneg->aT, natCast_nonneg->a4, tdiv_eq_ediv_of_nonneg->a5, negSucc->a6, natCast_emod->a7, natCast_one->a8, natAbs_mul->a9, mul_nonneg->bb, ediv_one->be
open List renaming getElem?_eq_getElem->bi, mem_of_getElem?->bl, getD_eq_getElem?_getD->bo, any_eq_true->bp, map_cons->bv, zip_cons_cons->bI, zip_nil_left->bV, map_nil->b2, getElem?_take->b3, findIdx?_eq_some_iff_getElem->b4, mem_map->b5, mem_range->cb, findIdx?_eq_none_iff->cc, drop_eq_getElem_cons->ce, mem_iff_getElem->ch, range->ck, range_succ->cv, mem_cons->cx
open Nat renaming eq_of_beq_eq_true->cy, beq->c6, mul_ne_zero->c9, blt->da, blt_eq->db, gcd->dg, mul_le_mul->dk, zero_le->dl, lt_of_lt_of_le->dp, lt_trans->dq, div_one->dz
open Option.some renaming injEq->ea
open Rat renaming divInt->eb, divInt_mul_divInt->ec, div_def->ed, sub_add_cancel->ee, zero_add->ei, divInt_add_divInt->ej, add_lt_add_right->en, divInt_eq_div->eo, neg_divInt->eq, inv_divInt->ew
namespace Go.ah
open Go.Proofs
set_option maxHeartbeats 4000000
set_option maxRecDepth 100000
namespace Hk
def lg:Nat:=9223372036854775808
def zL:Nat:=1606938044258990275541962092341162602522202993782792835301376
def qu{α:Type}(n:Nat)(f:Nat->α):α:=match n with
 |0=>f 0
 |k+1=>f (k+1)
theorem wz{α:Type}(n:Nat)(f:Nat->α):qu n f=f n:=by cases n<;>rfl
def AM{α:Type}(z:Int)(f:Int->α):α:=match z with
 | .ofNat n=>qu n fun n=>f (.ofNat n)
 | .negSucc n=>qu n fun n=>f (.negSucc n)
theorem N4{α:Type}(z:Int)(f:Int->α):AM z f=f z:=by cases z<;>simp[AM,wz]
def qC:Int->Bool
 | .ofNat n=>da n lg
 | .negSucc n=>da (n+1) lg
theorem Dn{z:Int}:qC z=true↔z.natAbs<9223372036854775808:=by
 cases z with
 |ofNat n=>simp only[qC,db,lg];exact Iff.rfl
 |negSucc n=>simp only[qC,db,lg];exact Iff.rfl
def oX:Int->Int->Bool
 | .ofNat a,.ofNat b=>c6 a b
 | .negSucc a,.negSucc b=>c6 a b
 |_,_=>false
theorem zW:∀{a b:Int},oX a b=true->a=b
 | .ofNat a,.ofNat b,h=>by simp only[oX]at h;rw[cy h]
 | .negSucc a,.negSucc b,h=>by simp only[oX]at h;rw[cy h]
 | .ofNat a,.negSucc b,h=>by simp[oX]at h
 | .negSucc a,.ofNat b,h=>by simp[oX]at h
def uE(z:Int):Option PV:=bif qC z then some (fc z)else bif c6 z.natAbs lg then none else some (ld z)
theorem zw{z:Int}{p:PV}(h:uE z=some p)(m:Bool):eI ⟨z,m⟩=p:=by
 unfold uE at h;rw[jv];rcases hs:qC z with _|_
 ·simp only[hs,cond_false]at h;rcases a:c6 z.natAbs lg with _|_
  case true=>rw[a]at h;cases h
  ·have c:¬c6 z.natAbs lg=true:=by rw[a];decide
   rw[a,cond_false]at h;simp only[ea]at h;have b:¬z.natAbs<9223372036854775808:=fun h=>by rw[Dn.2 h]at hs;cases hs
   have d:z.natAbs≠9223372036854775808:=fun e=>c (by rw[e];rfl);rw[if_neg,h];simp only[NI.sm,am,decide_eq_true_eq,ac,not_or,not_and];exact⟨by omega,fun h=>by omega⟩
 ·simp only[hs,cond_true,ea]at h;have b:=Dn.1 hs;rw[if_pos,h];simp only[NI.sm,am,decide_eq_true_eq,ac];exact .inl (by omega)
def xH:List PV->Option (List Nat)
 |[]=>some []
 | .int .u64 (.ofNat x)::r=>match xH r with
  |some l=>some (x::l)
  |none=>none
 |_=>none
theorem OT:∀{l:List PV}{a:List Nat},xH l=some a->l=a.map fun x:Nat=>PV.int .u64 x
 |[],a,h=>by simp only[xH,ea]at h;subst h;rfl
 |v::r,a,h=>by
  unfold xH at h
  split at h
  ·rename_i e;cases e
  ·rename_i x c e;cases e
   split at h
   ·rename_i l b;simp only[ea]at h;subst h;rw[OT b];rfl
   ·cases h
  ·cases h
def sP:List Nat->List Nat->Bool
 |[],[]=>true
 |x::a,y::b=>bif c6 x y then sP a b else false
 |_,_=>false
theorem Dj:∀{a b:List Nat},sP a b=true->a=b
 |[],[],_=>rfl
 |[],_::_,h=>by simp[sP]at h
 |_::_,[],h=>by simp[sP]at h
 |x::a,y::b,h=>by
  simp only[sP,ab]at h
  split at h
  ·rename_i hx;rw[cy hx,Dj h]
  ·cases h
def AH:PV->Option Int
 | .st u [.int .i64 z,.aP]=>bif c6 u 124 then(bif qC z then some z else none)else none
 | .st u [.int .i64 s,.seq l]=>match xH l with
  |some a=>qu (je wB a) fun n=>bif c6 u 124&&(da lg n&&sP (aB wB n) a)then
   (bif oX s 1 then some (.ofNat n)else bif oX s (-1)then some (.negSucc (n-1))else none)else none
  |none=>none
 |_=>none
theorem N7{p:PV}{z:Int}(h:AH p=some z):p=eI ⟨z,false⟩:=by
 unfold AH at h
 split at h
 ·rename_i u y;simp only[ab]at h
  split at h
  ·rename_i g
   split at h
   ·rename_i hs;simp only[ea]at h;subst h;rw[cy g];exact(zw (by rw[uE,hs];rfl) false).symm
   ·cases h
  ·cases h
 ·rename_i u s l
  split at h
  ·rename_i i f;rw[wz]at h;have e:=OT f;generalize je wB i=n at h;simp only[ab]at h
   split at h
   ·rename_i hc;simp only[ac,db]at hc;obtain⟨b,j,c⟩:=hc;have d:=Dj c;have k:lg=9223372036854775808:=rfl;rw[cy b,e,<-d];have key:∀z:Int,z.natAbs=n->eI ⟨z,false⟩=ld z:=fun z m=>by
     refine zw ?_ false;have e1:qC z=false:=by
      rcases a:qC z with _|_
      ·rfl
      ·have:=Dn.1 a;omega
     have e2:c6 z.natAbs lg=false:=by
      rcases a:c6 z.natAbs lg with _|_
      ·rfl
      ·have:=cy a;omega
     rw[uE,e1,e2];rfl
    split at h
    ·rename_i hs;simp only[ea]at h;subst h;rw[zW hs,key _ rfl,ld,if_neg (by show¬((n:Int)<0);omega)];rfl
    ·split at h
     ·rename_i hs;simp only[ea]at h;subst h;rw[zW hs,key _ (by show n-1+1=n;omega),ld,if_pos (by omega)];have:(a6 (n-1)).natAbs=n:=by show n-1+1=n;omega
      rw[this];rfl
     ·cases h
   ·cases h
  ·cases h
 ·cases h
def Fi(n:Int)(d:Nat):Bool:=da 0 d&&(da n.natAbs zL&&(da d zL&&c6 (dg n.natAbs d) 1))
def qp:PV->Option (Int×Nat)
 | .st u [a,b]=>match AH a,AH b with
  |some n,some (.ofNat d)=>bif c6 u 126&&Fi n d then some (n,d)else none
  |_,_=>none
 |_=>none
def fr(n:Int)(d:Nat):NF:=⟨eb n d,false⟩
theorem W6:zL=2^200:=by decide
theorem Dp{p:PV}{n:Int}{d:Nat}(h:qp p=some (n,d)):p=eF (fr n d)/\d≠0/\bE kB (fr n d).q:=by
 unfold qp at h
 split at h
 case h_2=>cases h
 rename_i u a b
 split at h
 case h_2=>cases h
 rename_i c d' g i;simp only[ab]at h
 split at h
 case isFalse=>cases h
 rename_i hc;simp only[ea,Prod.mk.injEq]at h;obtain⟨rfl,rfl⟩:=h;simp only[Fi,ac,db]at hc;obtain⟨c1,c2,c3,c4,c5⟩:=hc;have f:=cy c5;have e:d'≠0:=by omega
 obtain⟨e1,e2⟩:=mf (n:=c) e;rw[f]at e1 e2;simp only[a8,be,dz]at e1 e2;rw[W6]at c3 c4;refine⟨?_,e,(zD e c3 c4).mono (by decide)⟩;rw[cy c1,N7 g,N7 i,eF];have g1:(fr c d').num=⟨c,false⟩:=by rw[NF.num,fr,e1]
 have g2:(fr c d').den=⟨(d':Int),false⟩:=by rw[NF.den,fr,e2];rfl
 rw[g1,g2];rfl
def nE(n:Int)(d:Nat):Option PV:=
 qu (dg n.natAbs d) fun g=>AM (n/g) fun n=>qu (d/g) fun d=>match uE n,uE (.ofNat d)with
  |some a,some b=>some (.st 126 [a,b])
  |_,_=>none
theorem pQ{n:Int}{d:Nat}{p:PV}(f:d≠0)(h:nE n d=some p)(m:Bool):p=eF ⟨eb n d,m⟩:=by
 obtain⟨e1,e2⟩:=mf (n:=n) f;simp only[nE,wz,N4]at h
 split at h
 case h_2=>cases h
 rename_i a b c e;simp only[ea]at h;subst h;rw[eF];have g1:(NF.num ⟨eb n d,m⟩)=⟨n/(dg n.natAbs d:Nat),m⟩:=by rw[NF.num,e1]
 have g2:(NF.den ⟨eb n d,m⟩)=⟨((d/dg n.natAbs d:Nat):Int),false⟩:=by rw[NF.den,e2];rfl
 rw[g1,g2,zw c,<-zw e false];rfl
def two(op:Int->Nat->Int->Nat->Option PV)(a b:PV):Option PV:=match qp a,qp b with
 |some (n,d),some (m,e)=>op n d m e
 |_,_=>none
theorem wE{op:Int->Nat->Int->Nat->Option PV}{a b p:PV}(h:two op a b=some p):
 ∃n d m e,a=eF (fr n d)/\b=eF (fr m e)/\d≠0/\e≠0/\bE kB (fr n d).q/\bE kB (fr m e).q/\op n d m e=some p:=by
 unfold two at h
 split at h
 case h_2=>cases h
 rename_i n d m e g i;obtain⟨a1,a2,a3⟩:=Dp g;obtain⟨b1,c,f⟩:=Dp i;exact⟨n,d,m,e,a1,b1,a2,c,a3,f,h⟩
def R8(n:Int)(d:Nat)(m:Int)(e:Nat):Option PV:=nE (n*e+m*d) (d*e)
def Sa(n:Int)(d:Nat)(m:Int)(e:Nat):Option PV:=nE (n*e-m*d) (d*e)
def R9(n:Int)(d:Nat)(m:Int)(e:Nat):Option PV:=nE (n*m) (d*e)
def A7:Int->Int
 | .ofNat n=>bif c6 n 0 then 0 else 1
 | .negSucc _=>-1
theorem Ng(z:Int):A7 z=if z<0 then -1 else if z=0 then 0 else 1:=by
 cases z with
 |ofNat n=>
  rw[if_neg (by simp)];cases n with
  |zero=>rfl
  |succ n=>rw[if_neg (by simp;omega)];rfl
 |negSucc n=>rw[if_pos (by omega)];rfl
def Ff(n:Int)(d:Nat)(m:Int)(e:Nat):Option PV:=some (.int .i64 (A7 (n*e-m*d)))
def AW(n:Int)(d:Nat)(m:Int)(e:Nat):Option PV:=match m with
 | .ofNat k=>bif c6 k 0 then none else nE (n*e) (d*k)
 | .negSucc k=>nE (-(n*e)) (d*(k+1))
theorem uz{d:Nat}(h:d≠0):(d:Int)≠0:=by omega
theorem apV{n m:Int}{d e:Nat}{p:PV}(a:d≠0)(b:e≠0)(h:R8 n d m e=some p):p=eF ((fr n d).add (fr m e)):=by
 rw[NF.add,fr,fr];dsimp only;rw[ej _ _ (uz a) (uz b)];have:=pQ (c9 a b) h;rw[ay]at this;exact this _
theorem arN{n m:Int}{d e:Nat}{p:PV}(a:d≠0)(b:e≠0)(h:Sa n d m e=some p):p=eF ((fr n d).sub (fr m e)):=by
 rw[NF.sub,NF.add,NF.neg,fr,fr];dsimp only;rw[eq,ej _ _ (uz a) (uz b)];have:=pQ (c9 a b) h;rw[ay]at this;rw[Int.neg_mul,<-Int.sub_eq_add_neg];exact this _
theorem arE{n m:Int}{d e:Nat}{p:PV}(a:d≠0)(b:e≠0)(h:R9 n d m e=some p):p=eF ((fr n d).mul (fr m e)):=by
 rw[NF.mul,fr,fr];dsimp only;rw[ec];have:=pQ (c9 a b) h;rw[ay]at this;exact this _
theorem Zn(x y:Rat):dC x y=if x-y<0 then -1 else if x-y=0 then 0 else 1:=by
 have b:x-y<0↔x<y:=by
  constructor
  ·intro h;have a:=(en (c:=y)).2 h
   rwa [ee,ei]at a
  ·intro h;refine(en (c:=y)).1 ?_
   rwa [ee,ei]
 have a:x-y=0↔x=y:=by
  constructor
  ·intro h;have d:=congrArg (·+y) h
   simpa[ee,ei]using d
  ·intro h;rw[h,Rat.sub_self]
 simp only[dC,b,a]
theorem CD(n:Int){d:Nat}(f:d≠0):(if eb n d<0 then(-1:Int)else if eb n d=0 then 0 else 1)=A7 n:=by
 rw[D2,Ng];obtain⟨e1,-⟩:=mf (n:=n) f;have j:0<dg n.natAbs d:=Nat.gcd_pos_of_pos_right _ (by omega);have i:((dg n.natAbs d:Nat):Int)∣n:=by
  rw[Int.ofNat_dvd_left];exact Nat.gcd_dvd_left _ _
 obtain⟨c,hc⟩:=i;rw[e1];generalize dg n.natAbs d=g at*;have a:(0:Int)<g:=by omega
 subst hc;rw[Int.mul_ediv_cancel_left _ (by omega)];have a1:(g:Int)*c<0↔c<0:=by
  constructor
  ·intro h;refine Int.not_le.1 fun e=>?_;have:=bb (Int.le_of_lt a) e;omega
  ·intro h;exact Int.mul_neg_of_pos_of_neg a h
 have b:(g:Int)*c=0↔c=0:=by
  rw[Int.mul_eq_zero];constructor
  ·rintro(h|h)
   ·omega
   ·exact h
  ·exact fun h=>.inr h
 simp only[a1,b]
theorem ara{n m:Int}{d e:Nat}{p:PV}(a:d≠0)(b:e≠0)(h:Ff n d m e=some p):p=.int .i64 (dC (fr n d).q (fr m e).q):=by
 simp only[Ff,ea]at h;rw[<-h,Zn,fr,fr];dsimp only;rw[Rat.divInt_sub_divInt _ _ (uz a) (uz b),<-ay,CD _ (c9 a b)]
theorem PO{n m:Int}{d e:Nat}{p:PV}(a:d≠0)(c:e≠0)(h:AW n d m e=some p):p=eF ((fr n d).div (fr m e))/\(fr m e).q≠0:=by
 have b:m≠0->(fr m e).q≠0:=fun g hq=>by
  rw[fr]at hq;dsimp only at hq;have:=CD m c;rw[hq,if_neg (by decide),if_pos rfl,Ng]at this
  split at this
  ·omega
  ·first
     |omega
     |(rw[if_neg g]at this;omega)
 rw[NF.div,fr,fr];dsimp only;unfold AW at h;cases m with
 |ofNat k=>
  simp only[ab]at h
  split at h
  ·cases h
  ·rename_i hk;have f:k≠0:=fun e=>hk (by rw[e];rfl);have:=pQ (c9 a f) h;refine⟨?_,b (by show(k:Int)≠0;omega)⟩;have e:(eb n d:Rat)/eb (Int.ofNat k) e=eb (n*e) (d*k):=by
    rw[ed,ew,ec];rfl
   rw[e];rw[ay]at this;exact this _
 |negSucc k=>
  dsimp only at h;have:=pQ (c9 a (Nat.succ_ne_zero k)) h;refine⟨?_,b (by omega)⟩;have e:(eb n d:Rat)/eb (a6 k) e=eb (-(n*e)) ((d:Int)*((k+1:Nat):Int)):=by
   rw[ed,ew,ec];rw[show a6 k= -((k+1:Nat):Int)from rfl,Int.mul_neg];rw[Rat.divInt_neg']
  rw[e];rw[ay]at this;exact this _
def AU:Nat->Nat->Nat
 |0,_=>0
 |f+1,n=>bif c6 n 0 then 0 else AU f (n/10)+1
theorem ZV{a b:Nat}(h:a<b):da a b=true:=by rw[db];exact h
theorem AF{a b:Nat}(h:da a b=true):a<b:=by rw[db]at h;exact h
theorem PE:∀(f n:Nat),n<10^f->AU f n=nd n
 |0,n,h=>by
  have:n=0:=by simpa using h
  subst this;rw[nd];rfl
 |f+1,n,h=>by
  rw[AU,nd]
  by_cases a:n=0
  ·subst a;rfl
  ·have b:c6 n 0=false:=by
    rcases c:c6 n 0 with _|_
    ·rfl
    ·exact(a (cy c)).elim
   rw[b,cond_false,dif_neg a,PE f (n/10) (by rw[Nat.div_lt_iff_lt_mul (by omega)];rw[Nat.pow_succ]at h;exact h)]
def uU(n:Nat):List Nat:=qu (AU 80 n) fun k=>bif da 1 k then low k n else low 1 n
theorem Ab{n:Nat}(h:n<10^80):uU n=bh n:=by
 rw[uU,wz,PE _ _ h,bh];rcases a:da 1 (nd n)with _|_
 ·have:¬1<nd n:=fun b=>by rw[ZV b]at a;cases a
  rw[cond_false,Nat.max_eq_left (by omega)]
 ·have:1<nd n:=AF a;rw[cond_true,Nat.max_eq_right (by omega)]
def Fy:Int->List Nat
 | .ofNat n=>uU n
 | .negSucc n=>45::uU (n+1)
theorem aLe{z:Int}(h:z.natAbs<10^80):Fy z=bN z:=by
 cases z with
 |ofNat n=>rw[bN,if_neg (by show¬((n:Int)<0);omega)];exact Ab h
 |negSucc n=>rw[bN,if_pos (by omega)];exact congrArg (45::·) (Ab h)
def Fx(n:Int)(d:Nat):List Nat:=bif c6 d 1 then Fy n else Fy n++47::uU d
theorem Mp{n:Int}{d:Nat}(a:d≠0)(b:dg n.natAbs d=1):(fr n d).q.num=n/\(fr n d).q.den=d:=by
 obtain⟨e1,e2⟩:=mf (n:=n) a;rw[b]at e1 e2;simp only[a8,be,dz]at e1 e2;exact⟨e1,e2⟩
theorem Mv{p:PV}{n:Int}{d:Nat}(h:qp p=some (n,d)):dg n.natAbs d=1/\n.natAbs<10^80/\d<10^80:=by
 unfold qp at h
 split at h
 case h_2=>cases h
 split at h
 case h_2=>cases h
 simp only[ab]at h
 split at h
 case isFalse=>cases h
 rename_i hc;simp only[ea,Prod.mk.injEq]at h;obtain⟨rfl,rfl⟩:=h;simp only[Fi,ac,db]at hc;obtain⟨c1,c2,c3,c4,c5⟩:=hc;have a:zL<10^80:=by decide
 exact⟨cy c5,by omega,by omega⟩
theorem aLd{p:PV}{n:Int}{d:Nat}(h:qp p=some (n,d))(f:d≠0):Fx n d=bg (fr n d).q:=by
 obtain⟨g,b,c⟩:=Mv h;obtain⟨e1,e2⟩:=Mp f g;rw[Fx,bg,e1,e2,aLe b,Ab c];rcases a:c6 d 1 with _|_
 ·rw[cond_false,if_neg (fun e=>by rw[e]at a;cases a)]
 ·rw[cond_true,if_pos (cy a)]
def qo:List Nat->Nat->Bool
 |[],_=>true
 |c::r,f=>match f with
  |0=>false
  |f+1=>bif da c 256 then qo r f else false
theorem wP:∀{s:List Nat}{f:Nat},qo s f=true->s.length<=f/\∀c∈s,c<256
 |[],_,_=>⟨dl _,fun c hc=>by cases hc⟩
 |c::r,0,h=>by simp[qo]at h
 |c::r,f+1,h=>by
  simp only[qo,ab]at h
  split at h
  ·rename_i hc;obtain⟨b,a⟩:=wP h;refine⟨by simp;omega,fun x hx=>?_⟩;rcases cx.1 hx with rfl|hx
   ·exact AF hc
   ·exact a x hx
  ·cases h
def RZ(z:Int):Bool:=match z with
 | .ofNat n=>c6 n 0
 |_=>false
theorem aJh{z:Int}(h:RZ z=true):z=0:=by
 cases z with
 |ofNat n=>rw[cy (show c6 n 0=true from h)];rfl
 |negSucc n=>cases h
def EA(n:Int)(d:Nat):Option PV:=bif c6 d 0 then none else nE n d
theorem azK{n:Int}{d:Nat}{p:PV}(h:EA n d=some p)(m:Bool):p=eF ⟨eb n d,m⟩:=by
 unfold EA at h;rcases a:c6 d 0 with _|_
 ·rw[a]at h;exact pQ (fun e=>by rw[e]at a;cases a) h m
 ·rw[a]at h;cases h
def EB(s:List Nat):Option PV:=bif RZ (b7 s)&&qo s 1000 then
 AM (if bZ s=true then -(bc (bH s):Int)else bc (bH s)) fun n=>qu (if eB s=true then bc (bP s)else 1) fun d=>EA n d else none
theorem azL{s:List Nat}{p:PV}(h:EB s=some p):p=eF ⟨aR s,false⟩/\b7 s=0/\s.length<=1048576:=by
 unfold EB at h;simp only[ab,N4,wz]at h
 split at h
 case isFalse=>cases h
 rename_i hc;rw[ac]at hc;obtain⟨c1,c2⟩:=hc;obtain⟨a,b⟩:=wP c2;refine⟨?_,aJh c1,by omega⟩;rw[aR];exact azK h false
def Rh:Int->Bool
 | .ofNat n=>da n lg
 | .negSucc n=>da n lg
theorem aAh{z:Int}(h:Rh z=true):-9223372036854775808<=z/\z<=9223372036854775807:=by
 cases z with
 |ofNat n=>have:n<9223372036854775808:=AF h;refine⟨?_,?_⟩<;>show _<=_<;>simp only[Int.ofNat_eq_natCast]<;>omega
 |negSucc n=>have:n<9223372036854775808:=AF h;omega
def Fk(f:Nat)(a:PV):Option PV:=match a with
 | .int .i64 z=>bif c6 f 132&&Rh z then nE z 1 else none
 | .str s=>bif c6 f 147 then EB s else bif c6 f 278&&qo s 1000 then some (.int .i64 (b7 s))else none
 | .st u [.str x,.str y]=>bif c6 f 120&&(c6 u 31&&(qo x 1000&&qo y 1000))then some (.int .i64 (eA ⟨x,y⟩))else none
 | .st u [c,e]=>match qp (.st u [c,e])with
  |some (n,d)=>bif c6 f 145 then nE (-n) d else
   bif c6 f 194 then some (.int .i64 (A7 n))else
   bif c6 f 144 then AW 1 1 n d else
   bif c6 f 146 then some (.str (Fx n d))else
   bif c6 f 131 then some (.bool false)else none
  |none=>none
 |_=>none
def uT(f:Nat)(a b:PV):Option PV:=
 bif c6 f 148 then two R8 a b else
 bif c6 f 168 then two Sa a b else
 bif c6 f 149 then two R9 a b else
 bif c6 f 133 then two AW a b else
 bif c6 f 124 then two Ff a b else none
def hk(f:Nat):List PV->Option PV
 |[a]=>Fk f a
 |[a,b]=>uT f a b
 |_=>none
theorem Q0(z:Int):eb z ((1:Nat):Int)=(z:Rat):=by
 rw[show((1:Nat):Int)=1 from rfl,eo];rw[show((1:Int):Rat)=1 from rfl,ed,show(1:Rat)⁻¹=1 from by decide+kernel,Rat.mul_one]
theorem bq{a b:Nat}(h:c6 a b=true):a=b:=cy h
theorem aJI{f:Nat}{a v:PV}(h:Fk f a=some v):ar prog f [a] v:=by
 unfold Fk at h
 split at h
 ·rename_i z;simp only[ab]at h
  split at h
  ·rename_i hc;rw[ac]at hc;obtain⟨w,A⟩:=aAh hc.2;rw[bq hc.1,pQ (by decide) h true];have:=ke z w A;rw[NF.int]at this;rw[Q0];exact this
  ·cases h
 ·rename_i s;simp only[ab]at h
  split at h
  ·rename_i hf;obtain⟨e1,e2,e3⟩:=azL h;rw[bq hf,e1];exact ka s e2 e3
  ·split at h
   ·rename_i hc;rw[ac]at hc;obtain⟨j,b⟩:=wP hc.2;simp only[ea]at h;subst h;rw[bq hc.1];exact Af s (by omega) b
   ·cases h
 ·rename_i u x y;simp only[ab]at h
  split at h
  ·rename_i hc;simp only[ac]at hc;obtain⟨c1,c2,c3,c4⟩:=hc;obtain⟨j,b⟩:=wP c3;obtain⟨B,p⟩:=wP c4;simp only[ea]at h;subst h;rw[bq c1,bq c2];exact BP ⟨x,y⟩ ⟨⟨by show x.length<=_;omega,b⟩,⟨by show y.length<=_;omega,p⟩⟩
  ·cases h
 ·rename_i u c e _
  split at h
  case h_2=>cases h
  rename_i n d l;obtain⟨t,g,i⟩:=Dp l;rw[t];simp only[ab]at h
  split at h
  ·rename_i hf;rw[bq hf,pQ g h false,<-eq];exact DN _ i
  split at h
  ·rename_i hf;simp only[ea]at h;subst h;rw[bq hf,<-CD n g];exact ui _
  split at h
  ·rename_i hf;obtain⟨e1,e2⟩:=PO (by decide) g h;have e3:(fr 1 1).div (fr n d)=(fr n d).inv:=by
    rw[NF.div,NF.inv,fr,fr];dsimp only;rw[Q0,ed];rw[show((1:Int):Rat)=1 from rfl,Rat.one_mul]
   rw[bq hf,e1,e3];exact DO _ i e2
  split at h
  ·rename_i hf;simp only[ea]at h;subst h;rw[bq hf,aLd l g];exact adY _ i
  split at h
  ·rename_i hf;simp only[ea]at h;subst h;rw[bq hf];have m:=Z4 _ i;obtain⟨q,j,b⟩:=Mv l;obtain⟨e1,e2⟩:=Mp g q;have o:∀k,k<10^80->mK k=false:=fun k hk=>by
    rw[mK,decide_eq_false_iff_not];have C:nd k<=80:=Nat.not_lt.1 fun r=>by have:=(oO _ _).1 r;omega
    rw[ry];omega
   rw[Fb,e1,e2,o _ j,o _ b]at m;exact m
  ·cases h
 ·cases h
theorem aK8{f:Nat}{a b v:PV}(h:uT f a b=some v):ar prog f [a,b] v:=by
 unfold uT at h;simp only[ab]at h
 split at h
 ·rename_i hf;obtain⟨n,d,m,e,rfl,rfl,c,g,j,k,i⟩:=wE h;rw[bq hf,apV c g i];exact sx _ _ j k
 split at h
 ·rename_i hf;obtain⟨n,d,m,e,rfl,rfl,c,g,j,k,i⟩:=wE h;rw[bq hf,arN c g i];exact qg _ _ j k
 split at h
 ·rename_i hf;obtain⟨n,d,m,e,rfl,rfl,c,g,j,k,i⟩:=wE h;rw[bq hf,arE c g i];exact jK _ _ j k
 split at h
 ·rename_i hf;obtain⟨n,d,m,e,rfl,rfl,c,g,j,k,i⟩:=wE h;obtain⟨e1,e2⟩:=PO c g i;rw[bq hf,e1];exact QA _ _ j k e2
 split at h
 ·rename_i hf;obtain⟨n,d,m,e,rfl,rfl,c,g,j,k,i⟩:=wE h;rw[bq hf,ara c g i];exact nC _ _ j k
 ·cases h
theorem aAc{f:Nat}{vs:List PV}{v:PV}(h:hk f vs=some v):ar prog f vs v:=by
 unfold hk at h
 split at h
 ·exact aJI h
 ·exact aK8 h
 ·cases h
end Hk
theorem aLg{n:Nat}(h:n<10^80):bg ((n:Nat):Rat)=Hk.uU n:=by
 rw[Hk.Ab h,bg,if_pos (by rfl),bN,if_neg (by show¬((n:Int)<0);omega)];rfl
structure dT where
 x:Int
 y:Int
 deriving DecidableEq
structure cX where
 name:List Nat
 dP:Int
 a:List Nat
 b:List Nat
structure cG where
 name:List Nat
 pt:gS
structure aA where
 cs:List dT
 aN:Int
 aV:List cX
 aw:List cG
def cF(p:dT):PV:=.st 201 [.int .i64 p.x,.int .i64 p.y]
def fx(p:cX):PV:=.st 90 [.str p.name,.int .i64 p.dP,.str p.a,.str p.b]
def bK(p:cG):PV:=.st 56 [.str p.name,gf p.pt]
def cM(t:aA):PV:=.st 25 [.seq (t.cs.map cF),.int .i64 t.aN,.seq (t.aV.map fx),.seq (t.aw.map bK)]
@[simp] theorem aOU(p:dT):aL (cF p)=.agg 201:=rfl
@[simp] theorem aNl(p:dT):bY (cF p)=[.int .i64 p.x,.int .i64 p.y]:=rfl
@[simp] theorem aOR(p:cX):aL (fx p)=.agg 90:=rfl
@[simp] theorem aNi(p:cX):bY (fx p)=[.str p.name,.int .i64 p.dP,.str p.a,.str p.b]:=rfl
@[simp] theorem aOY(p:cG):aL (bK p)=.agg 56:=rfl
@[simp] theorem aNp(p:cG):bY (bK p)=[.str p.name,gf p.pt]:=rfl
@[simp] theorem aO3(t:aA):aL (cM t)=.agg 25:=rfl
@[simp] theorem aNt(t:aA):bY (cM t)=[.seq (t.cs.map cF),.int .i64 t.aN,.seq (t.aV.map fx),.seq (t.aw.map bK)]:=rfl
@[simp] theorem aMx:prog.cellsOf 201=2:=by kernel_rfl
@[simp] theorem aMw:prog.cellsOf 90=4:=by kernel_rfl
@[simp] theorem aMz:prog.cellsOf 56=3:=by kernel_rfl
def fT(p:dT):Bool:=decide (10000<max p.x p.y)||decide (min p.x p.y< -10000)
theorem aiN(p:dT):ar prog 201 [cF p] (.bool (fT p)):=by
 obtain⟨x,y⟩:=p;refine aI nf H5 mix (by simp[f201]) ?_;have e1:max x y=if x<y then y else x:=by split<;>omega
 have e2:min x y=if y<x then y else x:=by split<;>omega
 rw[fT,e1,e2]
 by_cases h:(if x<y then y else x)<=10000
 ·have a:¬10000<(if x<y then y else x):=by omega
  by_cases b:(if y<x then y else x)< -10000
  ·simp[f201,aa,h,a,b]
  ·simp[f201,aa,h,a,b]
 ·have a:10000<(if x<y then y else x):=by omega
  simp[f201,aa,h,a]
def dU(p:dT):Prop:=-10000<=p.x/\p.x<=10000/\-10000<=p.y/\p.y<=10000
theorem F9{p:dT}(h:fT p=false):dU p:=by
 simp only[fT,Bool.or_eq_false_iff,decide_eq_false_iff_not]at h;unfold dU;omega
def l7(a b c:dT):Int:=(b.x-a.x)*(c.y-a.y)-(b.y-a.y)*(c.x-a.x)
theorem xP{a b:Int}{A B:Int}(c:-A<=a)(d:a<=A)(e:-B<=b)(f:b<=B):-(A*B)<=a*b/\a*b<=A*B:=by
 have k1:a.natAbs<=A.natAbs:=by omega
 have k2:b.natAbs<=B.natAbs:=by omega
 have k3:=dk k1 k2;rw[<-a9,<-a9]at k3;have k4:0<=A*B:=bb (by omega) (by omega);omega
theorem Tw(a b c:dT)(i:dU a)(j:dU b)(hc:dU c):ar prog 264 [cF a,cF b,cF c] (.int .i64 (l7 a b c)):=by
 obtain⟨d,e⟩:=a;obtain⟨bx,f⟩:=b;obtain⟨g,h⟩:=c;simp only[dU]at i j hc;have w1:av.wrap (bx-d)=bx-d:=aQ _ (by omega) (by omega);have k:av.wrap (h-e)=h-e:=aQ _ (by omega) (by omega);have l:av.wrap (f-e)=f-e:=aQ _ (by omega) (by omega)
 have m:av.wrap (g-d)=g-d:=aQ _ (by omega) (by omega);have q:=xP (a:=bx-d) (b:=h-e) (A:=20000) (B:=20000) (by omega) (by omega) (by omega) (by omega);have r:=xP (a:=f-e) (b:=g-d) (A:=20000) (B:=20000) (by omega) (by omega) (by omega) (by omega);have n:av.wrap ((bx-d)*(h-e))=(bx-d)*(h-e):=aQ _ (by omega) (by omega);have o:av.wrap ((f-e)*(g-d))=(f-e)*(g-d):=aQ _ (by omega) (by omega);have p:av.wrap ((bx-d)*(h-e)-(f-e)*(g-d))=(bx-d)*(h-e)-(f-e)*(g-d):=aQ _ (by omega) (by omega);refine aI nf Gn mix (by simp[f264]) ?_;rw[l7];simp[f264,aa,w1,k,l,m,n,o,p]
def aA.nx(t:aA)(i:Nat):Nat:=(i+1)% t.cs.length
def aA.at(t:aA)(i:Nat):dT:=t.cs.getD i ⟨0,0⟩
theorem aA.get{t:aA}{i:Nat}(h:i<t.cs.length):t.cs[i]?=some (t.at i):=by
 rw[aA.at,bo,bi h];rfl
@[simp] theorem aA.aS{t:aA}{i:Nat}(h:i<t.cs.length):t.cs[i]'h=t.at i:=by
 rw[aA.at,bo,bi h];rfl
theorem aA.ku{t:aA}(h:0<t.cs.length)(i:Nat):t.nx i<t.cs.length:=Nat.mod_lt _ h
theorem Bv(t:aA)(i:Nat)(h:i<t.cs.length)(f:t.cs.length<=1000000):ar prog 187 [cM t,.int .i64 i] (cF (t.at (t.nx i))):=by
 have w1:av.wrap ((i:Int)+1)=(i:Int)+1:=aQ _ (by omega) (by omega);have c:=t.ku (by omega) i;have e1:((i:Int)+1).tmod (t.cs.length:Int)=((t.nx i:Nat):Int):=by
  rw[aA.nx,a7,aT (by omega)];rfl
 have b:=aA.get c;have d:¬t.cs.length=0:=by omega
 have a:¬t.cs=[]:=by intro e;rw[e]at h;simp at h
 refine aI nf GZ mix (by simp[f187]) ?_;simp[f187,aa,w1,e1,b,d,a]
def aA.nL(t:aA)(i:Nat)(m:Nat):Prop:=∀k,k<m->k≠i->k≠t.nx i->0<l7 (t.at i) (t.at (t.nx i)) (t.at k)
instance(t:aA)(i m:Nat):Decidable (t.nL i m):=inferInstanceAs (Decidable (∀k,k<m->_))
def aA.gq(t:aA):Bool:=decide (∀i,i<t.cs.length->t.nL i t.cs.length)
theorem aA.eP{t:aA}(h:∀p∈t.cs,dU p){i:Nat}(hi:i<t.cs.length):dU (t.at i):=h _ (bl (aA.get hi))
theorem TF(t:aA)(x:t.cs.length<=1000000)(m:∀p∈t.cs,dU p):ar prog 202 [cM t] (.bool t.gq):=by
 refine aI nf H4 mix (by simp[f202]) ?_;generalize a:t.cs.length=n at*;simp[f202,aa,a];refine lp (α:=Nat) (fun i=>⟨[(4,.p (.int .i64 i)),(3,.p (.int .i64 n)),(1,.ptr 0 [])],[.box false (.p (cM t))]⟩) (fun i=>i<=n/\∀j,j<i->t.nL j n) (fun i=>n-i) 0 (by simp) ?_;rintro i ⟨v,q⟩
 by_cases hi:i<n
 ·simp[hi];refine lp (α:=Nat) (fun k=>⟨[(5,.p (.int .i64 k)),(4,.p (.int .i64 i)),(3,.p (.int .i64 n)),(1,.ptr 0 [])],[.box false (.p (cM t))]⟩) (fun k=>k<=n/\t.nL i k) (fun k=>n-k) 0 (by simp[aA.nL]) ?_;rintro k ⟨g1,g2⟩
  by_cases hk:k<n
  ·have r:=Bv t i (by omega) (by omega);have y:t.nx i<n:=by rw[<-a];exact t.ku (by omega) i
   have d:=bR (i:=i) (by omega);have e:=bR (i:=k) (by omega);have e1:((i:Int)+1).tmod (n:Int)=((t.nx i:Nat):Int):=by
    rw[aA.nx,a,a7,aT (by omega)];rfl
   have s:=Tw (t.at i) (t.at (t.nx i)) (t.at k) (aA.eP m (by omega)) (aA.eP m (by omega)) (aA.eP m (by omega));have f:=aA.get (t:=t) (i:=i) (by omega);have gk:=aA.get (t:=t) (i:=k) (by omega);have o:¬n=0:=by omega
   by_cases c1:k=i
   ·subst c1;simp[hk,e];exact rd (k+1) ⟨hk,fun j g=>by
     by_cases l:j=k
     ·intro h;exact(h l).elim
     ·exact g2 j (by omega)⟩
   ·have b:¬(k:Int)=(i:Int):=by omega
    by_cases c2:k=t.nx i
    ·rw[<-c2]at e1;simp[hk,b,d,e,e1,o];exact rd (k+1) ⟨hk,fun j g=>by
      by_cases l:j=k
      ·intro _ h;exact(h (by omega)).elim
      ·exact g2 j (by omega)⟩
    ·have c:¬(k:Int)=((t.nx i:Nat):Int):=by omega
     by_cases c3:l7 (t.at i) (t.at (t.nx i)) (t.at k)<=0
     ·simp[hk,b,c,d,e,e1,o,f,gk,a,aa];refine Go.ah.e2 r ?_;simp[hk,a,f,gk,b,c,aa];refine Go.ah.e3 s ?_;simp[c3,b,c];have:t.gq=false:=by
       rw[aA.gq,decide_eq_false_iff_not];intro h;have:=h i (by omega) k (by omega) c1 c2;omega
      rw[this]
     ·simp[hk,b,c,d,e,e1,o,f,gk,a,aa];refine Go.ah.e2 r ?_;simp[hk,a,f,gk,b,c,aa];refine Go.ah.e3 s ?_;simp[c3,e,b,c];exact rd (k+1) ⟨hk,fun j g=>by
       by_cases l:j=k
       ·subst l;intro _ _;omega
       ·exact g2 j (by omega)⟩
  ·have:k=n:=by omega
   subst this;have d:=bR (i:=i) (by omega);simp[d];exact rd (i+1) ⟨hi,fun j g=>by
    by_cases u:j=i
    ·subst u;exact g2
    ·exact q j (by omega)⟩
 ·have w:i=n:=by omega
  have:t.gq=true:=by
   rw[aA.gq,decide_eq_true_eq,a];intro j g;exact q j (by omega)
  simp[hi,this]
def iK(p:dT):V2:=⟨(p.x:Rat),(p.y:Rat)⟩
theorem jn{p:dT}(h:dU p):bB 14 (iK p):=by
 simp only[dU]at h;exact⟨mF (by omega) (by decide),mF (by omega) (by decide)⟩
theorem xR(p:dT)(h:dU p):ar prog 186 [cF p] (eV (iK p)):=by
 have c:=h;simp only[dU]at h;have a:=wX p.x (by omega) (by omega);have b:=wX p.y (by omega) (by omega);refine aI nf G0 mix (by simp[f186]) ?_;rw[iK,ql];simp[f186,aa];refine e1 a ?_;simp[aa];refine e1 b ?_;simp[aa]
def aA.lZ(t:aA)(i:Nat):V2:=(iK (t.at (t.nx i))).sub (iK (t.at i))
def aA.side(t:aA)(i:Nat)(v:V2):Int:=dK ((t.lZ i).c8 (v.sub (iK (t.at i))))
theorem aA.okW{t:aA}(h:∀p∈t.cs,dU p){i:Nat}(hi:i<t.cs.length):bB 29 (t.lZ i):=gL (jn (aA.eP h (t.ku (by omega) i))) (jn (aA.eP h hi))
theorem Z9(t:aA)(i:Nat)(v:V2)(e:t.cs.length<=1000000)(b:∀p∈t.cs,dU p)(hi:i<t.cs.length)(d:bB 3000 v):ar prog 263 [cM t,.int .i64 i,eV v] (.int .i64 (t.side i v)):=by
 have a:=aA.get hi;have c:=jn (aA.eP b hi);have n:=jn (aA.eP b (t.ku (by omega) i));have f:=xR (t.at i) (aA.eP b hi);have g:=Bv t i hi e;have h:=xR (t.at (t.nx i)) (aA.eP b (t.ku (by omega) i));have j:=oU (iK (t.at (t.nx i))) (iK (t.at i)) (n.mono (by decide)) (c.mono (by decide));have k:=oU v (iK (t.at i)) (d.mono (by decide)) (c.mono (by decide));have l:=FV (t.lZ i) (v.sub (iK (t.at i))) ((aA.okW b hi).mono (by decide)) ((gL d c).mono (by decide));have m:=uh ((t.lZ i).c8 (v.sub (iK (t.at i)))) ((xM (aA.okW b hi) (gL d c)).mono (by decide));refine aI nf Po mix (by simp[f263]) ?_;rw[aA.side];simp[f263,aa,a,hi];refine e1 f ?_;simp[aa,a,hi];refine e2 g ?_;simp[aa,a,hi];refine e1 h ?_;simp[aa,a,hi];refine⟨by repeat' first|rfl|apply And.intro,?_⟩;refine e2 j ?_;simp[aa,a,hi];refine e2 k ?_;simp[aa,a,hi];refine e2 l ?_;simp[aa,a,hi];refine e1 m ?_;simp[aa,a,hi]
def aA.mM(t:aA)(v:V2)(m:Nat):Int:=(ck m).foldl (fun o i=>min o (t.side i v)) 1
theorem aA.Bk(t:aA)(v:V2)(m:Nat):t.mM v (m+1)=min (t.mM v m) (t.side m v):=by
 rw[aA.mM,cv,List.foldl_append];rfl
def aA.on(t:aA)(v:V2):Int:=t.mM v t.cs.length
theorem Gx(a b:Int):min a b=if b<a then b else a:=by split<;>omega
theorem Eu(t:aA)(v:V2)(b:t.cs.length<=1000000)(c:∀p∈t.cs,dU p)(d:bB 3000 v):ar prog 197 [cM t,eV v] (.int .i64 (t.on v)):=by
 refine aI nf Qn mix (by simp[f197]) ?_;simp[f197,aa];refine lp (α:=Nat) (fun i=>⟨[(6,.p (.int .i64 i)),(5,.p (.int .i64 (t.mM v i))),(3,.ptr 1 []),(2,.ptr 0 [])],[.box false (.p (cM t)),.box false (.p (eV v))]⟩) (fun i=>i<=t.cs.length) (fun i=>t.cs.length-i) 0 (by simp) ?_ (hh:=by simp[aA.mM]) (he:=by simp[aA.mM]);rintro i f
 by_cases hi:i<t.cs.length
 ·have a:=Z9 t i v b c hi d;have e:=bR (i:=i) (by omega);have hs:=aA.Bk t v i;rw[Gx]at hs;simp[hi,aa];refine c3 a ?_;simp[e,<-hs];exact rd (i+1) hi
 ·have:i=t.cs.length:=by omega
  subst this;simp[aA.on,aa]
def isLet(c:Int):Bool:=(decide (97<=c)&&decide (c<=122))||(decide (65<=c)&&decide (c<=90))
def jr(c:Int):Bool:=decide (48<=c)&&decide (c<=57)
def mL:Nat->List Nat->Bool
 |_,[]=>true
 |i,c::r=>(isLet c||(decide (i≠0)&&(jr c||decide ((c:Int)=95))))&&mL (i+1) r
def isName(s:List Nat):Bool:=decide (1<=s.length)&&decide (s.length<=24)&&mL 0 s
theorem cls(c:Int):(97<=c/\c<=122)\/(¬97<=c/\65<=c/\c<=90)\/(¬97<=c/\¬65<=c/\¬48<=c/\¬c=95)\/(¬97<=c/\¬65<=c/\48<=c/\c<=57/\¬c=95)\/(¬97<=c/\¬65<=c/\48<=c/\¬c<=57/\¬c=95)\/
 (¬97<=c/\65<=c/\¬c<=90/\48<=c/\¬c<=57/\c=95)\/(¬97<=c/\65<=c/\¬c<=90/\48<=c/\¬c<=57/\¬c=95)\/(97<=c/\¬c<=122/\65<=c/\¬c<=90/\48<=c/\¬c<=57/\¬c=95):=by omega
theorem F3(c:Int):ar prog 286 [.int .i32 c] (.bool (isLet c)):=by
 refine aI nf IL mix (by simp[f286]) ?_;rcases cls c with⟨a,b⟩|⟨a,b,d⟩|⟨a,b,d,e⟩|⟨a,b,d,e,f⟩|⟨a,b,d,e,f⟩|⟨a,b,d,e,f,g⟩|⟨a,b,d,e,f,g⟩|⟨a,b,d,e,f,g,h⟩<;>simp[f286,isLet, *]
theorem FY{s:List Nat}{i:Nat}(hi:i<s.length):mL i (s.drop i)=((isLet s[i]||(decide (i≠0)&&(jr s[i]||decide ((s[i]:Int)=95))))&&mL (i+1) (s.drop (i+1))):=by
 rw[ce hi,mL]
theorem Bj(s:List Nat)(h:s.length<=1048576):ar prog 204 [.str s] (.bool (isName s)):=by
 refine aI nf HZ mix (by simp[f204]) ?_;rcases Bl s.length 1 with⟨g1,m⟩|⟨g1,m⟩
 ·have:s.length=0:=by omega
  simp[f204,g1,isName,this]
 rcases Bl 24 s.length with⟨g2,n⟩|⟨g2,n⟩
 ·have:¬s.length<=24:=by omega
  simp[f204,g1,g2,isName,this]
 simp[f204,g1,g2];have e0:isName s=mL 0 s:=by simp[isName];omega
 refine lp (α:=Nat) (fun i=>⟨[(3,.p (.int .i64 i)),(0,.p (.str s))],[]⟩) (fun i=>i<=s.length/\isName s=mL i (s.drop i)) (fun i=>s.length-i) 0 (by simp[e0]) ?_;rintro i ⟨k1,k2⟩
 by_cases hi:i<s.length
 ·rw[FY hi]at k2;have k:=bR (i:=i) (by omega);generalize hc:(s[i]:Int)=c at*
  by_cases j:i=0
  ·subst j;have l:av.wrap 1=1:=aQ 1 (by omega) (by omega);rcases cls c with⟨a,b⟩|⟨a,b,d⟩|⟨a,b,d,e⟩|⟨a,b,d,e,f⟩|⟨a,b,d,e,f⟩|⟨a,b,d,e,f,g⟩|⟨a,b,d,e,f,g⟩|⟨a,b,d,e,f,g,h⟩
   ·simp[isLet,a,b]at k2;simp[hi,hc,a,b,l];exact rd 1 ⟨hi,by simpa using k2⟩
   ·simp[isLet,a,b,d]at k2;simp[hi,hc,a,b,d,l];exact rd 1 ⟨hi,by simpa using k2⟩
   all_goals
    simp[isLet, *]at k2;simp[hi,hc, *]
  ·rcases cls c with⟨a,b⟩|⟨a,b,d⟩|⟨a,b,d,e⟩|⟨a,b,d,e,f⟩|⟨a,b,d,e,f⟩|⟨a,b,d,e,f,g⟩|⟨a,b,d,e,f,g⟩|⟨a,b,d,e,f,g,h⟩
   ·simp[isLet,a,b]at k2;simp[hi,hc,a,b,k];exact rd (i+1) ⟨hi,k2⟩
   ·simp[isLet,a,b,d]at k2;simp[hi,hc,a,b,d,k];exact rd (i+1) ⟨hi,k2⟩
   ·simp[isLet,jr,a,b,d,e]at k2;simp[hi,hc,j,a,b,d,e,k2]
   ·simp[isLet,jr,a,b,d,e,j]at k2;simp[hi,hc,j,a,b,d,e,k];exact rd (i+1) ⟨hi,k2⟩
   ·simp[isLet,jr,a,b,d,e,f]at k2;simp[hi,hc,j,a,b,d,e,f,k2]
   ·subst g;simp[isLet,jr,j]at k2;simp[hi,hc,j,k];exact rd (i+1) ⟨hi,k2⟩
   ·simp[isLet,jr,a,b,d,e,f,g]at k2;simp[hi,hc,j,a,b,d,e,f,g,k2]
   ·simp[isLet,jr,a,b,d,e,f,g,h]at k2;simp[hi,hc,j,a,b,d,e,f,g,h,k2]
 ·have:i=s.length:=by omega
  subst this;simp[mL]at k2;simp[k2]
theorem FW(s:List Nat):(gD s).size=s.length:=by
 show(s.map UInt8.ofNat).toArray.size=_;simp
theorem Gi(s:List Nat)(b:∀c∈s,c<256)(i:Nat)(h:i<s.length)(a:i<(gD s).size):((gD s)[i]'a).toNat=s[i]:=by
 have e:(gD s)[i]'a=UInt8.ofNat s[i]:=by
  have:(gD s)[i]'a=(s.map UInt8.ofNat).toArray[i]'(by simpa using h):=rfl;rw[this];simp
 rw[e];have:=b s[i] (List.getElem_mem h);simp;omega
theorem azw{s:List Nat}(d:∀c∈s,c<256){i:Nat}(h:i<s.length)(b:s[i]<128):ax (gD s) i=(s[i],1):=by
 have a:i<(gD s).size:=by rw[FW];exact h
 have e:=Gi s d i h a;rw[decode_ascii (gD s) i a (by rw[e];exact b),e]
theorem azv{s:List Nat}(b:∀c∈s,c<256){i:Nat}(h:i<s.length)(d:¬s[i]<128):128<=(ax (gD s) i).1/\1<=(ax (gD s) i).2:=by
 have a:i<(gD s).size:=by rw[FW];exact h
 have e:=Gi s b i h a;exact decode_high (gD s) i a (by rw[e];omega)
theorem Bo(s:List Nat)(h:s.length<=1048576):ar prog 231 [.str s] (.bool (isName s)):=by
 refine TI fun m=>?_;have m:∀c∈s,c<256:=by simpa[mw,dX]using m
 refine aI nf Qk mix (by simp[f231]) ?_;simp[f231];refine lp (α:=Nat) (fun i=>⟨[(6,.ptr 0 []),(0,.p (.str s))],[.dy s i]⟩) (fun i=>i<=s.length/\mL 0 s=mL i (s.drop i)) (fun i=>s.length-i) 0 (by simp) ?_;rintro i ⟨k1,k2⟩
 by_cases hi:i<s.length
 ·rw[FY hi]at k2
  by_cases o:s[i]<128
  ·have n:=azw m hi o;simp[hi,n];refine c1 (F3 _) ?_;generalize hc:(s[i]:Int)=c at*
   by_cases j:i=0
   ·rcases cls c with⟨a,b⟩|⟨a,b,d⟩|⟨a,b,d,e⟩|⟨a,b,d,e,f⟩|⟨a,b,d,e,f⟩|⟨a,b,d,e,f,g⟩|⟨a,b,d,e,f,g⟩|⟨a,b,d,e,f,g,h⟩
    ·simp[isLet,a,b]at k2;simp[isLet,a,b];exact rd (i+1) ⟨hi,k2⟩
    ·simp[isLet,a,b,d]at k2;simp[isLet,a,b,d];exact rd (i+1) ⟨hi,k2⟩
    all_goals
     simp[isLet,isName, *]at k2;simp[isLet,isName, *]
   ·rcases cls c with⟨a,b⟩|⟨a,b,d⟩|⟨a,b,d,e⟩|⟨a,b,d,e,f⟩|⟨a,b,d,e,f⟩|⟨a,b,d,e,f,g⟩|⟨a,b,d,e,f,g⟩|⟨a,b,d,e,f,g,h⟩
    ·simp[isLet,a,b]at k2;simp[isLet,a,b];exact rd (i+1) ⟨hi,k2⟩
    ·simp[isLet,a,b,d]at k2;simp[isLet,a,b,d];exact rd (i+1) ⟨hi,k2⟩
    ·simp[isLet,jr,a,b,d,e]at k2;have k:c<48:=by omega
     simp[isLet,isName,a,b,e,j,k,k2]
    ·simp[isLet,jr,a,b,d,e,f,j]at k2;have k:¬c<48:=by omega
     have e2:¬57<c:=by omega
     simp[isLet,a,b,k,e2,f,j];exact rd (i+1) ⟨hi,k2⟩
    ·simp[isLet,jr,a,b,d,e,f]at k2;have k:¬c<48:=by omega
     have e2:57<c:=by omega
     simp[isLet,isName,a,b,k,e2,f,j,k2]
    ·subst g;simp[isLet,jr,j]at k2;simp[isLet,j];exact rd (i+1) ⟨hi,k2⟩
    ·simp[isLet,jr,a,b,d,e,f,g]at k2;have k:¬c<48:=by omega
     have e2:57<c:=by omega
     simp[isLet,isName,a,b,d,k,e2,g,j,k2]
    ·simp[isLet,jr,a,b,d,e,f,g,h]at k2;have k:¬c<48:=by omega
     have e2:57<c:=by omega
     simp[isLet,isName,a,b,d,e,k,e2,h,j,k2]
  ·obtain⟨n,_⟩:=azv m hi o;have z:isLet (s[i]:Int)=false:=by simp[isLet];omega
   have y:jr (s[i]:Int)=false:=by simp[jr];omega
   have x:¬(s[i]:Int)=95:=by omega
   simp[z,y,x]at k2;rcases q:ax (gD s) i with⟨c,d⟩
   rw[q]at n;have t:isLet (c:Int)=false:=by simp[isLet];omega
   have u:¬(c:Int)=95:=by omega
   have v:¬(c:Int)<48:=by omega
   have w:57<(c:Int):=by omega
   simp[hi,q];refine c1 (F3 _) ?_
   by_cases j:i=0
   ·simp[t,j,isName,k2]
   ·simp[t,j,u,v,w,isName,k2]
 ·have:i=s.length:=by omega
  subst this;simp[mL]at k2;cases hs:s with
  |nil=>simp[isName]
  |cons a r=>
   rw[hs]at k2;rcases Bl 24 s.length with⟨g,l⟩|⟨g,l⟩
   ·rw[hs]at g l;have:¬(r.length+1)<=24:=by simp at g;omega
    simp at l;simp[isName,k2,this];omega
   ·rw[hs]at g l;have:(r.length+1)<=24:=by simp at l;omega
    simp at l;simp[isName,k2,this];omega
theorem gH{s:List Nat}(h:b7 s=0):bE 2000 (aR s):=by
 obtain⟨b,c⟩:=GP h;have a:(10:Nat)^mD<=2^2000:=by decide+kernel
 exact⟨dp b a,dp c a⟩
theorem aLf:bg 1=[49]:=aLg (n:=1) (by decide)
def fA(q:Rat):Int:=if dK q<0\/0<dC q 1 then 3 else 0
def xU(s:List Nat):Int:=if b7 s=0 then fA (aR s)else b7 s
theorem F6(s:List Nat)(hs:jc s):ar prog 265 [.str s] (.int .i64 (xU s)):=by
 have d:=wW s hs;refine aI nf Gm mix (by simp[f265]) ?_;rw[xU]
 by_cases c:b7 s=0
 ·have o:=gH c;have f:=uh (aR s) (o.mono (by decide));have g:=qI (aR s) 1 (o.mono (by decide)) (by exact⟨by decide+kernel,by decide+kernel⟩);rw[(ji c).1]at f g;rw[aLf]at g;rw[if_pos c,fA];rw[c]at d;generalize dK (aR s)=x at*;generalize dC (aR s) 1=y at*
  by_cases a:x<0
  ·simp[f265,aa];refine c1 d ?_;simp[aa];refine c1 f ?_;simp[a,aa]
  ·by_cases b:0<y
   ·simp[f265,aa];refine c1 d ?_;simp[aa];refine c1 f ?_;simp[a,aa];refine c2 g ?_;simp[a,b,aa]
   ·simp[f265,aa];refine c1 d ?_;simp[aa];refine c1 f ?_;simp[a,aa];refine c2 g ?_;simp[a,b,aa]
 ·rw[if_neg c];generalize b7 s=e at*;simp[f265,aa];refine c1 d ?_;simp[c,aa]
def gU(o p:cX):Bool:=decide (o.dP=p.dP)&&(decide (dC (aR o.a) (aR p.b)<=0)&&decide (dC (aR p.a) (aR o.b)<=0))
def iC(n:Nat)(c:List cX)(p:cX):Int:=
 if isName p.name=false then 8
 else if c.any (fun o=>decide (o.name=p.name))=true then 9
 else if p.dP<0\/(n:Int)<=p.dP then 10
 else if b7 p.a≠0 then b7 p.a
 else if b7 p.b≠0 then b7 p.b
 else if max (fA (aR p.a)) (fA (aR p.b))≠0 then max (fA (aR p.a)) (fA (aR p.b))
 else if 0<dC (aR p.a) (aR p.b)then 11
 else if c.any (fun o=>gU o p)=true then 17 else 0
def qx(p:cX):Prop:=jc p.name/\jc p.a/\jc p.b
def aA.pk(t:aA)(i:Nat):cX:=t.aV.getD i ⟨[],0,[],[]⟩
@[simp] theorem aA.Fq{t:aA}{i:Nat}(h:i<t.aV.length):t.aV[i]'h=t.pk i:=by
 rw[aA.pk,bo,bi h];rfl
theorem aA.jd{t:aA}{i:Nat}(h:i<t.aV.length):t.aV[i]?=some (t.pk i):=by rw[bi h,aA.Fq]
theorem u4{α:Type}{f:α->Bool}{l:List α}{i:Nat}{x:α}(h:l[i]?=some x):(l.take (i+1)).any f=((l.take i).any f||f x):=by
 rw[List.take_add_one,h];simp
theorem S9(t:aA)(i:Nat)(hi:i<t.aV.length)(V:t.aV.length<=1000000)(hc:t.cs.length<=1000000)(Q:∀p∈t.aV,qx p)(R:∀j,j<i->b7 (t.pk j).a=0/\b7 (t.pk j).b=0):
 ar prog 203 [cM t,.int .i64 i] (.int .i64 (iC t.cs.length (t.aV.take i) (t.pk i))):=by
 have v:=aA.jd hi;obtain⟨S,E,F⟩:=Q _ (bl v);have m:=Bj (t.pk i).name S.1;have O:=wW (t.pk i).a E;have P:=wW (t.pk i).b F;refine aI nf H3 mix (by simp[f203]) ?_;rw[iC];cases B:isName (t.pk i).name
 ·rw[B]at m;simp[f203,aa,v,hi];refine c1 m ?_;simp[aa]
 rw[B]at m;rw[if_neg (by decide)];simp[f203,aa,v,hi];refine c1 m ?_;simp[aa];refine lp (α:=Nat) (fun j=>⟨[(6,.p (.int .i64 j)),(5,.ptr 1 []),(2,.ptr 0 []),(1,.p (.int .i64 i))],[.box false (.p (cM t)),.box false (.p (fx (t.pk i)))]⟩) (fun j=>j<=i/\(t.aV.take j).any (fun o=>decide (o.name=(t.pk i).name))=false) (fun j=>i-j) 0 (by simp) ?_;rintro j ⟨W,D⟩
 by_cases q:j<i
 ·have z:j<t.aV.length:=by omega
  have g:=aA.jd z;have f:=bR (i:=j) (by omega)
  by_cases n:(t.pk j).name=(t.pk i).name
  ·have:(t.aV.take i).any (fun o=>decide (o.name=(t.pk i).name))=true:=by
    rw[bp];exact⟨t.pk j,bl (i:=j) (by rw[b3,if_pos q];exact g),by simp[n]⟩
   rw[if_pos this];simp[q,z,g,n,aa]
  ·simp[q,z,g,n,f,aa];exact rd (j+1) ⟨q,by rw[u4 g,D];simp[n]⟩
 have:j=i:=by omega
 subst this;rw[D,if_neg (by decide)];have u:((t.pk j).dP<0\/(t.cs.length:Int)<=(t.pk j).dP)\/(¬(t.pk j).dP<0/\¬(t.cs.length:Int)<=(t.pk j).dP):=by omega
 rcases u with u|⟨L,N⟩
 ·rw[if_pos u]
  by_cases e1:(t.pk j).dP<0
  ·simp[e1,aa]
  ·have e2:(t.cs.length:Int)<=(t.pk j).dP:=by omega
   simp[e1,e2,aa]
 rw[if_neg (by omega)];have K:¬j<j:=by omega
 simp[L,N,K,aa];refine c1 O ?_
 by_cases c:b7 (t.pk j).a=0
 case neg=>
  rw[if_pos c];simp[c,aa]
 rw[if_neg (by simp[c])];simp[c,aa];refine c1 P ?_
 by_cases d:b7 (t.pk j).b=0
 case neg=>
  rw[if_pos d];simp[d,aa]
 rw[if_neg (by simp[d])];simp[d,aa];have G:=gH c;have H:=gH d;have x:=F6 (t.pk j).a E;have y:=F6 (t.pk j).b F;rw[xU,if_pos c]at x;rw[xU,if_pos d]at y;have A:=qI (aR (t.pk j).a) (aR (t.pk j).b) (G.mono (by decide)) (H.mono (by decide));rw[(ji c).1,(ji d).1]at A;refine e1 x ?_;simp[aa];refine e1 y ?_;have em:max (fA (aR (t.pk j).a)) (fA (aR (t.pk j).b))=if fA (aR (t.pk j).a)<fA (aR (t.pk j).b)then fA (aR (t.pk j).b)else fA (aR (t.pk j).a):=by split<;>omega
 simp[aa,<-em];clear em x y;generalize max (fA (aR (t.pk j).a)) (fA (aR (t.pk j).b))=M at*
 by_cases hm:M=0
 case neg=>
  simp[hm,aa]
 subst hm;simp[aa];refine c2 A ?_
 by_cases s:0<dC (aR (t.pk j).a) (aR (t.pk j).b)
 ·rw[if_pos s];simp[s,aa]
 rw[if_neg s];simp[s,aa];refine lp (α:=Nat) (fun k=>⟨[(8,.p (.int .i64 k)),(5,.ptr 1 []),(2,.ptr 0 []),(1,.p (.int .i64 j))],[.box false (.p (cM t)),.box false (.p (fx (t.pk j)))]⟩) (fun k=>k<=j/\(t.aV.take k).any (fun o=>gU o (t.pk j))=false) (fun k=>j-k) 0 (by simp) ?_;rintro k ⟨k1,k2⟩
 by_cases hk:k<j
 ·have e:k<t.aV.length:=by omega
  have gk:=aA.jd e;have f:=bR (i:=k) (by omega);obtain⟨I,J⟩:=R k hk;have T:=gH I;have U:=gH J;have l:=qI (aR (t.pk k).a) (aR (t.pk j).b) (T.mono (by decide)) (H.mono (by decide));have w:=qI (aR (t.pk j).a) (aR (t.pk k).b) (G.mono (by decide)) (U.mono (by decide));rw[(ji I).1,(ji d).1]at l;rw[(ji c).1,(ji J).1]at w;have C:gU (t.pk k) (t.pk j)=true->(t.aV.take j).any (fun o=>gU o (t.pk j))=true:=fun h=>by
   rw[bp];exact⟨t.pk k,bl (i:=k) (by rw[b3,if_pos hk];exact gk),h⟩
  have r:gU (t.pk k) (t.pk j)=false->(t.aV.take (k+1)).any (fun o=>gU o (t.pk j))=false:=fun h=>by
   rw[u4 gk,k2,h];rfl
  rw[gU]at C r
  by_cases e1:(t.pk k).dP=(t.pk j).dP
  ·by_cases e2:dC (aR (t.pk k).a) (aR (t.pk j).b)<=0
   ·by_cases e3:dC (aR (t.pk j).a) (aR (t.pk k).b)<=0
    ·rw[if_pos (C (by simp[e1,e2,e3]))];simp[hk,e,gk,e1,aa];refine c2 l ?_;simp[e1,e2,aa];refine c2 w ?_;simp[e1,e2,e3,aa]
    ·simp[hk,e,gk,e1,aa];refine c2 l ?_;simp[e1,e2,aa];refine c2 w ?_;simp[e1,e2,e3,f,aa];exact rd (k+1) ⟨hk,r (by simp[e3])⟩
   ·simp[hk,e,gk,e1,aa];refine c2 l ?_;simp[e1,e2,f,aa];exact rd (k+1) ⟨hk,r (by simp[e2])⟩
  ·simp[hk,e,gk,e1,f,aa];exact rd (k+1) ⟨hk,r (by simp[e1])⟩
 ·have:k=j:=by omega
  subst this;rw[k2,if_neg (by decide)];simp[aa]
structure NV where
 x:NF
 y:NF
noncomputable def bQ(v:NV):PV:=.st 130 [eF v.x,eF v.y]
@[simp] theorem aOP(v:NV):aL (bQ v)=.agg 130:=rfl
@[simp] theorem aNg(v:NV):bY (bQ v)=[eF v.x,eF v.y]:=rfl
@[simp] theorem aMv:prog.cellsOf 130=8:=by kernel_rfl
theorem oJ(x y:NF):bQ ⟨x,y⟩=.st 130 [eF x,eF y]:=rfl
def NV.q(v:NV):V2:=⟨v.x.q,v.y.q⟩
def NV.add(v w:NV):NV:=⟨v.x.add w.x,v.y.add w.y⟩
def NV.sub(v w:NV):NV:=⟨v.x.sub w.x,v.y.sub w.y⟩
def NV.times(v:NV)(k:NF):NV:=⟨v.x.mul k,v.y.mul k⟩
def NV.dot(v w:NV):NF:=(v.x.mul w.x).add (v.y.mul w.y)
def NV.c8(v w:NV):NF:=(v.x.mul w.y).sub (v.y.mul w.x)
theorem NV.fQ(v w:NV):(v.sub w).q=v.q.sub w.q:=by simp only[NV.sub,NV.q,V2.sub,NF.fQ]
theorem NV.BW(v w:NV):(v.add w).q=v.q.add w.q:=rfl
theorem NV.u5(v:NV)(k:NF):(v.times k).q=v.q.mul k.q:=rfl
theorem NV.kZ(v w:NV):(v.dot w).q=v.q.dot w.q:=rfl
theorem NV.sT(v w:NV):(v.c8 w).q=v.q.c8 w.q:=NF.fQ _ _
theorem HJ(v w:NV)(a:bB kQ v.q)(b:bB kQ w.q):ar prog 65 [bQ v,bQ w] (bQ (v.add w)):=by
 have c:=sx v.x w.x (c7 a.1) (c7 b.1);have d:=sx v.y w.y (c7 a.2) (c7 b.2);refine aI nf RH mix (by simp[f65]) ?_;rw[NV.add,oJ];simp[f65,aa];refine e2 c ?_;simp[aa];refine e2 d ?_;simp[aa]
theorem qm(v w:NV)(a:bB kQ v.q)(b:bB kQ w.q):ar prog 122 [bQ v,bQ w] (bQ (v.sub w)):=by
 have c:=qg v.x w.x (c7 a.1) (c7 b.1);have d:=qg v.y w.y (c7 a.2) (c7 b.2);refine aI nf HI mix (by simp[f122]) ?_;rw[NV.sub,oJ];simp[f122,aa];refine e2 c ?_;simp[aa];refine e2 d ?_;simp[aa]
theorem Em(v:NV)(k:NF)(a:bB kQ v.q)(hk:bE kQ k.q):ar prog 66 [bQ v,eF k] (bQ (v.times k)):=by
 have b:=jK v.x k (c7 a.1) (c7 hk);have c:=jK v.y k (c7 a.2) (c7 hk);refine aI nf RI mix (by simp[f66]) ?_;rw[NV.times,oJ];simp[f66,aa];refine e2 b ?_;simp[aa];refine e2 c ?_;simp[aa]
theorem Eg(v w:NV)(a:bB kQ v.q)(b:bB kQ w.q):ar prog 134 [bQ v,bQ w] (eF (v.dot w)):=by
 have c:=jK v.x w.x (c7 a.1) (c7 b.1);have d:=jK v.y w.y (c7 a.2) (c7 b.2);have e:=sx (v.x.mul w.x) (v.y.mul w.y) ((fC a.1 b.1).mono (by decide)) ((fC a.2 b.2).mono (by decide));refine aI nf Ia mix (by simp[f134]) ?_;rw[NV.dot];simp[f134,aa];refine e2 c ?_;simp[aa];refine e2 d ?_;simp[aa];refine e2 e ?_;simp[aa]
theorem F4(v w:NV)(a:bB kQ v.q)(b:bB kQ w.q):ar prog 173 [bQ v,bQ w] (eF (v.c8 w)):=by
 have c:=jK v.x w.y (c7 a.1) (c7 b.2);have d:=jK v.y w.x (c7 a.2) (c7 b.1);have e:=qg (v.x.mul w.y) (v.y.mul w.x) ((fC a.1 b.2).mono (by decide)) ((fC a.2 b.1).mono (by decide));refine aI nf Qq mix (by simp[f173]) ?_;rw[NV.c8];simp[f173,aa];refine e2 c ?_;simp[aa];refine e2 d ?_;simp[aa];refine e2 e ?_;simp[aa]
theorem Cc(v:NV)(a:bB kQ v.q):ar prog 123 [bQ v] (eF (v.dot v)):=by
 refine aI nf HG mix (by simp[f123]) ?_;simp[f123,aa];refine c2 (Eg v v a a) ?_;simp[aa]
def NV.from(p:gS):NV:=⟨⟨aR p.x,false⟩,⟨aR p.y,false⟩⟩
theorem akR(p:gS)(c:b7 p.x=0)(d:b7 p.y=0)(a:o7 p):ar prog 64 [gf p] (bQ (.from p)):=by
 have a1:=ka p.x c a.1.1;have b:=ka p.y d a.2.1;refine aI nf RG mix (by simp[f64]) ?_;rw[NV.from,oJ];simp[f64,aa];refine e1 a1 ?_;simp[aa];refine e1 b ?_;simp[aa]
structure NS where
 a:NF
 b:NF
 d:NF
noncomputable def AJ(s:NS):PV:=.st 136 [eF s.a,eF s.b,eF s.d]
@[simp] theorem aOO(s:NS):aL (AJ s)=.agg 136:=rfl
@[simp] theorem aNf(s:NS):bY (AJ s)=[eF s.a,eF s.b,eF s.d]:=rfl
def NS.q(s:NS):S3:=⟨s.a.q,s.b.q,s.d.q⟩
def Fh(k:Nat)(s:NS):Prop:=bE k s.a.q/\bE k s.b.q/\bE k s.d.q
def NF.width(r:Int):NF:=.int (4*r*r)
theorem Hu(r:Int):(NF.width r).q=iH r:=rfl
theorem aww(r:Int)(a:0<=r)(b:r<=1000000):ar prog 125 [.int .i64 r] (eF (.width r)):=by
 have e:=wG a b;have c:=ke (4*r*r) (by omega) (by omega);have w1:av.wrap (4*r)=4*r:=aQ _ (by omega) (by omega);have d:av.wrap (4*r*r)=4*r*r:=aQ _ (by omega) (by omega);refine aI nf HE mix (by simp[f125]) ?_;rw[NF.width];simp[f125,w1,d];refine c1 c ?_;simp[aa]
structure NM where
 w:NV
 d:NV
 root:NF
noncomputable def Q6(m:NM):PV:=.st 132 [bQ m.w,bQ m.d,eF m.root]
@[simp] theorem aON(m:NM):aL (Q6 m)=.agg 132:=rfl
@[simp] theorem aNe(m:NM):bY (Q6 m)=[bQ m.w,bQ m.d,eF m.root]:=rfl
def NM.of(width:NF)(p d b:NV):NM:=⟨b.sub p,d,(((b.sub p).dot d).mul ((b.sub p).dot d)).sub ((d.dot d).mul (((b.sub p).dot (b.sub p)).sub width))⟩
def NM.far(m:NM):NS:=⟨(m.w.dot m.d).div (m.d.dot m.d),(m.d.dot m.d).inv.neg,m.root⟩
theorem mX:∀l:List Int,bG l=0↔∀e∈l,e=0
 |[]=>by simp[bG]
 |e::r=>by
  rw[bG]
  by_cases h:e=0
  ·rw[if_pos h,mX r];simp[h]
  ·rw[if_neg h];simp[h]
theorem jX{p:gS}(h:eA p=0):b7 p.x=0/\b7 p.y=0:=by
 have:=(mX _).1 h;exact⟨this _ (by simp),this _ (by simp)⟩
def vP(p:gS):V2:=⟨aR p.x,aR p.y⟩
theorem iZ(p:gS):(NV.from p).q=vP p:=rfl
theorem BR{k:Nat}{p:gS}(h:bB k (vP p)):bB k (NV.from p).q:=h
def V2.A5(v:V2):V2:=⟨-v.y,v.x⟩
def eQ:Nat->V2->V2
 |0,v=>v
 |i+1,v=>(eQ i v).A5
def p0(k:Nat):V2:=⟨fW (64-(k:Int)*k) (64+(k:Int)*k),fW (16*(k:Int)) (64+(k:Int)*k)⟩
def sv(n:Nat):V2:=eQ (n/8) (p0 (n% 8))
theorem D1{n d:Int}{k:Nat}(c:0<d)(a:n.natAbs<2^k)(b:d.natAbs<2^k):bE k (fW n d):=by
 obtain⟨m,rfl⟩:∃m:Nat,d=m:=⟨d.natAbs,by omega⟩
 exact zD (by omega) a (by simpa using b)
theorem Cz{k:Nat}(h:k<8):bB 8 (p0 k):=by
 have b:k*k<=7*7:=dk (by omega) (by omega);have a:((k:Int)*k)=((k*k:Nat):Int):=by rw[ay]
 refine⟨?_,?_⟩
 ·rw[p0,a];exact D1 (by omega) (by omega) (by omega)
 ·rw[p0,a];exact D1 (by omega) (by omega) (by omega)
theorem aJG{k:Nat}{v:V2}(h:bB k v):bB k v.A5:=⟨zf h.2,h.1⟩
theorem yT{k:Nat}{v:V2}(h:bB k v):∀i,bB k (eQ i v)
 |0=>h
 |i+1=>aJG (yT h i)
theorem aea(n:Nat)(h:n<32):ar prog 200 [.int .i64 n] (eV (sv n)):=by
 obtain⟨k,hk⟩:∃k,n% 8=k:=⟨_,rfl⟩
 have w:k<8:=by omega
 obtain⟨m,A⟩:∃m,n/8=m:=⟨_,rfl⟩
 have z:k*k<=7*7:=dk (by omega) (by omega);obtain⟨a,g⟩:∃a:Nat,k*k=a:=⟨_,rfl⟩
 have hI:(k:Int)*k=a:=by rw[<-ay,g]
 rw[g]at z;have j:=xk (64-(k:Int)*k) (64+(k:Int)*k) (by rw[hI];omega) (by rw[hI];omega) (by rw[hI];omega);have l:=xk (16*(k:Int)) (64+(k:Int)*k) (by rw[hI];omega) (by omega) (by rw[hI];omega);have o:=Cz w;rw[sv,hk,A];have e0:p0 k=⟨fW (64-(k:Int)*k) (64+(k:Int)*k),fW (16*(k:Int)) (64+(k:Int)*k)⟩:=rfl;rw[hI]at j l e0;have D:(n:Int).tmod 8=k:=by rw[aT (a4 _)];omega
 have b:(n:Int).tdiv 8=m:=by rw[a5 (a4 _)];omega
 have w0:av.wrap (k:Int)=k:=aQ _ (by omega) (by omega);have w1:av.wrap (a:Int)=a:=aQ _ (by omega) (by omega);have c:av.wrap (64-(a:Int))=64-(a:Int):=aQ _ (by omega) (by omega);have d:av.wrap (64+(a:Int))=64+(a:Int):=aQ _ (by omega) (by omega);have e:av.wrap (16*(k:Int))=16*(k:Int):=aQ _ (by omega) (by omega);have q:av.wrap (m:Int)=m:=aQ _ (by omega) (by omega);have F:m<4:=by omega
 obtain⟨u,C⟩:∃u,p0 k=u:=⟨_,rfl⟩
 rw[C]at e0 o⊢;refine aI nf H6 mix (by simp[f200]) ?_;simp[f200,D,b,w0,w1,c,d,e,hI,aa];refine c2 j ?_;simp[w0,w1,c,d,e,hI,aa];refine c2 l ?_;simp[w0,w1,c,d,e,hI,aa];refine lp (α:=Nat) (fun i=>⟨[(5,.p (.int .i64 i)),(4,.ptr 1 []),(2,.ptr 0 []),(0,.p (.int .i64 n))],[.box false (.p (.st 31 [.str [],.str []])),.box false (.p (eV (eQ i u)))]⟩)
  (fun i=>i<=m) (fun i=>m-i) 0 (dl _) ?_ (hh:=by simp[eQ,e0,ql])
 intro i hi;have E:av.wrap ((i:Int)+1)=(i:Int)+1:=aQ _ (by omega) (by omega);have r:=OG (eQ i u).y ((yT o i).2.mono (by decide))
 by_cases s:i<m
 ·have f:(i:Int)<m:=by omega
  have B:eQ (i+1) u=⟨-(eQ i u).y,(eQ i u).x⟩:=rfl;generalize G:eQ i u=v at*;obtain⟨x,y⟩:=v;rw[ql];simp[b,q,f,s,aa];refine e1 r ?_;simp[aa];refine⟨by repeat' first|rfl|apply And.intro,?_⟩;exact rd (i+1) (show i+1<=m by omega) (he:=by simp[E]) (hh:=by simp[B,ql])
 ·have f:¬(i:Int)<m:=by omega
  have t:i=m:=by omega
  subst t;simp[b,q,aa]
def NV.A5(v:NV):NV:=⟨v.y.neg,v.x⟩
def NV.eQ:Nat->NV->NV
 |0,v=>v
 |i+1,v=>(NV.eQ i v).A5
theorem NV.Ac(v:NV):∀i,(NV.eQ i v).q=Go.ah.eQ i v.q
 |0=>rfl
 |i+1=>by rw[NV.eQ,Go.ah.eQ,<-NV.Ac v i];rfl
def jZ(k:Nat):NV:=NV.times ⟨.int (64-(k:Int)*k),.int (16*(k:Int))⟩ (NF.int (64+(k:Int)*k)).inv
theorem CP(n d:Int):fW n d=(n:Rat)*((d:Int):Rat)⁻¹:=by
 rw[fW,eo,ed]
theorem DR(k:Nat):(jZ k).q=p0 k:=by
 rw[jZ,NV.u5,p0,CP,CP];rfl
def wZ:PV:=.st 124 [.int .i64 0,.aP]
def zeroV:PV:=.st 130 [.st 126 [wZ,wZ],.st 126 [wZ,wZ]]
@[simp] theorem aPj:aL zeroV=.agg 130:=rfl
theorem awu(n:Nat)(h:n<32):ar prog 117 [.int .i64 n] (bQ (NV.eQ (n/8) (jZ (n% 8)))):=by
 obtain⟨k,hk⟩:∃k,n% 8=k:=⟨_,rfl⟩
 have C:k<8:=by omega
 obtain⟨m,E⟩:∃m,n/8=m:=⟨_,rfl⟩
 have D:k*k<=7*7:=dk (by omega) (by omega);obtain⟨a,o⟩:∃a:Nat,k*k=a:=⟨_,rfl⟩
 have hI:(k:Int)*k=a:=by rw[<-ay,o]
 rw[o]at D;rw[hk,E];have H:=ke (64-(a:Int)) (by omega) (by omega);have I:=ke (16*(k:Int)) (by omega) (by omega);have J:=ke (64+(a:Int)) (by omega) (by omega);have j:bE 8 (NF.int (64+(a:Int))).q:=mF (by omega) (by decide);have b1:bE 8 (NF.int (64-(a:Int))).q:=mF (by omega) (by decide);have s:bE 8 (NF.int (16*(k:Int))).q:=mF (by omega) (by decide);have G:(NF.int (64+(a:Int))).q≠0:=by
  show((64+(a:Int):Int):Rat)≠0;intro h;have N:(64+(a:Int):Int)=0:=by exact_mod_cast h
  omega
 have K:=DO (NF.int (64+(a:Int))) (j.mono (by decide)) G;have w:bB kQ (NV.mk (.int (64-(a:Int))) (.int (16*(k:Int)))).q:=⟨b1.mono (by decide),s.mono (by decide)⟩
 have r:=Em ⟨.int (64-(a:Int)),.int (16*(k:Int))⟩ (NF.int (64+(a:Int))).inv w ((yy j).mono (by decide));have L:bB 8 (jZ k).q:=by rw[DR];exact Cz C
 have e0:jZ k=NV.times ⟨.int (64-(a:Int)),.int (16*(k:Int))⟩ (NF.int (64+(a:Int))).inv:=by rw[jZ,hI]
 rw[<-e0,oJ]at r;have b:(n:Int).tmod 8=k:=by rw[aT (a4 _)];omega
 have c:(n:Int).tdiv 8=m:=by rw[a5 (a4 _)];omega
 have w0:av.wrap (k:Int)=k:=aQ _ (by omega) (by omega);have w1:av.wrap (a:Int)=a:=aQ _ (by omega) (by omega);have d:av.wrap (64-(a:Int))=64-(a:Int):=aQ _ (by omega) (by omega);have e:av.wrap (64+(a:Int))=64+(a:Int):=aQ _ (by omega) (by omega);have f:av.wrap (16*(k:Int))=16*(k:Int):=aQ _ (by omega) (by omega);have g:av.wrap (m:Int)=m:=aQ _ (by omega) (by omega);have O:m<4:=by omega
 generalize jZ k=u at*;clear e0;refine aI nf P0 mix (by simp[f117]) ?_;simp[f117,b,c,w0,w1,d,e,f,g,hI,aa];refine c1 H ?_;simp[b,c,w0,w1,d,e,f,g,hI,aa];refine c1 I ?_;simp[b,c,w0,w1,d,e,f,g,hI,aa];refine c1 J ?_;simp[b,c,w0,w1,d,e,f,g,hI,aa];refine c1 K ?_;simp[b,c,w0,w1,d,e,f,g,hI,aa];refine c2 r ?_;simp[b,c,w0,w1,d,e,f,g,hI,aa];refine lp (α:=Nat) (fun i=>⟨[(25,.p (.int .i64 i)),(24,.p (.int .i64 m)),(4,.ptr 1 []),(2,.ptr 0 [])],[.box false (.p zeroV),.box false (.p (bQ (NV.eQ i u)))]⟩)
  (fun i=>i<=m) (fun i=>m-i) 0 (dl _) ?_ (hh:=by simp[NV.eQ,oJ,bQ,zeroV,wZ])
 intro i hi;have M:av.wrap ((i:Int)+1)=(i:Int)+1:=aQ _ (by omega) (by omega);have t:bB 8 (NV.eQ i u).q:=by rw[NV.Ac];exact yT L i
 have z:=DN (NV.eQ i u).y (t.2.mono (by decide))
 by_cases A:i<m
 ·have F:NV.eQ (i+1) u=⟨(NV.eQ i u).y.neg,(NV.eQ i u).x⟩:=rfl;generalize P:NV.eQ i u=v at*;obtain⟨x,y⟩:=v;have l:(i:Int)<m:=by omega
  rw[oJ];simp[l,A,aa];refine e1 z ?_;simp[aa];refine⟨by repeat' first|rfl|apply And.intro,?_⟩;exact rd (i+1) (show i+1<=m by omega) (he:=by simp[M]) (hh:=by simp[F,oJ])
 ·have l:¬(i:Int)<m:=by omega
  have B:i=m:=by omega
  subst B;simp[zeroV,aa]
theorem AA{s:List Nat}(h:fD s 9=true):bE 30 (aR s):=by
 simp only[fD,ac,decide_eq_true_eq]at h;have a:=OL h.1.2;have b:=OL h.2;exact⟨dq a (by decide),dq b (by decide)⟩
structure NB where
 a:NV
 b:NV
 d:NF
noncomputable def Q5(n:NB):PV:=.st 146 [bQ n.a,bQ n.b,eF n.d]
@[simp] theorem aOM(n:NB):aL (Q5 n)=.agg 146:=rfl
@[simp] theorem aNd(n:NB):bY (Q5 n)=[bQ n.a,bQ n.b,eF n.d]:=rfl
def NB.q(n:NB):P4:=⟨⟨n.a.x.q,n.b.x.q,n.d.q⟩,⟨n.a.y.q,n.b.y.q,n.d.q⟩⟩
def okB(k:Nat)(n:NB):Prop:=bB k n.a.q/\bB k n.b.q/\bE k n.d.q
theorem okB.mono{k l:Nat}{n:NB}(h:okB k n)(a:k<=l):okB l n:=⟨h.1.mono a,h.2.1.mono a,h.2.2.mono a⟩
theorem QE(e:Int):∀l:List Int,bG (l++[e])=if bG l=0 then e else bG l
 |[]=>by by_cases h:e=0<;>simp[bG,h]
 |x::l=>by
  simp only[List.cons_append,bG,QE e l]
  by_cases hx:x=0
  ·simp[hx]
  ·simp[hx]
theorem S4{b t:V2}(h:b≠t):oA (bg b.x) (bg b.y) (bg t.x) (bg t.y)=false:=by
 rw[oA,decide_eq_false_iff_not];rintro⟨a,c⟩;obtain⟨bx,d⟩:=b;obtain⟨e,ty⟩:=t;dsimp only at a c;exact h (by rw[Bi a,Bi c])
def gI{α:Type}(a:List α->α->Int)(l:List α)(i:Nat):Int:=match l[i]? with
 |some x=>a (l.take i) x
 |none=>0
def ks{α:Type}(a:List α->α->Int)(l:List α):Int:=bG ((ck l.length).map (gI a l))
theorem xO{f:Nat->Int}:∀(n i:Nat),(∀j,j<i->f j=0)->i<n->f i≠0->bG ((ck n).map f)=f i
 |0,i,_,h,_=>by omega
 |n+1,i,a,g,b=>by
  rw[cv,List.map_append,bv,b2,QE]
  by_cases hi:i<n
  ·rw[xO n i a hi b,if_neg b]
  ·have:i=n:=by omega
   subst this;rw[(mX _).2 (by intro e c;obtain⟨j,d,rfl⟩:=b5.1 c;exact a j (cb.1 d)),if_pos rfl]
theorem sV{α:Type}{a:List α->α->Int}{l:List α}{i:Nat}{x:α}(h:∀j,j<i->gI a l j=0)(hx:l[i]?=some x)(b:a (l.take i) x≠0):ks a l=a (l.take i) x:=by
 have hi:=(List.getElem?_eq_some_iff.1 hx).1;have e:gI a l i=a (l.take i) x:=by rw[gI,hx]
 rw[ks,xO _ i h hi (by rw[e];exact b),e]
theorem pg{α:Type}{b:List α->α->Int}{l:List α}:ks b l=0↔∀j,j<l.length->gI b l j=0:=by
 rw[ks,mX];constructor
 ·intro h j a;exact h _ (b5.2 ⟨j,cb.2 a,rfl⟩)
 ·intro h e c;obtain⟨j,a,rfl⟩:=b5.1 c;exact h j (cb.1 a)
theorem sU{α:Type}{a:List α->α->Int}{l:List α}{i:Nat}{x:α}(h:∀j,j<i->gI a l j=0)(hx:l[i]?=some x)(c:a (l.take i) x=0):∀j,j<i+1->gI a l j=0:=by
 intro j d
 by_cases b:j=i
 ·subst b;rw[gI,hx];exact c
 ·exact h j (by omega)
def jq(t:aA)(bef:List cG)(s:cG):Int:=
 if isName s.name=false then 8
 else if bef.any (fun o=>decide (o.name=s.name))=true then 9
 else if eA s.pt≠0 then eA s.pt
 else if t.on (vP s.pt)<0 then 16 else 0
def gT(t:aA):Int:=
 if t.cs.length<3 then 2
 else if 12<t.cs.length then 5
 else if t.cs.any fT=true then 3
 else if t.gq=false then 15
 else if t.aN<1\/1000<t.aN then 3
 else if 12<t.aV.length then 5
 else if ks (iC t.cs.length) t.aV≠0 then ks (iC t.cs.length) t.aV
 else if 256<t.aw.length then 5
 else ks (jq t) t.aw
def nG(p:cG):Prop:=jc p.name/\o7 p.pt
def aA.sp(t:aA)(i:Nat):cG:=t.aw.getD i ⟨[],⟨[],[]⟩⟩
@[simp] theorem aA.jS{t:aA}{i:Nat}(h:i<t.aw.length):t.aw[i]'h=t.sp i:=by
 rw[aA.sp,bo,bi h];rfl
theorem aA.eK{t:aA}{i:Nat}(h:i<t.aw.length):t.aw[i]?=some (t.sp i):=by rw[bi h,aA.jS]
structure fL(t:aA):Prop where
 cl:t.cs.length<=1000000
 pl:t.aV.length<=1000000
 sl:t.aw.length<=1000000
 pk:∀p∈t.aV,qx p
 sp:∀s∈t.aw,nG s
def jf(t:aA)(name:List Nat):Int:=match t.aw.findIdx? (fun s=>decide (s.name=name))with
 |some i=>i
 |none=>-1
theorem Bn{n:Nat}{c:List cX}{p:cX}(h:iC n c p=0):b7 p.a=0/\b7 p.b=0:=by
 rw[iC]at h
 split at h
 ·omega
 split at h
 ·omega
 split at h
 ·omega
 split at h
 ·contradiction
 split at h
 ·contradiction
 rename_i d e;exact⟨Decidable.not_not.1 d,Decidable.not_not.1 e⟩
theorem abw(t:aA)(name:List Nat)(h:t.aw.length<=1000000):ar prog 205 [cM t,.str name] (.int .i64 (jf t name)):=by
 refine aI nf HY mix (by simp[f205]) ?_;simp[f205,aa];refine lp (α:=Nat) (fun i=>⟨[(5,.p (.int .i64 i)),(2,.ptr 0 []),(1,.p (.str name))],[.box false (.p (cM t))]⟩) (fun i=>i<=t.aw.length/\∀j,j<i->¬(t.sp j).name=name) (fun i=>t.aw.length-i) 0 (by simp) ?_;rintro i ⟨g,c⟩
 by_cases hi:i<t.aw.length
 ·have d:=aA.eK hi;have f:=bR (i:=i) (by omega)
  by_cases a:(t.sp i).name=name
  ·have:jf t name=i:=by
    have:t.aw.findIdx? (fun s=>decide (s.name=name))=some i:=by
     rw[b4];refine⟨hi,by rw[aA.jS];simp[a],fun j b=>?_⟩;rw[aA.jS];simp[c j b]
    rw[jf,this]
   simp[hi,d,a,this,aa]
  ·simp[hi,d,a,f,aa];exact rd (i+1) ⟨hi,fun j b=>by
    by_cases e:j=i
    ·subst e;exact a
    ·exact c j (by omega)⟩
 ·have:i=t.aw.length:=by omega
  subst this;have:jf t name= -1:=by
   have:t.aw.findIdx? (fun s=>decide (s.name=name))=none:=by
    rw[cc];intro s hs;obtain⟨j,b,rfl⟩:=ch.1 hs;rw[aA.jS];simp[c j b]
   rw[jf,this]
  simp[this,aa]
theorem aKN{t:aA}{i:Nat}(hi:i<t.aw.length):jf t (t.sp i).name<i↔(t.aw.take i).any (fun o=>decide (o.name=(t.sp i).name))=true:=by
 obtain⟨k,hk⟩:∃k,t.aw.findIdx? (fun s=>decide (s.name=(t.sp i).name))=some k:=by
  cases h:t.aw.findIdx? (fun s=>decide (s.name=(t.sp i).name))with
  |some k=>exact⟨k,rfl⟩
  |none=>
   rw[cc]at h;have:=h _ (bl (aA.eK hi));simp at this
 rw[jf,hk];rw[b4]at hk;obtain⟨k1,k2,k3⟩:=hk;rw[bp];constructor
 ·intro h;have h:k<i:=by simp only at h;omega
  exact⟨t.aw[k],bl (i:=k) (by rw[b3,if_pos h,bi k1]),k2⟩
 ·rintro⟨o,b,a⟩;obtain⟨j,c,rfl⟩:=ch.1 b;simp only[List.length_take]at c;simp only;rw[List.getElem_take]at a;have:¬j<k:=fun d=>by
   have:=k3 j d;rw[a]at this;simp at this
  omega
theorem S6(t:aA)(L:fL t):ar prog 113 [cM t] (.int .i64 (gT t)):=by
 obtain⟨s,M,N,J,K⟩:=L;refine aI nf G3 mix (by simp[f113]) ?_;rw[gT]
 by_cases c1:t.cs.length<3
 ·have cI:(t.cs.length:Int)<3:=by omega
  rw[if_pos c1];simp[f113,aa,cI]
 have v:¬(t.cs.length:Int)<3:=by omega
 rw[if_neg c1]
 by_cases c2:12<t.cs.length
 ·have cI:(12:Int)<t.cs.length:=by omega
  rw[if_pos c2];simp[f113,aa,v,cI]
 have A:¬(12:Int)<t.cs.length:=by omega
 rw[if_neg c2];simp[f113,aa,v,A];refine lp (α:=Nat) (fun i=>⟨[(3,.p (.int .i64 i)),(1,.ptr 0 [])],[.box false (.p (cM t))]⟩) (fun i=>i<=t.cs.length/\(t.cs.take i).any fT=false) (fun i=>t.cs.length-i) 0 (by simp) ?_;rintro i ⟨i1,i2⟩
 by_cases hi:i<t.cs.length
 ·have k:=aA.get hi;have f:=bR (i:=i) (by omega);have l:=aiN (t.at i);cases hf:fT (t.at i)
  ·rw[hf]at l;simp[hi,k,aa];refine Go.ah.c1 l ?_;simp[f,aa];exact rd (i+1) ⟨hi,by rw[u4 k,i2,hf];rfl⟩
  ·rw[hf]at l;have:t.cs.any fT=true:=bp.2 ⟨t.at i,bl k,hf⟩;rw[if_pos this];simp[hi,k,aa];refine Go.ah.c1 l ?_;simp[aa]
 have:i=t.cs.length:=by omega
 subst this;rw[List.take_length]at i2;have x:∀p∈t.cs,dU p:=fun p I=>F9 (by
  cases h:fT p
  ·rfl
  ·rw[bp.2 ⟨p,I,h⟩]at i2;cases i2)
 have E:=TF t s x;rw[i2,if_neg (by decide)];simp[aa];refine Go.ah.c1 E ?_;cases R:t.gq
 ·simp[aa]
 rw[if_neg (by decide)];have u:(t.aN<1\/1000<t.aN)\/(¬t.aN<1/\¬1000<t.aN):=by omega
 rcases u with u|⟨y,z⟩
 ·rw[if_pos u]
  by_cases e1:t.aN<1
  ·simp[e1,aa]
  ·have e2:1000<t.aN:=by omega
   simp[e1,e2,aa]
 rw[if_neg (by omega)]
 by_cases c3:12<t.aV.length
 ·have cI:(12:Int)<t.aV.length:=by omega
  rw[if_pos c3];simp[y,z,cI,aa]
 have B:¬(12:Int)<t.aV.length:=by omega
 rw[if_neg c3];simp[y,z,B,aa];refine lp (α:=Nat) (fun i=>⟨[(4,.p (.int .i64 i)),(1,.ptr 0 [])],[.box false (.p (cM t))]⟩) (fun i=>i<=t.aV.length/\∀j,j<i->gI (iC t.cs.length) t.aV j=0) (fun i=>t.aV.length-i) 0 (by simp) ?_;rintro i ⟨k1,k2⟩
 by_cases hk:i<t.aV.length
 ·have gk:=aA.jd hk;have f:=bR (i:=i) (by omega);have b:=S9 t i hk M s J (fun j H=>by
   have:=k2 j H;rw[gI,aA.jd (by omega)]at this;exact Bn this)
  by_cases he:iC t.cs.length (t.aV.take i) (t.pk i)=0
  ·rw[he]at b;simp[hk,aa];refine Go.ah.c2 b ?_;simp[f,aa];exact rd (i+1) ⟨hk,sU k2 gk he⟩
  ·have G:=sV k2 gk he;rw[G,if_pos he];simp[hk,aa];refine Go.ah.c2 b ?_;simp[he,aa]
 have:i=t.aV.length:=by omega
 subst this;have F:=pg.2 k2;rw[F,if_neg (by decide)]
 by_cases c4:256<t.aw.length
 ·have cI:(256:Int)<t.aw.length:=by omega
  rw[if_pos c4];simp[cI,aa]
 have C:¬(256:Int)<t.aw.length:=by omega
 rw[if_neg c4];simp[C,aa];refine lp (α:=Nat) (fun i=>⟨[(6,.p (.int .i64 i)),(1,.ptr 0 [])],[.box false (.p (cM t))]⟩) (fun i=>i<=t.aw.length/\∀j,j<i->gI (jq t) t.aw j=0) (fun i=>t.aw.length-i) 0 (by simp) ?_;rintro i ⟨s1,s2⟩
 by_cases hs:i<t.aw.length
 ·have a:=aA.eK hs;have f:=bR (i:=i) (by omega);obtain⟨P,Q⟩:=K _ (bl a);have c:=Bj (t.sp i).name P.1;have m:=abw t (t.sp i).name N;have b:=Jc (t.sp i).pt Q;have w:=aKN hs;have g:jq t (t.aw.take i) (t.sp i)≠0->ks (jq t) t.aw=jq t (t.aw.take i) (t.sp i):=sV s2 a;have O:jq t (t.aw.take i) (t.sp i)=0->∀j,j<i+1->gI (jq t) t.aw j=0:=sU s2 a;have ev:jq t (t.aw.take i) (t.sp i)=if isName (t.sp i).name=false then 8 else if(t.aw.take i).any (fun o=>decide (o.name=(t.sp i).name))=true then 9 else if eA (t.sp i).pt≠0 then eA (t.sp i).pt else if t.on (vP (t.sp i).pt)<0 then 16 else 0:=rfl
  cases n:isName (t.sp i).name
  ·rw[n]at c;rw[n,if_pos rfl]at ev;rw[g (by rw[ev];decide),ev];simp[hs,a,aa];refine Go.ah.c1 c ?_;simp[aa]
  rw[n]at c;rw[n,if_neg (by decide)]at ev
  by_cases e:jf t (t.sp i).name<i
  ·rw[if_pos (w.1 e)]at ev;rw[g (by rw[ev];decide),ev];simp[hs,a,aa];refine Go.ah.c1 c ?_;simp[aa];refine Go.ah.c2 m ?_;simp[e,aa]
  rw[if_neg (fun h=>e (w.2 h))]at ev
  by_cases d:eA (t.sp i).pt=0
  case neg=>
   rw[if_pos d]at ev;rw[g (by rw[ev];exact d),ev];simp[hs,a,aa];refine Go.ah.c1 c ?_;simp[aa];refine Go.ah.c2 m ?_;simp[e,aa];refine Go.ah.c1 b ?_;simp[d,aa]
  rw[if_neg (by simp[d])]at ev;obtain⟨g1,g2⟩:=jX d;have r:=Eu t (vP (t.sp i).pt) s x ⟨(gH g1).mono (by decide),(gH g2).mono (by decide)⟩;have D:eV (vP (t.sp i).pt)=gf (t.sp i).pt:=by
   rw[eV,vP];dsimp only;rw[(ji g1).1,(ji g2).1]
  rw[D]at r;rw[d]at b
  by_cases q:t.on (vP (t.sp i).pt)<0
  ·rw[if_pos q]at ev;rw[g (by rw[ev];decide),ev];simp[hs,a,aa];refine Go.ah.c1 c ?_;simp[aa];refine Go.ah.c2 m ?_;simp[e,aa];refine Go.ah.c1 b ?_;simp[aa];refine Go.ah.c2 r ?_;simp[q,aa]
  ·rw[if_neg q]at ev;simp[hs,a,aa];refine Go.ah.c1 c ?_;simp[aa];refine Go.ah.c2 m ?_;simp[e,aa];refine Go.ah.c1 b ?_;simp[aa];refine Go.ah.c2 r ?_;simp[q,f,aa];exact rd (i+1) ⟨hs,O ev⟩
 ·have:i=t.aw.length:=by omega
  subst this;rw[pg.2 s2];simp[aa]
open Go.Proofs Go.Proofs.YthmfmhbicipdmaaGreatDoor
section
variable{H:Type}{W:World}{ad:Nat->Prop}
theorem xN:∀d:ao H,1<=Rows.uptoBulk d:=by
 intro d;cases d with
 |lit l=>cases l<;>simp[Rows.uptoBulk]
 |_=>simp[Rows.uptoBulk]
theorem xY{α:Type}{n:Nat}{t e:TypeId}{F:α->PV}{ok:α->Prop}(g:prog.underlying t=some (.slice e))
 (p:∀(d:ao H),(∃c,aW prog W ad (bu prog n e d) c)->Rows.uptoBulk d<=1048576->∃a,bu prog n e d=F a/\ok a/\2<=Rows.uptoBulk d)
 {d:ao H}(h:∃cs,aW prog W ad (bu prog (n+1) t d) cs)(k:Rows.uptoBulk d<=1048576):∃l:List α,bu prog (n+1) t d=.seq (l.map F)/\(∀a∈l,ok a)/\l.length<=1000000:=by
 obtain⟨cs,h⟩:=h;cases d with
 |nil=>exact⟨[],by simp[bu,g],(fun _ h=>nomatch h),by simp⟩
 |slice f sp=>
  simp only[bu,g,aW]at h⊢;have i:∀e'∈f.map (bu prog n e),∃c,aW prog W ad e' c:=by
   rcases h with⟨h,_⟩|⟨_,_,_,_,w,h,_⟩
   ·rw[h];intro _ h;cases h
   ·exact Bq h
  have key:∀f:List (ao H),(∀e'∈f.map (bu prog n e),∃c,aW prog W ad e' c)->Rows.uptoBulkAll f<=1048576->∃l:List α,f.map (bu prog n e)=l.map F/\(∀a∈l,ok a)/\2*l.length<=Rows.uptoBulkAll f:=by
   intro f
   induction f with
   |nil=>intro _ _;exact⟨[],rfl,(fun _ h=>nomatch h),by simp⟩
   |cons d r v=>
    intro i k;rw[Rows.uptoBulkAll]at k⊢;obtain⟨a,q,u,m⟩:=p d (i _ List.mem_cons_self) (by omega);obtain⟨l,j,o,y⟩:=v (fun e' s=>i e' (List.mem_cons_of_mem _ s)) (by omega);refine⟨a::l,by simp only[bv];rw[q,j],fun x hx=>?_,by rw[List.length_cons];omega⟩;rcases cx.1 hx with rfl|hx
    ·exact u
    ·exact o x hx
  rw[Rows.uptoBulk]at k;obtain⟨l,j,m,o⟩:=key f i (by omega);exact⟨l,by rw[j],m,by omega⟩
 |lit l=>simp only[bu,g,aW]at h
 |ptr d=>simp only[bu,g,aW]at h
 |agg l=>simp only[bu,g,aW]at h
 |iface a b=>simp only[bu,g,aW]at h
 |map l=>simp only[bu,g,aW]at h
 |held a=>simp only[bu,g,aW]at h
theorem sY{n:Nat}{d:ao H}(h:∃cs,aW prog W ad (bu prog (n+1) 9 d) cs)(a:Rows.uptoBulk d<=1048576):∃s:List Nat,bu prog (n+1) 9 d=.str s/\jc s:=by
 obtain⟨cs,h⟩:=h;cases d with
 |lit l=>
  cases l with
  |string bytes=>
   refine⟨bytes.map (·.toNat),by simp only[bu,uV],?_,?_⟩
   ·rw[Rows.uptoBulk]at a;rw[List.length_map];omega
   ·intro c hc;obtain⟨u,_,rfl⟩:=b5.1 hc;exact u.toNat_lt
  |_=>simp only[bu,uV,aW]at h
 |_=>simp only[bu,uV,aW]at h
theorem aLr:∃a b:ap,prog.underlying 202=some (.struct #[a,b])/\a.type=3/\b.type=3:=⟨_,_,underlying202,rfl,rfl⟩
theorem SH:prog.underlyingId 202=201:=by kernel_rfl
theorem TH{m n:Nat}(j:m=n+1){d:ao H}(h:∃cs,aW prog W ad (bu prog (m+1) 202 d) cs)(o:Rows.uptoBulk d<=1048576):∃p:dT,bu prog (m+1) 202 d=cF p/\True/\2<=Rows.uptoBulk d:=by
 obtain⟨cs,h⟩:=h;obtain⟨f0,f1,f,t0,t1⟩:=aLr;cases d with
 |agg l=>
  simp only[bu,f,aW]at h⊢;obtain⟨q,k,e,c,_⟩:=h;rw[SH,aKZ]at e;cases e
  match l,c with
  |[],c=>simp[bm]at c
  |[x],c=>simp[bm]at c
  |x::y::r,c=>
   have:=xN x;simp only[bI,bv,bm,bV,b2,t0,t1]at c⊢;obtain⟨c0,_,_,g1,_,c1,_,_,g2,_⟩:=c;subst j;obtain⟨a,g⟩:=xV (n:=n) x c0 g1;obtain⟨b,i⟩:=xV (n:=n) y c1 g2;refine⟨⟨a,b⟩,by rw[g,i,SH];rfl,trivial,?_⟩;rw[Rows.uptoBulk,Rows.uptoBulkAll];omega
 |_=>simp only[bu,f,aW]at h
theorem aLp:∃a b f2 f3:ap,prog.underlying 91=some (.struct #[a,b,f2,f3])/\a.type=9/\b.type=3/\f2.type=30/\f3.type=30:=⟨_,_,_,_,underlying91,rfl,rfl,rfl,rfl⟩
theorem SF:prog.underlyingId 91=90:=by kernel_rfl
theorem Tk{m n:Nat}(q:m=n+1){d:ao H}(h:∃cs,aW prog W ad (bu prog (m+1) 91 d) cs)(o:Rows.uptoBulk d<=1048576):∃p:cX,bu prog (m+1) 91 d=fx p/\qx p/\2<=Rows.uptoBulk d:=by
 obtain⟨cs,h⟩:=h;obtain⟨f0,f1,f2,f3,g,t0,t1,t2,t3⟩:=aLp;cases d with
 |agg l=>
  have e:∀x∈l,Rows.uptoBulk x<=1048576:=fun x hx=>by
   have:=oV.uv hx;rw[Rows.uptoBulk]at o;omega
  simp only[bu,g,aW]at h⊢;obtain⟨B,A,f,c,_⟩:=h;rw[SF,aK3]at f;cases f
  match l,c with
  |[],c=>simp[bm]at c
  |[x],c=>simp[bm]at c
  |[x,y],c=>simp[bm]at c
  |[x,y,z],c=>simp[bm]at c
  |x::y::z::w::r,c=>
   have:=xN x;simp only[bI,bv,bm,bV,b2,t0,t1,t2,t3]at c⊢;obtain⟨c0,_,_,g0,_,c1,_,_,g1,_,c2,_,_,g2,_,c3,_,_,g3,_⟩:=c;subst q;obtain⟨a,i,k⟩:=sY (n:=n) ⟨c0,g0⟩ (e x (by simp));obtain⟨b,j⟩:=xV (n:=n) y c1 g1;obtain⟨u,eu,s⟩:=Am (n:=n) ⟨c2,g2⟩ (e z (by simp));obtain⟨v,ev,t⟩:=Am (n:=n) ⟨c3,g3⟩ (e w (by simp));refine⟨⟨a,b,u,v⟩,by rw[i,j,eu,ev,SF];rfl,⟨k,s,t⟩,?_⟩;rw[Rows.uptoBulk,Rows.uptoBulkAll];omega
 |_=>simp only[bu,g,aW]at h
theorem aLt:∃a b:ap,prog.underlying 141=some (.struct #[a,b])/\a.type=9/\b.type=32:=⟨_,_,underlying141,rfl,rfl⟩
theorem SJ:prog.underlyingId 141=56:=by kernel_rfl
theorem TG{m n:Nat}(s:m=n+2){d:ao H}(h:∃cs,aW prog W ad (bu prog (m+1) 141 d) cs)(o:Rows.uptoBulk d<=1048576):∃p:cG,bu prog (m+1) 141 d=bK p/\nG p/\2<=Rows.uptoBulk d:=by
 obtain⟨cs,h⟩:=h;obtain⟨f0,f1,g,t0,t1⟩:=aLt;cases d with
 |agg l=>
  have f:∀x∈l,Rows.uptoBulk x<=1048576:=fun x hx=>by
   have:=oV.uv hx;rw[Rows.uptoBulk]at o;omega
  simp only[bu,g,aW]at h⊢;obtain⟨u,t,e,c,_⟩:=h;rw[SJ,SB]at e;cases e
  match l,c with
  |[],c=>simp[bm]at c
  |[x],c=>simp[bm]at c
  |x::y::r,c=>
   have:=xN x;simp only[bI,bv,bm,bV,b2,t0,t1]at c⊢;obtain⟨c0,_,_,g1,_,c1,_,_,g2,_⟩:=c;subst s;obtain⟨a,i,k⟩:=sY (n:=n+1) ⟨c0,g1⟩ (f x (by simp));obtain⟨b,j,q⟩:=KC (n:=n) ⟨c1,g2⟩ (f y (by simp));refine⟨⟨a,b⟩,by rw[i,j,SJ];rfl,⟨k,q⟩,?_⟩;rw[Rows.uptoBulk,Rows.uptoBulkAll];omega
 |_=>simp only[bu,g,aW]at h
theorem aLu:∃a b f2 f3:ap,prog.underlying 26=some (.struct #[a,b,f2,f3])/\a.type=22/\b.type=3/\f2.type=23/\f3.type=24:=⟨_,_,_,_,underlying26,rfl,rfl,rfl,rfl⟩
theorem SK:prog.underlyingId 26=25:=by kernel_rfl
theorem aK4{m n:Nat}(p:m=n+4){d:ao H}(h:∃cs,aW prog W ad (bu prog (m+1) 26 d) cs)(e:Rows.uptoBulk d<=1048576):∃t:aA,bu prog (m+1) 26 d=cM t/\True/\fL t:=by
 obtain⟨cs,h⟩:=h;obtain⟨f0,f1,f2,f3,j,t0,t1,t2,t3⟩:=aLu;cases d with
 |agg l=>
  have g:∀x∈l,Rows.uptoBulk x<=1048576:=fun x hx=>by
   have:=oV.uv hx;rw[Rows.uptoBulk]at e;omega
  simp only[bu,j,aW]at h⊢;obtain⟨E,D,i,c,_⟩:=h;rw[SK,aK0]at i;cases i
  match l,c with
  |[],c=>simp[bm]at c
  |[x],c=>simp[bm]at c
  |[x,y],c=>simp[bm]at c
  |[x,y,z],c=>simp[bm]at c
  |x::y::z::w::r,c=>
   simp only[bI,bv,bm,bV,b2,t0,t1,t2,t3]at c⊢;obtain⟨c0,_,_,g0,_,c1,_,_,g1,_,c2,_,_,g2,_,c3,_,_,g3,_⟩:=c;subst p;obtain⟨a,k,_,A⟩:=xY (n:=n+3) aLj (F:=cF) (ok:=fun _=>True) (fun d f e=>TH (n:=n+1) rfl f e) ⟨c0,g0⟩ (g x (by simp));obtain⟨b,o⟩:=xV (n:=n+3) y c1 g1;obtain⟨u,eu,q,B⟩:=xY (n:=n+3) aLk (F:=fx) (ok:=qx) (fun d f e=>Tk (n:=n+1) rfl f e) ⟨c2,g2⟩ (g z (by simp));obtain⟨v,ev,s,C⟩:=xY (n:=n+3) aLl (F:=bK) (ok:=nG) (fun d f e=>TG (n:=n) rfl f e) ⟨c3,g3⟩ (g w (by simp));exact⟨⟨a,b,u,v⟩,by rw[k,o,eu,ev,SK];rfl,trivial,A,B,C,q,s⟩
 |_=>simp only[bu,j,aW]at h
end
def dQ(p:cX):PV:=.st 90 [.str p.name,.int .i64 p.dP,.str p.a,.str p.b]
def gM(p:cG):PV:=.st 56 [.str p.name,gf p.pt]
def cg(t:aA):PV:=.st 43 [.seq (t.cs.map cF),.int .i64 t.aN,.seq (t.aV.map dQ),.seq (t.aw.map gM)]
@[simp] theorem aOS(p:cX):aL (dQ p)=.agg 90:=rfl
@[simp] theorem aNj(p:cX):bY (dQ p)=[.str p.name,.int .i64 p.dP,.str p.a,.str p.b]:=rfl
@[simp] theorem aOZ(p:cG):aL (gM p)=.agg 56:=rfl
@[simp] theorem aNq(p:cG):bY (gM p)=[.str p.name,gf p.pt]:=rfl
@[simp] theorem aO2(t:aA):aL (cg t)=.agg 43:=rfl
@[simp] theorem aNs(t:aA):bY (cg t)=[.seq (t.cs.map cF),.int .i64 t.aN,.seq (t.aV.map dQ),.seq (t.aw.map gM)]:=rfl
@[simp] theorem aMB:prog.cellsOf 43=4:=by kernel_rfl
theorem aup(p:dT):ar prog 217 [cF p] (.bool (fT p)):=by
 obtain⟨x,y⟩:=p;refine aI nf Ip mix (by simp[f217]) ?_;have e1:max x y=if x<y then y else x:=by split<;>omega
 have e2:min x y=if y<x then y else x:=by split<;>omega
 rw[fT,e1,e2]
 by_cases h:(if x<y then y else x)<=10000
 ·have a:¬10000<(if x<y then y else x):=by omega
  by_cases b:(if y<x then y else x)< -10000
  ·simp[f217,aa,h,a,b]
  ·simp[f217,aa,h,a,b]
 ·have a:10000<(if x<y then y else x):=by omega
  simp[f217,aa,h,a]
def idxFrom{α:Type}(p:α->Bool):List α->Nat->Int
 |[],_=>-1
 |x::r,i=>if p x then(i:Int)else idxFrom p r (i+1)
theorem pf{α:Type}(p:α->Bool):∀(l:List α)(i:Nat),decide (0<=idxFrom p l i)=l.any p
 |[],i=>by simp[idxFrom]
 |x::r,i=>by
  by_cases h:p x
  ·simp[idxFrom,h]
  ·simp[idxFrom,h,pf p r]
theorem Ti(l:List dT)(h:l.length<=1000000):
 ar prog 275 [.seq (l.map cF),.func 217 [] []] (.int .i64 (idxFrom fT l 0)):=by
 refine aI nf HQ mix (by simp[f275]) ?_;simp[f275];refine lp (α:=Nat) (fun i=>⟨[(8,.p (.int .i64 i)),(7,.p (.int .i64 l.length)),(1,.p (.func 217 [] [])),(0,.p (.seq (l.map cF)))],[]⟩) (fun i=>i<=l.length/\idxFrom fT l 0=idxFrom fT (l.drop i) i) (fun i=>l.length-i) 0 (by simp) ?_;rintro i ⟨k1,k2⟩
 by_cases hi:i<l.length
 ·rw[ce hi]at k2;have b:=bR (i:=i) (by omega);simp[hi];refine c1 (aup l[i]) ?_
  by_cases a:fT l[i]
  ·simp[idxFrom,a]at k2;simp[a,k2]
  ·simp[idxFrom,a]at k2;simp[a,b];exact rd (i+1) ⟨hi,k2⟩
 ·have:i=l.length:=by omega
  subst this;simp[idxFrom]at k2;simp[k2]
theorem S5(l:List dT)(h:l.length<=1000000):
 ar prog 216 [.seq (l.map cF),.func 217 [] []] (.bool (l.any fT)):=by
 refine aI nf Iq mix (by simp[f216]) ?_;simp[f216];refine c2 (Ti l h) ?_;simp[<-pf fT l 0]
end Go.ah
