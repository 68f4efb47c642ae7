import Derived.Test.YtanjnahmbanmaaaGreatDoorPF
import Derived.Lib.ItoaNum
import Derived.Lib.Strings
import Derived.Lib.Repeat
import Derived.Lib.Bytealg
import Derived.Test.YtanjnahmbanmaaaGreatDoorThA
import Derived.Test.YtanjnahmbanmaaaGreatDoorPE
import Derived.Shelf.Strings.Builder1
import Derived.Shelf.Strings.Builder2
import Derived.Shelf.Strings.Trim
import Derived.Shelf.Small.Utf8
import Derived.Shelf.Small.Bits
import Derived.Shelf.Small.Strs
import Derived.Shelf.Small.Wraps
import Derived.Shelf.Strings.BuilderF
import Derived.Shelf.Strings.Builder2Cap
import Derived.Shelf.Strconv.Atoi
import Derived.Shelf.Strconv.Itoa0
import Derived.Shelf.Strconv.Itoa1
import Derived.Shelf.LaysM
import Derived.Shelf.Strconv.Itoa2
import Derived.Shelf.Strconv.Itoa3
import Derived.Shelf.Strconv.AtoiErrFast
import Derived.Shelf.Strconv.ParseIntEmpty
import Derived.Shelf.Strconv.AtoiFail
import Derived.Shelf.Strconv.Clone
import Derived.Shelf.Strconv.SyntaxError
import Derived.Shelf.LaysC
import Derived.Shelf.Strconv.ToError
import Derived.Shelf.Strconv.Lower
import Derived.Shelf.Strconv.ParseUint10
import Derived.Shelf.Strconv.ParseUint10Empty
import Derived.Shelf.Strconv.ParseUint10Any
import Derived.Shelf.Strconv.ParseInt10
import Derived.Shelf.Strconv.AtoiLong
import Derived.Shelf.Strconv.AtoiInnerAll
import Derived.Shelf.Strconv.RangeError
import Derived.Shelf.Strconv.ToErrorRange
import Derived.Shelf.Strconv.AtoiAll
import Derived.Shelf.Strconv.ParseUintEmpty
import Derived.Shelf.Strings.Search1
import Derived.Shelf.Strings.Search2
import Derived.Shelf.Strings.Cut
import Derived.Shelf.Strings.Shaped
import Derived.Shelf.Strings.Prefix
import Derived.Shelf.Unicode.Decode
import Derived.Shelf.Strings.Runes
import Derived.Shelf.Strings.AsciiSet
import Derived.Shelf.Bits.Mul64
import Derived.Shelf.Strings.Repeat
import Derived.Shelf.Unicode.DecodeSlow
import Derived.Shelf.Unicode.DecodeAny
import Derived.Shelf.Unicode.DecodeLast
import Derived.Shelf.Slices.Turned
import Derived.Test.YtanjnahmbanmaaaGreatDoorProg
import Derived.Lib.Walk
import Derived.Lib.ItoaMem
import Derived.WalkKit
import Derived.BigCall
import Derived.BigGuard
import Derived.Lib.AppendIntMem
import Derived.Lib.Builder
import Derived.Laws.Externs
import Derived.Shelf.RegionOpenPlain
/- Parts of a proof. -/
set_option linter.unusedSimpArgs false
set_option linter.unusedVariables false
set_option linter.unusedSectionVars false
open Go.Proofs.Tryz
open Array renaming size_replicate->am, getElem?_append_left->ao
open Bool renaming and_eq_true->ap, or_eq_true->av, and_true->ax, not_eq_true'->ay, false_and->aT, and_false->a1
open Go renaming World->a6, Calls->a7
open Go.IntKind renaming i64->a8
open Go.Lib renaming decDigits->bb, nDigits->be, indexByte->bi, bitLen->bl, zeros24->bo, trimPrefix->bp, hasPrefix->bv, pow10Tab->bI, TabIs->bV, repeatL->b0, decDigits_length->b1, itoa->b2, atoiAll->b3
open Go.Oper renaming upon_value->b4
open Go.Proofs.Lays renaming n99->b5, n285->cb, n283->cc, n219->ce, n105->ck, n103->cv, n101->cx
open Go.Shelf renaming Ren->cy
open Go.Sort renaming grow->c6
open Go.Value renaming int->da
open Int renaming ediv_emod_unique->db, natAbs_mul->dg, emod_lt_of_pos->dl, emod_nonneg->dp, ediv_lt_of_lt_mul->dq, tmod_lt_of_pos->dz, natAbs_natCast->ea, lt_tmod_of_pos->eb, mul_ne_zero->ec, natAbs_neg->ed, mul_le_mul->ee, ediv_one->ei, mul_sub->ej, mul_neg->em
open List renaming append_nil->en, all_cons->eq, length_eq_zero_iff->ew, cons_append->e6, all_reverse->e7, dropLast_concat_getLast->e8, replicate->e9, map_cons->fb, length_cons->fd, all_eq_true->fl, head?_cons->fm, foldl_cons->fv, all_append->fw, mem_cons->gb, all_nil->gc
open Nat renaming pow_le_pow_right->ge, lt_of_lt_of_le->gg, le_refl->gi, lt_of_le_of_lt->gj, pow_pos->gm, pow_succ->gt, eq_zero_or_pos->gx, pow_add->gy, mod_eq_of_lt->g0, mul_comm->g5, lt_or_ge->g6, le_trans->g7, add_sub_cancel->g8, pow_zero->g9, pow_one->ha, pow_mul->hb, gcd->hd, le_of_eq->he, le_mul_of_pos_left->hg, beq->hh, le_div_iff_mul_le->hl, eq_of_beq_eq_true->hm, div_lt_iff_lt_mul->hn, mul_le_mul_right->ho, div_pos->hp, mul_le_mul_left->hr, mod_lt->ht, gcd_one_right->hv, div_eq_of_lt->hy, mul_assoc->hz, zero_add->hA, gcd_comm->hB, pow_two->hC
open Rat renaming divInt->hD, num_eq_zero->hE, not_lt->hG, lt_iff->hJ
open UInt8 renaming toNat_inj->hK, ofNat->hL, toNat_ofNat'->hM
namespace Go.ak
open Go.Proofs
set_option maxHeartbeats 4000000
set_option maxRecDepth 100000
theorem mI{a b:NI}(h:a.v=b.v)(d:a.v= -9223372036854775808->a.m=b.m):eI a=eI b:=by
 by_cases c:a.v= -9223372036854775808
 ·have:=d c;cases a;cases b;dsimp only at h this;subst h this;rfl
 ·have e:a.sm=b.sm:=by
   simp only[NI.sm,h];rw[h]at c;simp[c]
  rw[jb,jb,e,h]
theorem Xv{a b:Int}(c:0<b):(a.tdiv b=a/b/\a.tmod b=a% b/\¬a.tmod b<0)\/(a.tdiv b-1=a/b/\a.tmod b+b=a% b/\a.tmod b<0/\a/b<0):=by
 have f:=Int.tmod_add_mul_tdiv a b;have g:=eb a c;have i:=dz a c
 by_cases h:a.tmod b<0
 ·right;have e:=(db (a:=a) (r:=a.tmod b+b) (q:=a.tdiv b-1) c).2 ⟨by rw[ej];omega,by omega,by omega⟩;have j:a<0:=by
   rcases Int.lt_or_le a 0 with d|d
   ·exact d
   ·have:=Int.tmod_nonneg b d;omega
  have d:a/b<0:=dq c (by omega);omega
 ·left;have e:=(db (a:=a) (r:=a.tmod b) (q:=a.tdiv b) c).2 ⟨by omega,by omega,by omega⟩;omega
theorem Zz{a b:Int}(c:0<b):((if a<0 then -((a.natAbs% b.natAbs:Nat):Int)else(a.natAbs% b.natAbs:Nat))<0/\a/b=(if a<0 then -((a.natAbs/b.natAbs:Nat):Int)else(a.natAbs/b.natAbs:Nat))-1/\a% b=(if a<0 then -((a.natAbs% b.natAbs:Nat):Int)else(a.natAbs% b.natAbs:Nat))+b)\/
 (¬(if a<0 then -((a.natAbs% b.natAbs:Nat):Int)else(a.natAbs% b.natAbs:Nat))<0/\a/b=(if a<0 then -((a.natAbs/b.natAbs:Nat):Int)else(a.natAbs/b.natAbs:Nat))/\a% b=(if a<0 then -((a.natAbs% b.natAbs:Nat):Int)else(a.natAbs% b.natAbs:Nat))):=by
 have e:((b.natAbs:Nat):Int)=b:=by omega
 have f:=Nat.mod_add_div a.natAbs b.natAbs;have g:=ht a.natAbs (show 0<b.natAbs by omega);have i:((a.natAbs% b.natAbs:Nat):Int)+b*(a.natAbs/b.natAbs:Nat)=(a.natAbs:Nat):=by
  rw[<-e,<-Int.natCast_mul,<-Int.natCast_add,e,f]
 generalize a.natAbs% b.natAbs=r at*;generalize a.natAbs/b.natAbs=q at*
 by_cases h:a<0
 ·simp only[if_pos h]
  by_cases j:r=0
  ·right;have d:=(db (a:=a) (r:=0) (q:=-(q:Int)) c).2 ⟨by rw[em];omega,by omega,by omega⟩;omega
  ·left;have d:=(db (a:=a) (r:=-(r:Int)+b) (q:=-(q:Int)-1) c).2 ⟨by rw[ej,em];omega,by omega,by omega⟩;omega
 ·simp only[if_neg h];right;have d:=(db (a:=a) (r:=(r:Int)) (q:=(q:Int)) c).2 ⟨by omega,by omega,by omega⟩;omega
theorem JI(a b:NI)(i:0<b.v)(J:okW a.v)(w:okW b.v):au prog 332 [eI a,eI b] (.aC [eI (a.div b),eI (a.mod b)]):=by
 have S:=ny (eI a) a.v (lU a);have hq:=ny (eI b) b.v (lU b);have ac:=nu J;have ad:=nu w;have L:=B2 a.v.natAbs b.v.natAbs (by omega) (by omega) (by omega);refine aI nf Na mix (by simp[f332]) ?_;simp[f332,-bt];rw[bt];simp[-bt];refine join (fun s=>aQ s.env 2=.ptr 0 []/\aQ s.env 3=.ptr 1 []/\aQ s.env 4=.ptr 2 []/\aQ s.env 5=.ptr 3 []/\s.heap=[.box false (.p (eI a)),.box false (.p (eI b)),.box false (.p (.st 128 [.int .i64 0,.aO])),.box false (.p (.st 128 [.int .i64 0,.aO]))]) ?_ ?_
 ·rcases hs:a.sm with _|_
  ·obtain⟨c,cs,w1⟩:=nJ hs;simp[aa,w1,dA,cQ]
  ·have w1:=lR hs;rcases m:b.sm with _|_
   ·obtain⟨c,cs,l⟩:=nJ m;simp[aa,w1,l,dA,cQ]
   ·have l:=lR m;have q:=mE hs;have r:=mE m;have ai:=NI.oY hs;have aj:=NI.oY m
    by_cases o:a.v= -9223372036854775808
    ·simp[aa,w1,l,q,r,o,dA,cQ]
    ·have n:¬b.v=0:=by omega
     have B:-9223372036854775808<a.v/b.v:=by
      have:=Int.le_ediv_of_mul_le (a:=-9223372036854775807) (b:=a.v) i (by omega);omega
     have C:a.v/b.v<9223372036854775808:=dq i (by omega);have D:=dl a.v i;have E:=dp a.v n;have G:eI (a.div b)=eQ (a.v/b.v):=by rw[jb,if_pos (NI.yX B C)];rfl
     have f2:eI (a.mod b)=eQ (a.v% b.v):=nP (by omega) (by omega);rw[G,f2];have ag:=eb a.v i;have af:=dz a.v i;rcases Xv (a:=a.v) i with⟨d1,d2,d3⟩|⟨d1,d2,d3,d4⟩
     ·have q1:a8.wrap (a.v.tdiv b.v)=a.v/b.v:=by rw[d1];exact aP _ (by omega) (by omega)
      simp[aa,w1,l,q,r,o,n,dA,cQ,eQ,d3,q1];exact d2.symm
     ·have q1:a8.wrap (a8.wrap (a.v.tdiv b.v)-1)=a.v/b.v:=by rw[aP (a.v.tdiv b.v) (by omega) (by omega),d1];exact aP _ (by omega) (by omega)
      have W:a8.wrap (a.v.tmod b.v+b.v)=a.v% b.v:=by rw[d2];exact aP _ (by omega) (by omega)
      simp[aa,w1,l,q,r,o,n,dA,cQ,eQ,d3,q1,W]
 ·rintro⟨X,ae⟩ ⟨d,e,f,g,x⟩;dsimp only at d e f g x;subst x;have N:(aw wB (a.v.natAbs/b.v.natAbs)).length<=900000:=by
   have:=dJ bn _ _ (gj (Nat.div_le_self a.v.natAbs b.v.natAbs) (ch bn a.v.natAbs));omega
  have O:(aw wB (a.v.natAbs% b.v.natAbs)).length<=900000:=by
   have:=dJ bn _ _ (gj (Nat.mod_le a.v.natAbs b.v.natAbs) (ch bn a.v.natAbs));omega
  have z:=vq (decide (a.v<0)) (a.v.natAbs/b.v.natAbs) (by omega);have A:=vq (decide (a.v<0)) (a.v.natAbs% b.v.natAbs) (by omega);have M:=Zz (a:=a.v) i;simp only[decide_eq_true_eq]at z A;have ah:=ht a.v.natAbs (show 0<b.v.natAbs by omega);generalize a.v.natAbs/b.v.natAbs=k at*;generalize a.v.natAbs% b.v.natAbs=j at*;have ab:-b.v<(if a.v<0 then -(j:Int)else(j:Int)):=by split<;>omega
  have I:a.v<0->(if a.v<0 then -(j:Int)else(j:Int))<=0:=fun h=>by rw[if_pos h];omega
  have U:okW (if a.v<0 then -(k:Int)else(k:Int)):=by rw[okW];split<;>simpa using N
  have V:okW (if a.v<0 then -(j:Int)else(j:Int)):=by rw[okW];split<;>simpa using O
  have T:(if a.v<0 then -(k:Int)else(k:Int))= -9223372036854775808->a.v<0:=by split<;>omega
  generalize (if a.v<0 then -(k:Int)else(k:Int))=Q at*;generalize (if a.v<0 then -(j:Int)else(j:Int))=R at*;have u:=sW (.mk' R);simp only[NI.iD]at u;have D:=dl a.v i;have E:=dp a.v (show b.v≠0 by omega);simp[d,e,f,g];refine c1 S ?_;simp[d,e,f,g];refine c1 hq ?_;simp[d,e,f,g];refine c2 L ?_;simp;refine c2 z ?_;simp;refine c2 A ?_;simp[d,e,f,g,aa];refine c1 u ?_;rcases M with⟨d1,d2,d3⟩|⟨d1,d2,d3⟩
  ·have y:=Du (.mk' Q) (.of 1) U (by rw[okW];decide);have K:=vK (.mk' R) b V w;rw[tt (by decide) (by decide)]at y;have g1:eI (a.div b)=eI ((NI.mk' Q).sub (.of 1)):=by
    refine mI (by rw[NI.Qr];exact d2) (fun h=>?_);have F:Q= -9223372036854775807:=by have:a.v/b.v= -9223372036854775808:=h;omega
    have P:¬a.v% b.v=0:=by omega
    subst F;show decide (a.v% b.v≠0)=_;simp[P];rfl
   have g2:eI (a.mod b)=eI ((NI.mk' R).add b):=mI (by rw[NI.rj];exact d3) (fun h=>by have:a.v% b.v= -9223372036854775808:=h;omega);rw[g1,g2];simp[d,e,f,g,aa,d1];refine e1 (rA 1) ?_;simp[d,e,f,g,aa];refine e2 y ?_;simp[d,e,f,g,aa];refine e2 K ?_;simp[d,e,f,g,aa];exact⟨rfl,rfl⟩
  ·have g1:eI (a.div b)=eI (.mk' Q):=by
    refine mI d2 (fun h=>?_);have Y:a.v/b.v= -9223372036854775808:=h;have Z:=I (T (by omega));have H:a.v% b.v=0:=by omega
    show decide (a.v% b.v≠0)=false;simp[H]
   have g2:eI (a.mod b)=eI (.mk' R):=mI d3 (fun h=>by have:a.v% b.v= -9223372036854775808:=h;omega);rw[g1,g2]
   by_cases t:R=0
   ·simp[d,e,f,g,aa,t]
   ·simp[d,e,f,g,aa,d1,t]
theorem qw{a b:Int}(h:okW b)(c:a.natAbs<=b.natAbs):okW a:=by
 have:=dJ bn _ _ (gj c (ch bn b.natAbs));have:=nu h;rw[okW];omega
theorem OA(a b:NI)(e:0<b.v)(d:okW a.v)(f:okW b.v):au prog 300 [eI a,eI b] (eI (a.div b)):=by
 have c:=sW b;rw[if_neg (by omega),if_neg (by omega)]at c;refine aI nf Mx mix (by simp[f300]) ?_;simp[f300];refine c1 c ?_;simp;refine c2 (JI a b e d f) ?_;simp[aa]
 done
theorem NI.yo(a:NI):a.abs.v.natAbs=a.v.natAbs:=by
 rw[NI.abs];split
 ·rw[NI.iD,ed]
 ·rfl
theorem NI.Oq(a:NI):0<=a.abs.v:=by
 rw[NI.abs];split
 ·rw[NI.iD];omega
 ·omega
def eB(a b:Int):Int:=(hd a.natAbs b.natAbs:Nat)
theorem Oz(a b:NI)(j:okW a.v)(k:okW b.v):au prog 299 [eI a,eI b] (eI (.mk' (eB a.v b.v))):=by
 refine aI nf My mix (by simp[f299]) ?_;simp[f299];refine e1 (Ox a j) ?_;simp;refine e1 (Ox b k) ?_;simp[aa];refine⟨⟨rfl,rfl⟩,?_⟩;have n:eB a.abs.v b.abs.v=eB a.v b.v:=by rw[eB,eB,NI.yo,NI.yo]
 refine lp (α:=NI×NI) (fun x=>⟨[(4,.ptr 2 []),(3,.ptr 1 []),(2,.ptr 0 [])],[.box false (.p (eI x.1)),.box false (.p (eI x.2)),.box false (.p (.st 128 [.int .i64 0,.aO]))]⟩)
  (fun x=>0<=x.1.v/\0<=x.2.v/\okW x.1.v/\okW x.2.v/\eB x.1.v x.2.v=eB a.v b.v) (fun x=>x.2.v.toNat) (a.abs,b.abs) ⟨NI.Oq a,NI.Oq b,qw j (he (NI.yo a)),qw k (he (NI.yo b)),n⟩ ?_
 rintro⟨x,y⟩ ⟨l,g,i,c,f⟩;dsimp only at l g i c f;have d:=sW y
 by_cases e:y.v=0
 ·rw[if_neg (by omega),if_pos e]at d;have hx:eI (.mk' (eB a.v b.v))=eI x:=by
   refine mI ?_ (fun h=>?_)
   ·rw[NI.iD,<-f,e,eB];simp;omega
   ·rw[NI.iD,eB]at h;omega
  rw[hx];simp;refine c1 d ?_;simp[aa]
 ·rw[if_neg (by omega),if_neg e]at d;have q:=dl x.v (show 0<y.v by omega);have o:=dp x.v e;have m:(x.v% y.v).natAbs=x.v.natAbs% y.v.natAbs:=by
   have e1:(x.v.natAbs:Int)=x.v:=by omega
   have e2:(y.v.natAbs:Int)=y.v:=by omega
   have e3:((x.v.natAbs% y.v.natAbs:Nat):Int)=x.v% y.v:=by rw[Int.natCast_emod,e1,e2]
   omega
  simp;refine c1 d ?_;simp[aa];refine c2 (JI x y (by omega) i c) ?_;simp[aa];refine⟨rfl,?_⟩;refine rd (y,x.mod y) ⟨g,o,c,qw c (by show(x.v% y.v).natAbs<=_;omega),?_⟩ (by show(x.v% y.v).toNat<y.v.toNat;omega);show eB y.v (x.v% y.v)=_;rw[<-f,eB,eB,m,hB y.v.natAbs,<-Nat.gcd_rec,hB]
theorem aHW{o x k A:Nat}(hx:1<=x)(d:1<=o)(h:o*x^k=A)(hk:1<=k):o*x<=A/\(2<=k->x*x<=A):=by
 have a:x<=x^k:=by
  calc x=x^1:=(ha x).symm
   _<=x^k:=ge hx hk
 refine⟨by rw[<-h];exact hr _ a,fun b=>?_⟩;have c:x*x<=x^k:=by
  calc x*x=x^2:=by rw[hC]
   _<=x^k:=ge hx b
 rw[<-h];exact g7 c (hg _ d)
theorem X8(a:NI)(n A:Nat)(E:1<=a.v)(q:A=a.v.natAbs^n)(J:(aw wB A).length<=400000)(F:(aw wB a.v.natAbs).length<=400000)(K:n<=1000000):au prog 311 [eI a,.int .i64 n] (eI (.mk' A)):=by
 refine aI nf Mr mix (by simp[f311]) ?_;simp[f311];refine c1 (rA 1) ?_;rw[show eQ 1=eI (.of 1)from(tt (by decide) (by decide)).symm];simp[aa];refine lp (α:=Nat×NI×NI) (fun s=>⟨[(1,.p (.int .i64 s.1)),(5,.ptr 2 []),(4,.ptr 1 []),(2,.ptr 0 [])],[.box false (.p (eI s.2.1)),.box false (.p (.st 128 [.int .i64 0,.aO])),.box false (.p (eI s.2.2))]⟩)
  (fun s=>s.1<=n/\1<=s.2.1.v/\1<=s.2.2.v/\(0<s.1->s.2.2.v.natAbs*s.2.1.v.natAbs^s.1=A)/\(s.1=0->s.2.2.v.natAbs=A)/\(aw wB s.2.1.v.natAbs).length<=400000) (fun s=>s.1) (n,a,.of 1) ⟨gi _,E,(by decide:(1:Int)<=1),fun _=>by rw[q];show(1:Int).natAbs*_=_;simp,fun h=>by have h:n=0:=h;rw[q,h,g9];rfl,F⟩ ?_
 rintro⟨k,x,o⟩ ⟨C,c,i,b,l,m⟩;dsimp only at C c i b l m
 by_cases k0:k=0
 ·subst k0;have e:eI (.mk' A)=eI o:=by
   refine mI ?_ (fun h=>?_)
   ·rw[NI.iD,<-l rfl];omega
   ·rw[NI.iD]at h;omega
  rw[e];simp[aa]
 have b:=b (by omega);have r:=aHW (o:=o.v.natAbs) (x:=x.v.natAbs) (by omega) (by omega) b (by omega);have d:a8.wrap (k% 2^a8.bits&&&1% 2^a8.bits:Nat)=(k% 2:Nat):=by
  rw[show(2^a8.bits:Nat)=18446744073709551616 from rfl,g0 (show k<18446744073709551616 by omega),show 1% 18446744073709551616=2^1-1 from rfl,Nat.and_two_pow_sub_one_eq_mod];exact aP _ (by omega) (by omega)
 have hs:(k:Int).fdiv (2^min 1 a8.bits)=(k/2:Nat):=by
  rw[show((2:Int)^min 1 a8.bits)=2 from rfl,Int.fdiv_eq_ediv_of_nonneg _ (by decide)];omega
 have j:0<k:=by omega
 have L:(aw wB o.v.natAbs).length<=400000:=by
  have D:o.v.natAbs<=A:=g7 (Nat.le_mul_of_pos_right _ (show 0<x.v.natAbs by omega)) r.1;have:=dJ bn _ _ (gj D (ch bn A));omega
 have z:2<=k->(aw wB (x.v*x.v).natAbs).length<=400000:=fun h=>by
  have:=dJ bn _ _ (gj (r.2 h) (ch bn A));rw[dg];omega
 have y:(1:Int)<=o.v*x.v:=by
  have:=ee i c (by decide) (by omega);omega
 have B:(1:Int)<=x.v*x.v:=by
  have:=ee c c (by decide) (by omega);omega
 have u:=zi o x (by omega);have w:=zi x x (by omega);have g:x.v.natAbs^k=(x.v*x.v).natAbs^(k/2)*x.v.natAbs^(k% 2):=by
  rw[dg,<-hC,<-hb,<-gy,Nat.div_add_mod]
 by_cases H:k% 2=1
 ·rw[H,ha]at g;have t:((k% 2:Nat):Int)=1:=by omega
  rw[t]at d
  by_cases k1:1<k
  ·have f:(1:Int)<k:=by omega
   simp[j,d];refine c2 u ?_;simp[aa,f];refine c2 w ?_;simp[aa,hs];refine rd (k/2,x.mul x,o.mul x) ⟨by omega,B,y,fun _=>?_,fun h=>by dsimp only at h;omega,z k1⟩ (by dsimp only;omega);rw[g]at b;show(o.v*x.v).natAbs*(x.v*x.v).natAbs^(k/2)=A;rw[<-b,dg o.v,g5 ((x.v*x.v).natAbs^(k/2)),hz]
  ·have f:¬(1:Int)<k:=by omega
   have G:k=1:=by omega
   simp[j,d];refine c2 u ?_;simp[aa,f,hs];refine rd (k/2,x,o.mul x) ⟨by omega,c,y,fun h=>by dsimp only at h;omega,fun _=>?_,m⟩ (by dsimp only;omega);subst G;rw[ha]at b;show(o.v*x.v).natAbs=A;rw[<-b,dg]
 ·have I:k% 2=0:=by omega
  rw[I,g9,Nat.mul_one]at g;have t:¬((k% 2:Nat):Int)=1:=by omega
  rw[show((k% 2:Nat):Int)=0 by omega]at d;have f:(1:Int)<k:=by omega
  simp[j,d,f];refine c2 w ?_;simp[aa,hs];refine rd (k/2,x.mul x,o) ⟨by omega,B,i,fun _=>?_,fun h=>by dsimp only at h;omega,z (by omega)⟩ (by dsimp only;omega);show o.v.natAbs*(x.v*x.v).natAbs^(k/2)=A;rw[<-g,b]
theorem Yx(x:Nat)(hx:x<18446744073709551616):au prog 323 [.int .u64 x] (.int .i64 (bl x:Nat)):=by
 refine lD (jY func323 (by kernel_rfl)) fun w ad d _ _ c=>?_;obtain⟨a,rfl,b⟩:=ya c;simp only[aD]at b;subst b;refine(bits_Len64 x w (by omega) (by omega)).mono ?_;rintro e w' ⟨rfl,rfl⟩;refine⟨_,rfl,⟨gi _,fun _ _=>rfl,rfl,rfl⟩,fun w ad=>?_⟩;simp only[aD];rfl
def nQ(n:Nat):Nat:=if n=0 then 0 else 64*((aw wB n).length-1)+bl (ae wB n ((aw wB n).length-1))
theorem se{n:Nat}:aw wB n=[]↔n=0:=by
 constructor
 ·intro h;have:=ch bn n;rw[h,List.length_nil,g9]at this;omega
 ·rintro rfl;exact kV
theorem JN(n:Nat):n<2^nQ n:=by
 by_cases b:n=0
 ·subst b;exact gm (by decide)
 ·rw[nQ,if_neg b];have e:=ch bn n;have j:0<(aw wB n).length:=by
   rcases gx (aw wB n).length with h|h
   ·exact(b (se.1 (ew.1 h))).elim
   ·exact h
  obtain⟨m,i⟩:∃m,(aw wB n).length=m+1:=⟨(aw wB n).length-1,by omega⟩
  rw[i]at e⊢;rw[g8];have d:n/wB^m<wB:=by
   rw[hn (gm (by decide)),g5,<-gt];exact e
  have f:ae wB n m=n/wB^m:=by rw[ae,g0 d]
  have g:0<n/wB^m:=by
   rcases gx (n/wB^m)with h|h
   ·have c:n<wB^m:=by
     rcases g6 n (wB^m)with a|a
     ·exact a
     ·have:=hp a (gm (show 0<wB by decide));omega
    have:=dJ bn m n c;omega
   ·exact h
  have c:=xC (n/wB^m) (n/wB^m) (gi _) g d;rw[f,gy,hb];show n<wB^m*_;have a:n<(n/wB^m+1)*wB^m:=by
   rw[<-hn (gm (by decide))];omega
  rw[g5]at a;exact gg a (hr _ c.2.2)
theorem XX(a:NI)(l:okW a.v):au prog 273 [eI a] (.int .i64 (nQ a.v.natAbs:Nat)):=by
 have b:=ny (eI a) a.v (lU a);refine aI nf MF mix (by simp[f273]) ?_;have o:=nu l;have q:∀i(h:i<(aw wB a.v.natAbs).length),(aw wB a.v.natAbs)[i]=ae wB a.v.natAbs i:=fun i h=>ey bn h;have f:=cr (B:=wB) bn a.v.natAbs ((aw wB a.v.natAbs).length-1);have j:=Yx _ f;have z:=JN a.v.natAbs;have s:=se (n:=a.v.natAbs)
 by_cases e:a.v.natAbs=0
 ·rw[e]at b⊢;simp only[eN,kV]at b;simp[f273];refine c1 b ?_;simp[nQ]
 ·have k:=mt s.1 e;rw[nQ,if_neg e];have p:bl (ae wB a.v.natAbs ((aw wB a.v.natAbs).length-1))<=64:=by
   rcases gx (ae wB a.v.natAbs ((aw wB a.v.natAbs).length-1))with h|h
   ·rw[h];decide
   ·exact Ow h f
  simp only[eN]at b;generalize aw wB a.v.natAbs=x at*;obtain⟨m,d⟩:∃m,x.length=m+1:=⟨x.length-1,by cases x with|nil=>exact(k rfl).elim|cons c cs=>simp⟩
  rw[d,g8]at j p f;rw[d,g8];rw[d]at o;have hx:=q m (by omega);have t:x[m]?=some (ae wB a.v.natAbs m):=by rw[List.getElem?_eq_getElem (by omega),hx]
  have w1:a8.wrap (m:Int)=m:=aP _ (by omega) (by omega);have u:a8.wrap (64*(m:Int))=64*m:=aP _ (by omega) (by omega);have w:a8.wrap (64*(m:Int)+(bl (ae wB a.v.natAbs m):Nat))=(64*m+bl (ae wB a.v.natAbs m):Nat):=by rw[aP _ (by omega) (by omega)];push_cast;rfl
  generalize bl (ae wB a.v.natAbs m)=g at*;have y:a8.wrap (64*(m:Int)+g)=64*m+g:=by rw[w];push_cast;rfl
  simp[f273];refine c1 b ?_;have r:¬((m:Int)+1=0):=by omega
  simp[k,d,w1,u,t,hx,r];refine c1 j ?_;simp[y]
noncomputable def eF(a:NF):PV:=.st 130 [eI a.num,eI a.den]
@[simp] theorem aMp(a:NF):aL (eF a)=.agg 130:=rfl
@[simp] theorem aKS(a:NF):bW (eF a)=[eI a.num,eI a.den]:=rfl
@[simp] theorem aMS(n:Int):aL (eQ n)=.agg 128:=rfl
@[simp] theorem aJ9:prog.cellsOf 128=2:=by kernel_rfl
@[simp] theorem aKa:prog.cellsOf 130=4:=by kernel_rfl
theorem KH:eQ 1=eI (.mk' 1):=(nP (by decide) (by decide)).symm
def kB:Nat:=100000
theorem pF:kB<=3*kB:=hg _ (by decide)
theorem xS{n k:Nat}(h:n<2^k):(aw wB n).length<=k/64+1:=by
 refine dJ bn _ _ (gg h ?_);rw[show wB=2^64 from rfl,<-hb];exact ge (by decide) (by omega)
theorem ig{z:Int}{k:Nat}(h:z.natAbs<2^k)(hk:k<=3*kB):okW z:=by
 have:=xS h;have a:kB=100000:=rfl;rw[okW];omega
def NF.make(n d:NI):NF:=⟨hD n.v d.v,n.m&&decide (d.v=1)⟩
theorem BD(a:NF):au prog 247 [eF a] (.bool a.ft):=by
 refine aI nf Mg mix (by simp[f247]) ?_;have e:a.den.v=a.q.den:=rfl;have g:=a.q.den_pos;rcases hs:a.den.sm with _|_
 ·obtain⟨c,cs,w1⟩:=nJ hs;have f:=NI.yF (a:=a.den) (by rw[hs];decide);have b:a.ft=false:=by rw[NF.ft,decide_eq_false_iff_not];omega
  simp[f247,aa,w1,dA,cQ,b]
 ·have w1:=lR hs;have d:=mE hs;rw[e]at d;have b:a.ft=decide ((a.q.den:Int)=1):=by rw[NF.ft,decide_eq_decide];omega
  simp[f247,aa,w1,d,dA,cQ,b];rfl
theorem CI(a:NI):au prog 197 [eI a] (eF (.whole a)):=by
 refine aI nf N8 mix (by simp[f197]) ?_;simp[f197];refine e1 (rA 1) ?_;have b:(NF.whole a).num=a:=by cases a;rfl
 have c:(NF.whole a).den=.mk' 1:=rfl;simp[aa,eF,b,c,KH]
theorem kY(n:Int)(h:-9223372036854775808<=n)(b:n<=9223372036854775807):au prog 116 [.int .i64 n] (eF (.int n)):=by
 have a:=CI (.of n);rw[tt h b]at a;refine aI nf NA mix (by simp[f116]) ?_;simp[f116];refine c1 (rA n) ?_;simp;refine c1 a ?_;simp[aa];exact Wk.refl _
theorem C2(q:Rat):(if q<0 then(-1:Int)else if q=0 then 0 else 1)=if q.num<0 then -1 else if q.num=0 then 0 else 1:=by
 have a:q<0↔q.num<0:=by rw[<-Rat.not_le,<-Rat.num_nonneg];omega
 have b:q=0↔q.num=0:=hE.symm;simp only[a,b]
theorem tf(a:NF):au prog 171 [eF a] (.int .i64 (if a.q<0 then -1 else if a.q=0 then 0 else 1)):=by
 have b:=sW a.num;refine aI nf Oe mix (by simp[f171]) ?_;simp[f171,aa];refine c1 b ?_;simp;exact C2 a.q
theorem CN(a:NF)(h:bL kB a.q):au prog 163 [eF a] (eF a.neg):=by
 have d:=th a.num (ig h.1 pF);refine aI nf Om mix (by simp[f163]) ?_;simp[f163,aa];refine e1 d ?_;have b:a.neg.num=a.num.neg:=by show(⟨(-a.q).num,false⟩:NI)=⟨-a.q.num,false⟩;rw[Rat.neg_num]
 have c:a.neg.den=a.den:=by show(⟨((-a.q).den:Int),false⟩:NI)=⟨a.q.den,false⟩;rw[Rat.neg_den]
 simp[aa,eF,b,c]
theorem Ul{n d:NI}(j:0<d.v):(NI.mk' (eB n.v d.v)).v≠0/\0<eB n.v d.v/\(¬d.v=1->eI (n.div (.mk' (eB n.v d.v)))=eI (NF.make n d).num)/\eI (d.div (.mk' (eB n.v d.v)))=eI (NF.make n d).den:=by
 obtain⟨dn,e⟩:∃dn:Nat,d.v=dn:=⟨d.v.toNat,by omega⟩
 have f:dn≠0:=by omega
 obtain⟨e1,e2⟩:=lE (n:=n.v) f;have c:eB n.v d.v=(hd n.v.natAbs dn:Nat):=by rw[eB,e];rfl
 have k:0<hd n.v.natAbs dn:=Nat.gcd_pos_of_pos_right _ (by omega);have i:(hd n.v.natAbs dn:Int)∣n.v:=Int.ofNat_dvd_left.2 (Nat.gcd_dvd_left _ _);refine⟨by rw[NI.iD,c];omega,by rw[c];omega,fun g=>?_,?_⟩
 ·refine mI ?_ (fun _=>?_)
  ·show n.v/eB n.v d.v=(hD n.v d.v).num;rw[c,e,e1]
  ·show decide (n.v% eB n.v d.v≠0)=(n.m&&decide (d.v=1))
   rw[c,Int.emod_eq_zero_of_dvd i];simp[g]
 ·refine mI ?_ (fun h=>?_)
  ·show d.v/eB n.v d.v=((hD n.v d.v).den:Int)
   rw[c,e,e2];exact(Int.natCast_ediv _ _).symm
  ·have:d.v/eB n.v d.v= -9223372036854775808:=h;have:=Int.ediv_nonneg (a:=d.v) (b:=eB n.v d.v) (by omega) (by rw[c];omega);omega
theorem WL{n d:NI}(a:d.v<0):NF.make n.neg d.neg=NF.make n d:=by
 rw[NF.make,NF.make];have e1:hD n.neg.v d.neg.v=hD n.v d.v:=Rat.neg_divInt_neg _ _;have e2:(n.neg.m&&decide (d.neg.v=1))=(n.m&&decide (d.v=1)):=by
  rw[show n.neg.m=false from rfl,aT,decide_eq_false (by omega),a1]
 rw[e1,e2]
theorem Hn(n:Int):(hD n 1).num=n/\(hD n 1).den=1:=by
 obtain⟨e1,e2⟩:=lE (n:=n) (show 1≠0 by decide);rw[hv]at e1 e2;refine⟨?_,?_⟩
 ·exact e1.trans (ei n)
 ·exact e2
theorem Dn(n d:NI)(w:d.v≠0)(o:okW n.v)(l:okW d.v):au prog 245 [eI n,eI d] (eF (.make n d)):=by
 have i:=sW d;refine aI nf Mh mix (by simp[f245]) ?_;simp[f245,-bt];rw[bt];simp[-bt];refine join (fun s=>∃a d':NI,0<d'.v/\okW a.v/\okW d'.v/\NF.make a d'=NF.make n d/\aQ s.env 2=.ptr 0 []/\aQ s.env 3=.ptr 1 []/\aQ s.env 4=.ptr 2 []/\s.heap=[.box false (.p (eI a)),.box false (.p (eI d')),.box false (.p (.st 130 [.st 128 [.int .i64 0,.aO],.st 128 [.int .i64 0,.aO]]))]) ?_ ?_
 ·by_cases k:d.v<0
  ·rw[if_pos k]at i;simp;refine c1 i ?_;simp;refine e1 (th n o) ?_;simp;refine e1 (th d l) ?_;simp[aa];exact⟨⟨rfl,rfl⟩,n.neg,d.neg,by rw[NI.DP];omega,qw o (by rw[NI.DP];omega),qw l (by rw[NI.DP];omega),WL k,rfl,rfl⟩
  ·rw[if_neg k,if_neg w]at i;simp;refine c1 i ?_;simp;exact⟨n,d,by omega,o,l,rfl,rfl,rfl⟩
 ·rintro⟨B,C⟩ ⟨a,d',y1,y2,y3,y4,b,e,f,r⟩;dsimp only at b e f r;subst r;rw[<-y4];clear y4 i;have q:=Oz a d' y2 y3;obtain⟨g1,g2,g3,g4⟩:=Ul (n:=a) y1;have og:okW (eB a.v d'.v):=by
   refine qw y3 ?_;rw[eB];exact g7 (he (ea _)) (Nat.gcd_le_right _ (by omega))
  have t:=OA a (.mk' (eB a.v d'.v)) g2 y2 og;have u:=OA d' (.mk' (eB a.v d'.v)) g2 y3 og
  by_cases hs:d'.v=1
  ·have g:d'.sm=true:=NI.yX (by omega) (by omega);have w1:=lR g;have j:=mE g;rw[hs]at j;have y:eF (.make a d')=.st 130 [eI a,eI d']:=by
    rw[eF];have z:(NF.make a d').num=a:=by
     show(⟨(hD a.v d'.v).num,a.m&&decide (d'.v=1)⟩:NI)=a;rw[hs,(Hn _).1];simp
    have A:eI (NF.make a d').den=eI d':=by
     refine mI ?_ (fun h=>?_)
     ·show((hD a.v d'.v).den:Int)=d'.v;rw[hs,(Hn _).2];rfl
     ·have:((hD a.v d'.v).den:Int)= -9223372036854775808:=h;omega
    rw[z,A]
   rw[y];simp[b,e,f,aa,w1,j,dA,cQ]
   done
  ·rw[eF,<-g3 hs,<-g4];have x:(wI d'=.aO/\¬sI d'=1)\/∃c cs,wI d'=.seq (c::cs):=by
    rcases g:d'.sm with _|_
    ·exact .inr (nJ g)
    ·exact .inl ⟨lR g,by rw[mE g];exact hs⟩
   rcases x with⟨w1,j⟩|⟨c,cs,w1⟩
   ·simp[b,e,f,aa,w1,j,dA,cQ];refine c2 q ?_;simp[b,e,f,aa];refine e2 t ?_;simp[b,e,f,aa];refine e2 u ?_;simp[b,e,f,aa]
    done
   ·simp[b,e,f,aa,w1,dA,cQ];refine c2 q ?_;simp[b,e,f,aa];refine e2 t ?_;simp[b,e,f,aa];refine e2 u ?_;simp[b,e,f,aa]
    done
theorem kT(a:NF):a.num.v=a.q.num:=rfl
theorem jr(a:NF):a.den.v=a.q.den:=rfl
theorem jW(a:NF):a.den.v.natAbs=a.q.den:=by rw[jr,ea]
theorem q9{x y:NI}{k l:Nat}(hx:x.v.natAbs<2^k)(a:y.v.natAbs<2^l)(h:k+l<=4*kB):au prog 168 [eI x,eI y] (eI (x.mul y)):=by
 have b:=xS hx;have c:=xS a;have d:kB=100000:=rfl;exact zi x y (by omega)
theorem oD{x y:Int}{k l:Nat}(hx:x.natAbs<2^k)(a:y.natAbs<2^l):(x*y).natAbs<2^(k+l):=by
 rw[dg,gy];exact Nat.mul_lt_mul'' hx a
theorem Cp{n d:NI}{q:Rat}(m:Bool)(hq:hD n.v d.v=q)(a:(n.m&&decide (d.v=1))=m):NF.make n d=⟨q,m⟩:=by rw[NF.make,hq,a]
theorem WJ(a b:NF):NF.make (a.num.mul b.num) (a.den.mul b.den)=a.mul b:=by
 refine Cp _ ?_ rfl;rw[NI.lQ,NI.lQ,kT,kT,jr,jr,Rat.mul_def,Rat.normalize_eq_mkRat];rfl
theorem jI(a b:NF)(c:bL kB a.q)(d:bL kB b.q):au prog 170 [eF a,eF b] (eF (a.mul b)):=by
 have f:=q9 (x:=a.num) (y:=b.num) c.1 d.1 (by omega);have g:=q9 (x:=a.den) (y:=b.den) (by rw[jW];exact c.2) (by rw[jW];exact d.2) (by omega);have e:=Dn (a.num.mul b.num) (a.den.mul b.den) (by rw[NI.lQ,jr,jr];have:=a.q.den_nz;have:=b.q.den_nz;exact ec (by omega) (by omega)) (ig (oD c.1 d.1) (by omega)) (ig (oD (x:=a.den.v) (y:=b.den.v) (by rw[jW];exact c.2) (by rw[jW];exact d.2)) (by omega));rw[WJ]at e;refine aI nf Of mix (by simp[f170]) ?_;simp[f170,aa];refine e2 f ?_;simp[aa];refine e2 g ?_;simp[aa];refine e2 e ?_;simp[aa]
theorem WX(a:NF)(h:a.q≠0):NF.make a.den a.num=a.inv:=by
 refine Cp _ ?_ rfl;rw[kT,jr];show hD a.q.den a.q.num=a.q⁻¹;rw[Rat.inv_def]
theorem CO(a:NF)(c:bL kB a.q)(b:a.q≠0):au prog 162 [eF a] (eF a.inv):=by
 have d:=Dn a.den a.num (by rw[kT];exact mt hE.1 b) (ig (by rw[jW];exact c.2) pF) (ig c.1 pF);rw[WX a b]at d;refine aI nf On mix (by simp[f162]) ?_;simp[f162,aa];refine c2 d ?_;simp[aa]
theorem Yn(a b:NF)(g:bL kB a.q)(c:bL kB b.q)(f:b.q≠0):au prog 117 [eF a,eF b] (eF (a.div b)):=by
 have h:=CO b c f;have d:=jI a b.inv g (xm c);have e:a.mul b.inv=a.div b:=by
  rw[NF.mul,NF.div,NF.inv,Rat.div_def]
 rw[e]at d;refine aI nf Nz mix (by simp[f117]) ?_;simp[f117,aa];refine e1 h ?_;simp[aa];refine e2 d ?_;simp[aa]
theorem Xt(a b:NF)(h:¬(a.ft=true/\b.ft=true)):NF.make ((a.num.mul b.den).add (b.num.mul a.den)) (a.den.mul b.den)=a.add b:=by
 have g:(a.ft&&b.ft)=false:=by simpa using h
 refine Cp _ ?_ ?_
 ·rw[NI.rj,NI.lQ,NI.lQ,NI.lQ,kT,kT,jr,jr,Rat.add_def'];rfl
 ·rw[g,aT];have:¬(a.den.mul b.den).v=1:=by
   intro c;rw[NI.lQ,jr,jr]at c;have d:a.q.den*b.q.den=1:=by exact_mod_cast c
   have e:=Nat.eq_one_of_mul_eq_one_right d;have f:=Nat.eq_one_of_mul_eq_one_left d;exact h ⟨by rw[NF.ft];simp[e,f],by rw[NF.ft];simp[e,f]⟩
  rw[decide_eq_false this,a1]
theorem KK{q:Rat}(h:q.den=1):(q.num:Rat)=q:=by
 apply Rat.ext
 ·rw[Rat.num_intCast]
 ·rw[Rat.den_intCast,h]
theorem tA(a b:NF)(i:bL kB a.q)(j:bL kB b.q):au prog 190 [eF a,eF b] (eF (a.add b)):=by
 have w1:=BD a;have l:=BD b;refine aI nf Oa mix (by simp[f190]) ?_
 by_cases hw:a.ft=true/\b.ft=true
 ·rw[hw.1]at w1;rw[hw.2]at l;have k:=vK a.num b.num (ig i.1 pF) (ig j.1 pF);have f:=CI (a.num.add b.num);have c:a.q.den=1:=by simpa[NF.ft]using hw.1
  have d:b.q.den=1:=by simpa[NF.ft]using hw.2
  have e:NF.whole (a.num.add b.num)=a.add b:=by
   rw[NF.whole,NF.add];have e1:(((a.num.add b.num).v:Int):Rat)=a.q+b.q:=by
    rw[NI.rj,kT,kT,Rat.intCast_add,KK c,KK d]
   have e2:(a.num.add b.num).m=(a.ft&&b.ft&&(a.num.sm&&b.num.sm)):=by rw[hw.1,hw.2];rfl
   rw[e1,e2]
  rw[e]at f;simp[f190,aa];refine c1 w1 ?_;simp[aa];refine c1 l ?_;simp[aa];refine c2 k ?_;simp[aa];refine c1 f ?_;simp[aa]
 ·have g:a.den.v.natAbs<2^kB:=by rw[jW];exact i.2
  have h:b.den.v.natAbs<2^kB:=by rw[jW];exact j.2
  have k:=q9 (x:=a.num) (y:=b.den) i.1 h (by omega);have f:=q9 (x:=b.num) (y:=a.den) j.1 g (by omega);have r:(a.num.mul b.den).v.natAbs<2^(kB+kB):=oD i.1 h;have s:(b.num.mul a.den).v.natAbs<2^(kB+kB):=oD j.1 g;have o:=vK _ _ (ig r (by omega)) (ig s (by omega));have p:=q9 (x:=a.den) (y:=b.den) g h (by omega);have t:((a.num.mul b.den).add (b.num.mul a.den)).v.natAbs<2^(kB+kB+1):=by
   rw[NI.rj,gt];exact gj (Int.natAbs_add_le _ _) (by omega)
  have u:kB=100000:=rfl;have n:=Dn ((a.num.mul b.den).add (b.num.mul a.den)) (a.den.mul b.den) (by rw[NI.lQ,jr,jr];have:=a.q.den_nz;have:=b.q.den_nz;exact ec (by omega) (by omega)) (ig t (by omega)) (ig (oD (x:=a.den.v) (y:=b.den.v) g h) (by omega));rw[Xt a b hw]at n;have hc:a.ft=false\/(a.ft=true/\b.ft=false):=by
   rcases c:a.ft with _|_
   ·exact .inl rfl
   ·exact .inr ⟨rfl,by rcases d:b.ft with _|_;rfl;exact(hw ⟨c,d⟩).elim⟩
  rcases hc with c|⟨c,d⟩
  ·rw[c]at w1;simp[f190,aa];refine c1 w1 ?_;simp[aa];refine e2 k ?_;simp[aa];refine e2 f ?_;simp[aa];refine e2 o ?_;simp[aa];refine e2 p ?_;simp[aa];refine e2 n ?_;simp[aa]
  ·rw[c]at w1;rw[d]at l;simp[f190,aa];refine c1 w1 ?_;simp[aa];refine c1 l ?_;simp[aa];refine e2 k ?_;simp[aa];refine e2 f ?_;simp[aa];refine e2 o ?_;simp[aa];refine e2 p ?_;simp[aa];refine e2 n ?_;simp[aa]
theorem qQ(a b:NF)(d:bL kB a.q)(c:bL kB b.q):au prog 167 [eF a,eF b] (eF (a.sub b)):=by
 have e:=CN b c;have f:=tA a b.neg d (xY c);refine aI nf Oi mix (by simp[f167]) ?_;simp[f167,aa];refine e1 e ?_;simp[aa];refine e2 f ?_;simp[aa];exact Wk.refl _
def dw(x y:Rat):Int:=if x<y then -1 else if x=y then 0 else 1
theorem aHv(a b:Rat):jO (a.num*b.den) (b.num*a.den)=dw a b:=by
 have c:a<b↔a.num*b.den<b.num*a.den:=hJ _ _;have f:a=b↔a.num*b.den=b.num*a.den:=by
  constructor
  ·rintro rfl;rfl
  ·intro h
   by_cases d:a<b
   ·rw[c]at d;omega
   ·by_cases e:b<a
    ·have g:=(hJ b a).1 e;omega
    ·exact Rat.le_antisymm (hG.1 e) (hG.1 d)
 simp only[jO,dw,c,f]
theorem mK(a b:NF)(c:bL kB a.q)(d:bL kB b.q):au prog 80 [eF a,eF b] (.int .i64 (dw a.q b.q)):=by
 have e:a.den.v.natAbs<2^kB:=by rw[jW];exact c.2
 have f:b.den.v.natAbs<2^kB:=by rw[jW];exact d.2
 have j:=q9 (x:=a.num) (y:=b.den) c.1 f (by omega);have k:=q9 (x:=b.num) (y:=a.den) d.1 e (by omega);have h:(a.num.mul b.den).v.natAbs<2^(kB+kB):=oD c.1 f;have i:(b.num.mul a.den).v.natAbs<2^(kB+kB):=oD d.1 e;have g:=Oy _ _ (ig h (by omega)) (ig i (by omega));rw[NI.lQ,NI.lQ,kT,kT,jr,jr,aHv]at g;refine aI nf PD mix (by simp[f80]) ?_;simp[f80,aa];refine e2 j ?_;simp[aa];refine e2 k ?_;simp[aa];refine e2 g ?_;simp[aa]
def low:Nat->Nat->List Nat
 |0,_=>[]
 |i+1,n=>(48+n/10^i% 10)::low i n
def nd(n:Nat):Nat:=if h:n=0 then 0 else nd (n/10)+1
 decreasing_by omega
theorem nS:∀(i n:Nat),i<nd n↔10^i<=n
 |0,n=>by
  rw[nd];split
  ·subst n;simp
  ·simp;omega
 |i+1,n=>by
  rw[nd];split
  ·rename_i h;subst h;have:=gm (n:=i+1) (show 0<10 by omega);constructor
   ·intro h;omega
   ·intro h;omega
  ·have:=nS i (n/10);rw[hl (by omega),<-gt]at this;rw[<-this];omega
theorem qB(b n:Nat):∀a,low (a+b) n=low a (n/10^b)++low b n
 |0=>by simp[low]
 |a+1=>by
  rw[show a+1+b=(a+b)+1 by omega,low,low,qB b n a,Nat.div_div_eq_div_mul,<-gy,Nat.add_comm b a];rfl
theorem Cq(n k:Nat):∀b,b<=k->low b (n% 10^k)=low b n
 |0,_=>rfl
 |b+1,h=>by
  have e:k=b+(k-b-1+1):=by omega
  have a:n% 10^k/10^b=n/10^b% 10^(k-b-1+1):=by
   conv=>lhs;rw[e,gy]
   rw[Nat.mod_mul_right_div_self]
  rw[low,low,Cq n k b (by omega),a,Nat.mod_mod_of_dvd _ (Nat.pow_dvd_pow 10 (show 1<=k-b-1+1 by omega)|>fun h=>by simpa using h)]
theorem aHb{n m:Nat}(h:∀i,i<nd n↔i<m):nd n=m:=by
 have a:=h m;have b:=h (nd n);omega
theorem C4{n k:Nat}(h:10^k<=n):nd n=nd (n/10^k)+k:=by
 refine aHb fun i=>?_;rw[nS]
 by_cases hi:i<k
 ·have:=ge (show 0<10 by omega) (Nat.le_of_lt hi);constructor
  ·intro _;omega
  ·intro _;omega
 ·obtain⟨j,rfl⟩:∃j,i=j+k:=⟨i-k,by omega⟩
  rw[gy,<-hl (gm (by omega)),<-nS];omega
theorem rh{n k:Nat}(h:n<10^k):nd n<=k:=by
 rcases g6 k (nd n)with a|a
 ·rw[nS]at a;omega
 ·exact a
theorem yQ{n:Nat}(h:0<n):0<nd n:=by rw[nS,g9];exact h
theorem WM{M:Nat}(h:10^9<=M):low (nd M) M=low (nd (M/10^9)) (M/10^9)++low 9 (M% 10^9):=by
 rw[C4 h,qB,Cq _ _ _ (gi 9)]
theorem qA(n:Nat):∀i,(low i n).length=i
 |0=>rfl
 |i+1=>by simp[low,qA n i]
def bf(n:Nat):List Nat:=low (max 1 (nd n)) n
def bN(z:Int):List Nat:=if z<0 then 45::bf z.natAbs else bf z.natAbs
def bg(q:Rat):List Nat:=if q.den=1 then bN q.num else bN q.num++47::bf q.den
def aZ(s:List Nat):Nat:=s.foldl (fun n c=>n*10+(c-48)) 0
def cq(c:Nat):Bool:=decide (48<=c)&&decide (c<=57)
theorem xE(s:List Nat)(c:Nat):aZ (s++[c])=aZ s*10+(c-48):=by simp[aZ]
theorem sB(i n:Nat):low (i+1) n=low i (n/10)++[48+n% 10]:=by
 have:=qB 1 n i;rw[this];simp[low]
theorem PX:∀(i n:Nat),(low i n).all cq=true
 |0,n=>rfl
 |i+1,n=>by
  rw[low,eq,PX i n];have:=ht (n/10^i) (show 0<10 by omega);simp[cq];omega
theorem Jj:∀(i n:Nat),aZ (low i n)=n% 10^i
 |0,n=>by simp[low,aZ,Nat.mod_one]
 |i+1,n=>by
  rw[sB,xE,Jj i,gt,g5 (10^i),Nat.mod_mul];omega
theorem B6(n:Nat):n<10^nd n:=by
 rcases g6 n (10^nd n)with h|h
 ·exact h
 ·have:=(nS (nd n) n).2 h;omega
theorem xU(n:Nat):aZ (bf n)=n:=by
 rw[bf,Jj];refine g0 (gg (B6 n) (ge (by omega) (by omega)))
theorem qx(n:Nat):(bf n).length=max 1 (nd n):=qA _ _
theorem qR(n:Nat):(bf n).all cq=true:=PX _ _
theorem qf:bf 0=[48]:=by
 have:nd 0=0:=by rw[nd,dif_pos rfl]
 rw[bf,this];rfl
def dE(s:List Nat):Bool:=!s.isEmpty&&s.all cq&&(decide (s.head?≠some 48)||decide (s=[48]))
theorem jl:∀(k:Nat)(s:List Nat),s.length=k->s.all cq=true->aZ s<10^k
 |0,s,h,_=>by
            have:s=[]:=ew.1 h
            subst this;simp[aZ]
 |n+1,s,h,a=>by
  have b:s≠[]:=by intro e;subst e;simp at h
  obtain⟨t,c,rfl⟩:∃t c,s=t++[c]:=⟨s.dropLast,s.getLast b,(e8 b).symm⟩
  simp only[fw,eq,gc,ax,ap]at a;have d:=jl n t (by simpa using h) a.1;have hc:=a.2;simp only[cq,ap,decide_eq_true_eq]at hc;rw[xE,gt];omega
theorem Ke:∀(k:Nat)(s:List Nat),s.length=k->s.all cq=true->low k (aZ s)=s
 |0,s,h,_=>by
            have:s=[]:=ew.1 h
            subst this;rfl
 |n+1,s,h,a=>by
  have b:s≠[]:=by intro e;subst e;simp at h
  obtain⟨t,c,rfl⟩:∃t c,s=t++[c]:=⟨s.dropLast,s.getLast b,(e8 b).symm⟩
  simp only[fw,eq,gc,ax,ap]at a;have d:=Ke n t (by simpa using h) a.1;have hc:=a.2;simp only[cq,ap,decide_eq_true_eq]at hc;rw[sB,xE];have e1:(aZ t*10+(c-48))/10=aZ t:=by omega
  have e2:(aZ t*10+(c-48))% 10=c-48:=by omega
  rw[e1,e2,d];congr 2;omega
theorem Su(c:Nat)(s:List Nat)(h:49<=c):10^s.length<=aZ (c::s):=by
 have key:∀(s:List Nat)(a:Nat),a*10^s.length<=s.foldl (fun n c=>n*10+(c-48)) a:=by
  intro s
  induction s with
  |nil=>intro a;simp
  |cons x r b=>
   intro a;rw[fv,fd];refine g7 ?_ (b _);rw[gt,g5 (10^r.length),<-hz];exact ho _ (by omega)
 have:=key s (c-48);rw[aZ,fv,Nat.zero_mul,hA];refine g7 ?_ this;have:1*10^s.length<=(c-48)*10^s.length:=ho _ (by omega);omega
theorem vc{s:List Nat}(h:dE s=true):bf (aZ s)=s:=by
 simp only[dE,ap,av,decide_eq_true_eq,ay]at h;obtain⟨⟨f,a⟩,b⟩:=h;rcases b with b|rfl
 ·cases s with
  |nil=>simp at f
  |cons c r=>
   have hc:cq c=true:=by simpa using(eq.symm.trans a|>fun h=>by simpa using h:cq c=true/\r.all cq=true).1
   simp only[cq,ap,decide_eq_true_eq]at hc;have i:49<=c:=by
    have:c≠48:=fun e=>b (by rw[e];rfl);omega
   have g:=jl _ _ rfl a;have j:=Su c r i;have k:nd (aZ (c::r))=r.length+1:=by
    have l:=(nS r.length _).2 j;have d:=rh g;rw[fd]at d;omega
   rw[bf,k,show max 1 (r.length+1)=r.length+1 by omega];exact Ke _ _ rfl a
 ·have:aZ [48]=0:=rfl;rw[this,qf]
def b6(c:Nat):List Nat->List Nat×List Nat×Bool
 |[]=>([],[],false)
 |x::r=>if x=c then([],r,true)else(x::(b6 c r).1,(b6 c r).2.1,(b6 c r).2.2)
theorem BW(c:Nat):∀(a b:List Nat),c∉a->b6 c (a++c::b)=(a,b,true)
 |[],b,_=>by simp[b6]
 |x::a,b,h=>by
  simp only[gb,not_or]at h;rw[e6,b6,if_neg (fun e=>h.1 e.symm),BW c a b h.2]
theorem BC(c:Nat):∀(a:List Nat),c∉a->b6 c a=(a,[],false)
 |[],_=>rfl
 |x::a,h=>by
  simp only[gb,not_or]at h;rw[b6,if_neg (fun e=>h.1 e.symm),BC c a h.2]
theorem oU(c:Nat):∀(s:List Nat),((b6 c s).2.2=true/\s=(b6 c s).1++c::(b6 c s).2.1)\/((b6 c s).2.2=false/\(b6 c s).1=s/\(b6 c s).2.1=[])
 |[]=>by simp[b6]
 |x::s=>by
  rw[b6]
  by_cases h:x=c
  ·subst h;simp
  ·rw[if_neg h];rcases oU c s with⟨a,b⟩|⟨a,b,d⟩
   ·left;exact⟨a,by dsimp only;rw[e6,<-b]⟩
   ·right;exact⟨a,by dsimp only;rw[b],d⟩
def bX(s:List Nat):Bool:=decide (s.head?=some 45)
def c7(s:List Nat):List Nat:=if bX s=true then s.tail else s
def bE(s:List Nat):List Nat:=(b6 47 (c7 s)).1
def bP(s:List Nat):List Nat:=(b6 47 (c7 s)).2.1
def er(s:List Nat):Bool:=(b6 47 (c7 s)).2.2
def mH(s:List Nat):Bool:=dE (bE s)&&!(bX s&&decide (bE s=[48]))&&(!er s||(dE (bP s)&&decide (bP s≠[48])&&decide (bP s≠[49])))
def b7(s:List Nat):Int:=
 if mH s=false then 1
 else if 600<(bE s).length\/600<(bP s).length then 4
 else if er s=true/\hd (aZ (bE s)) (aZ (bP s))≠1 then 1 else 0
def bd(s:List Nat):Rat:=hD (if bX s=true then -(aZ (bE s):Int)else aZ (bE s)) (if er s=true then aZ (bP s)else 1:Nat)
theorem Ag{s:List Nat}(h:s.all cq=true){c:Nat}(hc:cq c=false):c∉s:=by
 intro a;rw[fl]at h;rw[h c a]at hc;cases hc
theorem jH{s:List Nat}(h:dE s=true):s.all cq=true:=by
 simp only[dE,ap]at h;exact h.1.2
theorem um(n:Nat):bN (n:Int)=bf n:=by
 rw[bN,if_neg (by omega)];rfl
theorem aIR{n:Nat}(h:0<n):bN (-(n:Int))=45::bf n:=by
 rw[bN,if_pos (by omega)];congr 1;rw[ed];rfl
theorem xV{s:List Nat}(h:dE s=true)(a:s≠[48]):0<aZ s:=by
 rcases gx (aZ s)with e|e
 ·have:=vc h;rw[e,qf]at this;exact(a this.symm).elim
 ·exact e
theorem jG{s:List Nat}(h:b7 s=0):bg (bd s)=s/\(bd s).num=(if bX s=true then -(aZ (bE s):Int)else aZ (bE s))/\(bd s).den=(if er s=true then aZ (bP s)else 1:Nat):=by
 unfold b7 at h
 split at h
 ·cases h
 rename_i b
 split at h
 ·cases h
 split at h
 ·cases h
 rename_i g;have b:mH s=true:=by simpa using b
 simp only[mH,ap,ay,Bool.and_eq_false_iff,decide_eq_false_iff_not,av,decide_eq_true_eq]at b;obtain⟨⟨d,a2⟩,a3⟩:=b;have hs:s=(if bX s=true then[45]else[])++c7 s:=by
  rw[c7]
  by_cases a:bX s=true
  ·rw[if_pos a,if_pos a];simp only[bX,decide_eq_true_eq]at a;cases s with
   |nil=>simp at a
   |cons c r=>simp at a;subst a;rfl
  ·rw[if_neg a,if_neg a];rfl
 have i:(if er s=true then aZ (bP s)else 1:Nat)≠0:=by
  split
  ·rename_i hf;rcases a3 with a3|a3
   ·rw[hf]at a3;cases a3
   ·have:=xV a3.1.1 a3.1.2;omega
  ·omega
 have j:hd (if bX s=true then -(aZ (bE s):Int)else aZ (bE s)).natAbs (if er s=true then aZ (bP s)else 1:Nat)=1:=by
  have e:(if bX s=true then -(aZ (bE s):Int)else aZ (bE s)).natAbs=aZ (bE s):=by split<;>omega
  rw[e]
  by_cases hf:er s=true
  ·rw[if_pos hf];exact Decidable.not_not.1 fun e=>g ⟨hf,e⟩
  ·rw[if_neg hf,hv]
 obtain⟨e1,e2⟩:=lE (n:=if bX s=true then -(aZ (bE s):Int)else aZ (bE s)) i;rw[j]at e1 e2;simp only[Nat.div_one]at e2;have e1:(bd s).num=(if bX s=true then -(aZ (bE s):Int)else aZ (bE s)):=by rw[bd,e1];exact ei _
 have e2:(bd s).den=(if er s=true then aZ (bP s)else 1:Nat):=e2;refine⟨?_,e1,e2⟩;have hI:bN (bd s).num=(if bX s=true then[45]else[])++bE s:=by
  rw[e1]
  by_cases a:bX s=true
  ·rw[if_pos a,if_pos a,aIR,vc d];·rfl
   refine xV d ?_;rcases a2 with a2|a2
   ·rw[a]at a2;cases a2
   ·exact a2
  ·rw[if_neg a,if_neg a,um,vc d];rfl
 rw[bg,hI,e2]
 by_cases hf:er s=true
 ·have f:dE (bP s)=true/\bP s≠[48]/\bP s≠[49]:=by
   rcases a3 with a3|a3
   ·rw[hf]at a3;cases a3
   ·exact⟨a3.1.1,a3.1.2,a3.2⟩
  have k:aZ (bP s)≠1:=by
   intro e;have:=vc f.1;rw[e]at this;have b:nd 1=1:=by rw[nd,dif_neg (by omega),nd,dif_pos (by omega)]
   have:bf 1=[49]:=by rw[bf,b];rfl
   exact f.2.2 (by rw[<-this];assumption|>Eq.symm)
  rw[if_pos hf,if_neg k,vc f.1]
  conv=>rhs;rw[hs]
  rw[List.append_assoc];congr 1;rcases oU 47 (c7 s)with⟨g1,g2⟩|⟨g1,_⟩
  ·exact g2.symm
  ·rw[er,g1]at hf;cases hf
 ·rw[if_neg hf,if_pos rfl]
  conv=>rhs;rw[hs]
  congr 1;rcases oU 47 (c7 s)with⟨g1,g2⟩|⟨g1,g2,_⟩
  ·exact(hf g1).elim
  ·exact g2
theorem xF(z:Int)(r:List Nat):bX (bN z++r)=decide (z<0)/\c7 (bN z++r)=bf z.natAbs++r:=by
 by_cases h:z<0
 ·have:bN z=45::bf z.natAbs:=by rw[bN,if_pos h]
  rw[this];simp[bX,c7,h]
 ·have e:bN z=bf z.natAbs:=by rw[bN,if_neg h]
  have a:=qR z.natAbs;have b:=qx z.natAbs;rw[e];have d:bX (bf z.natAbs++r)=false:=by
   cases f:bf z.natAbs with
   |nil=>rw[f]at b;simp at b;omega
   |cons c t=>
    rw[f]at a;simp only[eq,ap]at a;have hc:=a.1;simp only[cq,ap,decide_eq_true_eq]at hc;have:¬(some c=some 45):=by intro e;injection e with e;omega
    simp only[bX,e6,fm,this,decide_false]
  exact⟨by rw[d];simp[h],by rw[c7,d];simp⟩
theorem uI(q:Rat):bX (bg q)=decide (q.num<0)/\bE (bg q)=bf q.num.natAbs/\er (bg q)=decide (q.den≠1)/\bP (bg q)=if q.den=1 then[]else bf q.den:=by
 have d:47∉bf q.num.natAbs:=Ag (qR _) rfl
 by_cases h:q.den=1
 ·have e:bg q=bN q.num++[]:=by rw[bg,if_pos h,en]
  obtain⟨c,b⟩:=xF q.num [];rw[en,en]at b;have a:=BC 47 _ d;rw[<-b]at a;rw[e];refine⟨c,?_,?_,?_⟩
  ·rw[en,bE,a,b]
  ·rw[en,er,a,h];rfl
  ·rw[en,bP,a,if_pos h]
 ·have e:bg q=bN q.num++47::bf q.den:=by rw[bg,if_neg h]
  obtain⟨c,b⟩:=xF q.num (47::bf q.den);have a:=BW 47 _ (bf q.den) d;rw[<-b]at a;rw[e];refine⟨c,?_,?_,?_⟩
  ·rw[bE,a]
  ·rw[er,a];simp[h]
  ·rw[bP,a,if_neg h]
theorem Jl(q:Rat):bd (bg q)=q:=by
 obtain⟨a,b,c,d⟩:=uI q;have e1:(if bX (bg q)=true then -(aZ (bE (bg q)):Int)else aZ (bE (bg q)))=q.num:=by
  rw[a,b,xU]
  by_cases h:q.num<0
  ·simp[h];omega
  ·simp[h];omega
 have e2:(if er (bg q)=true then aZ (bP (bg q))else 1:Nat)=q.den:=by
  rw[c,d]
  by_cases h:q.den=1
  ·simp[h]
  ·simp[h,xU]
 rw[bd,e1,e2,Rat.num_divInt_den]
theorem Ai{a b:Rat}(h:bg a=bg b):a=b:=by rw[<-Jl a,h,Jl]
theorem aIS:bf 1=[49]:=by
 have a:nd 1=1:=by rw[nd,dif_neg (by omega),nd,dif_pos (by omega)]
 rw[bf,a];rfl
theorem uk{n k:Nat}(h:n<10^k)(hk:1<=k):(bf n).length<=k:=by
 rw[qx];have:=rh h;omega
theorem LU{n k:Nat}(h:(bf n).length<=k):n<10^k:=by
 rw[qx]at h;exact gg (B6 n) (ge (by omega) (by omega))
theorem Cm(z:Int):(bN z).length<=(bf z.natAbs).length+1:=by
 rw[bN];split<;>simp
theorem aIT(q:Rat):(bg q).length<=(bf q.num.natAbs).length+(bf q.den).length+2:=by
 have:=Cm q.num;rw[bg];split<;>simp<;>omega
theorem TP(k:Nat):2^(3*k)<=10^k:=by
 rw[hb];exact Nat.pow_le_pow_left (by omega) k
theorem HM{n k:Nat}(h:n<2^(3*k))(hk:1<=k):(bf n).length<=k:=uk (gg h (TP k)) hk
theorem Dq{n k K:Nat}(h:n<2^K)(a:K<=3*k)(hk:1<=k):(bf n).length<=k:=HM (gg h (ge (by decide) a)) hk
def mD:Nat:=600
theorem Ff{s:List Nat}(h:b7 s=0):(bd s).num.natAbs<10^mD/\(bd s).den<10^mD:=by
 obtain⟨k,f,g⟩:=jG h;unfold b7 at h
 split at h
 ·cases h
 rename_i a
 split at h
 ·cases h
 rename_i l;have a:mH s=true:=by simpa using a
 simp only[mH,ap,av,decide_eq_true_eq]at a;obtain⟨⟨b,_⟩,a3⟩:=a;have c:=jl _ _ rfl (jH b);have i:10^(bE s).length<=10^mD:=ge (by omega) (by rw[mD];omega);refine⟨?_,?_⟩
 ·rw[f];have e:(if bX s=true then -(aZ (bE s):Int)else aZ (bE s)).natAbs=aZ (bE s):=by split<;>omega
  rw[e];exact gg c i
 ·rw[g]
  by_cases hf:er s=true
  ·rw[if_pos hf];rcases a3 with a3|a3
   ·rw[hf]at a3;cases a3
   ·have d:=jl _ _ rfl (jH a3.1.1);have j:10^(bP s).length<=10^mD:=ge (by omega) (by rw[mD];omega);exact gg d j
  ·rw[if_neg hf];exact Nat.one_lt_pow (by decide) (by omega)
open Go
def dZ(l:List UInt8):List Nat:=l.map (·.toNat)
theorem TX(l:List UInt8):(dZ l).map hL=l:=by
 induction l with
 |nil=>rfl
 |cons a r b=>simp only[dZ,fb]at b⊢;rw[b];simp
def nY(c:Nat):List Nat->Nat->Int
 |[],_=>-1
 |x::r,i=>bif hh x c then(i:Int)else nY c r (i+1)
theorem Kn(c:UInt8):∀(l:List UInt8)(i:Nat),nY c.toNat (dZ l) i=if bi l c= -1 then -1 else bi l c+i
 |[],i=>by simp[nY,dZ,bi]
 |x::r,i=>by
  have b:=Kn c r (i+1);simp only[dZ]at b;simp only[dZ,fb,nY,bi]
  by_cases hx:x=c
  ·subst hx;simp
  ·have e:hh x.toNat c.toNat=false:=by
    cases d:hh x.toNat c.toNat
    ·rfl
    ·exact(hx (hK.1 (hm d))).elim
   have f:=Lib.indexByte_ge r c;simp only[e,cond_false,b,beq_iff_eq,hx,if_false]
   by_cases a:bi r c= -1
   ·simp[a]
   ·rw[if_neg a,if_neg a];rw[if_neg (by omega)];omega
theorem Ko(c:Nat):∀(s:List Nat)(k:Nat),((b6 c s).2.2=false/\nY c s k= -1/\b6 c s=(s,[],false))\/
 ∃i,i<s.length/\nY c s k=((k+i:Nat):Int)/\b6 c s=(s.take i,s.drop (i+1),true)
 |[],k=>by simp[b6,nY]
 |x::r,k=>by
  rw[b6,nY]
  by_cases h:x=c
  ·subst h;right;refine⟨0,by simp,?_,?_⟩
   ·simp
   ·simp
  ·have d:hh x c=false:=by
    cases d:hh x c
    ·rfl
    ·exact(h (hm d)).elim
   rw[d,if_neg h,cond_false];rcases Ko c r (k+1)with⟨e,a,b⟩|⟨i,e,a,b⟩
   ·left;exact⟨e,a,by rw[b]⟩
   ·right;refine⟨i+1,by simp;omega,?_,?_⟩
    ·rw[a];congr 1;omega
    ·rw[b];simp
theorem C9(n:Nat):dZ (bb n)=bf n:=by
 induction n using Nat.strongRecOn with
 |ind n a=>
  rw[bb]
  by_cases h:n<10
  ·rw[dif_pos h,bf];have c:nd n<=1:=rh (by omega);rw[show max 1 (nd n)=1 by omega];rw[show(1:Nat)=0+1 from rfl,sB,low,List.nil_append,g0 h];simp[dZ,hM];omega
  ·rw[dif_neg h];have b:=a (n/10) (by omega);have e:nd n=nd (n/10)+1:=by
    have:=C4 (n:=n) (k:=1) (by omega);rw[ha]at this;exact this
   have d:0<nd (n/10):=yQ (by omega);rw[bf,e,show max 1 (nd (n/10)+1)=max 1 (nd (n/10))+1 by omega,sB];have:dZ (bb (n/10)++[hL (48+n% 10)])=dZ (bb (n/10))++[48+n% 10]:=by
    simp[dZ,hM];omega
   rw[this,b,bf]
theorem aEE(z:Int):dZ (b2 z)=bN z:=by
 rw[b2,bN]
 by_cases h:z<0
 ·rw[if_pos h,if_pos h];show 45::dZ _=_;rw[C9]
 ·rw[if_neg h,if_neg h,C9];congr 1;omega
def rJ(s:List Nat):Nat->List Nat
 |0=>[]
 |n+1=>s++rJ s n
theorem JB(s:List UInt8):∀n,rJ (dZ s) n=dZ (b0 s n)
 |0=>by simp[rJ,b0,dZ]
 |n+1=>by
  have a:=JB s n;simp only[dZ]at a;simp[rJ,b0,dZ,a]
theorem BO(c:Nat):∀n,rJ [c] n=e9 n c
 |0=>rfl
 |n+1=>by rw[rJ,BO c n];rfl
theorem Bi(l:List UInt8):bv l [45]=bX (dZ l):=by
 cases l with
 |nil=>rfl
 |cons c r=>
  rw[bv,bX];simp only[dZ,fb,List.isPrefixOf,fm,ax,Option.some.injEq]
  by_cases h:c=45
  ·subst h;rfl
  ·have a:¬c.toNat=45:=fun e=>h (hK.1 e);have b:((45:UInt8)==c)=false:=by simpa using fun e=>h e.symm
   rw[b];simp[a]
theorem G7(l:List UInt8):dZ (bp l [45])=c7 (dZ l):=by
 rw[bp,Bi,c7];cases h:bX (dZ l)
 ·simp
 ·cases l with
  |nil=>simp[dZ,bX]at h
  |cons c r=>simp[dZ]
def kS(s:List Nat):List Nat:=s.dropWhile cq
def iR(s:List Nat):List Nat:=(s.reverse.dropWhile cq).reverse
theorem wV{p:Nat->Bool}:∀{s:List Nat},s.dropWhile p=[]↔s.all p=true
 |[]=>by simp
 |x::r=>by
  rw[List.dropWhile_cons];cases h:p x
  ·simp[h]
  ·simp[h,wV]
theorem Uy(s:List Nat):kS (iR s)=[]↔s.all cq=true:=by
 rw[kS,wV,iR];constructor
 ·intro h
  by_cases a:s.reverse.dropWhile cq=[]
  ·rw[wV,e7]at a;exact a
  ·have b:=List.head_dropWhile_not cq a;rw[e7,fl]at h;rw[h _ (List.head_mem a)]at b;cases b
 ·intro h;have:s.reverse.dropWhile cq=[]:=by rw[wV,e7];exact h
  rw[this];rfl
end Go.ak
namespace Go.Proofs
open Go.Shelf
def Tryz.TK:cy:=⟨fun|103=>315|210=>348|206=>345|n=>n,fun|9=>9|4=>4|24=>372|3=>3|n=>n,fun|n=>n⟩
theorem Tryz.aGZ:cv prog TK:={
 mixed:=by kernel_rfl
 f103:=func315.trans (congrArg some (by kernel_rfl))
 f206:=func345.trans (congrArg some (by kernel_rfl))
 f210:=func348.trans (congrArg some (by kernel_rfl))
 t3:=underlying3
 a3:=isAgg3
 z3:=sizeOf3
 v3:=zeroValue3
 t4:=underlying4
 a4:=isAgg4
 z4:=sizeOf4
 v4:=zeroValue4
 t9:=underlying9
 a9:=isAgg9
 z9:=sizeOf9
 v9:=zeroValue9
 t24:=underlying372
 a24:=isAgg372
 z24:=sizeOf372
 v24:=zeroValue372}
open Go.RowKit in
theorem Tryz.strings_CutPrefix(s p:ByteArray)(w:a6):
 a7 prog 315 #[.string s,.string p] w fun e w'=>e=.returned (.tuple #[.string ⟨(bp s.data.toList p.data.toList).toArray⟩,.bool (bv s.data.toList p.data.toList)])/\w'=w:=Any.strings_CutPrefix aGZ s p w
def Tryz.TF:cy:=⟨fun|283=>353|n=>n,fun|3=>3|9=>9|4=>4|n=>n,fun|n=>n⟩
theorem Tryz.aG5:cc prog TF:={
 mixed:=by kernel_rfl
 f283:=func353.trans (congrArg some (by kernel_rfl))
 t3:=underlying3
 a3:=isAgg3
 z3:=sizeOf3
 v3:=zeroValue3
 t4:=underlying4
 a4:=isAgg4
 z4:=sizeOf4
 v4:=zeroValue4
 t9:=underlying9
 a9:=isAgg9
 z9:=sizeOf9
 v9:=zeroValue9}
open Go.Lib in
theorem Tryz.internal_strconv_small(i:Nat)(h:i<100)(w:a6):
 a7 prog 353 #[.int .i64 i] w fun e w'=>e=.returned (.string ⟨(bb i).toArray⟩)/\w'=w:=Any.internal_strconv_small aG5 i h w
def Tryz.SY:cy:=⟨fun|284=>354|129=>323|317=>376|318=>377|n=>n,fun|53=>309|3=>3|212=>417|0=>0|4=>4|46=>369|5=>5|9=>9|n=>n,fun|17=>3|n=>n⟩
theorem Tryz.WQ:Go.Proofs.LaysM.n284 prog SY:={
 mixed:=by kernel_rfl
 f129:=func323.trans (congrArg some (by kernel_rfl))
 f284:=func354.trans (congrArg some (by kernel_rfl))
 f317:=func376.trans (congrArg some (by kernel_rfl))
 f318:=func377.trans (congrArg some (by kernel_rfl))
 t0:=underlying0
 a0:=isAgg0
 z0:=sizeOf0
 v0:=zeroValue0
 t3:=underlying3
 a3:=isAgg3
 z3:=sizeOf3
 v3:=zeroValue3
 t4:=underlying4
 a4:=isAgg4
 z4:=sizeOf4
 v4:=zeroValue4
 t5:=underlying5
 a5:=isAgg5
 z5:=sizeOf5
 v5:=zeroValue5
 t9:=underlying9
 a9:=isAgg9
 z9:=sizeOf9
 v9:=zeroValue9
 t46:=underlying369
 a46:=isAgg369
 z46:=sizeOf369
 v46:=zeroValue369
 t53:=underlying309
 a53:=isAgg309
 z53:=sizeOf309
 v53:=zeroValue309
 t212:=underlying417
 a212:=isAgg417
 z212:=sizeOf417
 v212:=zeroValue417
 g17:=by kernel_rfl
 i0:=by kernel_rfl
 i3:=by kernel_rfl
 i4:=by kernel_rfl
 i5:=by kernel_rfl
 i9:=by kernel_rfl
 i46:=by kernel_rfl
 i53:=by kernel_rfl
 i212:=by kernel_rfl
 m17:=by kernel_rfl}
open Go.Lib in
theorem Tryz.internal_strconv_numDigits(u:Nat)(h1:1<=u)(h2:u<18446744073709551616)(w:a6)(htab:bV prog w "internal/strconv.uint64pow10" .u64 bI):
 a7 prog 354 #[.int .u64 u] w fun e w'=>e=.returned (.int .i64 (be u))/\w'=w:=Any.internal_strconv_numDigits WQ u h1 h2 w htab
def Tryz.TE:cy:=⟨fun|285=>355|n=>n,fun|37=>358|53=>309|3=>3|4=>4|51=>397|9=>9|5=>5|0=>0|n=>n,fun|n=>n⟩
theorem Tryz.aG6:cb prog TE:={
 mixed:=by kernel_rfl
 f285:=func355.trans (congrArg some (by kernel_rfl))
 t0:=underlying0
 a0:=isAgg0
 z0:=sizeOf0
 v0:=zeroValue0
 t3:=underlying3
 a3:=isAgg3
 z3:=sizeOf3
 v3:=zeroValue3
 t4:=underlying4
 a4:=isAgg4
 z4:=sizeOf4
 v4:=zeroValue4
 t5:=underlying5
 a5:=isAgg5
 z5:=sizeOf5
 v5:=zeroValue5
 t9:=underlying9
 a9:=isAgg9
 z9:=sizeOf9
 v9:=zeroValue9
 t37:=underlying358
 a37:=isAgg358
 z37:=sizeOf358
 v37:=zeroValue358
 t51:=underlying397
 a51:=isAgg397
 z51:=sizeOf397
 v51:=zeroValue397
 t53:=underlying309
 a53:=isAgg309
 z53:=sizeOf309
 v53:=zeroValue309}
open Go.RowKit Go.Sort Go.Lib in
theorem Tryz.internal_strconv_formatBase10(an off cap:Nat)(u:Nat)(d:Array UInt8)(w:a6)(hH:Holds (fun(b:UInt8)=>da .u8 (b.toNat:Int)) w an off d)(hu:u<10^d.size)(hu64:u<18446744073709551616)(hsz:d.size<4611686018427387904):
 a7 prog 355 #[.slice (some ⟨an,off,none⟩) d.size cap,.int .u64 u] w fun e w'=>
  e=.returned (.tuple #[])/\∃(n v':Nat)(dk:Array UInt8),w'=(putRow (fun(b:UInt8)=>da .u8 (b.toNat:Int)) w an off dk).drewN n/\FmtInv d.size u 0 v' dk:=Any.internal_strconv_formatBase10 aG6 an off cap u d w hH hu hu64 hsz
def Tryz.SJ:cy:=⟨fun|171=>301|243=>333|246=>352|283=>353|284=>354|285=>355|286=>356|129=>323|317=>376|318=>377|319=>378|320=>379|337=>390|338=>391|n=>n,fun|3=>3|9=>9|2=>2|4=>4|171=>393|0=>0|53=>309|37=>358|5=>5|173=>395|212=>417|51=>397|20=>20|213=>418|46=>369|232=>438|233=>439|n=>n,fun|17=>3|18=>6|19=>7|n=>n⟩
theorem Tryz.WS:Go.Proofs.LaysM.n171 prog SJ:={
 mixed:=by kernel_rfl
 f129:=func323.trans (congrArg some (by kernel_rfl))
 f171:=func301.trans (congrArg some (by kernel_rfl))
 f243:=func333.trans (congrArg some (by kernel_rfl))
 f246:=func352.trans (congrArg some (by kernel_rfl))
 f283:=func353.trans (congrArg some (by kernel_rfl))
 f284:=func354.trans (congrArg some (by kernel_rfl))
 f285:=func355.trans (congrArg some (by kernel_rfl))
 f286:=func356.trans (congrArg some (by kernel_rfl))
 f317:=func376.trans (congrArg some (by kernel_rfl))
 f318:=func377.trans (congrArg some (by kernel_rfl))
 f319:=func378.trans (congrArg some (by kernel_rfl))
 f320:=func379.trans (congrArg some (by kernel_rfl))
 f337:=func390.trans (congrArg some (by kernel_rfl))
 f338:=func391.trans (congrArg some (by kernel_rfl))
 t0:=underlying0
 a0:=isAgg0
 z0:=sizeOf0
 v0:=zeroValue0
 t2:=underlying2
 a2:=isAgg2
 z2:=sizeOf2
 v2:=zeroValue2
 t3:=underlying3
 a3:=isAgg3
 z3:=sizeOf3
 v3:=zeroValue3
 t4:=underlying4
 a4:=isAgg4
 z4:=sizeOf4
 v4:=zeroValue4
 t5:=underlying5
 a5:=isAgg5
 z5:=sizeOf5
 v5:=zeroValue5
 t9:=underlying9
 a9:=isAgg9
 z9:=sizeOf9
 v9:=zeroValue9
 t20:=underlying20
 a20:=isAgg20
 z20:=sizeOf20
 v20:=zeroValue20
 t37:=underlying358
 a37:=isAgg358
 z37:=sizeOf358
 v37:=zeroValue358
 t46:=underlying369
 a46:=isAgg369
 z46:=sizeOf369
 v46:=zeroValue369
 t51:=underlying397
 a51:=isAgg397
 z51:=sizeOf397
 v51:=zeroValue397
 t53:=underlying309
 a53:=isAgg309
 z53:=sizeOf309
 v53:=zeroValue309
 t171:=underlying393
 a171:=isAgg393
 z171:=sizeOf393
 v171:=zeroValue393
 t173:=underlying395
 a173:=isAgg395
 z173:=sizeOf395
 v173:=zeroValue395
 t212:=underlying417
 a212:=isAgg417
 z212:=sizeOf417
 v212:=zeroValue417
 t213:=underlying418
 a213:=isAgg418
 z213:=sizeOf418
 t232:=underlying438
 a232:=isAgg438
 z232:=sizeOf438
 v232:=zeroValue438
 t233:=underlying439
 a233:=isAgg439
 z233:=sizeOf439
 v233:=zeroValue439
 g17:=by kernel_rfl
 g18:=by kernel_rfl
 g19:=by kernel_rfl
 i0:=by kernel_rfl
 i2:=by kernel_rfl
 i3:=by kernel_rfl
 i4:=by kernel_rfl
 i5:=by kernel_rfl
 i9:=by kernel_rfl
 i20:=by kernel_rfl
 i37:=by kernel_rfl
 i46:=by kernel_rfl
 i51:=by kernel_rfl
 i53:=by kernel_rfl
 i171:=by kernel_rfl
 i173:=by kernel_rfl
 i212:=by kernel_rfl
 i232:=by kernel_rfl
 i233:=by kernel_rfl
 m17:=by kernel_rfl
 m18:=by kernel_rfl
 m19:=by kernel_rfl}
open Go.RowKit Go.Sort Go.Lib in
theorem Tryz.strconv_Itoa(n:Int)(h0: -9223372036854775808<=n)(h1:n<=9223372036854775807)(w:a6)(htab:bV prog w "internal/strconv.uint64pow10" .u64 bI):
 a7 prog 301 #[.int .i64 n] w fun e w'=>e=.returned (.string ⟨(b2 n).toArray⟩)/\∃k os,w'=grow (w.drewN k) os:=Any.strconv_Itoa WS n h0 h1 w htab
def Tryz.SK:cy:=⟨fun|172=>310|244=>346|245=>347|247=>364|279=>365|280=>366|281=>367|282=>368|287=>383|316=>384|171=>301|205=>385|321=>392|322=>393|243=>333|246=>352|283=>353|284=>354|285=>355|286=>356|129=>323|317=>376|318=>377|319=>378|320=>379|337=>390|338=>391|n=>n,fun|9=>9|3=>3|75=>362|76=>363|4=>4|5=>5|167=>403|37=>358|0=>0|85=>404|2=>2|168=>406|53=>309|175=>422|46=>369|210=>426|127=>387|145=>436|143=>434|21=>21|171=>393|173=>395|212=>417|51=>397|20=>20|213=>418|232=>438|233=>439|80=>303|n=>n,fun|15=>4|16=>5|17=>3|18=>6|19=>7|n=>n⟩
theorem Tryz.WT:Go.Proofs.LaysC.n172 prog SK:={
 mixed:=by kernel_rfl
 f129:=func323.trans (congrArg some (by kernel_rfl))
 f171:=func301.trans (congrArg some (by kernel_rfl))
 f172:=func310.trans (congrArg some (by kernel_rfl))
 f205:=func385.trans (congrArg some (by kernel_rfl))
 f243:=func333.trans (congrArg some (by kernel_rfl))
 f244:=func346.trans (congrArg some (by kernel_rfl))
 f245:=func347.trans (congrArg some (by kernel_rfl))
 f246:=func352.trans (congrArg some (by kernel_rfl))
 f247:=func364.trans (congrArg some (by kernel_rfl))
 f279:=func365.trans (congrArg some (by kernel_rfl))
 f280:=func366.trans (congrArg some (by kernel_rfl))
 f281:=func367.trans (congrArg some (by kernel_rfl))
 f282:=func368.trans (congrArg some (by kernel_rfl))
 f283:=func353.trans (congrArg some (by kernel_rfl))
 f284:=func354.trans (congrArg some (by kernel_rfl))
 f285:=func355.trans (congrArg some (by kernel_rfl))
 f286:=func356.trans (congrArg some (by kernel_rfl))
 f287:=func383.trans (congrArg some (by kernel_rfl))
 f316:=func384.trans (congrArg some (by kernel_rfl))
 f317:=func376.trans (congrArg some (by kernel_rfl))
 f318:=func377.trans (congrArg some (by kernel_rfl))
 f319:=func378.trans (congrArg some (by kernel_rfl))
 f320:=func379.trans (congrArg some (by kernel_rfl))
 f321:=func392.trans (congrArg some (by kernel_rfl))
 f322:=func393.trans (congrArg some (by kernel_rfl))
 f337:=func390.trans (congrArg some (by kernel_rfl))
 f338:=func391.trans (congrArg some (by kernel_rfl))
 t0:=underlying0
 a0:=isAgg0
 z0:=sizeOf0
 v0:=zeroValue0
 t2:=underlying2
 a2:=isAgg2
 z2:=sizeOf2
 v2:=zeroValue2
 t3:=underlying3
 a3:=isAgg3
 z3:=sizeOf3
 v3:=zeroValue3
 t4:=underlying4
 a4:=isAgg4
 z4:=sizeOf4
 v4:=zeroValue4
 t5:=underlying5
 a5:=isAgg5
 z5:=sizeOf5
 v5:=zeroValue5
 t9:=underlying9
 a9:=isAgg9
 z9:=sizeOf9
 v9:=zeroValue9
 t20:=underlying20
 a20:=isAgg20
 z20:=sizeOf20
 v20:=zeroValue20
 t21:=underlying21
 a21:=isAgg21
 z21:=sizeOf21
 v21:=zeroValue21
 t37:=underlying358
 a37:=isAgg358
 z37:=sizeOf358
 v37:=zeroValue358
 t46:=underlying369
 a46:=isAgg369
 z46:=sizeOf369
 v46:=zeroValue369
 t51:=underlying397
 a51:=isAgg397
 z51:=sizeOf397
 v51:=zeroValue397
 t53:=underlying309
 a53:=isAgg309
 z53:=sizeOf309
 v53:=zeroValue309
 t75:=underlying362
 a75:=isAgg362
 z75:=sizeOf362
 v75:=zeroValue362
 t76:=underlying363
 a76:=isAgg363
 z76:=sizeOf363
 v76:=zeroValue363
 t85:=underlying404
 a85:=isAgg404
 z85:=sizeOf404
 v85:=zeroValue404
 t127:=underlying387
 a127:=isAgg387
 z127:=sizeOf387
 v127:=zeroValue387
 t143:=underlying434
 a143:=isAgg434
 z143:=sizeOf434
 v143:=zeroValue434
 t145:=underlying436
 a145:=isAgg436
 z145:=sizeOf436
 v145:=zeroValue436
 t167:=underlying403
 a167:=isAgg403
 z167:=sizeOf403
 v167:=zeroValue403
 t168:=underlying406
 a168:=isAgg406
 z168:=sizeOf406
 v168:=zeroValue406
 t171:=underlying393
 a171:=isAgg393
 z171:=sizeOf393
 v171:=zeroValue393
 t173:=underlying395
 a173:=isAgg395
 z173:=sizeOf395
 v173:=zeroValue395
 t175:=underlying422
 a175:=isAgg422
 z175:=sizeOf422
 v175:=zeroValue422
 t210:=underlying426
 a210:=isAgg426
 z210:=sizeOf426
 v210:=zeroValue426
 t212:=underlying417
 a212:=isAgg417
 z212:=sizeOf417
 v212:=zeroValue417
 t213:=underlying418
 a213:=isAgg418
 z213:=sizeOf418
 t232:=underlying438
 a232:=isAgg438
 z232:=sizeOf438
 v232:=zeroValue438
 t233:=underlying439
 a233:=isAgg439
 z233:=sizeOf439
 v233:=zeroValue439
 g15:=by kernel_rfl
 g16:=by kernel_rfl
 g17:=by kernel_rfl
 g18:=by kernel_rfl
 g19:=by kernel_rfl
 t80:=underlying303
 a80:=isAgg303
 z80:=sizeOf303
 v80:=zeroValue303
 i0:=by kernel_rfl
 i2:=by kernel_rfl
 i3:=by kernel_rfl
 i4:=by kernel_rfl
 i5:=by kernel_rfl
 i9:=by kernel_rfl
 i20:=by kernel_rfl
 i21:=by kernel_rfl
 i37:=by kernel_rfl
 i46:=by kernel_rfl
 i51:=by kernel_rfl
 i53:=by kernel_rfl
 i75:=by kernel_rfl
 i76:=by kernel_rfl
 i80:=by kernel_rfl
 i85:=by kernel_rfl
 i127:=by kernel_rfl
 i143:=by kernel_rfl
 i145:=by kernel_rfl
 i167:=by kernel_rfl
 i168:=by kernel_rfl
 i171:=by kernel_rfl
 i173:=by kernel_rfl
 i175:=by kernel_rfl
 i210:=by kernel_rfl
 i212:=by kernel_rfl
 i232:=by kernel_rfl
 i233:=by kernel_rfl
 m15:=by kernel_rfl
 m16:=by kernel_rfl
 m17:=by kernel_rfl
 m18:=by kernel_rfl
 m19:=by kernel_rfl
 c0:=by kernel_rfl
 c2:=by kernel_rfl
 c3:=by kernel_rfl
 c4:=by kernel_rfl
 c5:=by kernel_rfl
 c9:=by kernel_rfl
 c20:=by kernel_rfl
 c21:=by kernel_rfl
 c37:=by kernel_rfl
 c46:=by kernel_rfl
 c51:=by kernel_rfl
 c53:=by kernel_rfl
 c75:=by kernel_rfl
 c76:=by kernel_rfl
 c80:=by kernel_rfl
 c85:=by kernel_rfl
 c127:=by kernel_rfl
 c143:=by kernel_rfl
 c145:=by kernel_rfl
 c167:=by kernel_rfl
 c168:=by kernel_rfl
 c171:=by kernel_rfl
 c173:=by kernel_rfl
 c175:=by kernel_rfl
 c210:=by kernel_rfl
 c212:=by kernel_rfl
 c213:=by kernel_rfl
 c232:=by kernel_rfl
 c233:=by kernel_rfl}
open Go.RowKit in
theorem Tryz.strconv_Atoi_ok(s:ByteArray)(hmax:s.size<=9223372036854775806)(v:Int)(h:b3 s.data.toList= .ok v)(w:a6):
 a7 prog 310 #[.string s] w fun e w'=>e=.returned (.tuple #[.int .i64 v,.nilIface])/\(w'=w\/∃t,w'=Lib.bytesWorld w 5 t):=Any.strconv_Atoi_ok WT s hmax v h w
def Tryz.TH:cy:=⟨fun|219=>344|217=>360|225=>361|224=>362|267=>363|266=>381|314=>382|n=>n,fun|9=>9|3=>3|4=>4|5=>5|46=>369|146=>398|51=>397|n=>n,fun|1=>2|n=>n⟩
theorem Tryz.aG3:ce prog TH:={
 mixed:=by kernel_rfl
 f217:=func360.trans (congrArg some (by kernel_rfl))
 f219:=func344.trans (congrArg some (by kernel_rfl))
 f224:=func362.trans (congrArg some (by kernel_rfl))
 f225:=func361.trans (congrArg some (by kernel_rfl))
 f266:=func381.trans (congrArg some (by kernel_rfl))
 f267:=func363.trans (congrArg some (by kernel_rfl))
 f314:=func382.trans (congrArg some (by kernel_rfl))
 t3:=underlying3
 a3:=isAgg3
 z3:=sizeOf3
 v3:=zeroValue3
 t4:=underlying4
 a4:=isAgg4
 z4:=sizeOf4
 v4:=zeroValue4
 t5:=underlying5
 a5:=isAgg5
 z5:=sizeOf5
 v5:=zeroValue5
 t9:=underlying9
 a9:=isAgg9
 z9:=sizeOf9
 v9:=zeroValue9
 t46:=underlying369
 a46:=isAgg369
 z46:=sizeOf369
 v46:=zeroValue369
 t51:=underlying397
 a51:=isAgg397
 z51:=sizeOf397
 v51:=zeroValue397
 t146:=underlying398
 a146:=isAgg398
 z146:=sizeOf398
 v146:=zeroValue398
 g1:=by kernel_rfl}
open Go.RowKit Go.Lib in
theorem Tryz.stringslite_Index_one(s:ByteArray)(c:UInt8)(w:a6):
 a7 prog 344 #[.string s,.string ⟨#[c]⟩] w fun e w'=>e=.returned (.int .i64 (bi s.data.toList c))/\w'=w:=Any.stringslite_Index_one aG3 s c w
def Tryz.Uq:cy:=⟨fun|99=>309|206=>345|n=>n,fun|9=>9|4=>4|3=>3|n=>n,fun|n=>n⟩
theorem Tryz.aG7:b5 prog Uq:={
 mixed:=by kernel_rfl
 f99:=func309.trans (congrArg some (by kernel_rfl))
 f206:=func345.trans (congrArg some (by kernel_rfl))
 t3:=underlying3
 a3:=isAgg3
 z3:=sizeOf3
 v3:=zeroValue3
 t4:=underlying4
 a4:=isAgg4
 z4:=sizeOf4
 v4:=zeroValue4
 t9:=underlying9
 a9:=isAgg9
 z9:=sizeOf9
 v9:=zeroValue9}
open Go.RowKit Go.Lib in
theorem Tryz.strings_HasPrefix(s p:ByteArray)(w:a6):
 a7 prog 309 #[.string s,.string p] w fun e w'=>e=.returned (.bool (bv s.data.toList p.data.toList))/\w'=w:=Any.strings_HasPrefix aG7 s p w
def Tryz.TL:cy:=⟨fun|101=>274|208=>324|206=>345|n=>n,fun|9=>9|4=>4|3=>3|n=>n,fun|n=>n⟩
theorem Tryz.aGY:cx prog TL:={
 mixed:=by kernel_rfl
 f101:=func274.trans (congrArg some (by kernel_rfl))
 f206:=func345.trans (congrArg some (by kernel_rfl))
 f208:=func324.trans (congrArg some (by kernel_rfl))
 t3:=underlying3
 a3:=isAgg3
 z3:=sizeOf3
 v3:=zeroValue3
 t4:=underlying4
 a4:=isAgg4
 z4:=sizeOf4
 v4:=zeroValue4
 t9:=underlying9
 a9:=isAgg9
 z9:=sizeOf9
 v9:=zeroValue9}
open Go.RowKit Go.Lib in
theorem Tryz.strings_TrimPrefix(s p:ByteArray)(w:a6):
 a7 prog 274 #[.string s,.string p] w fun e w'=>e=.returned (.string ⟨(bp s.data.toList p.data.toList).toArray⟩)/\w'=w:=Any.strings_TrimPrefix aGY s p w
def Tryz.GQ:cy:=⟨fun|105=>304|212=>339|99=>309|165=>340|166=>305|170=>341|169=>306|263=>357|264=>252|206=>345|240=>342|241=>358|276=>359|277=>380|n=>n,fun|9=>9|3=>3|4=>4|20=>20|0=>0|46=>369|109=>384|5=>5|72=>360|76=>363|51=>397|146=>398|53=>309|148=>310|70=>357|37=>358|75=>362|127=>387|164=>400|80=>303|n=>n,fun|n=>n⟩
theorem Tryz.aG0:ck prog GQ:={
 mixed:=by kernel_rfl
 f99:=func309.trans (congrArg some (by kernel_rfl))
 f105:=func304.trans (congrArg some (by kernel_rfl))
 f165:=func340.trans (congrArg some (by kernel_rfl))
 f166:=func305.trans (congrArg some (by kernel_rfl))
 f169:=func306.trans (congrArg some (by kernel_rfl))
 f170:=func341.trans (congrArg some (by kernel_rfl))
 f206:=func345.trans (congrArg some (by kernel_rfl))
 f212:=func339.trans (congrArg some (by kernel_rfl))
 f240:=func342.trans (congrArg some (by kernel_rfl))
 f241:=func358.trans (congrArg some (by kernel_rfl))
 f263:=func357.trans (congrArg some (by kernel_rfl))
 f264:=func252.trans (congrArg some (by kernel_rfl))
 f276:=func359.trans (congrArg some (by kernel_rfl))
 f277:=func380.trans (congrArg some (by kernel_rfl))
 t0:=underlying0
 a0:=isAgg0
 z0:=sizeOf0
 v0:=zeroValue0
 t3:=underlying3
 a3:=isAgg3
 z3:=sizeOf3
 v3:=zeroValue3
 t4:=underlying4
 a4:=isAgg4
 z4:=sizeOf4
 v4:=zeroValue4
 t5:=underlying5
 a5:=isAgg5
 z5:=sizeOf5
 v5:=zeroValue5
 t9:=underlying9
 a9:=isAgg9
 z9:=sizeOf9
 v9:=zeroValue9
 t20:=underlying20
 a20:=isAgg20
 z20:=sizeOf20
 v20:=zeroValue20
 t37:=underlying358
 a37:=isAgg358
 z37:=sizeOf358
 v37:=zeroValue358
 t46:=underlying369
 a46:=isAgg369
 z46:=sizeOf369
 v46:=zeroValue369
 t51:=underlying397
 a51:=isAgg397
 z51:=sizeOf397
 v51:=zeroValue397
 t53:=underlying309
 a53:=isAgg309
 z53:=sizeOf309
 v53:=zeroValue309
 t70:=underlying357
 a70:=isAgg357
 z70:=sizeOf357
 v70:=zeroValue357
 t72:=underlying360
 a72:=isAgg360
 z72:=sizeOf360
 v72:=zeroValue360
 t75:=underlying362
 a75:=isAgg362
 z75:=sizeOf362
 v75:=zeroValue362
 t76:=underlying363
 a76:=isAgg363
 z76:=sizeOf363
 v76:=zeroValue363
 t109:=underlying384
 a109:=isAgg384
 z109:=sizeOf384
 v109:=zeroValue384
 t127:=underlying387
 a127:=isAgg387
 z127:=sizeOf387
 v127:=zeroValue387
 t146:=underlying398
 a146:=isAgg398
 z146:=sizeOf398
 v146:=zeroValue398
 t148:=underlying310
 a148:=isAgg310
 z148:=sizeOf310
 v148:=zeroValue310
 t164:=underlying400
 a164:=isAgg400
 z164:=sizeOf400
 v164:=zeroValue400}
theorem Tryz.Sg:Builder.Extra prog GQ:={
 sizeBuilder:=by kernel_rfl
 liesBuilder:=by kernel_rfl
 t5:=underlying5
 a5:=isAgg5
 z5:=sizeOf5
 v5:=zeroValue5
 infoByte:=by kernel_rfl
 cellsByte:=by kernel_rfl
 sizeByte:=by kernel_rfl
 neB5:=by decide}
open Go.RowKit Go.Lib in
theorem Tryz.strings_Repeat(s:ByteArray)(c:Nat)(w:a6)(hc:c<=9223372036854775807)(hlen:s.size*c<=140737488355328):
 a7 prog 304 #[.string s,.int .i64 c] w fun e w'=>e=.returned (.string ⟨(b0 s.data.toList c).toArray⟩)/\Below w.heap.size w w':=Any.strings_Repeat aG0 Sg s c w hc hlen
end Go.Proofs
namespace Go.Proofs
open Go.Shelf Go.RowKit Go.Sort Go.Lib
set_option maxHeartbeats 6400000 in
set_option maxRecDepth 100000 in
theorem Tryz.Se(u:Nat)(hu64:u<18446744073709551616)(w:a6)
 (htab:bV prog w "internal/strconv.uint64pow10" .u64 bI):
 a7 prog 338 #[.int .u64 u,.int .i64 10] w fun e w'=>e=.returned (.string ⟨(bb u).toArray⟩)/\∃k os,w'=grow (w.drewN k) os:=by
 have e353:∀args w,(callFunc 353 args).run prog w=.ok (.enter 353 args) w:=enters_of func353 (by kernel_rfl) rfl;have e354:∀args w,(callFunc 354 args).run prog w=.ok (.enter 354 args) w:=enters_of func354 (by kernel_rfl) rfl;have e355:∀args w,(callFunc 355 args).run prog w=.ok (.enter 355 args) w:=enters_of func355 (by kernel_rfl) rfl
 by_cases hs:u<100
 ·go_enter func338,ntmps338
  go_wp2_with (go_at_fn 353;refine(internal_strconv_small u hs _).mono ?_;rintro e w' ⟨rfl,rfl⟩)
  go_ret
  exact⟨rfl,0,#[],by simp[World.drewN_zero]⟩
 ·have hu1:1<=u:=by omega
  have hnd20:be u<=20:=by have:=Lib.numDigits_eq u hu1 hu64;split at this<;>omega
  have hb3:be u<=24:=by omega
  have hal:prog.arrayLen 393=24:=by kernel_rfl
  have hsl1:∀W,(Instr.sliceAt 393 (.pointer (some ⟨w.heap.size,0,none⟩)) none (some (.int .i64 (be u:Int))) none).run prog W=.ok (.slice (some ⟨w.heap.size,0,none⟩) (be u) 24) W:=fun W=>by
   rw[run_sliceAt_array_h W 393 ⟨w.heap.size,0,none⟩ (by kernel_rfl) .i64 (be u:Int) (by omega) (by rw[hal];omega)]
   go_simp
  have hH0:=Lib.holds_zero0 w 393 (be u) hb3;have hfmt:=internal_strconv_formatBase10 w.heap.size 0 24 u (Array.replicate (be u) 0) (w.alloc (.cells bo 393)) hH0 (by rw[am];exact Lib.lt_pow_nDigits u) hu64 (by rw[am];omega);rw[am]at hfmt;have HH0:=Lib.hid hH0;clear hH0 hal
  go_enter func338,ntmps338
  go_wp2_with (first
   |(go_at_fn 354;refine(internal_strconv_numDigits u hu1 hu64 _ (Lib.tabIs_alloc htab _)).mono ?_;rintro e w' ⟨rfl,rfl⟩))
  go_at_fn 355
  refine hfmt.mono ?_;rintro e w' ⟨rfl,k,v',dk,rfl,hF⟩;have hcv:(convert 358 9 (.slice (some ⟨w.heap.size,0,none⟩) (be u) 24)).run prog ((putRow (fun(b:UInt8)=>da .u8 (b.toNat:Int)) (w.alloc (.cells bo 393)) w.heap.size 0 dk).drewN k)=.ok (.string ⟨(bb u).toArray⟩) ((putRow (fun(b:UInt8)=>da .u8 (b.toNat:Int)) (w.alloc (.cells bo 393)) w.heap.size 0 dk).drewN k):=by
   have h:=run_convert_bytes_back (P:=prog) ((putRow (fun(b:UInt8)=>da .u8 (b.toNat:Int)) (w.alloc (.cells bo 393)) w.heap.size 0 dk).drewN k) 358 9 5 ⟨w.heap.size,0,none⟩ 24 (bb u) (by kernel_rfl) (by kernel_rfl) (by kernel_rfl) (fun j hj=>by
    rw[Lib.row_is_numeral hF j hj,Lib.add_plain,World.cell?_drewN];exact cell?_putRow (fun(b:UInt8)=>da .u8 (b.toNat:Int)) _ w.heap.size 0 _ dk HH0.out (by rw[hF.size,am]) j (by rw[hF.size];rw[b1]at hj;exact hj))
   rw[b1]at h;exact h
  go_wp2
  go_ret
  obtain⟨os,eo⟩:=Lib.fin_at w (.cells bo 393) dk k 0;exact⟨rfl,k,os,eo⟩
end Go.Proofs
namespace Go.ak
open Go.Proofs
theorem yb{P:Program}{w:a6}{ad:Nat->Prop}(l:List UInt8):aD P w ad (.str (dZ l)) (.string ⟨l.toArray⟩):=by
 simp only[aD];exact⟨_,rfl,by simp[dZ]⟩
theorem qI{P:Program}{w:a6}{ad:Nat->Prop}{s:List Nat}{v:Value}(h:aD P w ad (.str s) v):∃bs:ByteArray,v=.string bs/\s=dZ bs.data.toList:=by
 simp only[aD]at h;obtain⟨bs,rfl,rfl⟩:=h;exact⟨bs,rfl,rfl⟩
theorem J6{w:a6}{ad:Nat->Prop}{c:Nat}{v:Value}(h:aD prog w ad (.str [c]) v):∃b:UInt8,v=.string ⟨#[b]⟩/\c=b.toNat:=by
 obtain⟨bs,rfl,f⟩:=qI h;clear h;have h:=f;clear f
 match e:bs.data.toList with
 |[]=>rw[e]at h;simp[dZ]at h
 |[b]=>
  rw[e]at h;simp[dZ]at h;refine⟨b,?_,h⟩;congr 1;cases bs with
  |mk d=>simp at e⊢;exact Array.ext' (by simpa using e)
 |a::b::r=>rw[e]at h;simp[dZ]at h
theorem De{w:a6}{ad:Nat->Prop}{v:Value}(h:aD prog w ad (.str [45]) v):v=.string ⟨#[45]⟩:=by
 obtain⟨b,rfl,a⟩:=J6 h;have:b=45:=hK.1 a.symm;rw[this]
theorem Yu(s:List Nat)(c:Nat):au prog 344 [.str s,.str [c]] (.int .i64 (nY c s 0)):=by
 refine lD (jY func344 (by kernel_rfl)) fun w ad g _ _ f=>?_;obtain⟨x,y,rfl,a,d⟩:=qd f;obtain⟨b,rfl,rfl⟩:=J6 d;obtain⟨bs,rfl,rfl⟩:=qI a;refine(stringslite_Index_one bs b w).mono ?_;rintro e w' ⟨rfl,rfl⟩;refine⟨_,rfl,⟨gi _,fun _ _=>rfl,rfl,rfl⟩,fun w ad=>?_⟩;have e1:=Kn b bs.data.toList 0;simp only[aD]at e1⊢;rw[e1]
 by_cases h:bi bs.data.toList b= -1<;>simp[h]
theorem Yl(s:List Nat)(c:Nat)(h:s.length<=1048576):au prog 308 [.str s,.str [c]] (.aC [.str (b6 c s).1,.str (b6 c s).2.1,.bool (b6 c s).2.2]):=by
 refine aI nf Ms mix (by simp[f308]) ?_;simp[f308];refine c2 (Yu s c) ?_;rcases Ko c s 0 with⟨_,a,b⟩|⟨i,d,a,b⟩
 ·simp[a,b]
 ·rw[hA]at a;have w:=b9 (i:=i) (by omega);have e1:((i:Int)+1).toNat=i+1:=by omega
  simp[a,b,w,e1];omega
theorem OB(s:List Nat)(c:Nat)(h:s.length<=1048576):au prog 250 [.str s,.str [c]] (.aC [.str (b6 c s).1,.str (b6 c s).2.1,.bool (b6 c s).2.2]):=by
 refine aI nf Me mix (by simp[f250]) ?_;simp[f250];refine c2 (Yl s c h) ?_;simp
theorem XN(s:List Nat):au prog 309 [.str s,.str [45]] (.bool (bX s)):=by
 refine lD (jY func309 (by kernel_rfl)) fun w ad d _ _ c=>?_;obtain⟨x,y,rfl,a,b⟩:=qd c;obtain rfl:=De b;obtain⟨bs,rfl,rfl⟩:=qI a;refine(strings_HasPrefix bs _ w).mono ?_;rintro e w' ⟨rfl,rfl⟩;exact⟨_,rfl,⟨gi _,fun _ _=>rfl,rfl,rfl⟩,fun w ad=>by rw[<-Bi];simp only[aD]⟩
theorem IQ(s:List Nat):au prog 274 [.str s,.str [45]] (.str (c7 s)):=by
 refine lD (jY func274 (by kernel_rfl)) fun w ad d _ _ c=>?_;obtain⟨x,y,rfl,a,b⟩:=qd c;obtain rfl:=De b;obtain⟨bs,rfl,rfl⟩:=qI a;refine(strings_TrimPrefix bs _ w).mono ?_;rintro e w' ⟨rfl,rfl⟩;exact⟨_,rfl,⟨gi _,fun _ _=>rfl,rfl,rfl⟩,fun w ad=>by rw[<-G7];exact yb _⟩
theorem Xm(s:List Nat):au prog 315 [.str s,.str [45]] (.aC [.str (c7 s),.bool (bX s)]):=by
 refine lD (jY func315 (by kernel_rfl)) fun w ad d _ _ c=>?_;obtain⟨x,y,rfl,a,b⟩:=qd c;obtain rfl:=De b;obtain⟨bs,rfl,rfl⟩:=qI a;refine(strings_CutPrefix bs _ w).mono ?_;rintro e w' ⟨rfl,rfl⟩;refine⟨_,rfl,⟨gi _,fun _ _=>rfl,rfl,rfl⟩,fun w ad=>?_⟩;rw[<-G7,<-Bi];simp only[aD,bJ];refine⟨[_,_],⟨_,_,rfl,?_,_,_,rfl,rfl,rfl⟩,rfl⟩;exact⟨_,rfl,by simp[dZ]⟩
theorem LV{w:a6}{ad:Nat->Prop}(b:mB prog w ad):bV prog w "internal/strconv.uint64pow10" .u64 bI:=by
 obtain⟨_,T,a⟩:=b.raw 3 _ rfl;have c:prog.globalNamed "internal/strconv.uint64pow10" =some 3:=by kernel_rfl
 simp only[bV,World.var?,c,Option.bind_some,a];rfl
theorem Yv(n:Int)(b:-9223372036854775808<=n)(c:n<=9223372036854775807):au prog 301 [.int .i64 n] (.str (bN n)):=by
 refine lD (jY func301 (by kernel_rfl)) fun w ad g _ f d=>?_;obtain⟨x,rfl,a⟩:=ya d;simp only[aD]at a;subst a;refine(strconv_Itoa n b c w (LV f)).mono ?_;rintro e w' ⟨rfl,k,os,rfl⟩;refine⟨_,rfl,⟨?_,fun k hk=>?_,rfl,rfl⟩,fun w ad=>?_⟩
 ·simp[c6,World.drewN]
 ·simp only[c6];exact ao hk
 ·rw[<-aEE];exact yb _
theorem Yr(u:Nat)(f:u<18446744073709551616):au prog 338 [.int .u64 u,.int .i64 10] (.str (bf u)):=by
 refine lD (jY func338 (by kernel_rfl)) fun w ad g _ d c=>?_;obtain⟨x,y,rfl,a,b⟩:=qd c;simp only[aD]at a b;subst a b;refine(Se u f w (LV d)).mono ?_;rintro e w' ⟨rfl,k,os,rfl⟩;refine⟨_,rfl,⟨?_,fun k hk=>?_,rfl,rfl⟩,fun w ad=>?_⟩
 ·simp[c6,World.drewN]
 ·simp only[c6];exact ao hk
 ·rw[<-C9];exact yb _
theorem OC(u:Nat)(a:u<18446744073709551616):au prog 303 [.int .u64 u,.int .i64 10] (.str (bf u)):=by
 refine aI nf Mv mix (by simp[f303]) ?_;simp[f303];refine c2 (Yr u a) ?_;simp
theorem OD(s:List Nat)(c:Nat)(hc:c<=9223372036854775807)(g:s.length*c<=140737488355328):au prog 304 [.str s,.int .i64 c] (.str (rJ s c)):=by
 refine lD (jY func304 (by kernel_rfl)) fun w ad h _ i f=>?_;obtain⟨x,y,rfl,d,b⟩:=qd f;obtain⟨bs,rfl,rfl⟩:=qI d;simp only[aD]at b;subst b;refine(strings_Repeat bs c w hc (by simpa[dZ]using g)).mono ?_;rintro e w' ⟨rfl,a⟩;exact⟨_,rfl,⟨a.size,a.block,a.os,a.output⟩,fun w ad=>by
  rw[JB];exact yb _⟩
theorem Yj(s:List Nat)(v:Int)(h:b3 (s.map hL)=.ok v)(d:s.length<=9223372036854775806):au prog 310 [.str s] (.aC [.int .i64 v,.gd]):=by
 refine lD (jY func310 (by kernel_rfl)) fun w ad g _ i c=>?_;obtain⟨x,rfl,b⟩:=ya c;obtain⟨bs,rfl,rfl⟩:=qI b;rw[TX]at h;refine(strconv_Atoi_ok bs (by simpa[dZ]using d) v h w).mono ?_;rintro e w' ⟨rfl,f⟩;refine⟨_,rfl,?_,fun w ad=>by simp[aD,bJ]⟩;rcases f with rfl|⟨t,rfl⟩
 ·exact⟨gi _,fun _ _=>rfl,rfl,rfl⟩
 ·have a:=Lib.bytesWorld_below w 5 t;exact⟨a.size,a.block,a.os,a.output⟩
def tB:Nat:=1000000000000000000
theorem CS:tB=10^18:=by decide
theorem Kd:∀i,low i 0=e9 i 48
 |0=>rfl
 |i+1=>by rw[sB,Nat.zero_div,Kd i,List.replicate_succ']
theorem Qd{r:Nat}(h:r<tB):e9 (18-(bf r).length) 48++bf r=low 18 r:=by
 rw[qx,bf];have c:nd r<=18:=rh (by rw[<-CS];exact h);obtain⟨k,hk⟩:∃k,k=max 1 (nd r):=⟨_,rfl⟩
 have d:k<=18:=by omega
 have b:r<10^k:=gg (B6 r) (ge (by decide) (by omega));rw[<-hk];have:=qB (18-k) r (a:=k);have e:low 18 r=low (18-k) (r/10^k)++low k r:=by
  have:=qB k r (18-k);rw[show 18-k+k=18 by omega]at this;exact this
 rw[e,hy b,Kd]
theorem CA{r:Nat}(h:r<tB):(bf r).length<=18:=by
 rw[qx];have a:nd r<=18:=rh (by rw[<-CS];exact h);omega
theorem Wb{m:Nat}(h:tB<=m):bf m=bf (m/tB)++low 18 (m% tB):=by
 rw[CS]at h⊢;have e:=C4 (n:=m) (k:=18) h;have a:0<nd (m/10^18):=yQ (hp h (gm (by decide)));rw[bf,bf,show max 1 (nd m)=max 1 (nd (m/10^18))+18 by omega,qB,Cq m 18 18 (gi _)]
def jA(m:Nat)(a:List (List Nat)):List Nat:=(if m=0 then[]else bf m)++a.reverse.flatten
def ez(m:Nat):List Nat:=if m/tB=0 then bf m else low 18 (m% tB)
theorem Jo{m:Nat}(h:m≠0)(c:List (List Nat)):jA (m/tB) (c++[ez m])=jA m c:=by
 rw[jA,jA,if_neg h,ez,List.reverse_append]
 by_cases a:m/tB=0
 ·rw[if_pos a,if_pos a];simp
 ·rw[if_neg a,if_neg a];have:tB<=m:=by
   rcases g6 m tB with b|b
   ·exact(a (hy b)).elim
   ·exact b
  rw[Wb this];simp
theorem Wd(a:List (List Nat)):jA 0 a=a.reverse.flatten:=by rw[jA,if_pos rfl];rfl
theorem yi(n:Nat):0<(bf n).length:=by rw[qx];omega
theorem Im(m:Nat):ez m≠[]:=by
 intro h;have:(ez m).length=0:=by rw[h];rfl
 rw[ez]at this
 split at this
 ·have:=yi m;omega
 ·rw[qA]at this;omega
theorem Io(m:Nat):(ez m).length<=18:=by
 rw[ez]
 split
 ·rename_i h;have b:m<tB:=by
   rcases g6 m tB with a|a
   ·exact a
   ·have:=hp a (show 0<tB by decide);omega
  exact CA b
 ·rw[qA];exact gi _
theorem Kl{c:Nat}(h:cq c=true):c<256:=by
 simp only[cq,ap,decide_eq_true_eq]at h;omega
end Go.ak
namespace Go.Proofs
open Go.ak
theorem Tryz.CR:prog.underlying 357=some (.pointer 360):=by kernel_rfl
theorem Tryz.LR:prog.underlying 400=some .unsafePointer:=by kernel_rfl
theorem Tryz.KI:(prog.info? 360).map (·.size)=some 2:=by kernel_rfl
theorem Tryz.aG8:liesAt prog prog.depth 360 (2/prog.cellsOf 360) 0 360 1=true:=by kernel_rfl
set_option maxHeartbeats 1000000 in
set_option maxRecDepth 100000 in
theorem Tryz.Sm(b:Nat)(w:a6)(h0:w.cell? ⟨b,0,none⟩=some (.pointer (some ⟨b,0,none⟩))):
 a7 prog 342 #[.pointer (some ⟨b,0,none⟩)] w fun e w'=>e=.returned (.tuple #[])/\w'=w:=by
 obtain⟨j,hj,_⟩:=Option.map_eq_some_iff.1 KI
 go_enter func342,ntmps342
 go_wp2
 rw[Lib.run_neq_ptr_same w _ CR hj]
 go_wp2
 go_end0
 exact⟨rfl,rfl⟩
set_option maxHeartbeats 1000000 in
set_option maxRecDepth 100000 in
theorem Tryz.Sn(b:Nat)(w:a6)(h0:w.cell? ⟨b,0,none⟩=some (.pointer none))(hsh:w.shape? b=some (360,2))(hfz:w.frozen? ⟨b,0,none⟩=false):
 a7 prog 342 #[.pointer (some ⟨b,0,none⟩)] w fun e w'=>e=.returned (.tuple #[])/\w'=w.setCell ⟨b,0,none⟩ (.pointer (some ⟨b,0,none⟩)):=by
 obtain⟨j,hj,hjs⟩:=Option.map_eq_some_iff.1 KI
 go_enter func342,ntmps342
 go_wp2
 rw[Lib.run_to_unsafe w ⟨b,0,none⟩ CR LR hj (by rw[hjs];decide) hsh (Nat.zero_lt_succ 1)];simp only[Result.andThen];rw[b4]
 go_wp2
 rw[run_callFunc_extern func359 (by kernel_rfl) (by kernel_rfl) (by kernel_rfl) (e:=Extern.AbiNoEscape.same) (by kernel_rfl)];rw[Lib.run_noEscape];simp only[Result.andThen];rw[b4]
 go_wp2
 rw[Lib.run_from_unsafe w ⟨b,0,none⟩ LR CR hj hsh aG8];simp only[Result.andThen];rw[b4]
 go_wp2
 go_end0
 exact⟨rfl,rfl⟩
end Go.Proofs
