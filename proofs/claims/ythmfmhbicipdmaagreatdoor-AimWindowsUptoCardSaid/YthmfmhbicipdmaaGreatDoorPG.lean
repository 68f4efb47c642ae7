import Derived.Test.YthmfmhbicipdmaaGreatDoorPF
import Derived.Lib.ItoaNum
import Derived.Lib.Strings
import Derived.Lib.Repeat
import Derived.Lib.Bytealg
import Derived.Test.YthmfmhbicipdmaaGreatDoorThA
import Derived.Test.YthmfmhbicipdmaaGreatDoorPE
import Derived.Shelf.Strings.Builder1
import Derived.Shelf.Strings.Builder2
import Derived.Shelf.Strings.Trim
import Derived.Shelf.Small.Utf8
import Derived.Shelf.Small.Bits
import Derived.Shelf.Small.Strs
import Derived.Shelf.Small.Wraps
import Derived.Shelf.Strings.BuilderF
import Derived.Shelf.Strings.Builder2Cap
import Derived.Shelf.Strconv.Atoi
import Derived.Shelf.Strconv.Itoa0
import Derived.Shelf.Strconv.Itoa1
import Derived.Shelf.LaysM
import Derived.Shelf.Strconv.Itoa2
import Derived.Shelf.Strconv.Itoa3
import Derived.Shelf.Strconv.AtoiErrFast
import Derived.Shelf.Strconv.ParseIntEmpty
import Derived.Shelf.Strconv.AtoiFail
import Derived.Shelf.Strconv.Clone
import Derived.Shelf.Strconv.SyntaxError
import Derived.Shelf.LaysC
import Derived.Shelf.Strconv.ToError
import Derived.Shelf.Strconv.Lower
import Derived.Shelf.Strconv.ParseUint10
import Derived.Shelf.Strconv.ParseUint10Empty
import Derived.Shelf.Strconv.ParseUint10Any
import Derived.Shelf.Strconv.ParseInt10
import Derived.Shelf.Strconv.AtoiLong
import Derived.Shelf.Strconv.AtoiInnerAll
import Derived.Shelf.Strconv.RangeError
import Derived.Shelf.Strconv.ToErrorRange
import Derived.Shelf.Strconv.AtoiAll
import Derived.Shelf.Strconv.ParseUintEmpty
import Derived.Shelf.Strings.Search1
import Derived.Shelf.Strings.Search2
import Derived.Shelf.Strings.Cut
import Derived.Shelf.Strings.Shaped
import Derived.Shelf.Strings.Prefix
import Derived.Shelf.Unicode.Decode
import Derived.Shelf.Strings.Runes
import Derived.Shelf.Strings.AsciiSet
import Derived.Shelf.Bits.Mul64
import Derived.Shelf.Strings.Repeat
import Derived.Shelf.Unicode.DecodeSlow
import Derived.Shelf.Unicode.DecodeAny
import Derived.Shelf.Unicode.DecodeLast
import Derived.Shelf.Slices.Turned
import Derived.Test.YthmfmhbicipdmaaGreatDoorProg
import Derived.Lib.Walk
import Derived.Lib.ItoaMem
import Derived.WalkKit
import Derived.BigCall
import Derived.BigGuard
import Derived.Lib.AppendIntMem
import Derived.Lib.Builder
import Derived.Laws.Externs
import Derived.Shelf.RegionOpenPlain
/- Parts of a proof. -/
set_option linter.unusedSimpArgs false
set_option linter.unusedVariables false
set_option linter.unusedSectionVars false
open Go.Proofs.Tryz
open Array renaming size_replicate->am, getElem?_append_left->ao
open Bool renaming and_eq_true->ap, or_eq_true->av, and_true->ax, not_eq_true'->ay, false_and->aT, and_false->a6
open Go renaming World->a7, Calls->a8
open Go.IntKind renaming i64->bb
open Go.Lib renaming decDigits->be, nDigits->bi, indexByte->bl, bitLen->bo, zeros24->bp, trimPrefix->bv, hasPrefix->bI, pow10Tab->bV, TabIs->b2, repeatL->b3, decDigits_length->b4, itoa->b5, atoiAll->cb
open Go.Oper renaming upon_value->cc
open Go.Proofs.Lays renaming n99->ce, n285->ch, n283->ck, n219->cv, n105->cx, n103->cy, n101->c6
open Go.Shelf renaming Ren->da
open Go.Sort renaming grow->db
open Go.Value renaming int->dg
open Int renaming ediv_emod_unique->dl, natAbs_mul->dp, emod_lt_of_pos->dq, emod_nonneg->dz, ediv_lt_of_lt_mul->ea, tmod_lt_of_pos->eb, natAbs_natCast->ec, lt_tmod_of_pos->ed, mul_ne_zero->ee, natAbs_neg->ei, mul_le_mul->ej, ediv_one->em, mul_sub->en, mul_neg->eq
open List renaming append_nil->ew, all_cons->e6, length_eq_zero_iff->e7, cons_append->e8, all_reverse->e9, dropLast_concat_getLast->fb, replicate->fd, map_cons->fl, length_cons->fm, all_eq_true->fv, head?_cons->fw, foldl_cons->gb, all_append->gc, mem_cons->ge, all_nil->gg
open Nat renaming pow_le_pow_right->gi, lt_of_lt_of_le->gj, le_refl->gm, lt_of_le_of_lt->gt, pow_pos->gw, pow_succ->gx, eq_zero_or_pos->gy, pow_add->gE, mod_eq_of_lt->g0, mul_comm->g5, lt_or_ge->g6, le_trans->g7, add_sub_cancel->g8, pow_zero->g9, pow_one->ha, pow_mul->hb, gcd->hd, le_of_eq->he, le_mul_of_pos_left->hg, beq->hh, le_div_iff_mul_le->hl, eq_of_beq_eq_true->hm, div_lt_iff_lt_mul->hn, mul_le_mul_right->ho, div_pos->hp, mul_le_mul_left->hr, mod_lt->ht, gcd_one_right->hv, div_eq_of_lt->hy, mul_assoc->hz, zero_add->hA, gcd_comm->hB, pow_two->hC
open Rat renaming divInt->hD, num_eq_zero->hE, not_lt->hG, lt_iff->hJ
open UInt8 renaming toNat_inj->hK, ofNat->hL, toNat_ofNat'->hM
namespace Go.ah
open Go.Proofs
set_option maxHeartbeats 4000000
set_option maxRecDepth 100000
theorem nA{a b:NI}(h:a.v=b.v)(d:a.v= -9223372036854775808->a.m=b.m):eI a=eI b:=by
 by_cases c:a.v= -9223372036854775808
 ·have:=d c;cases a;cases b;dsimp only at h this;subst h this;rfl
 ·have e:a.sm=b.sm:=by
   simp only[NI.sm,h];rw[h]at c;simp[c]
  rw[jv,jv,e,h]
theorem Zy{a b:Int}(c:0<b):(a.tdiv b=a/b/\a.tmod b=a% b/\¬a.tmod b<0)\/(a.tdiv b-1=a/b/\a.tmod b+b=a% b/\a.tmod b<0/\a/b<0):=by
 have f:=Int.tmod_add_mul_tdiv a b;have g:=ed a c;have i:=eb a c
 by_cases h:a.tmod b<0
 ·right;have e:=(dl (a:=a) (r:=a.tmod b+b) (q:=a.tdiv b-1) c).2 ⟨by rw[en];omega,by omega,by omega⟩;have j:a<0:=by
   rcases Int.lt_or_le a 0 with d|d
   ·exact d
   ·have:=Int.tmod_nonneg b d;omega
  have d:a/b<0:=ea c (by omega);omega
 ·left;have e:=(dl (a:=a) (r:=a.tmod b) (q:=a.tdiv b) c).2 ⟨by omega,by omega,by omega⟩;omega
theorem azB{a b:Int}(c:0<b):((if a<0 then -((a.natAbs% b.natAbs:Nat):Int)else(a.natAbs% b.natAbs:Nat))<0/\a/b=(if a<0 then -((a.natAbs/b.natAbs:Nat):Int)else(a.natAbs/b.natAbs:Nat))-1/\a% b=(if a<0 then -((a.natAbs% b.natAbs:Nat):Int)else(a.natAbs% b.natAbs:Nat))+b)\/
 (¬(if a<0 then -((a.natAbs% b.natAbs:Nat):Int)else(a.natAbs% b.natAbs:Nat))<0/\a/b=(if a<0 then -((a.natAbs/b.natAbs:Nat):Int)else(a.natAbs/b.natAbs:Nat))/\a% b=(if a<0 then -((a.natAbs% b.natAbs:Nat):Int)else(a.natAbs% b.natAbs:Nat))):=by
 have e:((b.natAbs:Nat):Int)=b:=by omega
 have f:=Nat.mod_add_div a.natAbs b.natAbs;have g:=ht a.natAbs (show 0<b.natAbs by omega);have i:((a.natAbs% b.natAbs:Nat):Int)+b*(a.natAbs/b.natAbs:Nat)=(a.natAbs:Nat):=by
  rw[<-e,<-Int.natCast_mul,<-Int.natCast_add,e,f]
 generalize a.natAbs% b.natAbs=r at*;generalize a.natAbs/b.natAbs=q at*
 by_cases h:a<0
 ·simp only[if_pos h]
  by_cases j:r=0
  ·right;have d:=(dl (a:=a) (r:=0) (q:=-(q:Int)) c).2 ⟨by rw[eq];omega,by omega,by omega⟩;omega
  ·left;have d:=(dl (a:=a) (r:=-(r:Int)+b) (q:=-(q:Int)-1) c).2 ⟨by rw[en,eq];omega,by omega,by omega⟩;omega
 ·simp only[if_neg h];right;have d:=(dl (a:=a) (r:=(r:Int)) (q:=(q:Int)) c).2 ⟨by omega,by omega,by omega⟩;omega
theorem Mh(a b:NI)(i:0<b.v)(I:okW a.v)(w:okW b.v):ar prog 328 [eI a,eI b] (.aE [eI (a.div b),eI (a.mod b)]):=by
 have P:=oi (eI a) a.v (mC a);have hq:=oi (eI b) b.v (mC b);have ab:=nZ I;have ac:=nZ w;have K:=C2 a.v.natAbs b.v.natAbs (by omega) (by omega) (by omega);refine aI nf G9 mix (by simp[f328]) ?_;simp[f328,-bt];rw[bt];simp[-bt];refine join (fun s=>aS s.env 2=.ptr 0 []/\aS s.env 3=.ptr 1 []/\aS s.env 4=.ptr 2 []/\aS s.env 5=.ptr 3 []/\s.heap=[.box false (.p (eI a)),.box false (.p (eI b)),.box false (.p (.st 124 [.int .i64 0,.aP])),.box false (.p (.st 124 [.int .i64 0,.aP]))]) ?_ ?_
 ·rcases hs:a.sm with _|_
  ·obtain⟨c,cs,w1⟩:=oG hs;simp[aa,w1,dE,cW]
  ·have w1:=mz hs;rcases m:b.sm with _|_
   ·obtain⟨c,cs,l⟩:=oG m;simp[aa,w1,l,dE,cW]
   ·have l:=mz m;have q:=nu hs;have r:=nu m;have ah:=NI.pV hs;have ai:=NI.pV m
    by_cases o:a.v= -9223372036854775808
    ·simp[aa,w1,l,q,r,o,dE,cW]
    ·have n:¬b.v=0:=by omega
     have b1:-9223372036854775808<a.v/b.v:=by
      have:=Int.le_ediv_of_mul_le (a:=-9223372036854775807) (b:=a.v) i (by omega);omega
     have B:a.v/b.v<9223372036854775808:=ea i (by omega);have C:=dq a.v i;have D:=dz a.v n;have F:eI (a.div b)=fc (a.v/b.v):=by rw[jv,if_pos (NI.Ae b1 B)];rfl
     have f2:eI (a.mod b)=fc (a.v% b.v):=oM (by omega) (by omega);rw[F,f2];have af:=ed a.v i;have ae:=eb a.v i;rcases Zy (a:=a.v) i with⟨d1,d2,d3⟩|⟨d1,d2,d3,d4⟩
     ·have q1:bb.wrap (a.v.tdiv b.v)=a.v/b.v:=by rw[d1];exact aQ _ (by omega) (by omega)
      simp[aa,w1,l,q,r,o,n,dE,cW,fc,d3,q1];exact d2.symm
     ·have q1:bb.wrap (bb.wrap (a.v.tdiv b.v)-1)=a.v/b.v:=by rw[aQ (a.v.tdiv b.v) (by omega) (by omega),d1];exact aQ _ (by omega) (by omega)
      have V:bb.wrap (a.v.tmod b.v+b.v)=a.v% b.v:=by rw[d2];exact aQ _ (by omega) (by omega)
      simp[aa,w1,l,q,r,o,n,dE,cW,fc,d3,q1,V]
 ·rintro⟨W,ad⟩ ⟨d,e,f,g,x⟩;dsimp only at d e f g x;subst x;have M:(aB wB (a.v.natAbs/b.v.natAbs)).length<=900000:=by
   have:=dO bn _ _ (gt (Nat.div_le_self a.v.natAbs b.v.natAbs) (cm bn a.v.natAbs));omega
  have N:(aB wB (a.v.natAbs% b.v.natAbs)).length<=900000:=by
   have:=dO bn _ _ (gt (Nat.mod_le a.v.natAbs b.v.natAbs) (cm bn a.v.natAbs));omega
  have z:=wN (decide (a.v<0)) (a.v.natAbs/b.v.natAbs) (by omega);have A:=wN (decide (a.v<0)) (a.v.natAbs% b.v.natAbs) (by omega);have L:=azB (a:=a.v) i;simp only[decide_eq_true_eq]at z A;have ag:=ht a.v.natAbs (show 0<b.v.natAbs by omega);generalize a.v.natAbs/b.v.natAbs=k at*;generalize a.v.natAbs% b.v.natAbs=j at*;have Z:-b.v<(if a.v<0 then -(j:Int)else(j:Int)):=by split<;>omega
  have H:a.v<0->(if a.v<0 then -(j:Int)else(j:Int))<=0:=fun h=>by rw[if_pos h];omega
  have T:okW (if a.v<0 then -(k:Int)else(k:Int)):=by rw[okW];split<;>simpa using M
  have U:okW (if a.v<0 then -(j:Int)else(j:Int)):=by rw[okW];split<;>simpa using N
  have S:(if a.v<0 then -(k:Int)else(k:Int))= -9223372036854775808->a.v<0:=by split<;>omega
  generalize (if a.v<0 then -(k:Int)else(k:Int))=Q at*;generalize (if a.v<0 then -(j:Int)else(j:Int))=R at*;have u:=uc (.mk' R);simp only[NI.iS]at u;have C:=dq a.v i;have D:=dz a.v (show b.v≠0 by omega);simp[d,e,f,g];refine c1 P ?_;simp[d,e,f,g];refine c1 hq ?_;simp[d,e,f,g];refine c2 K ?_;simp;refine c2 z ?_;simp;refine c2 A ?_;simp[d,e,f,g,aa];refine c1 u ?_;rcases L with⟨d1,d2,d3⟩|⟨d1,d2,d3⟩
  ·have y:=Ev (.mk' Q) (.of 1) T (by rw[okW];decide);have J:=xi (.mk' R) b U w;rw[uq (by decide) (by decide)]at y;have g1:eI (a.div b)=eI ((NI.mk' Q).sub (.of 1)):=by
    refine nA (by rw[NI.SA];exact d2) (fun h=>?_);have E:Q= -9223372036854775807:=by have:a.v/b.v= -9223372036854775808:=h;omega
    have O:¬a.v% b.v=0:=by omega
    subst E;show decide (a.v% b.v≠0)=_;simp[O];rfl
   have g2:eI (a.mod b)=eI ((NI.mk' R).add b):=nA (by rw[NI.sf];exact d3) (fun h=>by have:a.v% b.v= -9223372036854775808:=h;omega);rw[g1,g2];simp[d,e,f,g,aa,d1];refine e1 (sA 1) ?_;simp[d,e,f,g,aa];refine e2 y ?_;simp[d,e,f,g,aa];refine e2 J ?_;simp[d,e,f,g,aa];exact⟨rfl,rfl⟩
  ·have g1:eI (a.div b)=eI (.mk' Q):=by
    refine nA d2 (fun h=>?_);have X:a.v/b.v= -9223372036854775808:=h;have Y:=H (S (by omega));have G:a.v% b.v=0:=by omega
    show decide (a.v% b.v≠0)=false;simp[G]
   have g2:eI (a.mod b)=eI (.mk' R):=nA d3 (fun h=>by have:a.v% b.v= -9223372036854775808:=h;omega);rw[g1,g2]
   by_cases t:R=0
   ·simp[d,e,f,g,aa,t]
   ·simp[d,e,f,g,aa,d1,t]
theorem ru{a b:Int}(h:okW b)(c:a.natAbs<=b.natAbs):okW a:=by
 have:=dO bn _ _ (gt c (cm bn b.natAbs));have:=nZ h;rw[okW];omega
theorem QJ(a b:NI)(e:0<b.v)(d:okW a.v)(f:okW b.v):ar prog 294 [eI a,eI b] (eI (a.div b)):=by
 have c:=uc b;rw[if_neg (by omega),if_neg (by omega)]at c;refine aI nf Pj mix (by simp[f294]) ?_;simp[f294];refine c1 c ?_;simp;refine c2 (Mh a b e d f) ?_;simp[aa]
 done
theorem NI.zz(a:NI):a.abs.v.natAbs=a.v.natAbs:=by
 rw[NI.abs];split
 ·rw[NI.iS,ei]
 ·rfl
theorem NI.QB(a:NI):0<=a.abs.v:=by
 rw[NI.abs];split
 ·rw[NI.iS];omega
 ·omega
def eJ(a b:Int):Int:=(hd a.natAbs b.natAbs:Nat)
theorem QI(a b:NI)(j:okW a.v)(k:okW b.v):ar prog 293 [eI a,eI b] (eI (.mk' (eJ a.v b.v))):=by
 refine aI nf Pk mix (by simp[f293]) ?_;simp[f293];refine e1 (QG a j) ?_;simp;refine e1 (QG b k) ?_;simp[aa];refine⟨⟨rfl,rfl⟩,?_⟩;have n:eJ a.abs.v b.abs.v=eJ a.v b.v:=by rw[eJ,eJ,NI.zz,NI.zz]
 refine lp (α:=NI×NI) (fun x=>⟨[(4,.ptr 2 []),(3,.ptr 1 []),(2,.ptr 0 [])],[.box false (.p (eI x.1)),.box false (.p (eI x.2)),.box false (.p (.st 124 [.int .i64 0,.aP]))]⟩)
  (fun x=>0<=x.1.v/\0<=x.2.v/\okW x.1.v/\okW x.2.v/\eJ x.1.v x.2.v=eJ a.v b.v) (fun x=>x.2.v.toNat) (a.abs,b.abs) ⟨NI.QB a,NI.QB b,ru j (he (NI.zz a)),ru k (he (NI.zz b)),n⟩ ?_
 rintro⟨x,y⟩ ⟨l,g,i,c,f⟩;dsimp only at l g i c f;have d:=uc y
 by_cases e:y.v=0
 ·rw[if_neg (by omega),if_pos e]at d;have hx:eI (.mk' (eJ a.v b.v))=eI x:=by
   refine nA ?_ (fun h=>?_)
   ·rw[NI.iS,<-f,e,eJ];simp;omega
   ·rw[NI.iS,eJ]at h;omega
  rw[hx];simp;refine c1 d ?_;simp[aa]
 ·rw[if_neg (by omega),if_neg e]at d;have q:=dq x.v (show 0<y.v by omega);have o:=dz x.v e;have m:(x.v% y.v).natAbs=x.v.natAbs% y.v.natAbs:=by
   have e1:(x.v.natAbs:Int)=x.v:=by omega
   have e2:(y.v.natAbs:Int)=y.v:=by omega
   have e3:((x.v.natAbs% y.v.natAbs:Nat):Int)=x.v% y.v:=by rw[Int.natCast_emod,e1,e2]
   omega
  simp;refine c1 d ?_;simp[aa];refine c2 (Mh x y (by omega) i c) ?_;simp[aa];refine⟨rfl,?_⟩;refine rd (y,x.mod y) ⟨g,o,c,ru c (by show(x.v% y.v).natAbs<=_;omega),?_⟩ (by show(x.v% y.v).toNat<y.v.toNat;omega);show eJ y.v (x.v% y.v)=_;rw[<-f,eJ,eJ,m,hB y.v.natAbs,<-Nat.gcd_rec,hB]
theorem aKe{o x k A:Nat}(hx:1<=x)(d:1<=o)(h:o*x^k=A)(hk:1<=k):o*x<=A/\(2<=k->x*x<=A):=by
 have a:x<=x^k:=by
  calc x=x^1:=(ha x).symm
   _<=x^k:=gi hx hk
 refine⟨by rw[<-h];exact hr _ a,fun b=>?_⟩;have c:x*x<=x^k:=by
  calc x*x=x^2:=by rw[hC]
   _<=x^k:=gi hx b
 rw[<-h];exact g7 c (hg _ d)
theorem Z8(a:NI)(n A:Nat)(E:1<=a.v)(q:A=a.v.natAbs^n)(J:(aB wB A).length<=400000)(F:(aB wB a.v.natAbs).length<=400000)(K:n<=1000000):ar prog 304 [eI a,.int .i64 n] (eI (.mk' A)):=by
 refine aI nf IE mix (by simp[f304]) ?_;simp[f304];refine c1 (sA 1) ?_;rw[show fc 1=eI (.of 1)from(uq (by decide) (by decide)).symm];simp[aa];refine lp (α:=Nat×NI×NI) (fun s=>⟨[(1,.p (.int .i64 s.1)),(5,.ptr 2 []),(4,.ptr 1 []),(2,.ptr 0 [])],[.box false (.p (eI s.2.1)),.box false (.p (.st 124 [.int .i64 0,.aP])),.box false (.p (eI s.2.2))]⟩)
  (fun s=>s.1<=n/\1<=s.2.1.v/\1<=s.2.2.v/\(0<s.1->s.2.2.v.natAbs*s.2.1.v.natAbs^s.1=A)/\(s.1=0->s.2.2.v.natAbs=A)/\(aB wB s.2.1.v.natAbs).length<=400000) (fun s=>s.1) (n,a,.of 1) ⟨gm _,E,(by decide:(1:Int)<=1),fun _=>by rw[q];show(1:Int).natAbs*_=_;simp,fun h=>by have h:n=0:=h;rw[q,h,g9];rfl,F⟩ ?_
 rintro⟨k,x,o⟩ ⟨C,c,i,b,l,m⟩;dsimp only at C c i b l m
 by_cases k0:k=0
 ·subst k0;have e:eI (.mk' A)=eI o:=by
   refine nA ?_ (fun h=>?_)
   ·rw[NI.iS,<-l rfl];omega
   ·rw[NI.iS]at h;omega
  rw[e];simp[aa]
 have b:=b (by omega);have r:=aKe (o:=o.v.natAbs) (x:=x.v.natAbs) (by omega) (by omega) b (by omega);have d:bb.wrap (k% 2^bb.bits&&&1% 2^bb.bits:Nat)=(k% 2:Nat):=by
  rw[show(2^bb.bits:Nat)=18446744073709551616 from rfl,g0 (show k<18446744073709551616 by omega),show 1% 18446744073709551616=2^1-1 from rfl,Nat.and_two_pow_sub_one_eq_mod];exact aQ _ (by omega) (by omega)
 have hs:(k:Int).fdiv (2^min 1 bb.bits)=(k/2:Nat):=by
  rw[show((2:Int)^min 1 bb.bits)=2 from rfl,Int.fdiv_eq_ediv_of_nonneg _ (by decide)];omega
 have j:0<k:=by omega
 have L:(aB wB o.v.natAbs).length<=400000:=by
  have D:o.v.natAbs<=A:=g7 (Nat.le_mul_of_pos_right _ (show 0<x.v.natAbs by omega)) r.1;have:=dO bn _ _ (gt D (cm bn A));omega
 have z:2<=k->(aB wB (x.v*x.v).natAbs).length<=400000:=fun h=>by
  have:=dO bn _ _ (gt (r.2 h) (cm bn A));rw[dp];omega
 have y:(1:Int)<=o.v*x.v:=by
  have:=ej i c (by decide) (by omega);omega
 have B:(1:Int)<=x.v*x.v:=by
  have:=ej c c (by decide) (by omega);omega
 have u:=An o x (by omega);have w:=An x x (by omega);have g:x.v.natAbs^k=(x.v*x.v).natAbs^(k/2)*x.v.natAbs^(k% 2):=by
  rw[dp,<-hC,<-hb,<-gE,Nat.div_add_mod]
 by_cases H:k% 2=1
 ·rw[H,ha]at g;have t:((k% 2:Nat):Int)=1:=by omega
  rw[t]at d
  by_cases k1:1<k
  ·have f:(1:Int)<k:=by omega
   simp[j,d];refine c2 u ?_;simp[aa,f];refine c2 w ?_;simp[aa,hs];refine rd (k/2,x.mul x,o.mul x) ⟨by omega,B,y,fun _=>?_,fun h=>by dsimp only at h;omega,z k1⟩ (by dsimp only;omega);rw[g]at b;show(o.v*x.v).natAbs*(x.v*x.v).natAbs^(k/2)=A;rw[<-b,dp o.v,g5 ((x.v*x.v).natAbs^(k/2)),hz]
  ·have f:¬(1:Int)<k:=by omega
   have G:k=1:=by omega
   simp[j,d];refine c2 u ?_;simp[aa,f,hs];refine rd (k/2,x,o.mul x) ⟨by omega,c,y,fun h=>by dsimp only at h;omega,fun _=>?_,m⟩ (by dsimp only;omega);subst G;rw[ha]at b;show(o.v*x.v).natAbs=A;rw[<-b,dp]
 ·have I:k% 2=0:=by omega
  rw[I,g9,Nat.mul_one]at g;have t:¬((k% 2:Nat):Int)=1:=by omega
  rw[show((k% 2:Nat):Int)=0 by omega]at d;have f:(1:Int)<k:=by omega
  simp[j,d,f];refine c2 w ?_;simp[aa,hs];refine rd (k/2,x.mul x,o) ⟨by omega,B,i,fun _=>?_,fun h=>by dsimp only at h;omega,z (by omega)⟩ (by dsimp only;omega);show o.v.natAbs*(x.v*x.v).natAbs^(k/2)=A;rw[<-g,b]
theorem aog(x:Nat)(hx:x<18446744073709551616):ar prog 321 [.int .u64 x] (.int .i64 (bo x:Nat)):=by
 refine me (kJ func321 (by kernel_rfl)) fun w ad d _ _ c=>?_;obtain⟨a,rfl,b⟩:=zi c;simp only[aF]at b;subst b;refine(bits_Len64 x w (by omega) (by omega)).mono ?_;rintro e w' ⟨rfl,rfl⟩;refine⟨_,rfl,⟨gm _,fun _ _=>rfl,rfl,rfl⟩,fun w ad=>?_⟩;simp only[aF];rfl
def oN(n:Nat):Nat:=if n=0 then 0 else 64*((aB wB n).length-1)+bo (ae wB n ((aB wB n).length-1))
theorem tt{n:Nat}:aB wB n=[]↔n=0:=by
 constructor
 ·intro h;have:=cm bn n;rw[h,List.length_nil,g9]at this;omega
 ·rintro rfl;exact lS
theorem Mm(n:Nat):n<2^oN n:=by
 by_cases b:n=0
 ·subst b;exact gw (by decide)
 ·rw[oN,if_neg b];have e:=cm bn n;have j:0<(aB wB n).length:=by
   rcases gy (aB wB n).length with h|h
   ·exact(b (tt.1 (e7.1 h))).elim
   ·exact h
  obtain⟨m,i⟩:∃m,(aB wB n).length=m+1:=⟨(aB wB n).length-1,by omega⟩
  rw[i]at e⊢;rw[g8];have d:n/wB^m<wB:=by
   rw[hn (gw (by decide)),g5,<-gx];exact e
  have f:ae wB n m=n/wB^m:=by rw[ae,g0 d]
  have g:0<n/wB^m:=by
   rcases gy (n/wB^m)with h|h
   ·have c:n<wB^m:=by
     rcases g6 n (wB^m)with a|a
     ·exact a
     ·have:=hp a (gw (show 0<wB by decide));omega
    have:=dO bn m n c;omega
   ·exact h
  have c:=yH (n/wB^m) (n/wB^m) (gm _) g d;rw[f,gE,hb];show n<wB^m*_;have a:n<(n/wB^m+1)*wB^m:=by
   rw[<-hn (gw (by decide))];omega
  rw[g5]at a;exact gj a (hr _ c.2.2)
theorem Z0(a:NI)(l:okW a.v):ar prog 283 [eI a] (.int .i64 (oN a.v.natAbs:Nat)):=by
 have b:=oi (eI a) a.v (mC a);refine aI nf Hd mix (by simp[f283]) ?_;have o:=nZ l;have q:∀i(h:i<(aB wB a.v.natAbs).length),(aB wB a.v.natAbs)[i]=ae wB a.v.natAbs i:=fun i h=>eD bn h;have f:=ct (B:=wB) bn a.v.natAbs ((aB wB a.v.natAbs).length-1);have j:=aog _ f;have z:=Mm a.v.natAbs;have s:=tt (n:=a.v.natAbs)
 by_cases e:a.v.natAbs=0
 ·rw[e]at b⊢;simp only[eN,lS]at b;simp[f283];refine c1 b ?_;simp[oN]
 ·have k:=mt s.1 e;rw[oN,if_neg e];have p:bo (ae wB a.v.natAbs ((aB wB a.v.natAbs).length-1))<=64:=by
   rcases gy (ae wB a.v.natAbs ((aB wB a.v.natAbs).length-1))with h|h
   ·rw[h];decide
   ·exact QF h f
  simp only[eN]at b;generalize aB wB a.v.natAbs=x at*;obtain⟨m,d⟩:∃m,x.length=m+1:=⟨x.length-1,by cases x with|nil=>exact(k rfl).elim|cons c cs=>simp⟩
  rw[d,g8]at j p f;rw[d,g8];rw[d]at o;have hx:=q m (by omega);have t:x[m]?=some (ae wB a.v.natAbs m):=by rw[List.getElem?_eq_getElem (by omega),hx]
  have w1:bb.wrap (m:Int)=m:=aQ _ (by omega) (by omega);have u:bb.wrap (64*(m:Int))=64*m:=aQ _ (by omega) (by omega);have w:bb.wrap (64*(m:Int)+(bo (ae wB a.v.natAbs m):Nat))=(64*m+bo (ae wB a.v.natAbs m):Nat):=by rw[aQ _ (by omega) (by omega)];push_cast;rfl
  generalize bo (ae wB a.v.natAbs m)=g at*;have y:bb.wrap (64*(m:Int)+g)=64*m+g:=by rw[w];push_cast;rfl
  simp[f283];refine c1 b ?_;have r:¬((m:Int)+1=0):=by omega
  simp[k,d,w1,u,t,hx,r];refine c1 j ?_;simp[y]
noncomputable def eF(a:NF):PV:=.st 126 [eI a.num,eI a.den]
@[simp] theorem aOJ(a:NF):aL (eF a)=.agg 126:=rfl
@[simp] theorem aNb(a:NF):bY (eF a)=[eI a.num,eI a.den]:=rfl
@[simp] theorem aPc(n:Int):aL (fc n)=.agg 124:=rfl
@[simp] theorem aMs:prog.cellsOf 124=2:=by kernel_rfl
@[simp] theorem aMt:prog.cellsOf 126=4:=by kernel_rfl
theorem Nq:fc 1=eI (.mk' 1):=(oM (by decide) (by decide)).symm
def kB:Nat:=100000
theorem qw:kB<=3*kB:=hg _ (by decide)
theorem yX{n k:Nat}(h:n<2^k):(aB wB n).length<=k/64+1:=by
 refine dO bn _ _ (gj h ?_);rw[show wB=2^64 from rfl,<-hb];exact gi (by decide) (by omega)
theorem iE{z:Int}{k:Nat}(h:z.natAbs<2^k)(hk:k<=3*kB):okW z:=by
 have:=yX h;have a:kB=100000:=rfl;rw[okW];omega
def NF.make(n d:NI):NF:=⟨hD n.v d.v,n.m&&decide (d.v=1)⟩
theorem CF(a:NF):ar prog 239 [eF a] (.bool a.fE):=by
 refine aI nf O6 mix (by simp[f239]) ?_;have e:a.den.v=a.q.den:=rfl;have g:=a.q.den_pos;rcases hs:a.den.sm with _|_
 ·obtain⟨c,cs,w1⟩:=oG hs;have f:=NI.zN (a:=a.den) (by rw[hs];decide);have b:a.fE=false:=by rw[NF.fE,decide_eq_false_iff_not];omega
  simp[f239,aa,w1,dE,cW,b]
 ·have w1:=mz hs;have d:=nu hs;rw[e]at d;have b:a.fE=decide ((a.q.den:Int)=1):=by rw[NF.fE,decide_eq_decide];omega
  simp[f239,aa,w1,d,dE,cW,b];rfl
theorem DI(a:NI):ar prog 225 [eI a] (eF (.whole a)):=by
 refine aI nf Ih mix (by simp[f225]) ?_;simp[f225];refine e1 (sA 1) ?_;have b:(NF.whole a).num=a:=by cases a;rfl
 have c:(NF.whole a).den=.mk' 1:=rfl;simp[aa,eF,b,c,Nq]
theorem ke(n:Int)(h:-9223372036854775808<=n)(b:n<=9223372036854775807):ar prog 132 [.int .i64 n] (eF (.int n)):=by
 have a:=DI (.of n);rw[uq h b]at a;refine aI nf Ic mix (by simp[f132]) ?_;simp[f132];refine c1 (sA n) ?_;simp;refine c1 a ?_;simp[aa];exact Wk.refl _
theorem D2(q:Rat):(if q<0 then(-1:Int)else if q=0 then 0 else 1)=if q.num<0 then -1 else if q.num=0 then 0 else 1:=by
 have a:q<0↔q.num<0:=by rw[<-Rat.not_le,<-Rat.num_nonneg];omega
 have b:q=0↔q.num=0:=hE.symm;simp only[a,b]
theorem ui(a:NF):ar prog 194 [eF a] (.int .i64 (if a.q<0 then -1 else if a.q=0 then 0 else 1)):=by
 have b:=uc a.num;refine aI nf GW mix (by simp[f194]) ?_;simp[f194,aa];refine c1 b ?_;simp;exact D2 a.q
theorem DN(a:NF)(h:bE kB a.q):ar prog 145 [eF a] (eF a.neg):=by
 have d:=uk a.num (iE h.1 qw);refine aI nf PZ mix (by simp[f145]) ?_;simp[f145,aa];refine e1 d ?_;have b:a.neg.num=a.num.neg:=by show(⟨(-a.q).num,false⟩:NI)=⟨-a.q.num,false⟩;rw[Rat.neg_num]
 have c:a.neg.den=a.den:=by show(⟨((-a.q).den:Int),false⟩:NI)=⟨a.q.den,false⟩;rw[Rat.neg_den]
 simp[aa,eF,b,c]
theorem Wv{n d:NI}(j:0<d.v):(NI.mk' (eJ n.v d.v)).v≠0/\0<eJ n.v d.v/\(¬d.v=1->eI (n.div (.mk' (eJ n.v d.v)))=eI (NF.make n d).num)/\eI (d.div (.mk' (eJ n.v d.v)))=eI (NF.make n d).den:=by
 obtain⟨dn,e⟩:∃dn:Nat,d.v=dn:=⟨d.v.toNat,by omega⟩
 have f:dn≠0:=by omega
 obtain⟨e1,e2⟩:=mf (n:=n.v) f;have c:eJ n.v d.v=(hd n.v.natAbs dn:Nat):=by rw[eJ,e];rfl
 have k:0<hd n.v.natAbs dn:=Nat.gcd_pos_of_pos_right _ (by omega);have i:(hd n.v.natAbs dn:Int)∣n.v:=Int.ofNat_dvd_left.2 (Nat.gcd_dvd_left _ _);refine⟨by rw[NI.iS,c];omega,by rw[c];omega,fun g=>?_,?_⟩
 ·refine nA ?_ (fun _=>?_)
  ·show n.v/eJ n.v d.v=(hD n.v d.v).num;rw[c,e,e1]
  ·show decide (n.v% eJ n.v d.v≠0)=(n.m&&decide (d.v=1))
   rw[c,Int.emod_eq_zero_of_dvd i];simp[g]
 ·refine nA ?_ (fun h=>?_)
  ·show d.v/eJ n.v d.v=((hD n.v d.v).den:Int)
   rw[c,e,e2];exact(Int.natCast_ediv _ _).symm
  ·have:d.v/eJ n.v d.v= -9223372036854775808:=h;have:=Int.ediv_nonneg (a:=d.v) (b:=eJ n.v d.v) (by omega) (by rw[c];omega);omega
theorem YS{n d:NI}(a:d.v<0):NF.make n.neg d.neg=NF.make n d:=by
 rw[NF.make,NF.make];have e1:hD n.neg.v d.neg.v=hD n.v d.v:=Rat.neg_divInt_neg _ _;have e2:(n.neg.m&&decide (d.neg.v=1))=(n.m&&decide (d.v=1)):=by
  rw[show n.neg.m=false from rfl,aT,decide_eq_false (by omega),a6]
 rw[e1,e2]
theorem JW(n:Int):(hD n 1).num=n/\(hD n 1).den=1:=by
 obtain⟨e1,e2⟩:=mf (n:=n) (show 1≠0 by decide);rw[hv]at e1 e2;refine⟨?_,?_⟩
 ·exact e1.trans (em n)
 ·exact e2
theorem Ek(n d:NI)(w:d.v≠0)(o:okW n.v)(l:okW d.v):ar prog 237 [eI n,eI d] (eF (.make n d)):=by
 have i:=uc d;refine aI nf Qf mix (by simp[f237]) ?_;simp[f237,-bt];rw[bt];simp[-bt];refine join (fun s=>∃a d':NI,0<d'.v/\okW a.v/\okW d'.v/\NF.make a d'=NF.make n d/\aS s.env 2=.ptr 0 []/\aS s.env 3=.ptr 1 []/\aS s.env 4=.ptr 2 []/\s.heap=[.box false (.p (eI a)),.box false (.p (eI d')),.box false (.p (.st 126 [.st 124 [.int .i64 0,.aP],.st 124 [.int .i64 0,.aP]]))]) ?_ ?_
 ·by_cases k:d.v<0
  ·rw[if_pos k]at i;simp;refine c1 i ?_;simp;refine e1 (uk n o) ?_;simp;refine e1 (uk d l) ?_;simp[aa];exact⟨⟨rfl,rfl⟩,n.neg,d.neg,by rw[NI.Fe];omega,ru o (by rw[NI.Fe];omega),ru l (by rw[NI.Fe];omega),YS k,rfl,rfl⟩
  ·rw[if_neg k,if_neg w]at i;simp;refine c1 i ?_;simp;exact⟨n,d,by omega,o,l,rfl,rfl,rfl⟩
 ·rintro⟨B,C⟩ ⟨a,d',y1,y2,y3,y4,b,e,f,r⟩;dsimp only at b e f r;subst r;rw[<-y4];clear y4 i;have q:=QI a d' y2 y3;obtain⟨g1,g2,g3,g4⟩:=Wv (n:=a) y1;have og:okW (eJ a.v d'.v):=by
   refine ru y3 ?_;rw[eJ];exact g7 (he (ec _)) (Nat.gcd_le_right _ (by omega))
  have t:=QJ a (.mk' (eJ a.v d'.v)) g2 y2 og;have u:=QJ d' (.mk' (eJ a.v d'.v)) g2 y3 og
  by_cases hs:d'.v=1
  ·have g:d'.sm=true:=NI.Ae (by omega) (by omega);have w1:=mz g;have j:=nu g;rw[hs]at j;have y:eF (.make a d')=.st 126 [eI a,eI d']:=by
    rw[eF];have z:(NF.make a d').num=a:=by
     show(⟨(hD a.v d'.v).num,a.m&&decide (d'.v=1)⟩:NI)=a;rw[hs,(JW _).1];simp
    have A:eI (NF.make a d').den=eI d':=by
     refine nA ?_ (fun h=>?_)
     ·show((hD a.v d'.v).den:Int)=d'.v;rw[hs,(JW _).2];rfl
     ·have:((hD a.v d'.v).den:Int)= -9223372036854775808:=h;omega
    rw[z,A]
   rw[y];simp[b,e,f,aa,w1,j,dE,cW]
   done
  ·rw[eF,<-g3 hs,<-g4];have x:(wI d'=.aP/\¬sI d'=1)\/∃c cs,wI d'=.seq (c::cs):=by
    rcases g:d'.sm with _|_
    ·exact .inr (oG g)
    ·exact .inl ⟨mz g,by rw[nu g];exact hs⟩
   rcases x with⟨w1,j⟩|⟨c,cs,w1⟩
   ·simp[b,e,f,aa,w1,j,dE,cW];refine c2 q ?_;simp[b,e,f,aa];refine e2 t ?_;simp[b,e,f,aa];refine e2 u ?_;simp[b,e,f,aa]
    done
   ·simp[b,e,f,aa,w1,dE,cW];refine c2 q ?_;simp[b,e,f,aa];refine e2 t ?_;simp[b,e,f,aa];refine e2 u ?_;simp[b,e,f,aa]
    done
theorem lQ(a:NF):a.num.v=a.q.num:=rfl
theorem jJ(a:NF):a.den.v=a.q.den:=rfl
theorem kG(a:NF):a.den.v.natAbs=a.q.den:=by rw[jJ,ec]
theorem rZ{x y:NI}{k l:Nat}(hx:x.v.natAbs<2^k)(a:y.v.natAbs<2^l)(h:k+l<=4*kB):ar prog 212 [eI x,eI y] (eI (x.mul y)):=by
 have b:=yX hx;have c:=yX a;have d:kB=100000:=rfl;exact An x y (by omega)
theorem pB{x y:Int}{k l:Nat}(hx:x.natAbs<2^k)(a:y.natAbs<2^l):(x*y).natAbs<2^(k+l):=by
 rw[dp,gE];exact Nat.mul_lt_mul'' hx a
theorem Dq{n d:NI}{q:Rat}(m:Bool)(hq:hD n.v d.v=q)(a:(n.m&&decide (d.v=1))=m):NF.make n d=⟨q,m⟩:=by rw[NF.make,hq,a]
theorem YQ(a b:NF):NF.make (a.num.mul b.num) (a.den.mul b.den)=a.mul b:=by
 refine Dq _ ?_ rfl;rw[NI.my,NI.my,lQ,lQ,jJ,jJ,Rat.mul_def,Rat.normalize_eq_mkRat];rfl
theorem jK(a b:NF)(c:bE kB a.q)(d:bE kB b.q):ar prog 149 [eF a,eF b] (eF (a.mul b)):=by
 have f:=rZ (x:=a.num) (y:=b.num) c.1 d.1 (by omega);have g:=rZ (x:=a.den) (y:=b.den) (by rw[kG];exact c.2) (by rw[kG];exact d.2) (by omega);have e:=Ek (a.num.mul b.num) (a.den.mul b.den) (by rw[NI.my,jJ,jJ];have:=a.q.den_nz;have:=b.q.den_nz;exact ee (by omega) (by omega)) (iE (pB c.1 d.1) (by omega)) (iE (pB (x:=a.den.v) (y:=b.den.v) (by rw[kG];exact c.2) (by rw[kG];exact d.2)) (by omega));rw[YQ]at e;refine aI nf PW mix (by simp[f149]) ?_;simp[f149,aa];refine e2 f ?_;simp[aa];refine e2 g ?_;simp[aa];refine e2 e ?_;simp[aa]
theorem Y1(a:NF)(h:a.q≠0):NF.make a.den a.num=a.inv:=by
 refine Dq _ ?_ rfl;rw[lQ,jJ];show hD a.q.den a.q.num=a.q⁻¹;rw[Rat.inv_def]
theorem DO(a:NF)(c:bE kB a.q)(b:a.q≠0):ar prog 144 [eF a] (eF a.inv):=by
 have d:=Ek a.den a.num (by rw[lQ];exact mt hE.1 b) (iE (by rw[kG];exact c.2) qw) (iE c.1 qw);rw[Y1 a b]at d;refine aI nf I6 mix (by simp[f144]) ?_;simp[f144,aa];refine c2 d ?_;simp[aa]
theorem QA(a b:NF)(g:bE kB a.q)(c:bE kB b.q)(f:b.q≠0):ar prog 133 [eF a,eF b] (eF (a.div b)):=by
 have h:=DO b c f;have d:=jK a b.inv g (yy c);have e:a.mul b.inv=a.div b:=by
  rw[NF.mul,NF.div,NF.inv,Rat.div_def]
 rw[e]at d;refine aI nf Ib mix (by simp[f133]) ?_;simp[f133,aa];refine e1 h ?_;simp[aa];refine e2 d ?_;simp[aa]
theorem Zw(a b:NF)(h:¬(a.fE=true/\b.fE=true)):NF.make ((a.num.mul b.den).add (b.num.mul a.den)) (a.den.mul b.den)=a.add b:=by
 have g:(a.fE&&b.fE)=false:=by simpa using h
 refine Dq _ ?_ ?_
 ·rw[NI.sf,NI.my,NI.my,NI.my,lQ,lQ,jJ,jJ,Rat.add_def'];rfl
 ·rw[g,aT];have:¬(a.den.mul b.den).v=1:=by
   intro c;rw[NI.my,jJ,jJ]at c;have d:a.q.den*b.q.den=1:=by exact_mod_cast c
   have e:=Nat.eq_one_of_mul_eq_one_right d;have f:=Nat.eq_one_of_mul_eq_one_left d;exact h ⟨by rw[NF.fE];simp[e,f],by rw[NF.fE];simp[e,f]⟩
  rw[decide_eq_false this,a6]
theorem Ns{q:Rat}(h:q.den=1):(q.num:Rat)=q:=by
 apply Rat.ext
 ·rw[Rat.num_intCast]
 ·rw[Rat.den_intCast,h]
theorem sx(a b:NF)(i:bE kB a.q)(j:bE kB b.q):ar prog 148 [eF a,eF b] (eF (a.add b)):=by
 have w1:=CF a;have l:=CF b;refine aI nf PX mix (by simp[f148]) ?_
 by_cases hw:a.fE=true/\b.fE=true
 ·rw[hw.1]at w1;rw[hw.2]at l;have k:=xi a.num b.num (iE i.1 qw) (iE j.1 qw);have f:=DI (a.num.add b.num);have c:a.q.den=1:=by simpa[NF.fE]using hw.1
  have d:b.q.den=1:=by simpa[NF.fE]using hw.2
  have e:NF.whole (a.num.add b.num)=a.add b:=by
   rw[NF.whole,NF.add];have e1:(((a.num.add b.num).v:Int):Rat)=a.q+b.q:=by
    rw[NI.sf,lQ,lQ,Rat.intCast_add,Ns c,Ns d]
   have e2:(a.num.add b.num).m=(a.fE&&b.fE&&(a.num.sm&&b.num.sm)):=by rw[hw.1,hw.2];rfl
   rw[e1,e2]
  rw[e]at f;simp[f148,aa];refine c1 w1 ?_;simp[aa];refine c1 l ?_;simp[aa];refine c2 k ?_;simp[aa];refine c1 f ?_;simp[aa]
 ·have g:a.den.v.natAbs<2^kB:=by rw[kG];exact i.2
  have h:b.den.v.natAbs<2^kB:=by rw[kG];exact j.2
  have k:=rZ (x:=a.num) (y:=b.den) i.1 h (by omega);have f:=rZ (x:=b.num) (y:=a.den) j.1 g (by omega);have b1:(a.num.mul b.den).v.natAbs<2^(kB+kB):=pB i.1 h;have r:(b.num.mul a.den).v.natAbs<2^(kB+kB):=pB j.1 g;have o:=xi _ _ (iE b1 (by omega)) (iE r (by omega));have p:=rZ (x:=a.den) (y:=b.den) g h (by omega);have s:((a.num.mul b.den).add (b.num.mul a.den)).v.natAbs<2^(kB+kB+1):=by
   rw[NI.sf,gx];exact gt (Int.natAbs_add_le _ _) (by omega)
  have t:kB=100000:=rfl;have n:=Ek ((a.num.mul b.den).add (b.num.mul a.den)) (a.den.mul b.den) (by rw[NI.my,jJ,jJ];have:=a.q.den_nz;have:=b.q.den_nz;exact ee (by omega) (by omega)) (iE s (by omega)) (iE (pB (x:=a.den.v) (y:=b.den.v) g h) (by omega));rw[Zw a b hw]at n;have hc:a.fE=false\/(a.fE=true/\b.fE=false):=by
   rcases c:a.fE with _|_
   ·exact .inl rfl
   ·exact .inr ⟨rfl,by rcases d:b.fE with _|_;rfl;exact(hw ⟨c,d⟩).elim⟩
  rcases hc with c|⟨c,d⟩
  ·rw[c]at w1;simp[f148,aa];refine c1 w1 ?_;simp[aa];refine e2 k ?_;simp[aa];refine e2 f ?_;simp[aa];refine e2 o ?_;simp[aa];refine e2 p ?_;simp[aa];refine e2 n ?_;simp[aa]
  ·rw[c]at w1;rw[d]at l;simp[f148,aa];refine c1 w1 ?_;simp[aa];refine c1 l ?_;simp[aa];refine e2 k ?_;simp[aa];refine e2 f ?_;simp[aa];refine e2 o ?_;simp[aa];refine e2 p ?_;simp[aa];refine e2 n ?_;simp[aa]
theorem qg(a b:NF)(d:bE kB a.q)(c:bE kB b.q):ar prog 168 [eF a,eF b] (eF (a.sub b)):=by
 have e:=DN b c;have f:=sx a b.neg d (zf c);refine aI nf Qt mix (by simp[f168]) ?_;simp[f168,aa];refine e1 e ?_;simp[aa];refine e2 f ?_;simp[aa];exact Wk.refl _
def dC(x y:Rat):Int:=if x<y then -1 else if x=y then 0 else 1
theorem aJU(a b:Rat):kj (a.num*b.den) (b.num*a.den)=dC a b:=by
 have c:a<b↔a.num*b.den<b.num*a.den:=hJ _ _;have f:a=b↔a.num*b.den=b.num*a.den:=by
  constructor
  ·rintro rfl;rfl
  ·intro h
   by_cases d:a<b
   ·rw[c]at d;omega
   ·by_cases e:b<a
    ·have g:=(hJ b a).1 e;omega
    ·exact Rat.le_antisymm (hG.1 e) (hG.1 d)
 simp only[kj,dC,c,f]
theorem nC(a b:NF)(c:bE kB a.q)(d:bE kB b.q):ar prog 124 [eF a,eF b] (.int .i64 (dC a.q b.q)):=by
 have e:a.den.v.natAbs<2^kB:=by rw[kG];exact c.2
 have f:b.den.v.natAbs<2^kB:=by rw[kG];exact d.2
 have i:=rZ (x:=a.num) (y:=b.den) c.1 f (by omega);have j:=rZ (x:=b.num) (y:=a.den) d.1 e (by omega);have b1:(a.num.mul b.den).v.natAbs<2^(kB+kB):=pB c.1 f;have h:(b.num.mul a.den).v.natAbs<2^(kB+kB):=pB d.1 e;have g:=QH _ _ (iE b1 (by omega)) (iE h (by omega));rw[NI.my,NI.my,lQ,lQ,jJ,jJ,aJU]at g;refine aI nf HF mix (by simp[f124]) ?_;simp[f124,aa];refine e2 i ?_;simp[aa];refine e2 j ?_;simp[aa];refine e2 g ?_;simp[aa]
def low:Nat->Nat->List Nat
 |0,_=>[]
 |i+1,n=>(48+n/10^i% 10)::low i n
def nd(n:Nat):Nat:=if h:n=0 then 0 else nd (n/10)+1
 decreasing_by omega
theorem oO:∀(i n:Nat),i<nd n↔10^i<=n
 |0,n=>by
  rw[nd];split
  ·subst n;simp
  ·simp;omega
 |i+1,n=>by
  rw[nd];split
  ·rename_i h;subst h;have:=gw (n:=i+1) (show 0<10 by omega);constructor
   ·intro h;omega
   ·intro h;omega
  ·have:=oO i (n/10);rw[hl (by omega),<-gx]at this;rw[<-this];omega
theorem rC(b n:Nat):∀a,low (a+b) n=low a (n/10^b)++low b n
 |0=>by simp[low]
 |a+1=>by
  rw[show a+1+b=(a+b)+1 by omega,low,low,rC b n a,Nat.div_div_eq_div_mul,<-gE,Nat.add_comm b a];rfl
theorem Dr(n k:Nat):∀b,b<=k->low b (n% 10^k)=low b n
 |0,_=>rfl
 |b+1,h=>by
  have e:k=b+(k-b-1+1):=by omega
  have a:n% 10^k/10^b=n/10^b% 10^(k-b-1+1):=by
   conv=>lhs;rw[e,gE]
   rw[Nat.mod_mul_right_div_self]
  rw[low,low,Dr n k b (by omega),a,Nat.mod_mod_of_dvd _ (Nat.pow_dvd_pow 10 (show 1<=k-b-1+1 by omega)|>fun h=>by simpa using h)]
theorem aJA{n m:Nat}(h:∀i,i<nd n↔i<m):nd n=m:=by
 have a:=h m;have b:=h (nd n);omega
theorem D4{n k:Nat}(h:10^k<=n):nd n=nd (n/10^k)+k:=by
 refine aJA fun i=>?_;rw[oO]
 by_cases hi:i<k
 ·have:=gi (show 0<10 by omega) (Nat.le_of_lt hi);constructor
  ·intro _;omega
  ·intro _;omega
 ·obtain⟨j,rfl⟩:∃j,i=j+k:=⟨i-k,by omega⟩
  rw[gE,<-hl (gw (by omega)),<-oO];omega
theorem sd{n k:Nat}(h:n<10^k):nd n<=k:=by
 rcases g6 k (nd n)with a|a
 ·rw[oO]at a;omega
 ·exact a
theorem zZ{n:Nat}(h:0<n):0<nd n:=by rw[oO,g9];exact h
theorem YT{M:Nat}(h:10^9<=M):low (nd M) M=low (nd (M/10^9)) (M/10^9)++low 9 (M% 10^9):=by
 rw[D4 h,rC,Dr _ _ _ (gm 9)]
theorem rB(n:Nat):∀i,(low i n).length=i
 |0=>rfl
 |i+1=>by simp[low,rB n i]
def bh(n:Nat):List Nat:=low (max 1 (nd n)) n
def bN(z:Int):List Nat:=if z<0 then 45::bh z.natAbs else bh z.natAbs
def bg(q:Rat):List Nat:=if q.den=1 then bN q.num else bN q.num++47::bh q.den
def bc(s:List Nat):Nat:=s.foldl (fun n c=>n*10+(c-48)) 0
def cr(c:Nat):Bool:=decide (48<=c)&&decide (c<=57)
theorem yJ(s:List Nat)(c:Nat):bc (s++[c])=bc s*10+(c-48):=by simp[bc]
theorem tI(i n:Nat):low (i+1) n=low i (n/10)++[48+n% 10]:=by
 have:=rC 1 n i;rw[this];simp[low]
theorem R5:∀(i n:Nat),(low i n).all cr=true
 |0,n=>rfl
 |i+1,n=>by
  rw[low,e6,R5 i n];have:=ht (n/10^i) (show 0<10 by omega);simp[cr];omega
theorem LO:∀(i n:Nat),bc (low i n)=n% 10^i
 |0,n=>by simp[low,bc,Nat.mod_one]
 |i+1,n=>by
  rw[tI,yJ,LO i,gx,g5 (10^i),Nat.mod_mul];omega
theorem C6(n:Nat):n<10^nd n:=by
 rcases g6 n (10^nd n)with h|h
 ·exact h
 ·have:=(oO (nd n) n).2 h;omega
theorem yZ(n:Nat):bc (bh n)=n:=by
 rw[bh,LO];refine g0 (gj (C6 n) (gi (by omega) (by omega)))
theorem ry(n:Nat):(bh n).length=max 1 (nd n):=rB _ _
theorem rQ(n:Nat):(bh n).all cr=true:=R5 _ _
theorem q7:bh 0=[48]:=by
 have:nd 0=0:=by rw[nd,dif_pos rfl]
 rw[bh,this];rfl
def dJ(s:List Nat):Bool:=!s.isEmpty&&s.all cr&&(decide (s.head?≠some 48)||decide (s=[48]))
theorem jE:∀(k:Nat)(s:List Nat),s.length=k->s.all cr=true->bc s<10^k
 |0,s,h,_=>by
            have:s=[]:=e7.1 h
            subst this;simp[bc]
 |n+1,s,h,a=>by
  have b:s≠[]:=by intro e;subst e;simp at h
  obtain⟨t,c,rfl⟩:∃t c,s=t++[c]:=⟨s.dropLast,s.getLast b,(fb b).symm⟩
  simp only[gc,e6,gg,ax,ap]at a;have d:=jE n t (by simpa using h) a.1;have hc:=a.2;simp only[cr,ap,decide_eq_true_eq]at hc;rw[yJ,gx];omega
theorem MN:∀(k:Nat)(s:List Nat),s.length=k->s.all cr=true->low k (bc s)=s
 |0,s,h,_=>by
            have:s=[]:=e7.1 h
            subst this;rfl
 |n+1,s,h,a=>by
  have b:s≠[]:=by intro e;subst e;simp at h
  obtain⟨t,c,rfl⟩:∃t c,s=t++[c]:=⟨s.dropLast,s.getLast b,(fb b).symm⟩
  simp only[gc,e6,gg,ax,ap]at a;have d:=MN n t (by simpa using h) a.1;have hc:=a.2;simp only[cr,ap,decide_eq_true_eq]at hc;rw[tI,yJ];have e1:(bc t*10+(c-48))/10=bc t:=by omega
  have e2:(bc t*10+(c-48))% 10=c-48:=by omega
  rw[e1,e2,d];congr 2;omega
theorem UO(c:Nat)(s:List Nat)(h:49<=c):10^s.length<=bc (c::s):=by
 have key:∀(s:List Nat)(a:Nat),a*10^s.length<=s.foldl (fun n c=>n*10+(c-48)) a:=by
  intro s
  induction s with
  |nil=>intro a;simp
  |cons x r b=>
   intro a;rw[gb,fm];refine g7 ?_ (b _);rw[gx,g5 (10^r.length),<-hz];exact ho _ (by omega)
 have:=key s (c-48);rw[bc,gb,Nat.zero_mul,hA];refine g7 ?_ this;have:1*10^s.length<=(c-48)*10^s.length:=ho _ (by omega);omega
theorem wA{s:List Nat}(h:dJ s=true):bh (bc s)=s:=by
 simp only[dJ,ap,av,decide_eq_true_eq,ay]at h;obtain⟨⟨f,a⟩,b⟩:=h;rcases b with b|rfl
 ·cases s with
  |nil=>simp at f
  |cons c r=>
   have hc:cr c=true:=by simpa using(e6.symm.trans a|>fun h=>by simpa using h:cr c=true/\r.all cr=true).1
   simp only[cr,ap,decide_eq_true_eq]at hc;have i:49<=c:=by
    have:c≠48:=fun e=>b (by rw[e];rfl);omega
   have g:=jE _ _ rfl a;have j:=UO c r i;have k:nd (bc (c::r))=r.length+1:=by
    have a1:=(oO r.length _).2 j;have d:=sd g;rw[fm]at d;omega
   rw[bh,k,show max 1 (r.length+1)=r.length+1 by omega];exact MN _ _ rfl a
 ·have:bc [48]=0:=rfl;rw[this,q7]
def b9(c:Nat):List Nat->List Nat×List Nat×Bool
 |[]=>([],[],false)
 |x::r=>if x=c then([],r,true)else(x::(b9 c r).1,(b9 c r).2.1,(b9 c r).2.2)
theorem CZ(c:Nat):∀(a b:List Nat),c∉a->b9 c (a++c::b)=(a,b,true)
 |[],b,_=>by simp[b9]
 |x::a,b,h=>by
  simp only[ge,not_or]at h;rw[e8,b9,if_neg (fun e=>h.1 e.symm),CZ c a b h.2]
theorem CE(c:Nat):∀(a:List Nat),c∉a->b9 c a=(a,[],false)
 |[],_=>rfl
 |x::a,h=>by
  simp only[ge,not_or]at h;rw[b9,if_neg (fun e=>h.1 e.symm),CE c a h.2]
theorem pR(c:Nat):∀(s:List Nat),((b9 c s).2.2=true/\s=(b9 c s).1++c::(b9 c s).2.1)\/((b9 c s).2.2=false/\(b9 c s).1=s/\(b9 c s).2.1=[])
 |[]=>by simp[b9]
 |x::s=>by
  rw[b9]
  by_cases h:x=c
  ·subst h;simp
  ·rw[if_neg h];rcases pR c s with⟨a,b⟩|⟨a,b,d⟩
   ·left;exact⟨a,by dsimp only;rw[e8,<-b]⟩
   ·right;exact⟨a,by dsimp only;rw[b],d⟩
def bZ(s:List Nat):Bool:=decide (s.head?=some 45)
def df(s:List Nat):List Nat:=if bZ s=true then s.tail else s
def bH(s:List Nat):List Nat:=(b9 47 (df s)).1
def bP(s:List Nat):List Nat:=(b9 47 (df s)).2.1
def eB(s:List Nat):Bool:=(b9 47 (df s)).2.2
def ny(s:List Nat):Bool:=dJ (bH s)&&!(bZ s&&decide (bH s=[48]))&&(!eB s||(dJ (bP s)&&decide (bP s≠[48])&&decide (bP s≠[49])))
def b7(s:List Nat):Int:=
 if ny s=false then 1
 else if 600<(bH s).length\/600<(bP s).length then 4
 else if eB s=true/\hd (bc (bH s)) (bc (bP s))≠1 then 1 else 0
def aR(s:List Nat):Rat:=hD (if bZ s=true then -(bc (bH s):Int)else bc (bH s)) (if eB s=true then bc (bP s)else 1:Nat)
theorem Be{s:List Nat}(h:s.all cr=true){c:Nat}(hc:cr c=false):c∉s:=by
 intro a;rw[fv]at h;rw[h c a]at hc;cases hc
theorem jY{s:List Nat}(h:dJ s=true):s.all cr=true:=by
 simp only[dJ,ap]at h;exact h.1.2
theorem vr(n:Nat):bN (n:Int)=bh n:=by
 rw[bN,if_neg (by omega)];rfl
theorem aLa{n:Nat}(h:0<n):bN (-(n:Int))=45::bh n:=by
 rw[bN,if_pos (by omega)];congr 1;rw[ei];rfl
theorem za{s:List Nat}(h:dJ s=true)(a:s≠[48]):0<bc s:=by
 rcases gy (bc s)with e|e
 ·have:=wA h;rw[e,q7]at this;exact(a this.symm).elim
 ·exact e
theorem ji{s:List Nat}(h:b7 s=0):bg (aR s)=s/\(aR s).num=(if bZ s=true then -(bc (bH s):Int)else bc (bH s))/\(aR s).den=(if eB s=true then bc (bP s)else 1:Nat):=by
 unfold b7 at h
 split at h
 ·cases h
 rename_i b
 split at h
 ·cases h
 split at h
 ·cases h
 rename_i f;have b:ny s=true:=by simpa using b
 simp only[ny,ap,ay,Bool.and_eq_false_iff,decide_eq_false_iff_not,av,decide_eq_true_eq]at b;obtain⟨⟨a1,a2⟩,a3⟩:=b;have hs:s=(if bZ s=true then[45]else[])++df s:=by
  rw[df]
  by_cases a:bZ s=true
  ·rw[if_pos a,if_pos a];simp only[bZ,decide_eq_true_eq]at a;cases s with
   |nil=>simp at a
   |cons c r=>simp at a;subst a;rfl
  ·rw[if_neg a,if_neg a];rfl
 have g:(if eB s=true then bc (bP s)else 1:Nat)≠0:=by
  split
  ·rename_i hf;rcases a3 with a3|a3
   ·rw[hf]at a3;cases a3
   ·have:=za a3.1.1 a3.1.2;omega
  ·omega
 have i:hd (if bZ s=true then -(bc (bH s):Int)else bc (bH s)).natAbs (if eB s=true then bc (bP s)else 1:Nat)=1:=by
  have e:(if bZ s=true then -(bc (bH s):Int)else bc (bH s)).natAbs=bc (bH s):=by split<;>omega
  rw[e]
  by_cases hf:eB s=true
  ·rw[if_pos hf];exact Decidable.not_not.1 fun e=>f ⟨hf,e⟩
  ·rw[if_neg hf,hv]
 obtain⟨e1,e2⟩:=mf (n:=if bZ s=true then -(bc (bH s):Int)else bc (bH s)) g;rw[i]at e1 e2;simp only[Nat.div_one]at e2;have e1:(aR s).num=(if bZ s=true then -(bc (bH s):Int)else bc (bH s)):=by rw[aR,e1];exact em _
 have e2:(aR s).den=(if eB s=true then bc (bP s)else 1:Nat):=e2;refine⟨?_,e1,e2⟩;have hI:bN (aR s).num=(if bZ s=true then[45]else[])++bH s:=by
  rw[e1]
  by_cases a:bZ s=true
  ·rw[if_pos a,if_pos a,aLa,wA a1];·rfl
   refine za a1 ?_;rcases a2 with a2|a2
   ·rw[a]at a2;cases a2
   ·exact a2
  ·rw[if_neg a,if_neg a,vr,wA a1];rfl
 rw[bg,hI,e2]
 by_cases hf:eB s=true
 ·have d:dJ (bP s)=true/\bP s≠[48]/\bP s≠[49]:=by
   rcases a3 with a3|a3
   ·rw[hf]at a3;cases a3
   ·exact⟨a3.1.1,a3.1.2,a3.2⟩
  have j:bc (bP s)≠1:=by
   intro e;have:=wA d.1;rw[e]at this;have b:nd 1=1:=by rw[nd,dif_neg (by omega),nd,dif_pos (by omega)]
   have:bh 1=[49]:=by rw[bh,b];rfl
   exact d.2.2 (by rw[<-this];assumption|>Eq.symm)
  rw[if_pos hf,if_neg j,wA d.1]
  conv=>rhs;rw[hs]
  rw[List.append_assoc];congr 1;rcases pR 47 (df s)with⟨g1,g2⟩|⟨g1,_⟩
  ·exact g2.symm
  ·rw[eB,g1]at hf;cases hf
 ·rw[if_neg hf,if_pos rfl]
  conv=>rhs;rw[hs]
  congr 1;rcases pR 47 (df s)with⟨g1,g2⟩|⟨g1,g2,_⟩
  ·exact(hf g1).elim
  ·exact g2
theorem yK(z:Int)(r:List Nat):bZ (bN z++r)=decide (z<0)/\df (bN z++r)=bh z.natAbs++r:=by
 by_cases h:z<0
 ·have:bN z=45::bh z.natAbs:=by rw[bN,if_pos h]
  rw[this];simp[bZ,df,h]
 ·have e:bN z=bh z.natAbs:=by rw[bN,if_neg h]
  have a:=rQ z.natAbs;have b:=ry z.natAbs;rw[e];have d:bZ (bh z.natAbs++r)=false:=by
   cases f:bh z.natAbs with
   |nil=>rw[f]at b;simp at b;omega
   |cons c t=>
    rw[f]at a;simp only[e6,ap]at a;have hc:=a.1;simp only[cr,ap,decide_eq_true_eq]at hc;have:¬(some c=some 45):=by intro e;injection e with e;omega
    simp only[bZ,e8,fw,this,decide_false]
  exact⟨by rw[d];simp[h],by rw[df,d];simp⟩
theorem vJ(q:Rat):bZ (bg q)=decide (q.num<0)/\bH (bg q)=bh q.num.natAbs/\eB (bg q)=decide (q.den≠1)/\bP (bg q)=if q.den=1 then[]else bh q.den:=by
 have d:47∉bh q.num.natAbs:=Be (rQ _) rfl
 by_cases h:q.den=1
 ·have e:bg q=bN q.num++[]:=by rw[bg,if_pos h,ew]
  obtain⟨c,b⟩:=yK q.num [];rw[ew,ew]at b;have a:=CE 47 _ d;rw[<-b]at a;rw[e];refine⟨c,?_,?_,?_⟩
  ·rw[ew,bH,a,b]
  ·rw[ew,eB,a,h];rfl
  ·rw[ew,bP,a,if_pos h]
 ·have e:bg q=bN q.num++47::bh q.den:=by rw[bg,if_neg h]
  obtain⟨c,b⟩:=yK q.num (47::bh q.den);have a:=CZ 47 _ (bh q.den) d;rw[<-b]at a;rw[e];refine⟨c,?_,?_,?_⟩
  ·rw[bH,a]
  ·rw[eB,a];simp[h]
  ·rw[bP,a,if_neg h]
theorem LQ(q:Rat):aR (bg q)=q:=by
 obtain⟨a,b,c,d⟩:=vJ q;have e1:(if bZ (bg q)=true then -(bc (bH (bg q)):Int)else bc (bH (bg q)))=q.num:=by
  rw[a,b,yZ]
  by_cases h:q.num<0
  ·simp[h];omega
  ·simp[h];omega
 have e2:(if eB (bg q)=true then bc (bP (bg q))else 1:Nat)=q.den:=by
  rw[c,d]
  by_cases h:q.den=1
  ·simp[h]
  ·simp[h,yZ]
 rw[aR,e1,e2,Rat.num_divInt_den]
theorem Bi{a b:Rat}(h:bg a=bg b):a=b:=by rw[<-LQ a,h,LQ]
theorem aLb:bh 1=[49]:=by
 have a:nd 1=1:=by rw[nd,dif_neg (by omega),nd,dif_pos (by omega)]
 rw[bh,a];rfl
theorem vq{n k:Nat}(h:n<10^k)(hk:1<=k):(bh n).length<=k:=by
 rw[ry];have:=sd h;omega
theorem OL{n k:Nat}(h:(bh n).length<=k):n<10^k:=by
 rw[ry]at h;exact gj (C6 n) (gi (by omega) (by omega))
theorem Dm(z:Int):(bN z).length<=(bh z.natAbs).length+1:=by
 rw[bN];split<;>simp
theorem aLc(q:Rat):(bg q).length<=(bh q.num.natAbs).length+(bh q.den).length+2:=by
 have:=Dm q.num;rw[bg];split<;>simp<;>omega
theorem V3(k:Nat):2^(3*k)<=10^k:=by
 rw[hb];exact Nat.pow_le_pow_left (by omega) k
theorem Ki{n k:Nat}(h:n<2^(3*k))(hk:1<=k):(bh n).length<=k:=vq (gj h (V3 k)) hk
theorem Es{n k K:Nat}(h:n<2^K)(a:K<=3*k)(hk:1<=k):(bh n).length<=k:=Ki (gj h (gi (by decide) a)) hk
def mD:Nat:=600
theorem GP{s:List Nat}(h:b7 s=0):(aR s).num.natAbs<10^mD/\(aR s).den<10^mD:=by
 obtain⟨i,c,d⟩:=ji h;unfold b7 at h
 split at h
 ·cases h
 rename_i a
 split at h
 ·cases h
 rename_i j;have a:ny s=true:=by simpa using a
 simp only[ny,ap,av,decide_eq_true_eq]at a;obtain⟨⟨a1,_⟩,a3⟩:=a;have b1:=jE _ _ rfl (jY a1);have f:10^(bH s).length<=10^mD:=gi (by omega) (by rw[mD];omega);refine⟨?_,?_⟩
 ·rw[c];have e:(if bZ s=true then -(bc (bH s):Int)else bc (bH s)).natAbs=bc (bH s):=by split<;>omega
  rw[e];exact gj b1 f
 ·rw[d]
  by_cases hf:eB s=true
  ·rw[if_pos hf];rcases a3 with a3|a3
   ·rw[hf]at a3;cases a3
   ·have b:=jE _ _ rfl (jY a3.1.1);have g:10^(bP s).length<=10^mD:=gi (by omega) (by rw[mD];omega);exact gj b g
  ·rw[if_neg hf];exact Nat.one_lt_pow (by decide) (by omega)
open Go
def et(l:List UInt8):List Nat:=l.map (·.toNat)
theorem V9(l:List UInt8):(et l).map hL=l:=by
 induction l with
 |nil=>rfl
 |cons a r b=>simp only[et,fl]at b⊢;rw[b];simp
def oZ(c:Nat):List Nat->Nat->Int
 |[],_=>-1
 |x::r,i=>bif hh x c then(i:Int)else oZ c r (i+1)
theorem MX(c:UInt8):∀(l:List UInt8)(i:Nat),oZ c.toNat (et l) i=if bl l c= -1 then -1 else bl l c+i
 |[],i=>by simp[oZ,et,bl]
 |x::r,i=>by
  have b:=MX c r (i+1);simp only[et]at b;simp only[et,fl,oZ,bl]
  by_cases hx:x=c
  ·subst hx;simp
  ·have e:hh x.toNat c.toNat=false:=by
    cases d:hh x.toNat c.toNat
    ·rfl
    ·exact(hx (hK.1 (hm d))).elim
   have f:=Lib.indexByte_ge r c;simp only[e,cond_false,b,beq_iff_eq,hx,if_false]
   by_cases a:bl r c= -1
   ·simp[a]
   ·rw[if_neg a,if_neg a];rw[if_neg (by omega)];omega
theorem MY(c:Nat):∀(s:List Nat)(k:Nat),((b9 c s).2.2=false/\oZ c s k= -1/\b9 c s=(s,[],false))\/
 ∃i,i<s.length/\oZ c s k=((k+i:Nat):Int)/\b9 c s=(s.take i,s.drop (i+1),true)
 |[],k=>by simp[b9,oZ]
 |x::r,k=>by
  rw[b9,oZ]
  by_cases h:x=c
  ·subst h;right;refine⟨0,by simp,?_,?_⟩
   ·simp
   ·simp
  ·have d:hh x c=false:=by
    cases d:hh x c
    ·rfl
    ·exact(h (hm d)).elim
   rw[d,if_neg h,cond_false];rcases MY c r (k+1)with⟨e,a,b⟩|⟨i,e,a,b⟩
   ·left;exact⟨e,a,by rw[b]⟩
   ·right;refine⟨i+1,by simp;omega,?_,?_⟩
    ·rw[a];congr 1;omega
    ·rw[b];simp
theorem D9(n:Nat):et (be n)=bh n:=by
 induction n using Nat.strongRecOn with
 |ind n a=>
  rw[be]
  by_cases h:n<10
  ·rw[dif_pos h,bh];have c:nd n<=1:=sd (by omega);rw[show max 1 (nd n)=1 by omega];rw[show(1:Nat)=0+1 from rfl,tI,low,List.nil_append,g0 h];simp[et,hM];omega
  ·rw[dif_neg h];have b:=a (n/10) (by omega);have e:nd n=nd (n/10)+1:=by
    have:=D4 (n:=n) (k:=1) (by omega);rw[ha]at this;exact this
   have d:0<nd (n/10):=zZ (by omega);rw[bh,e,show max 1 (nd (n/10)+1)=max 1 (nd (n/10))+1 by omega,tI];have:et (be (n/10)++[hL (48+n% 10)])=et (be (n/10))++[48+n% 10]:=by
    simp[et,hM];omega
   rw[this,b,bh]
theorem aJi(z:Int):et (b5 z)=bN z:=by
 rw[b5,bN]
 by_cases h:z<0
 ·rw[if_pos h,if_pos h];show 45::et _=_;rw[D9]
 ·rw[if_neg h,if_neg h,D9];congr 1;omega
def sO(s:List Nat):Nat->List Nat
 |0=>[]
 |n+1=>s++sO s n
theorem Ma(s:List UInt8):∀n,sO (et s) n=et (b3 s n)
 |0=>by simp[sO,b3,et]
 |n+1=>by
  have a:=Ma s n;simp only[et]at a;simp[sO,b3,et,a]
theorem CR(c:Nat):∀n,sO [c] n=fd n c
 |0=>rfl
 |n+1=>by rw[sO,CR c n];rfl
theorem Cl(l:List UInt8):bI l [45]=bZ (et l):=by
 cases l with
 |nil=>rfl
 |cons c r=>
  rw[bI,bZ];simp only[et,fl,List.isPrefixOf,fw,ax,Option.some.injEq]
  by_cases h:c=45
  ·subst h;rfl
  ·have a:¬c.toNat=45:=fun e=>h (hK.1 e);have b:((45:UInt8)==c)=false:=by simpa using fun e=>h e.symm
   rw[b];simp[a]
theorem JK(l:List UInt8):et (bv l [45])=df (et l):=by
 rw[bv,Cl,df];cases h:bZ (et l)
 ·simp
 ·cases l with
  |nil=>simp[et,bZ]at h
  |cons c r=>simp[et]
def lP(s:List Nat):List Nat:=s.dropWhile cr
def jj(s:List Nat):List Nat:=(s.reverse.dropWhile cr).reverse
theorem yf{p:Nat->Bool}:∀{s:List Nat},s.dropWhile p=[]↔s.all p=true
 |[]=>by simp
 |x::r=>by
  rw[List.dropWhile_cons];cases h:p x
  ·simp[h]
  ·simp[h,yf]
theorem WH(s:List Nat):lP (jj s)=[]↔s.all cr=true:=by
 rw[lP,yf,jj];constructor
 ·intro h
  by_cases a:s.reverse.dropWhile cr=[]
  ·rw[yf,e9]at a;exact a
  ·have b:=List.head_dropWhile_not cr a;rw[e9,fv]at h;rw[h _ (List.head_mem a)]at b;cases b
 ·intro h;have:s.reverse.dropWhile cr=[]:=by rw[yf,e9];exact h
  rw[this];rfl
end Go.ah
namespace Go.Proofs
open Go.Shelf
def Tryz.VX:da:=⟨fun|103=>316|210=>345|206=>340|n=>n,fun|9=>9|4=>4|24=>372|3=>3|n=>n,fun|n=>n⟩
theorem Tryz.aJo:cy prog VX:={
 mixed:=by kernel_rfl
 f103:=func316.trans (congrArg some (by kernel_rfl))
 f206:=func340.trans (congrArg some (by kernel_rfl))
 f210:=func345.trans (congrArg some (by kernel_rfl))
 t3:=underlying3
 a3:=isAgg3
 z3:=sizeOf3
 v3:=zeroValue3
 t4:=underlying4
 a4:=isAgg4
 z4:=sizeOf4
 v4:=zeroValue4
 t9:=underlying9
 a9:=isAgg9
 z9:=sizeOf9
 v9:=zeroValue9
 t24:=underlying372
 a24:=isAgg372
 z24:=sizeOf372
 v24:=zeroValue372}
open Go.RowKit in
theorem Tryz.strings_CutPrefix(s p:ByteArray)(w:a7):
 a8 prog 316 #[.string s,.string p] w fun e w'=>e=.returned (.tuple #[.string ⟨(bv s.data.toList p.data.toList).toArray⟩,.bool (bI s.data.toList p.data.toList)])/\w'=w:=Any.strings_CutPrefix aJo s p w
def Tryz.VS:da:=⟨fun|283=>349|n=>n,fun|3=>3|9=>9|4=>4|n=>n,fun|n=>n⟩
theorem Tryz.aJu:ck prog VS:={
 mixed:=by kernel_rfl
 f283:=func349.trans (congrArg some (by kernel_rfl))
 t3:=underlying3
 a3:=isAgg3
 z3:=sizeOf3
 v3:=zeroValue3
 t4:=underlying4
 a4:=isAgg4
 z4:=sizeOf4
 v4:=zeroValue4
 t9:=underlying9
 a9:=isAgg9
 z9:=sizeOf9
 v9:=zeroValue9}
open Go.Lib in
theorem Tryz.internal_strconv_small(i:Nat)(h:i<100)(w:a7):
 a8 prog 349 #[.int .i64 i] w fun e w'=>e=.returned (.string ⟨(be i).toArray⟩)/\w'=w:=Any.internal_strconv_small aJu i h w
def Tryz.Vh:da:=⟨fun|284=>350|129=>321|317=>372|318=>373|n=>n,fun|53=>320|3=>3|212=>415|0=>0|4=>4|46=>369|5=>5|9=>9|n=>n,fun|17=>3|n=>n⟩
theorem Tryz.YW:Go.Proofs.LaysM.n284 prog Vh:={
 mixed:=by kernel_rfl
 f129:=func321.trans (congrArg some (by kernel_rfl))
 f284:=func350.trans (congrArg some (by kernel_rfl))
 f317:=func372.trans (congrArg some (by kernel_rfl))
 f318:=func373.trans (congrArg some (by kernel_rfl))
 t0:=underlying0
 a0:=isAgg0
 z0:=sizeOf0
 v0:=zeroValue0
 t3:=underlying3
 a3:=isAgg3
 z3:=sizeOf3
 v3:=zeroValue3
 t4:=underlying4
 a4:=isAgg4
 z4:=sizeOf4
 v4:=zeroValue4
 t5:=underlying5
 a5:=isAgg5
 z5:=sizeOf5
 v5:=zeroValue5
 t9:=underlying9
 a9:=isAgg9
 z9:=sizeOf9
 v9:=zeroValue9
 t46:=underlying369
 a46:=isAgg369
 z46:=sizeOf369
 v46:=zeroValue369
 t53:=underlying320
 a53:=isAgg320
 z53:=sizeOf320
 v53:=zeroValue320
 t212:=underlying415
 a212:=isAgg415
 z212:=sizeOf415
 v212:=zeroValue415
 g17:=by kernel_rfl
 i0:=by kernel_rfl
 i3:=by kernel_rfl
 i4:=by kernel_rfl
 i5:=by kernel_rfl
 i9:=by kernel_rfl
 i46:=by kernel_rfl
 i53:=by kernel_rfl
 i212:=by kernel_rfl
 m17:=by kernel_rfl}
open Go.Lib in
theorem Tryz.internal_strconv_numDigits(u:Nat)(h1:1<=u)(h2:u<18446744073709551616)(w:a7)(htab:b2 prog w "internal/strconv.uint64pow10" .u64 bV):
 a8 prog 350 #[.int .u64 u] w fun e w'=>e=.returned (.int .i64 (bi u))/\w'=w:=Any.internal_strconv_numDigits YW u h1 h2 w htab
def Tryz.VR:da:=⟨fun|285=>351|n=>n,fun|37=>352|53=>320|3=>3|4=>4|51=>395|9=>9|5=>5|0=>0|n=>n,fun|n=>n⟩
theorem Tryz.aJv:ch prog VR:={
 mixed:=by kernel_rfl
 f285:=func351.trans (congrArg some (by kernel_rfl))
 t0:=underlying0
 a0:=isAgg0
 z0:=sizeOf0
 v0:=zeroValue0
 t3:=underlying3
 a3:=isAgg3
 z3:=sizeOf3
 v3:=zeroValue3
 t4:=underlying4
 a4:=isAgg4
 z4:=sizeOf4
 v4:=zeroValue4
 t5:=underlying5
 a5:=isAgg5
 z5:=sizeOf5
 v5:=zeroValue5
 t9:=underlying9
 a9:=isAgg9
 z9:=sizeOf9
 v9:=zeroValue9
 t37:=underlying352
 a37:=isAgg352
 z37:=sizeOf352
 v37:=zeroValue352
 t51:=underlying395
 a51:=isAgg395
 z51:=sizeOf395
 v51:=zeroValue395
 t53:=underlying320
 a53:=isAgg320
 z53:=sizeOf320
 v53:=zeroValue320}
open Go.RowKit Go.Sort Go.Lib in
theorem Tryz.internal_strconv_formatBase10(au off cap:Nat)(u:Nat)(d:Array UInt8)(w:a7)(hH:Holds (fun(b:UInt8)=>dg .u8 (b.toNat:Int)) w au off d)(hu:u<10^d.size)(hu64:u<18446744073709551616)(hsz:d.size<4611686018427387904):
 a8 prog 351 #[.slice (some ⟨au,off,none⟩) d.size cap,.int .u64 u] w fun e w'=>
  e=.returned (.tuple #[])/\∃(n v':Nat)(dk:Array UInt8),w'=(putRow (fun(b:UInt8)=>dg .u8 (b.toNat:Int)) w au off dk).drewN n/\FmtInv d.size u 0 v' dk:=Any.internal_strconv_formatBase10 aJv au off cap u d w hH hu hu64 hsz
def Tryz.U4:da:=⟨fun|171=>295|243=>329|246=>348|283=>349|284=>350|285=>351|286=>352|129=>321|317=>372|318=>373|319=>374|320=>375|337=>386|338=>387|n=>n,fun|3=>3|9=>9|2=>2|4=>4|171=>391|0=>0|53=>320|37=>352|5=>5|173=>393|212=>415|51=>395|20=>20|213=>416|46=>369|232=>436|233=>437|n=>n,fun|17=>3|18=>6|19=>7|n=>n⟩
theorem Tryz.YX:Go.Proofs.LaysM.n171 prog U4:={
 mixed:=by kernel_rfl
 f129:=func321.trans (congrArg some (by kernel_rfl))
 f171:=func295.trans (congrArg some (by kernel_rfl))
 f243:=func329.trans (congrArg some (by kernel_rfl))
 f246:=func348.trans (congrArg some (by kernel_rfl))
 f283:=func349.trans (congrArg some (by kernel_rfl))
 f284:=func350.trans (congrArg some (by kernel_rfl))
 f285:=func351.trans (congrArg some (by kernel_rfl))
 f286:=func352.trans (congrArg some (by kernel_rfl))
 f317:=func372.trans (congrArg some (by kernel_rfl))
 f318:=func373.trans (congrArg some (by kernel_rfl))
 f319:=func374.trans (congrArg some (by kernel_rfl))
 f320:=func375.trans (congrArg some (by kernel_rfl))
 f337:=func386.trans (congrArg some (by kernel_rfl))
 f338:=func387.trans (congrArg some (by kernel_rfl))
 t0:=underlying0
 a0:=isAgg0
 z0:=sizeOf0
 v0:=zeroValue0
 t2:=underlying2
 a2:=isAgg2
 z2:=sizeOf2
 v2:=zeroValue2
 t3:=underlying3
 a3:=isAgg3
 z3:=sizeOf3
 v3:=zeroValue3
 t4:=underlying4
 a4:=isAgg4
 z4:=sizeOf4
 v4:=zeroValue4
 t5:=underlying5
 a5:=isAgg5
 z5:=sizeOf5
 v5:=zeroValue5
 t9:=underlying9
 a9:=isAgg9
 z9:=sizeOf9
 v9:=zeroValue9
 t20:=underlying20
 a20:=isAgg20
 z20:=sizeOf20
 v20:=zeroValue20
 t37:=underlying352
 a37:=isAgg352
 z37:=sizeOf352
 v37:=zeroValue352
 t46:=underlying369
 a46:=isAgg369
 z46:=sizeOf369
 v46:=zeroValue369
 t51:=underlying395
 a51:=isAgg395
 z51:=sizeOf395
 v51:=zeroValue395
 t53:=underlying320
 a53:=isAgg320
 z53:=sizeOf320
 v53:=zeroValue320
 t171:=underlying391
 a171:=isAgg391
 z171:=sizeOf391
 v171:=zeroValue391
 t173:=underlying393
 a173:=isAgg393
 z173:=sizeOf393
 v173:=zeroValue393
 t212:=underlying415
 a212:=isAgg415
 z212:=sizeOf415
 v212:=zeroValue415
 t213:=underlying416
 a213:=isAgg416
 z213:=sizeOf416
 t232:=underlying436
 a232:=isAgg436
 z232:=sizeOf436
 v232:=zeroValue436
 t233:=underlying437
 a233:=isAgg437
 z233:=sizeOf437
 v233:=zeroValue437
 g17:=by kernel_rfl
 g18:=by kernel_rfl
 g19:=by kernel_rfl
 i0:=by kernel_rfl
 i2:=by kernel_rfl
 i3:=by kernel_rfl
 i4:=by kernel_rfl
 i5:=by kernel_rfl
 i9:=by kernel_rfl
 i20:=by kernel_rfl
 i37:=by kernel_rfl
 i46:=by kernel_rfl
 i51:=by kernel_rfl
 i53:=by kernel_rfl
 i171:=by kernel_rfl
 i173:=by kernel_rfl
 i212:=by kernel_rfl
 i232:=by kernel_rfl
 i233:=by kernel_rfl
 m17:=by kernel_rfl
 m18:=by kernel_rfl
 m19:=by kernel_rfl}
open Go.RowKit Go.Sort Go.Lib in
theorem Tryz.strconv_Itoa(n:Int)(h0: -9223372036854775808<=n)(h1:n<=9223372036854775807)(w:a7)(htab:b2 prog w "internal/strconv.uint64pow10" .u64 bV):
 a8 prog 295 #[.int .i64 n] w fun e w'=>e=.returned (.string ⟨(b5 n).toArray⟩)/\∃k os,w'=grow (w.drewN k) os:=Any.strconv_Itoa YX n h0 h1 w htab
def Tryz.U5:da:=⟨fun|172=>303|244=>341|245=>342|247=>360|279=>361|280=>362|281=>363|282=>364|287=>379|316=>380|171=>295|205=>381|321=>388|322=>389|243=>329|246=>348|283=>349|284=>350|285=>351|286=>352|129=>321|317=>372|318=>373|319=>374|320=>375|337=>386|338=>387|n=>n,fun|9=>9|3=>3|75=>356|76=>357|4=>4|5=>5|167=>401|37=>352|0=>0|85=>402|2=>2|168=>404|53=>320|175=>420|46=>369|210=>424|127=>385|145=>434|143=>432|21=>21|171=>391|173=>393|212=>415|51=>395|20=>20|213=>416|232=>436|233=>437|80=>297|n=>n,fun|15=>4|16=>5|17=>3|18=>6|19=>7|n=>n⟩
theorem Tryz.YY:Go.Proofs.LaysC.n172 prog U5:={
 mixed:=by kernel_rfl
 f129:=func321.trans (congrArg some (by kernel_rfl))
 f171:=func295.trans (congrArg some (by kernel_rfl))
 f172:=func303.trans (congrArg some (by kernel_rfl))
 f205:=func381.trans (congrArg some (by kernel_rfl))
 f243:=func329.trans (congrArg some (by kernel_rfl))
 f244:=func341.trans (congrArg some (by kernel_rfl))
 f245:=func342.trans (congrArg some (by kernel_rfl))
 f246:=func348.trans (congrArg some (by kernel_rfl))
 f247:=func360.trans (congrArg some (by kernel_rfl))
 f279:=func361.trans (congrArg some (by kernel_rfl))
 f280:=func362.trans (congrArg some (by kernel_rfl))
 f281:=func363.trans (congrArg some (by kernel_rfl))
 f282:=func364.trans (congrArg some (by kernel_rfl))
 f283:=func349.trans (congrArg some (by kernel_rfl))
 f284:=func350.trans (congrArg some (by kernel_rfl))
 f285:=func351.trans (congrArg some (by kernel_rfl))
 f286:=func352.trans (congrArg some (by kernel_rfl))
 f287:=func379.trans (congrArg some (by kernel_rfl))
 f316:=func380.trans (congrArg some (by kernel_rfl))
 f317:=func372.trans (congrArg some (by kernel_rfl))
 f318:=func373.trans (congrArg some (by kernel_rfl))
 f319:=func374.trans (congrArg some (by kernel_rfl))
 f320:=func375.trans (congrArg some (by kernel_rfl))
 f321:=func388.trans (congrArg some (by kernel_rfl))
 f322:=func389.trans (congrArg some (by kernel_rfl))
 f337:=func386.trans (congrArg some (by kernel_rfl))
 f338:=func387.trans (congrArg some (by kernel_rfl))
 t0:=underlying0
 a0:=isAgg0
 z0:=sizeOf0
 v0:=zeroValue0
 t2:=underlying2
 a2:=isAgg2
 z2:=sizeOf2
 v2:=zeroValue2
 t3:=underlying3
 a3:=isAgg3
 z3:=sizeOf3
 v3:=zeroValue3
 t4:=underlying4
 a4:=isAgg4
 z4:=sizeOf4
 v4:=zeroValue4
 t5:=underlying5
 a5:=isAgg5
 z5:=sizeOf5
 v5:=zeroValue5
 t9:=underlying9
 a9:=isAgg9
 z9:=sizeOf9
 v9:=zeroValue9
 t20:=underlying20
 a20:=isAgg20
 z20:=sizeOf20
 v20:=zeroValue20
 t21:=underlying21
 a21:=isAgg21
 z21:=sizeOf21
 v21:=zeroValue21
 t37:=underlying352
 a37:=isAgg352
 z37:=sizeOf352
 v37:=zeroValue352
 t46:=underlying369
 a46:=isAgg369
 z46:=sizeOf369
 v46:=zeroValue369
 t51:=underlying395
 a51:=isAgg395
 z51:=sizeOf395
 v51:=zeroValue395
 t53:=underlying320
 a53:=isAgg320
 z53:=sizeOf320
 v53:=zeroValue320
 t75:=underlying356
 a75:=isAgg356
 z75:=sizeOf356
 v75:=zeroValue356
 t76:=underlying357
 a76:=isAgg357
 z76:=sizeOf357
 v76:=zeroValue357
 t85:=underlying402
 a85:=isAgg402
 z85:=sizeOf402
 v85:=zeroValue402
 t127:=underlying385
 a127:=isAgg385
 z127:=sizeOf385
 v127:=zeroValue385
 t143:=underlying432
 a143:=isAgg432
 z143:=sizeOf432
 v143:=zeroValue432
 t145:=underlying434
 a145:=isAgg434
 z145:=sizeOf434
 v145:=zeroValue434
 t167:=underlying401
 a167:=isAgg401
 z167:=sizeOf401
 v167:=zeroValue401
 t168:=underlying404
 a168:=isAgg404
 z168:=sizeOf404
 v168:=zeroValue404
 t171:=underlying391
 a171:=isAgg391
 z171:=sizeOf391
 v171:=zeroValue391
 t173:=underlying393
 a173:=isAgg393
 z173:=sizeOf393
 v173:=zeroValue393
 t175:=underlying420
 a175:=isAgg420
 z175:=sizeOf420
 v175:=zeroValue420
 t210:=underlying424
 a210:=isAgg424
 z210:=sizeOf424
 v210:=zeroValue424
 t212:=underlying415
 a212:=isAgg415
 z212:=sizeOf415
 v212:=zeroValue415
 t213:=underlying416
 a213:=isAgg416
 z213:=sizeOf416
 t232:=underlying436
 a232:=isAgg436
 z232:=sizeOf436
 v232:=zeroValue436
 t233:=underlying437
 a233:=isAgg437
 z233:=sizeOf437
 v233:=zeroValue437
 g15:=by kernel_rfl
 g16:=by kernel_rfl
 g17:=by kernel_rfl
 g18:=by kernel_rfl
 g19:=by kernel_rfl
 t80:=underlying297
 a80:=isAgg297
 z80:=sizeOf297
 v80:=zeroValue297
 i0:=by kernel_rfl
 i2:=by kernel_rfl
 i3:=by kernel_rfl
 i4:=by kernel_rfl
 i5:=by kernel_rfl
 i9:=by kernel_rfl
 i20:=by kernel_rfl
 i21:=by kernel_rfl
 i37:=by kernel_rfl
 i46:=by kernel_rfl
 i51:=by kernel_rfl
 i53:=by kernel_rfl
 i75:=by kernel_rfl
 i76:=by kernel_rfl
 i80:=by kernel_rfl
 i85:=by kernel_rfl
 i127:=by kernel_rfl
 i143:=by kernel_rfl
 i145:=by kernel_rfl
 i167:=by kernel_rfl
 i168:=by kernel_rfl
 i171:=by kernel_rfl
 i173:=by kernel_rfl
 i175:=by kernel_rfl
 i210:=by kernel_rfl
 i212:=by kernel_rfl
 i232:=by kernel_rfl
 i233:=by kernel_rfl
 m15:=by kernel_rfl
 m16:=by kernel_rfl
 m17:=by kernel_rfl
 m18:=by kernel_rfl
 m19:=by kernel_rfl
 c0:=by kernel_rfl
 c2:=by kernel_rfl
 c3:=by kernel_rfl
 c4:=by kernel_rfl
 c5:=by kernel_rfl
 c9:=by kernel_rfl
 c20:=by kernel_rfl
 c21:=by kernel_rfl
 c37:=by kernel_rfl
 c46:=by kernel_rfl
 c51:=by kernel_rfl
 c53:=by kernel_rfl
 c75:=by kernel_rfl
 c76:=by kernel_rfl
 c80:=by kernel_rfl
 c85:=by kernel_rfl
 c127:=by kernel_rfl
 c143:=by kernel_rfl
 c145:=by kernel_rfl
 c167:=by kernel_rfl
 c168:=by kernel_rfl
 c171:=by kernel_rfl
 c173:=by kernel_rfl
 c175:=by kernel_rfl
 c210:=by kernel_rfl
 c212:=by kernel_rfl
 c213:=by kernel_rfl
 c232:=by kernel_rfl
 c233:=by kernel_rfl}
open Go.RowKit in
theorem Tryz.strconv_Atoi_ok(s:ByteArray)(hmax:s.size<=9223372036854775806)(v:Int)(h:cb s.data.toList= .ok v)(w:a7):
 a8 prog 303 #[.string s] w fun e w'=>e=.returned (.tuple #[.int .i64 v,.nilIface])/\(w'=w\/∃t,w'=Lib.bytesWorld w 5 t):=Any.strconv_Atoi_ok YY s hmax v h w
def Tryz.VU:da:=⟨fun|219=>339|217=>356|225=>357|224=>358|267=>359|266=>377|314=>378|n=>n,fun|9=>9|3=>3|4=>4|5=>5|46=>369|146=>396|51=>395|n=>n,fun|1=>2|n=>n⟩
theorem Tryz.aJs:cv prog VU:={
 mixed:=by kernel_rfl
 f217:=func356.trans (congrArg some (by kernel_rfl))
 f219:=func339.trans (congrArg some (by kernel_rfl))
 f224:=func358.trans (congrArg some (by kernel_rfl))
 f225:=func357.trans (congrArg some (by kernel_rfl))
 f266:=func377.trans (congrArg some (by kernel_rfl))
 f267:=func359.trans (congrArg some (by kernel_rfl))
 f314:=func378.trans (congrArg some (by kernel_rfl))
 t3:=underlying3
 a3:=isAgg3
 z3:=sizeOf3
 v3:=zeroValue3
 t4:=underlying4
 a4:=isAgg4
 z4:=sizeOf4
 v4:=zeroValue4
 t5:=underlying5
 a5:=isAgg5
 z5:=sizeOf5
 v5:=zeroValue5
 t9:=underlying9
 a9:=isAgg9
 z9:=sizeOf9
 v9:=zeroValue9
 t46:=underlying369
 a46:=isAgg369
 z46:=sizeOf369
 v46:=zeroValue369
 t51:=underlying395
 a51:=isAgg395
 z51:=sizeOf395
 v51:=zeroValue395
 t146:=underlying396
 a146:=isAgg396
 z146:=sizeOf396
 v146:=zeroValue396
 g1:=by kernel_rfl}
open Go.RowKit Go.Lib in
theorem Tryz.stringslite_Index_one(s:ByteArray)(c:UInt8)(w:a7):
 a8 prog 339 #[.string s,.string ⟨#[c]⟩] w fun e w'=>e=.returned (.int .i64 (bl s.data.toList c))/\w'=w:=Any.stringslite_Index_one aJs s c w
def Tryz.Wz:da:=⟨fun|99=>302|206=>340|n=>n,fun|9=>9|4=>4|3=>3|n=>n,fun|n=>n⟩
theorem Tryz.aJw:ce prog Wz:={
 mixed:=by kernel_rfl
 f99:=func302.trans (congrArg some (by kernel_rfl))
 f206:=func340.trans (congrArg some (by kernel_rfl))
 t3:=underlying3
 a3:=isAgg3
 z3:=sizeOf3
 v3:=zeroValue3
 t4:=underlying4
 a4:=isAgg4
 z4:=sizeOf4
 v4:=zeroValue4
 t9:=underlying9
 a9:=isAgg9
 z9:=sizeOf9
 v9:=zeroValue9}
open Go.RowKit Go.Lib in
theorem Tryz.strings_HasPrefix(s p:ByteArray)(w:a7):
 a8 prog 302 #[.string s,.string p] w fun e w'=>e=.returned (.bool (bI s.data.toList p.data.toList))/\w'=w:=Any.strings_HasPrefix aJw s p w
def Tryz.VY:da:=⟨fun|101=>284|208=>322|206=>340|n=>n,fun|9=>9|4=>4|3=>3|n=>n,fun|n=>n⟩
theorem Tryz.aJn:c6 prog VY:={
 mixed:=by kernel_rfl
 f101:=func284.trans (congrArg some (by kernel_rfl))
 f206:=func340.trans (congrArg some (by kernel_rfl))
 f208:=func322.trans (congrArg some (by kernel_rfl))
 t3:=underlying3
 a3:=isAgg3
 z3:=sizeOf3
 v3:=zeroValue3
 t4:=underlying4
 a4:=isAgg4
 z4:=sizeOf4
 v4:=zeroValue4
 t9:=underlying9
 a9:=isAgg9
 z9:=sizeOf9
 v9:=zeroValue9}
open Go.RowKit Go.Lib in
theorem Tryz.strings_TrimPrefix(s p:ByteArray)(w:a7):
 a8 prog 284 #[.string s,.string p] w fun e w'=>e=.returned (.string ⟨(bv s.data.toList p.data.toList).toArray⟩)/\w'=w:=Any.strings_TrimPrefix aJn s p w
def Tryz.Jv:da:=⟨fun|105=>298|212=>335|99=>302|165=>336|166=>299|170=>337|169=>300|263=>353|264=>269|206=>340|240=>338|241=>354|276=>355|277=>376|n=>n,fun|9=>9|3=>3|4=>4|20=>20|0=>0|46=>369|109=>382|5=>5|72=>354|76=>357|51=>395|146=>396|53=>320|148=>321|70=>351|37=>352|75=>356|127=>385|164=>398|80=>297|n=>n,fun|n=>n⟩
theorem Tryz.aJp:cx prog Jv:={
 mixed:=by kernel_rfl
 f99:=func302.trans (congrArg some (by kernel_rfl))
 f105:=func298.trans (congrArg some (by kernel_rfl))
 f165:=func336.trans (congrArg some (by kernel_rfl))
 f166:=func299.trans (congrArg some (by kernel_rfl))
 f169:=func300.trans (congrArg some (by kernel_rfl))
 f170:=func337.trans (congrArg some (by kernel_rfl))
 f206:=func340.trans (congrArg some (by kernel_rfl))
 f212:=func335.trans (congrArg some (by kernel_rfl))
 f240:=func338.trans (congrArg some (by kernel_rfl))
 f241:=func354.trans (congrArg some (by kernel_rfl))
 f263:=func353.trans (congrArg some (by kernel_rfl))
 f264:=func269.trans (congrArg some (by kernel_rfl))
 f276:=func355.trans (congrArg some (by kernel_rfl))
 f277:=func376.trans (congrArg some (by kernel_rfl))
 t0:=underlying0
 a0:=isAgg0
 z0:=sizeOf0
 v0:=zeroValue0
 t3:=underlying3
 a3:=isAgg3
 z3:=sizeOf3
 v3:=zeroValue3
 t4:=underlying4
 a4:=isAgg4
 z4:=sizeOf4
 v4:=zeroValue4
 t5:=underlying5
 a5:=isAgg5
 z5:=sizeOf5
 v5:=zeroValue5
 t9:=underlying9
 a9:=isAgg9
 z9:=sizeOf9
 v9:=zeroValue9
 t20:=underlying20
 a20:=isAgg20
 z20:=sizeOf20
 v20:=zeroValue20
 t37:=underlying352
 a37:=isAgg352
 z37:=sizeOf352
 v37:=zeroValue352
 t46:=underlying369
 a46:=isAgg369
 z46:=sizeOf369
 v46:=zeroValue369
 t51:=underlying395
 a51:=isAgg395
 z51:=sizeOf395
 v51:=zeroValue395
 t53:=underlying320
 a53:=isAgg320
 z53:=sizeOf320
 v53:=zeroValue320
 t70:=underlying351
 a70:=isAgg351
 z70:=sizeOf351
 v70:=zeroValue351
 t72:=underlying354
 a72:=isAgg354
 z72:=sizeOf354
 v72:=zeroValue354
 t75:=underlying356
 a75:=isAgg356
 z75:=sizeOf356
 v75:=zeroValue356
 t76:=underlying357
 a76:=isAgg357
 z76:=sizeOf357
 v76:=zeroValue357
 t109:=underlying382
 a109:=isAgg382
 z109:=sizeOf382
 v109:=zeroValue382
 t127:=underlying385
 a127:=isAgg385
 z127:=sizeOf385
 v127:=zeroValue385
 t146:=underlying396
 a146:=isAgg396
 z146:=sizeOf396
 v146:=zeroValue396
 t148:=underlying321
 a148:=isAgg321
 z148:=sizeOf321
 v148:=zeroValue321
 t164:=underlying398
 a164:=isAgg398
 z164:=sizeOf398
 v164:=zeroValue398}
theorem Tryz.UB:Builder.Extra prog Jv:={
 sizeBuilder:=by kernel_rfl
 liesBuilder:=by kernel_rfl
 t5:=underlying5
 a5:=isAgg5
 z5:=sizeOf5
 v5:=zeroValue5
 infoByte:=by kernel_rfl
 cellsByte:=by kernel_rfl
 sizeByte:=by kernel_rfl
 neB5:=by decide}
open Go.RowKit Go.Lib in
theorem Tryz.strings_Repeat(s:ByteArray)(c:Nat)(w:a7)(hc:c<=9223372036854775807)(hlen:s.size*c<=140737488355328):
 a8 prog 298 #[.string s,.int .i64 c] w fun e w'=>e=.returned (.string ⟨(b3 s.data.toList c).toArray⟩)/\Below w.heap.size w w':=Any.strings_Repeat aJp UB s c w hc hlen
end Go.Proofs
namespace Go.Proofs
open Go.Shelf Go.RowKit Go.Sort Go.Lib
set_option maxHeartbeats 6400000 in
set_option maxRecDepth 100000 in
theorem Tryz.Uz(u:Nat)(hu64:u<18446744073709551616)(w:a7)
 (htab:b2 prog w "internal/strconv.uint64pow10" .u64 bV):
 a8 prog 334 #[.int .u64 u,.int .i64 10] w fun e w'=>e=.returned (.string ⟨(be u).toArray⟩)/\∃k os,w'=grow (w.drewN k) os:=by
 have e349:∀args w,(callFunc 349 args).run prog w=.ok (.enter 349 args) w:=enters_of func349 (by kernel_rfl) rfl;have e350:∀args w,(callFunc 350 args).run prog w=.ok (.enter 350 args) w:=enters_of func350 (by kernel_rfl) rfl;have e351:∀args w,(callFunc 351 args).run prog w=.ok (.enter 351 args) w:=enters_of func351 (by kernel_rfl) rfl
 by_cases hs:u<100
 ·go_enter func334,ntmps334
  go_wp2_with (go_at_fn 349;refine(internal_strconv_small u hs _).mono ?_;rintro e w' ⟨rfl,rfl⟩)
  go_ret
  exact⟨rfl,0,#[],by simp[World.drewN_zero]⟩
 ·have hu1:1<=u:=by omega
  have hnd20:bi u<=20:=by have:=Lib.numDigits_eq u hu1 hu64;split at this<;>omega
  have hb3:bi u<=24:=by omega
  have hal:prog.arrayLen 391=24:=by kernel_rfl
  have hsl1:∀W,(Instr.sliceAt 391 (.pointer (some ⟨w.heap.size,0,none⟩)) none (some (.int .i64 (bi u:Int))) none).run prog W=.ok (.slice (some ⟨w.heap.size,0,none⟩) (bi u) 24) W:=fun W=>by
   rw[run_sliceAt_array_h W 391 ⟨w.heap.size,0,none⟩ (by kernel_rfl) .i64 (bi u:Int) (by omega) (by rw[hal];omega)]
   go_simp
  have hH0:=Lib.holds_zero0 w 391 (bi u) hb3;have hfmt:=internal_strconv_formatBase10 w.heap.size 0 24 u (Array.replicate (bi u) 0) (w.alloc (.cells bp 391)) hH0 (by rw[am];exact Lib.lt_pow_nDigits u) hu64 (by rw[am];omega);rw[am]at hfmt;have HH0:=Lib.hid hH0;clear hH0 hal
  go_enter func334,ntmps334
  go_wp2_with (first
   |(go_at_fn 350;refine(internal_strconv_numDigits u hu1 hu64 _ (Lib.tabIs_alloc htab _)).mono ?_;rintro e w' ⟨rfl,rfl⟩))
  go_at_fn 351
  refine hfmt.mono ?_;rintro e w' ⟨rfl,k,v',dk,rfl,hF⟩;have hcv:(convert 352 9 (.slice (some ⟨w.heap.size,0,none⟩) (bi u) 24)).run prog ((putRow (fun(b:UInt8)=>dg .u8 (b.toNat:Int)) (w.alloc (.cells bp 391)) w.heap.size 0 dk).drewN k)=.ok (.string ⟨(be u).toArray⟩) ((putRow (fun(b:UInt8)=>dg .u8 (b.toNat:Int)) (w.alloc (.cells bp 391)) w.heap.size 0 dk).drewN k):=by
   have h:=run_convert_bytes_back (P:=prog) ((putRow (fun(b:UInt8)=>dg .u8 (b.toNat:Int)) (w.alloc (.cells bp 391)) w.heap.size 0 dk).drewN k) 352 9 5 ⟨w.heap.size,0,none⟩ 24 (be u) (by kernel_rfl) (by kernel_rfl) (by kernel_rfl) (fun j hj=>by
    rw[Lib.row_is_numeral hF j hj,Lib.add_plain,World.cell?_drewN];exact cell?_putRow (fun(b:UInt8)=>dg .u8 (b.toNat:Int)) _ w.heap.size 0 _ dk HH0.out (by rw[hF.size,am]) j (by rw[hF.size];rw[b4]at hj;exact hj))
   rw[b4]at h;exact h
  go_wp2
  go_ret
  obtain⟨os,eo⟩:=Lib.fin_at w (.cells bp 391) dk k 0;exact⟨rfl,k,os,eo⟩
end Go.Proofs
namespace Go.ah
open Go.Proofs
theorem zj{P:Program}{w:a7}{ad:Nat->Prop}(l:List UInt8):aF P w ad (.str (et l)) (.string ⟨l.toArray⟩):=by
 simp only[aF];exact⟨_,rfl,by simp[et]⟩
theorem rI{P:Program}{w:a7}{ad:Nat->Prop}{s:List Nat}{v:Value}(h:aF P w ad (.str s) v):∃bs:ByteArray,v=.string bs/\s=et bs.data.toList:=by
 simp only[aF]at h;obtain⟨bs,rfl,rfl⟩:=h;exact⟨bs,rfl,rfl⟩
theorem MF{w:a7}{ad:Nat->Prop}{c:Nat}{v:Value}(h:aF prog w ad (.str [c]) v):∃b:UInt8,v=.string ⟨#[b]⟩/\c=b.toNat:=by
 obtain⟨bs,rfl,f⟩:=rI h;clear h;have h:=f;clear f
 match e:bs.data.toList with
 |[]=>rw[e]at h;simp[et]at h
 |[b]=>
  rw[e]at h;simp[et]at h;refine⟨b,?_,h⟩;congr 1;cases bs with
  |mk d=>simp at e⊢;exact Array.ext' (by simpa using e)
 |a::b::r=>rw[e]at h;simp[et]at h
theorem Ea{w:a7}{ad:Nat->Prop}{v:Value}(h:aF prog w ad (.str [45]) v):v=.string ⟨#[45]⟩:=by
 obtain⟨b,rfl,a⟩:=MF h;have:b=45:=hK.1 a.symm;rw[this]
theorem aob(s:List Nat)(c:Nat):ar prog 339 [.str s,.str [c]] (.int .i64 (oZ c s 0)):=by
 refine me (kJ func339 (by kernel_rfl)) fun w ad g _ _ f=>?_;obtain⟨x,y,rfl,a,d⟩:=qY f;obtain⟨b,rfl,rfl⟩:=MF d;obtain⟨bs,rfl,rfl⟩:=rI a;refine(stringslite_Index_one bs b w).mono ?_;rintro e w' ⟨rfl,rfl⟩;refine⟨_,rfl,⟨gm _,fun _ _=>rfl,rfl,rfl⟩,fun w ad=>?_⟩;have e1:=MX b bs.data.toList 0;simp only[aF]at e1⊢;rw[e1]
 by_cases h:bl bs.data.toList b= -1<;>simp[h]
theorem aht(s:List Nat)(c:Nat)(h:s.length<=1048576):ar prog 301 [.str s,.str [c]] (.aE [.str (b9 c s).1,.str (b9 c s).2.1,.bool (b9 c s).2.2]):=by
 refine aI nf IF mix (by simp[f301]) ?_;simp[f301];refine c2 (aob s c) ?_;rcases MY c s 0 with⟨_,a,b⟩|⟨i,d,a,b⟩
 ·simp[a,b]
 ·rw[hA]at a;have w:=bR (i:=i) (by omega);have e1:((i:Int)+1).toNat=i+1:=by omega
  simp[a,b,w,e1];omega
theorem QK(s:List Nat)(c:Nat)(h:s.length<=1048576):ar prog 241 [.str s,.str [c]] (.aE [.str (b9 c s).1,.str (b9 c s).2.1,.bool (b9 c s).2.2]):=by
 refine aI nf Gr mix (by simp[f241]) ?_;simp[f241];refine c2 (aht s c h) ?_;simp
theorem ZQ(s:List Nat):ar prog 302 [.str s,.str [45]] (.bool (bZ s)):=by
 refine me (kJ func302 (by kernel_rfl)) fun w ad d _ _ c=>?_;obtain⟨x,y,rfl,a,b⟩:=qY c;obtain rfl:=Ea b;obtain⟨bs,rfl,rfl⟩:=rI a;refine(strings_HasPrefix bs _ w).mono ?_;rintro e w' ⟨rfl,rfl⟩;exact⟨_,rfl,⟨gm _,fun _ _=>rfl,rfl,rfl⟩,fun w ad=>by rw[<-Cl];simp only[aF]⟩
theorem Ll(s:List Nat):ar prog 284 [.str s,.str [45]] (.str (df s)):=by
 refine me (kJ func284 (by kernel_rfl)) fun w ad d _ _ c=>?_;obtain⟨x,y,rfl,a,b⟩:=qY c;obtain rfl:=Ea b;obtain⟨bs,rfl,rfl⟩:=rI a;refine(strings_TrimPrefix bs _ w).mono ?_;rintro e w' ⟨rfl,rfl⟩;exact⟨_,rfl,⟨gm _,fun _ _=>rfl,rfl,rfl⟩,fun w ad=>by rw[<-JK];exact zj _⟩
theorem Zq(s:List Nat):ar prog 316 [.str s,.str [45]] (.aE [.str (df s),.bool (bZ s)]):=by
 refine me (kJ func316 (by kernel_rfl)) fun w ad d _ _ c=>?_;obtain⟨x,y,rfl,a,b⟩:=qY c;obtain rfl:=Ea b;obtain⟨bs,rfl,rfl⟩:=rI a;refine(strings_CutPrefix bs _ w).mono ?_;rintro e w' ⟨rfl,rfl⟩;refine⟨_,rfl,⟨gm _,fun _ _=>rfl,rfl,rfl⟩,fun w ad=>?_⟩;rw[<-JK,<-Cl];simp only[aF,bL];refine⟨[_,_],⟨_,_,rfl,?_,_,_,rfl,rfl,rfl⟩,rfl⟩;exact⟨_,rfl,by simp[et]⟩
theorem OM{w:a7}{ad:Nat->Prop}(b:nr prog w ad):b2 prog w "internal/strconv.uint64pow10" .u64 bV:=by
 obtain⟨_,T,a⟩:=b.raw 3 _ rfl;have c:prog.globalNamed "internal/strconv.uint64pow10" =some 3:=by kernel_rfl
 simp only[b2,World.var?,c,Option.bind_some,a];rfl
theorem aof(n:Int)(b:-9223372036854775808<=n)(c:n<=9223372036854775807):ar prog 295 [.int .i64 n] (.str (bN n)):=by
 refine me (kJ func295 (by kernel_rfl)) fun w ad g _ f d=>?_;obtain⟨x,rfl,a⟩:=zi d;simp only[aF]at a;subst a;refine(strconv_Itoa n b c w (OM f)).mono ?_;rintro e w' ⟨rfl,k,os,rfl⟩;refine⟨_,rfl,⟨?_,fun k hk=>?_,rfl,rfl⟩,fun w ad=>?_⟩
 ·simp[db,World.drewN]
 ·simp only[db];exact ao hk
 ·rw[<-aJi];exact zj _
theorem amY(u:Nat)(f:u<18446744073709551616):ar prog 334 [.int .u64 u,.int .i64 10] (.str (bh u)):=by
 refine me (kJ func334 (by kernel_rfl)) fun w ad g _ d c=>?_;obtain⟨x,y,rfl,a,b⟩:=qY c;simp only[aF]at a b;subst a b;refine(Uz u f w (OM d)).mono ?_;rintro e w' ⟨rfl,k,os,rfl⟩;refine⟨_,rfl,⟨?_,fun k hk=>?_,rfl,rfl⟩,fun w ad=>?_⟩
 ·simp[db,World.drewN]
 ·simp only[db];exact ao hk
 ·rw[<-D9];exact zj _
theorem QL(u:Nat)(a:u<18446744073709551616):ar prog 297 [.int .u64 u,.int .i64 10] (.str (bh u)):=by
 refine aI nf Pg mix (by simp[f297]) ?_;simp[f297];refine c2 (amY u a) ?_;simp
theorem QM(s:List Nat)(c:Nat)(hc:c<=9223372036854775807)(g:s.length*c<=140737488355328):ar prog 298 [.str s,.int .i64 c] (.str (sO s c)):=by
 refine me (kJ func298 (by kernel_rfl)) fun w ad h _ i f=>?_;obtain⟨x,y,rfl,d,b⟩:=qY f;obtain⟨bs,rfl,rfl⟩:=rI d;simp only[aF]at b;subst b;refine(strings_Repeat bs c w hc (by simpa[et]using g)).mono ?_;rintro e w' ⟨rfl,a⟩;exact⟨_,rfl,⟨a.size,a.block,a.os,a.output⟩,fun w ad=>by
  rw[Ma];exact zj _⟩
theorem agt(s:List Nat)(v:Int)(h:cb (s.map hL)=.ok v)(d:s.length<=9223372036854775806):ar prog 303 [.str s] (.aE [.int .i64 v,.gB]):=by
 refine me (kJ func303 (by kernel_rfl)) fun w ad g _ i c=>?_;obtain⟨x,rfl,b⟩:=zi c;obtain⟨bs,rfl,rfl⟩:=rI b;rw[V9]at h;refine(strconv_Atoi_ok bs (by simpa[et]using d) v h w).mono ?_;rintro e w' ⟨rfl,f⟩;refine⟨_,rfl,?_,fun w ad=>by simp[aF,bL]⟩;rcases f with rfl|⟨t,rfl⟩
 ·exact⟨gm _,fun _ _=>rfl,rfl,rfl⟩
 ·have a:=Lib.bytesWorld_below w 5 t;exact⟨a.size,a.block,a.os,a.output⟩
def tB:Nat:=1000000000000000000
theorem DS:tB=10^18:=by decide
theorem MM:∀i,low i 0=fd i 48
 |0=>rfl
 |i+1=>by rw[tI,Nat.zero_div,MM i,List.replicate_succ']
theorem Sl{r:Nat}(h:r<tB):fd (18-(bh r).length) 48++bh r=low 18 r:=by
 rw[ry,bh];have c:nd r<=18:=sd (by rw[<-DS];exact h);obtain⟨k,hk⟩:∃k,k=max 1 (nd r):=⟨_,rfl⟩
 have d:k<=18:=by omega
 have b:r<10^k:=gj (C6 r) (gi (by decide) (by omega));rw[<-hk];have:=rC (18-k) r (a:=k);have e:low 18 r=low (18-k) (r/10^k)++low k r:=by
  have:=rC k r (18-k);rw[show 18-k+k=18 by omega]at this;exact this
 rw[e,hy b,MM]
theorem DA{r:Nat}(h:r<tB):(bh r).length<=18:=by
 rw[ry];have a:nd r<=18:=sd (by rw[<-DS];exact h);omega
theorem Yk{m:Nat}(h:tB<=m):bh m=bh (m/tB)++low 18 (m% tB):=by
 rw[DS]at h⊢;have e:=D4 (n:=m) (k:=18) h;have a:0<nd (m/10^18):=zZ (hp h (gw (by decide)));rw[bh,bh,show max 1 (nd m)=max 1 (nd (m/10^18))+18 by omega,rC,Dr m 18 18 (gm _)]
def jT(m:Nat)(a:List (List Nat)):List Nat:=(if m=0 then[]else bh m)++a.reverse.flatten
def eE(m:Nat):List Nat:=if m/tB=0 then bh m else low 18 (m% tB)
theorem LU{m:Nat}(h:m≠0)(c:List (List Nat)):jT (m/tB) (c++[eE m])=jT m c:=by
 rw[jT,jT,if_neg h,eE,List.reverse_append]
 by_cases a:m/tB=0
 ·rw[if_pos a,if_pos a];simp
 ·rw[if_neg a,if_neg a];have:tB<=m:=by
   rcases g6 m tB with b|b
   ·exact(a (hy b)).elim
   ·exact b
  rw[Yk this];simp
theorem Ym(a:List (List Nat)):jT 0 a=a.reverse.flatten:=by rw[jT,if_pos rfl];rfl
theorem zt(n:Nat):0<(bh n).length:=by rw[ry];omega
theorem KQ(m:Nat):eE m≠[]:=by
 intro h;have:(eE m).length=0:=by rw[h];rfl
 rw[eE]at this
 split at this
 ·have:=zt m;omega
 ·rw[rB]at this;omega
theorem KR(m:Nat):(eE m).length<=18:=by
 rw[eE]
 split
 ·rename_i h;have b:m<tB:=by
   rcases g6 m tB with a|a
   ·exact a
   ·have:=hp a (show 0<tB by decide);omega
  exact DA b
 ·rw[rB];exact gm _
theorem MV{c:Nat}(h:cr c=true):c<256:=by
 simp only[cr,ap,decide_eq_true_eq]at h;omega
end Go.ah
namespace Go.Proofs
open Go.ah
theorem Tryz.BJ:prog.underlying 351=some (.pointer 354):=by kernel_rfl
theorem Tryz.I2:prog.underlying 398=some .unsafePointer:=by kernel_rfl
theorem Tryz.IW:(prog.info? 354).map (·.size)=some 2:=by kernel_rfl
theorem Tryz.aJx:liesAt prog prog.depth 354 (2/prog.cellsOf 354) 0 354 1=true:=by kernel_rfl
set_option maxHeartbeats 1000000 in
set_option maxRecDepth 100000 in
theorem Tryz.UH(b:Nat)(w:a7)(h0:w.cell? ⟨b,0,none⟩=some (.pointer (some ⟨b,0,none⟩))):
 a8 prog 338 #[.pointer (some ⟨b,0,none⟩)] w fun e w'=>e=.returned (.tuple #[])/\w'=w:=by
 obtain⟨j,hj,_⟩:=Option.map_eq_some_iff.1 IW
 go_enter func338,ntmps338
 go_wp2
 rw[Lib.run_neq_ptr_same w _ BJ hj]
 go_wp2
 go_end0
 exact⟨rfl,rfl⟩
set_option maxHeartbeats 1000000 in
set_option maxRecDepth 100000 in
theorem Tryz.UI(b:Nat)(w:a7)(h0:w.cell? ⟨b,0,none⟩=some (.pointer none))(hsh:w.shape? b=some (354,2))(hfz:w.frozen? ⟨b,0,none⟩=false):
 a8 prog 338 #[.pointer (some ⟨b,0,none⟩)] w fun e w'=>e=.returned (.tuple #[])/\w'=w.setCell ⟨b,0,none⟩ (.pointer (some ⟨b,0,none⟩)):=by
 obtain⟨j,hj,hjs⟩:=Option.map_eq_some_iff.1 IW
 go_enter func338,ntmps338
 go_wp2
 rw[Lib.run_to_unsafe w ⟨b,0,none⟩ BJ I2 hj (by rw[hjs];decide) hsh (Nat.zero_lt_succ 1)];simp only[Result.andThen];rw[cc]
 go_wp2
 rw[run_callFunc_extern func355 (by kernel_rfl) (by kernel_rfl) (by kernel_rfl) (e:=Extern.AbiNoEscape.same) (by kernel_rfl)];rw[Lib.run_noEscape];simp only[Result.andThen];rw[cc]
 go_wp2
 rw[Lib.run_from_unsafe w ⟨b,0,none⟩ I2 BJ hj hsh aJx];simp only[Result.andThen];rw[cc]
 go_wp2
 go_end0
 exact⟨rfl,rfl⟩
end Go.Proofs
