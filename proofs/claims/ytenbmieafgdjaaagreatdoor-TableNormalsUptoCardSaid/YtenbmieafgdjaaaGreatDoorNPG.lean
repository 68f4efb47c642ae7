import Derived.Test.YtenbmieafgdjaaaGreatDoorNPF
import Derived.Lib.ItoaNum
import Derived.Lib.Strings
import Derived.Lib.Repeat
import Derived.Lib.Bytealg
import Derived.Test.YtenbmieafgdjaaaGreatDoorNThA
import Derived.Test.YtenbmieafgdjaaaGreatDoorNPE
import Derived.Shelf.Strings.Builder1
import Derived.Shelf.Strings.Builder2
import Derived.Shelf.Strings.OnBuilder
import Derived.Shelf.Strings.Trim
import Derived.Shelf.Small.Utf8
import Derived.Shelf.Small.Bits
import Derived.Shelf.Small.Strs
import Derived.Shelf.Small.Wraps
import Derived.Shelf.Strings.BuilderF
import Derived.Shelf.Strconv.Atoi
import Derived.Shelf.Strconv.Itoa0
import Derived.Shelf.Strconv.Itoa1
import Derived.Shelf.LaysM
import Derived.Shelf.Strconv.Itoa2
import Derived.Shelf.Strconv.Itoa3
import Derived.Shelf.Strconv.AtoiErrFast
import Derived.Shelf.Strconv.ParseIntEmpty
import Derived.Shelf.Strconv.AtoiFail
import Derived.Shelf.Strconv.Clone
import Derived.Shelf.Strconv.SyntaxError
import Derived.Shelf.LaysC
import Derived.Shelf.Strconv.ToError
import Derived.Shelf.Strconv.Lower
import Derived.Shelf.Strconv.ParseUint10
import Derived.Shelf.Strconv.ParseUint10Empty
import Derived.Shelf.Strconv.ParseUint10Any
import Derived.Shelf.Strconv.ParseInt10
import Derived.Shelf.Strconv.AtoiLong
import Derived.Shelf.Strconv.AtoiInnerAll
import Derived.Shelf.Strconv.RangeError
import Derived.Shelf.Strconv.ToErrorRange
import Derived.Shelf.Strconv.AtoiAll
import Derived.Shelf.Strings.Search1
import Derived.Shelf.Strings.Search2
import Derived.Shelf.Strings.Search3
import Derived.Shelf.Strings.Cut
import Derived.Shelf.Strings.Count
import Derived.Shelf.Strings.Shaped
import Derived.Shelf.Strings.Prefix
import Derived.Shelf.Strings.Split
import Derived.Shelf.Strings.Runes
import Derived.Shelf.Strings.AsciiSet
import Derived.Shelf.Bits.Mul64
import Derived.Shelf.Strings.Repeat
import Derived.Shelf.Unicode.DecodeSlow
import Derived.Test.YtenbmieafgdjaaaGreatDoorProg
import Derived.Lib.Walk
import Derived.Lib.ItoaMem
import Derived.WalkKit
import Derived.BigCall
import Derived.BigGuard
import Derived.Lib.AppendIntMem
import Derived.Lib.Builder
import Derived.Laws.Externs
import Derived.Shelf.RegionOpenPlain
/- Parts of a proof. -/
set_option linter.unusedSimpArgs false
set_option linter.unusedVariables false
set_option linter.unusedSectionVars false
open Go.Proofs.Tryz
open Array renaming size_replicate->ao, getElem?_append_left->ap
open Bool renaming and_eq_true->av, or_eq_true->ax, and_true->ay, not_eq_true'->aT, false_and->a1, and_false->a6
open Go renaming World->a7, Calls->a8
open Go.IntKind renaming i64->bb
open Go.Lib renaming decDigits->be, nDigits->bi, indexByte->bk, bitLen->bl, zeros24->bo, trimPrefix->br, hasPrefix->bv, pow10Tab->b0, TabIs->b1, repeatL->b2, decDigits_length->b3, itoa->b4, atoiAll->b5
open Go.Oper renaming upon_value->cb
open Go.Proofs.Lays renaming n99->cc, n285->ce, n283->ck, n219->cv, n105->cx, n103->cy, n101->c6
open Go.Shelf renaming Ren->da
open Go.Sort renaming grow->db
open Go.Value renaming int->dg
open Int renaming ediv_emod_unique->dl, natAbs_mul->dp, emod_lt_of_pos->dq, emod_nonneg->dz, ediv_lt_of_lt_mul->ea, tmod_lt_of_pos->eb, natAbs_natCast->ec, lt_tmod_of_pos->ed, mul_ne_zero->ee, natAbs_neg->ei, mul_le_mul->ej, ediv_one->em, mul_sub->en, mul_neg->eq
open List renaming append_nil->ew, all_cons->e6, length_eq_zero_iff->e7, cons_append->e8, all_reverse->e9, dropLast_concat_getLast->fb, replicate->fd, map_cons->fl, length_cons->fm, all_eq_true->fv, head?_cons->fI, foldl_cons->ga, all_append->gb, mem_cons->gc, all_nil->ge
open Nat renaming pow_le_pow_right->gg, lt_of_lt_of_le->gi, le_refl->gj, lt_of_le_of_lt->gl, pow_pos->gm, pow_succ->gt, eq_zero_or_pos->gx, pow_add->gy, mod_eq_of_lt->g0, mul_comm->g5, lt_or_ge->g6, le_trans->g7, add_sub_cancel->g8, pow_zero->g9, pow_one->ha, pow_mul->hb, gcd->hd, le_of_eq->he, le_mul_of_pos_left->hg, beq->hh, le_div_iff_mul_le->hm, eq_of_beq_eq_true->hn, div_lt_iff_lt_mul->ho, mul_le_mul_right->hp, div_pos->hr, mul_le_mul_left->ht, mod_lt->hv, gcd_one_right->hy, div_eq_of_lt->hz, mul_assoc->hA, zero_add->hB, gcd_comm->hC, pow_two->hD
open Rat renaming divInt->hE, num_eq_zero->hG, not_lt->hJ, lt_iff->hK
open UInt8 renaming toNat_inj->hL, ofNat->hM, toNat_ofNat'->hN
namespace Go.au
open Go.Proofs
set_option maxHeartbeats 4000000
set_option maxRecDepth 100000
theorem mv{a b:NI}(h:a.v=b.v)(d:a.v= -9223372036854775808->a.m=b.m):eI a=eI b:=by
 by_cases c:a.v= -9223372036854775808
 ·have:=d c;cases a;cases b;dsimp only at h this;subst h this;rfl
 ·have e:a.sm=b.sm:=by
   simp only[NI.sm,h];rw[h]at c;simp[c]
  rw[iN,iN,e,h]
theorem VL{a b:Int}(c:0<b):(a.tdiv b=a/b/\a.tmod b=a% b/\¬a.tmod b<0)\/(a.tdiv b-1=a/b/\a.tmod b+b=a% b/\a.tmod b<0/\a/b<0):=by
 have f:=Int.tmod_add_mul_tdiv a b;have g:=ed a c;have i:=eb a c
 by_cases h:a.tmod b<0
 ·right;have e:=(dl (a:=a) (r:=a.tmod b+b) (q:=a.tdiv b-1) c).2 ⟨by rw[en];omega,by omega,by omega⟩;have j:a<0:=by
   rcases Int.lt_or_le a 0 with d|d
   ·exact d
   ·have:=Int.tmod_nonneg b d;omega
  have d:a/b<0:=ea c (by omega);omega
 ·left;have e:=(dl (a:=a) (r:=a.tmod b) (q:=a.tdiv b) c).2 ⟨by omega,by omega,by omega⟩;omega
theorem XA{a b:Int}(c:0<b):((if a<0 then -((a.natAbs% b.natAbs:Nat):Int)else(a.natAbs% b.natAbs:Nat))<0/\a/b=(if a<0 then -((a.natAbs/b.natAbs:Nat):Int)else(a.natAbs/b.natAbs:Nat))-1/\a% b=(if a<0 then -((a.natAbs% b.natAbs:Nat):Int)else(a.natAbs% b.natAbs:Nat))+b)\/
 (¬(if a<0 then -((a.natAbs% b.natAbs:Nat):Int)else(a.natAbs% b.natAbs:Nat))<0/\a/b=(if a<0 then -((a.natAbs/b.natAbs:Nat):Int)else(a.natAbs/b.natAbs:Nat))/\a% b=(if a<0 then -((a.natAbs% b.natAbs:Nat):Int)else(a.natAbs% b.natAbs:Nat))):=by
 have e:((b.natAbs:Nat):Int)=b:=by omega
 have f:=Nat.mod_add_div a.natAbs b.natAbs;have g:=hv a.natAbs (show 0<b.natAbs by omega);have i:((a.natAbs% b.natAbs:Nat):Int)+b*(a.natAbs/b.natAbs:Nat)=(a.natAbs:Nat):=by
  rw[<-e,<-Int.natCast_mul,<-Int.natCast_add,e,f]
 generalize a.natAbs% b.natAbs=r at*;generalize a.natAbs/b.natAbs=q at*
 by_cases h:a<0
 ·simp only[if_pos h]
  by_cases j:r=0
  ·right;have d:=(dl (a:=a) (r:=0) (q:=-(q:Int)) c).2 ⟨by rw[eq];omega,by omega,by omega⟩;omega
  ·left;have d:=(dl (a:=a) (r:=-(r:Int)+b) (q:=-(q:Int)-1) c).2 ⟨by rw[en,eq];omega,by omega,by omega⟩;omega
 ·simp only[if_neg h];right;have d:=(dl (a:=a) (r:=(r:Int)) (q:=(q:Int)) c).2 ⟨by omega,by omega,by omega⟩;omega
theorem Jf(a b:NI)(i:0<b.v)(M:okW a.v)(z:okW b.v):az prog 294 [eI a,eI b] (.aC [eI (a.div b),eI (a.mod b)]):=by
 have V:=nj (eI a) a.v (lJ a);have hq:=nj (eI b) b.v (lJ b);have af:=nh M;have ag:=nh z;have O:=Bg a.v.natAbs b.v.natAbs (by omega) (by omega) (by omega);refine aO nf LM mix (by simp[f294]) ?_;simp[f294,-bm];rw[bm];simp[-bm];refine join (fun s=>aM s.env 2=.ptr 0 []/\aM s.env 3=.ptr 1 []/\aM s.env 4=.ptr 2 []/\aM s.env 5=.ptr 3 []/\s.heap=[.box false (.p (eI a)),.box false (.p (eI b)),.box false (.p (.st 129 [.int .i64 0,.aG])),.box false (.p (.st 129 [.int .i64 0,.aG]))]) ?_ ?_
 ·rcases hs:a.sm with _|_
  ·obtain⟨c,cs,l⟩:=nC hs;simp[ad,l,di,cM]
  ·have l:=lG hs;rcases n:b.sm with _|_
   ·obtain⟨c,cs,m⟩:=nC n;simp[ad,l,m,di,cM]
   ·have m:=lG n;have u:=mq hs;have w:=mq n;have al:=NI.oL hs;have am:=NI.oL n
    by_cases t:a.v= -9223372036854775808
    ·simp[ad,l,m,u,w,t,di,cM]
    ·have r:¬b.v=0:=by omega
     have E:-9223372036854775808<a.v/b.v:=by
      have:=Int.le_ediv_of_mul_le (a:=-9223372036854775807) (b:=a.v) i (by omega);omega
     have F:a.v/b.v<9223372036854775808:=ea i (by omega);have G:=dq a.v i;have H:=dz a.v r;have J:eI (a.div b)=eJ (a.v/b.v):=by rw[iN,if_pos (NI.yw E F)];rfl
     have f2:eI (a.mod b)=eJ (a.v% b.v):=nF (by omega) (by omega);rw[J,f2];have aj:=ed a.v i;have ai:=eb a.v i;rcases VL (a:=a.v) i with⟨d1,d2,d3⟩|⟨d1,d2,d3,d4⟩
     ·have q1:bb.wrap (a.v.tdiv b.v)=a.v/b.v:=by rw[d1];exact aN _ (by omega) (by omega)
      simp[ad,l,m,u,w,t,r,di,cM,eJ,d3,q1];exact d2.symm
     ·have q1:bb.wrap (bb.wrap (a.v.tdiv b.v)-1)=a.v/b.v:=by rw[aN (a.v.tdiv b.v) (by omega) (by omega),d1];exact aN _ (by omega) (by omega)
      have Z:bb.wrap (a.v.tmod b.v+b.v)=a.v% b.v:=by rw[d2];exact aN _ (by omega) (by omega)
      simp[ad,l,m,u,w,t,r,di,cM,eJ,d3,q1,Z]
 ·rintro⟨aa,ah⟩ ⟨d,e,f,g,A⟩;dsimp only at d e f g A;subst A;have S:(aq wB (a.v.natAbs/b.v.natAbs)).length<=900000:=by
   have:=dK ba _ _ (gl (Nat.div_le_self a.v.natAbs b.v.natAbs) (cj ba a.v.natAbs));omega
  have T:(aq wB (a.v.natAbs% b.v.natAbs)).length<=900000:=by
   have:=dK ba _ _ (gl (Nat.mod_le a.v.natAbs b.v.natAbs) (cj ba a.v.natAbs));omega
  have C:=uS (decide (a.v<0)) (a.v.natAbs/b.v.natAbs) (by omega);have D:=uS (decide (a.v<0)) (a.v.natAbs% b.v.natAbs) (by omega);have P:=XA (a:=a.v) i;simp only[decide_eq_true_eq]at C D;have ak:=hv a.v.natAbs (show 0<b.v.natAbs by omega);generalize a.v.natAbs/b.v.natAbs=k at*;generalize a.v.natAbs% b.v.natAbs=j at*;have ae:-b.v<(if a.v<0 then -(j:Int)else(j:Int)):=by split<;>omega
  have L:a.v<0->(if a.v<0 then -(j:Int)else(j:Int))<=0:=fun h=>by rw[if_pos h];omega
  have X:okW (if a.v<0 then -(k:Int)else(k:Int)):=by rw[okW];split<;>simpa using S
  have Y:okW (if a.v<0 then -(j:Int)else(j:Int)):=by rw[okW];split<;>simpa using T
  have W:(if a.v<0 then -(k:Int)else(k:Int))= -9223372036854775808->a.v<0:=by split<;>omega
  generalize (if a.v<0 then -(k:Int)else(k:Int))=Q at*;generalize (if a.v<0 then -(j:Int)else(j:Int))=R at*;have y:=su (.mk' R);simp only[NI.ie]at y;have G:=dq a.v i;have H:=dz a.v (show b.v≠0 by omega);simp[d,e,f,g];refine c1 V ?_;simp[d,e,f,g];refine c1 hq ?_;simp[d,e,f,g];refine c2 O ?_;simp;refine c2 C ?_;simp;refine c2 D ?_;simp[d,e,f,g,ad];refine c1 y ?_;rcases P with⟨d1,d2,d3⟩|⟨d1,d2,d3⟩
  ·have B:=CN (.mk' Q) (.of 1) X (by rw[okW];decide);have N:=vc (.mk' R) b Y z;rw[sJ (by decide) (by decide)]at B;have o:eI (a.div b)=eI ((NI.mk' Q).sub (.of 1)):=by
    refine mv (by rw[NI.OY];exact d2) (fun h=>?_);have I:Q= -9223372036854775807:=by have:a.v/b.v= -9223372036854775808:=h;omega
    have U:¬a.v% b.v=0:=by omega
    subst I;show decide (a.v% b.v≠0)=_;simp[U];rfl
   have q:eI (a.mod b)=eI ((NI.mk' R).add b):=mv (by rw[NI.qE];exact d3) (fun h=>by have:a.v% b.v= -9223372036854775808:=h;omega);rw[o,q];simp[d,e,f,g,ad,d1];refine e1 (qK 1) ?_;simp[d,e,f,g,ad];refine e2 B ?_;simp[d,e,f,g,ad];refine e2 N ?_;simp[d,e,f,g,ad];exact⟨rfl,rfl⟩
  ·have o:eI (a.div b)=eI (.mk' Q):=by
    refine mv d2 (fun h=>?_);have ab:a.v/b.v= -9223372036854775808:=h;have ac:=L (W (by omega));have K:a.v% b.v=0:=by omega
    show decide (a.v% b.v≠0)=false;simp[K]
   have q:eI (a.mod b)=eI (.mk' R):=mv d3 (fun h=>by have:a.v% b.v= -9223372036854775808:=h;omega);rw[o,q]
   by_cases x:R=0
   ·simp[d,e,f,g,ad,x]
   ·simp[d,e,f,g,ad,d1,x]
theorem pO{a b:Int}(h:okW b)(c:a.natAbs<=b.natAbs):okW a:=by
 have:=dK ba _ _ (gl c (cj ba b.natAbs));have:=nh h;rw[okW];omega
theorem MU(a b:NI)(e:0<b.v)(d:okW a.v)(f:okW b.v):az prog 254 [eI a,eI b] (eI (a.div b)):=by
 have c:=su b;rw[if_neg (by omega),if_neg (by omega)]at c;refine aO nf LF mix (by simp[f254]) ?_;simp[f254];refine c1 c ?_;simp;refine c2 (Jf a b e d f) ?_;simp[ad]
 done
theorem NI.xK(a:NI):a.abs.v.natAbs=a.v.natAbs:=by
 rw[NI.abs];split
 ·rw[NI.ie,ei]
 ·rfl
theorem NI.MM(a:NI):0<=a.abs.v:=by
 rw[NI.abs];split
 ·rw[NI.ie];omega
 ·omega
def et(a b:Int):Int:=(hd a.natAbs b.natAbs:Nat)
theorem MS(a b:NI)(j:okW a.v)(k:okW b.v):az prog 253 [eI a,eI b] (eI (.mk' (et a.v b.v))):=by
 refine aO nf LG mix (by simp[f253]) ?_;simp[f253];refine e1 (MQ a j) ?_;simp;refine e1 (MQ b k) ?_;simp[ad];refine⟨⟨rfl,rfl⟩,?_⟩;have n:et a.abs.v b.abs.v=et a.v b.v:=by rw[et,et,NI.xK,NI.xK]
 refine lp (α:=NI×NI) (fun x=>⟨[(4,.ptr 2 []),(3,.ptr 1 []),(2,.ptr 0 [])],[.box false (.p (eI x.1)),.box false (.p (eI x.2)),.box false (.p (.st 129 [.int .i64 0,.aG]))]⟩)
  (fun x=>0<=x.1.v/\0<=x.2.v/\okW x.1.v/\okW x.2.v/\et x.1.v x.2.v=et a.v b.v) (fun x=>x.2.v.toNat) (a.abs,b.abs) ⟨NI.MM a,NI.MM b,pO j (he (NI.xK a)),pO k (he (NI.xK b)),n⟩ ?_
 rintro⟨x,y⟩ ⟨l,g,i,c,f⟩;dsimp only at l g i c f;have d:=su y
 by_cases e:y.v=0
 ·rw[if_neg (by omega),if_pos e]at d;have hx:eI (.mk' (et a.v b.v))=eI x:=by
   refine mv ?_ (fun h=>?_)
   ·rw[NI.ie,<-f,e,et];simp;omega
   ·rw[NI.ie,et]at h;omega
  rw[hx];simp;refine c1 d ?_;simp[ad]
 ·rw[if_neg (by omega),if_neg e]at d;have q:=dq x.v (show 0<y.v by omega);have o:=dz x.v e;have m:(x.v% y.v).natAbs=x.v.natAbs% y.v.natAbs:=by
   have e1:(x.v.natAbs:Int)=x.v:=by omega
   have e2:(y.v.natAbs:Int)=y.v:=by omega
   have e3:((x.v.natAbs% y.v.natAbs:Nat):Int)=x.v% y.v:=by rw[Int.natCast_emod,e1,e2]
   omega
  simp;refine c1 d ?_;simp[ad];refine c2 (Jf x y (by omega) i c) ?_;simp[ad];refine⟨rfl,?_⟩;refine rd (y,x.mod y) ⟨g,o,c,pO c (by show(x.v% y.v).natAbs<=_;omega),?_⟩ (by show(x.v% y.v).toNat<y.v.toNat;omega);show et y.v (x.v% y.v)=_;rw[<-f,et,et,m,hC y.v.natAbs,<-Nat.gcd_rec,hC]
theorem aAi{o x k A:Nat}(hx:1<=x)(d:1<=o)(h:o*x^k=A)(hk:1<=k):o*x<=A/\(2<=k->x*x<=A):=by
 have a:x<=x^k:=by
  calc x=x^1:=(ha x).symm
   _<=x^k:=gg hx hk
 refine⟨by rw[<-h];exact ht _ a,fun b=>?_⟩;have c:x*x<=x^k:=by
  calc x*x=x^2:=by rw[hD]
   _<=x^k:=gg hx b
 rw[<-h];exact g7 c (hg _ d)
theorem Wi(a:NI)(n A:Nat)(E:1<=a.v)(q:A=a.v.natAbs^n)(hl:(aq wB A).length<=400000)(F:(aq wB a.v.natAbs).length<=400000)(J:n<=1000000):az prog 278 [eI a,.int .i64 n] (eI (.mk' A)):=by
 refine aO nf D7 mix (by simp[f278]) ?_;simp[f278];refine c1 (qK 1) ?_;rw[show eJ 1=eI (.of 1)from(sJ (by decide) (by decide)).symm];simp[ad];refine lp (α:=Nat×NI×NI) (fun s=>⟨[(1,.p (.int .i64 s.1)),(5,.ptr 2 []),(4,.ptr 1 []),(2,.ptr 0 [])],[.box false (.p (eI s.2.1)),.box false (.p (.st 129 [.int .i64 0,.aG])),.box false (.p (eI s.2.2))]⟩)
  (fun s=>s.1<=n/\1<=s.2.1.v/\1<=s.2.2.v/\(0<s.1->s.2.2.v.natAbs*s.2.1.v.natAbs^s.1=A)/\(s.1=0->s.2.2.v.natAbs=A)/\(aq wB s.2.1.v.natAbs).length<=400000) (fun s=>s.1) (n,a,.of 1) ⟨gj _,E,(by decide:(1:Int)<=1),fun _=>by rw[q];show(1:Int).natAbs*_=_;simp,fun h=>by have h:n=0:=h;rw[q,h,g9];rfl,F⟩ ?_
 rintro⟨k,x,o⟩ ⟨C,c,i,b,l,m⟩;dsimp only at C c i b l m
 by_cases k0:k=0
 ·subst k0;have e:eI (.mk' A)=eI o:=by
   refine mv ?_ (fun h=>?_)
   ·rw[NI.ie,<-l rfl];omega
   ·rw[NI.ie]at h;omega
  rw[e];simp[ad]
 have b:=b (by omega);have r:=aAi (o:=o.v.natAbs) (x:=x.v.natAbs) (by omega) (by omega) b (by omega);have d:bb.wrap (k% 2^bb.bits&&&1% 2^bb.bits:Nat)=(k% 2:Nat):=by
  rw[show(2^bb.bits:Nat)=18446744073709551616 from rfl,g0 (show k<18446744073709551616 by omega),show 1% 18446744073709551616=2^1-1 from rfl,Nat.and_two_pow_sub_one_eq_mod];exact aN _ (by omega) (by omega)
 have hs:(k:Int).fdiv (2^min 1 bb.bits)=(k/2:Nat):=by
  rw[show((2:Int)^min 1 bb.bits)=2 from rfl,Int.fdiv_eq_ediv_of_nonneg _ (by decide)];omega
 have j:0<k:=by omega
 have K:(aq wB o.v.natAbs).length<=400000:=by
  have D:o.v.natAbs<=A:=g7 (Nat.le_mul_of_pos_right _ (show 0<x.v.natAbs by omega)) r.1;have:=dK ba _ _ (gl D (cj ba A));omega
 have z:2<=k->(aq wB (x.v*x.v).natAbs).length<=400000:=fun h=>by
  have:=dK ba _ _ (gl (r.2 h) (cj ba A));rw[dp];omega
 have y:(1:Int)<=o.v*x.v:=by
  have:=ej i c (by decide) (by omega);omega
 have B:(1:Int)<=x.v*x.v:=by
  have:=ej c c (by decide) (by omega);omega
 have u:=yE o x (by omega);have w:=yE x x (by omega);have g:x.v.natAbs^k=(x.v*x.v).natAbs^(k/2)*x.v.natAbs^(k% 2):=by
  rw[dp,<-hD,<-hb,<-gy,Nat.div_add_mod]
 by_cases H:k% 2=1
 ·rw[H,ha]at g;have t:((k% 2:Nat):Int)=1:=by omega
  rw[t]at d
  by_cases k1:1<k
  ·have f:(1:Int)<k:=by omega
   simp[j,d];refine c2 u ?_;simp[ad,f];refine c2 w ?_;simp[ad,hs];refine rd (k/2,x.mul x,o.mul x) ⟨by omega,B,y,fun _=>?_,fun h=>by dsimp only at h;omega,z k1⟩ (by dsimp only;omega);rw[g]at b;show(o.v*x.v).natAbs*(x.v*x.v).natAbs^(k/2)=A;rw[<-b,dp o.v,g5 ((x.v*x.v).natAbs^(k/2)),hA]
  ·have f:¬(1:Int)<k:=by omega
   have G:k=1:=by omega
   simp[j,d];refine c2 u ?_;simp[ad,f,hs];refine rd (k/2,x,o.mul x) ⟨by omega,c,y,fun h=>by dsimp only at h;omega,fun _=>?_,m⟩ (by dsimp only;omega);subst G;rw[ha]at b;show(o.v*x.v).natAbs=A;rw[<-b,dp]
 ·have I:k% 2=0:=by omega
  rw[I,g9,Nat.mul_one]at g;have t:¬((k% 2:Nat):Int)=1:=by omega
  rw[show((k% 2:Nat):Int)=0 by omega]at d;have f:(1:Int)<k:=by omega
  simp[j,d,f];refine c2 w ?_;simp[ad,hs];refine rd (k/2,x.mul x,o) ⟨by omega,B,i,fun _=>?_,fun h=>by dsimp only at h;omega,z (by omega)⟩ (by dsimp only;omega);show o.v.natAbs*(x.v*x.v).natAbs^(k/2)=A;rw[<-g,b]
theorem FO(x:Nat)(hx:x<18446744073709551616):az prog 305 [.int .u64 x] (.int .i64 (bl x:Nat)):=by
 refine ju (iC func305 (by kernel_rfl)) fun w aa d _ _ c=>?_;obtain⟨a,rfl,b⟩:=xw c;simp only[aw]at b;subst b;refine(bits_Len64 x w (by omega) (by omega)).mono ?_;rintro e w' ⟨rfl,rfl⟩;refine⟨_,rfl,⟨gj _,fun _ _=>rfl,rfl,rfl⟩,fun w aa=>?_⟩;simp only[aw];rfl
def nG(n:Nat):Nat:=if n=0 then 0 else 64*((aq wB n).length-1)+bl (ae wB n ((aq wB n).length-1))
theorem rD{n:Nat}:aq wB n=[]↔n=0:=by
 constructor
 ·intro h;have:=cj ba n;rw[h,List.length_nil,g9]at this;omega
 ·rintro rfl;exact kH
theorem Jk(n:Nat):n<2^nG n:=by
 by_cases b:n=0
 ·subst b;exact gm (by decide)
 ·rw[nG,if_neg b];have hl:=cj ba n;have i:0<(aq wB n).length:=by
   rcases gx (aq wB n).length with h|h
   ·exact(b (rD.1 (e7.1 h))).elim
   ·exact h
  obtain⟨m,g⟩:∃m,(aq wB n).length=m+1:=⟨(aq wB n).length-1,by omega⟩
  rw[g]at hl⊢;rw[g8];have d:n/wB^m<wB:=by
   rw[ho (gm (by decide)),g5,<-gt];exact hl
  have e:ae wB n m=n/wB^m:=by rw[ae,g0 d]
  have f:0<n/wB^m:=by
   rcases gx (n/wB^m)with h|h
   ·have c:n<wB^m:=by
     rcases g6 n (wB^m)with a|a
     ·exact a
     ·have:=hr a (gm (show 0<wB by decide));omega
    have:=dK ba m n c;omega
   ·exact h
  have c:=wU (n/wB^m) (n/wB^m) (gj _) f d;rw[e,gy,hb];show n<wB^m*_;have a:n<(n/wB^m+1)*wB^m:=by
   rw[<-ho (gm (by decide))];omega
  rw[g5]at a;exact gi a (ht _ c.2.2)
theorem We(a:NI)(l:okW a.v):az prog 286 [eI a] (.int .i64 (nG a.v.natAbs:Nat)):=by
 have b:=nj (eI a) a.v (lJ a);refine aO nf E3 mix (by simp[f286]) ?_;have o:=nh l;have q:∀i(h:i<(aq wB a.v.natAbs).length),(aq wB a.v.natAbs)[i]=ae wB a.v.natAbs i:=fun i h=>eg ba h;have f:=cq (B:=wB) ba a.v.natAbs ((aq wB a.v.natAbs).length-1);have j:=FO _ f;have A:=Jk a.v.natAbs;have s:=rD (n:=a.v.natAbs)
 by_cases e:a.v.natAbs=0
 ·rw[e]at b⊢;simp only[eN,kH]at b;simp[f286];refine c1 b ?_;simp[nG]
 ·have k:=mt s.1 e;rw[nG,if_neg e];have p:bl (ae wB a.v.natAbs ((aq wB a.v.natAbs).length-1))<=64:=by
   rcases gx (ae wB a.v.natAbs ((aq wB a.v.natAbs).length-1))with h|h
   ·rw[h];decide
   ·exact MP h f
  simp only[eN]at b;generalize aq wB a.v.natAbs=x at*;obtain⟨m,d⟩:∃m,x.length=m+1:=⟨x.length-1,by cases x with|nil=>exact(k rfl).elim|cons c cs=>simp⟩
  rw[d,g8]at j p f;rw[d,g8];rw[d]at o;have hx:=q m (by omega);have t:x[m]?=some (ae wB a.v.natAbs m):=by rw[List.getElem?_eq_getElem (by omega),hx]
  have u:bb.wrap (m:Int)=m:=aN _ (by omega) (by omega);have w:bb.wrap (64*(m:Int))=64*m:=aN _ (by omega) (by omega);have y:bb.wrap (64*(m:Int)+(bl (ae wB a.v.natAbs m):Nat))=(64*m+bl (ae wB a.v.natAbs m):Nat):=by rw[aN _ (by omega) (by omega)];push_cast;rfl
  generalize bl (ae wB a.v.natAbs m)=g at*;have z:bb.wrap (64*(m:Int)+g)=64*m+g:=by rw[y];push_cast;rfl
  simp[f286];refine c1 b ?_;have r:¬((m:Int)+1=0):=by omega
  simp[k,d,u,w,t,hx,r];refine c1 j ?_;simp[z]
noncomputable def eF(a:NF):PV:=.st 131 [eI a.num,eI a.den]
@[simp] theorem aG7(a:NF):aL (eF a)=.agg 131:=rfl
@[simp] theorem aFk(a:NF):cE (eF a)=[eI a.num,eI a.den]:=rfl
@[simp] theorem aHs(n:Int):aL (eJ n)=.agg 129:=rfl
@[simp] theorem aDS:prog.cellsOf 129=2:=by kernel_rfl
@[simp] theorem aDT:prog.cellsOf 131=4:=by kernel_rfl
theorem Kg:eJ 1=eI (.mk' 1):=(nF (by decide) (by decide)).symm
def kB:Nat:=100000
theorem o8:kB<=3*kB:=hg _ (by decide)
theorem xi{n k:Nat}(h:n<2^k):(aq wB n).length<=k/64+1:=by
 refine dK ba _ _ (gi h ?_);rw[show wB=2^64 from rfl,<-hb];exact gg (by decide) (by omega)
theorem gQ{z:Int}{k:Nat}(h:z.natAbs<2^k)(hk:k<=3*kB):okW z:=by
 have:=xi h;have a:kB=100000:=rfl;rw[okW];omega
def NF.make(n d:NI):NF:=⟨hE n.v d.v,n.m&&decide (d.v=1)⟩
theorem AR(a:NF):az prog 187 [eF a] (.bool a.fe):=by
 refine aO nf Ep mix (by simp[f187]) ?_;have f:a.den.v=a.q.den:=rfl;have h:=a.q.den_pos;rcases hs:a.den.sm with _|_
 ·obtain⟨c,cs,d⟩:=nC hs;have g:=NI.yb (a:=a.den) (by rw[hs];decide);have b:a.fe=false:=by rw[NF.fe,decide_eq_false_iff_not];omega
  simp[f187,ad,d,di,cM,b]
 ·have d:=lG hs;have e:=mq hs;rw[f]at e;have b:a.fe=decide ((a.q.den:Int)=1):=by rw[NF.fe,decide_eq_decide];omega
  simp[f187,ad,d,e,di,cM,b];rfl
theorem B0(a:NI):az prog 170 [eI a] (eF (.whole a)):=by
 refine aO nf MH mix (by simp[f170]) ?_;simp[f170];refine e1 (qK 1) ?_;have b:(NF.whole a).num=a:=by cases a;rfl
 have c:(NF.whole a).den=.mk' 1:=rfl;simp[ad,eF,b,c,Kg]
theorem yU(n:Int)(h:-9223372036854775808<=n)(b:n<=9223372036854775807):az prog 74 [.int .i64 n] (eF (.int n)):=by
 have a:=B0 (.of n);rw[sJ h b]at a;refine aO nf N2 mix (by simp[f74]) ?_;simp[f74];refine c1 (qK n) ?_;simp;refine c1 a ?_;simp[ad];exact Wk.refl _
theorem Ch(q:Rat):(if q<0 then(-1:Int)else if q=0 then 0 else 1)=if q.num<0 then -1 else if q.num=0 then 0 else 1:=by
 have a:q<0↔q.num<0:=by rw[<-Rat.not_le,<-Rat.num_nonneg];omega
 have b:q=0↔q.num=0:=hG.symm;simp only[a,b]
theorem BX(a:NF):az prog 146 [eF a] (.int .i64 (if a.q<0 then -1 else if a.q=0 then 0 else 1)):=by
 have b:=su a.num;refine aO nf Mn mix (by simp[f146]) ?_;simp[f146,ad];refine c1 b ?_;simp;exact Ch a.q
theorem JB(a:NF)(h:ch kB a.q):az prog 174 [eF a] (eF a.neg):=by
 have d:=sF a.num (gQ h.1 o8);refine aO nf MD mix (by simp[f174]) ?_;simp[f174,ad];refine e1 d ?_;have b:a.neg.num=a.num.neg:=by show(⟨(-a.q).num,false⟩:NI)=⟨-a.q.num,false⟩;rw[Rat.neg_num]
 have c:a.neg.den=a.den:=by show(⟨((-a.q).den:Int),false⟩:NI)=⟨a.q.den,false⟩;rw[Rat.neg_den]
 simp[ad,eF,b,c]
theorem SE{n d:NI}(j:0<d.v):(NI.mk' (et n.v d.v)).v≠0/\0<et n.v d.v/\(¬d.v=1->eI (n.div (.mk' (et n.v d.v)))=eI (NF.make n d).num)/\eI (d.div (.mk' (et n.v d.v)))=eI (NF.make n d).den:=by
 obtain⟨dn,e⟩:∃dn:Nat,d.v=dn:=⟨d.v.toNat,by omega⟩
 have f:dn≠0:=by omega
 obtain⟨e1,e2⟩:=ld (n:=n.v) f;have c:et n.v d.v=(hd n.v.natAbs dn:Nat):=by rw[et,e];rfl
 have k:0<hd n.v.natAbs dn:=Nat.gcd_pos_of_pos_right _ (by omega);have i:(hd n.v.natAbs dn:Int)∣n.v:=Int.ofNat_dvd_left.2 (Nat.gcd_dvd_left _ _);refine⟨by rw[NI.ie,c];omega,by rw[c];omega,fun g=>?_,?_⟩
 ·refine mv ?_ (fun _=>?_)
  ·show n.v/et n.v d.v=(hE n.v d.v).num;rw[c,e,e1]
  ·show decide (n.v% et n.v d.v≠0)=(n.m&&decide (d.v=1))
   rw[c,Int.emod_eq_zero_of_dvd i];simp[g]
 ·refine mv ?_ (fun h=>?_)
  ·show d.v/et n.v d.v=((hE n.v d.v).den:Int)
   rw[c,e,e2];exact(Int.natCast_ediv _ _).symm
  ·have:d.v/et n.v d.v= -9223372036854775808:=h;have:=Int.ediv_nonneg (a:=d.v) (b:=et n.v d.v) (by omega) (by rw[c];omega);omega
theorem U4{n d:NI}(a:d.v<0):NF.make n.neg d.neg=NF.make n d:=by
 rw[NF.make,NF.make];have e1:hE n.neg.v d.neg.v=hE n.v d.v:=Rat.neg_divInt_neg _ _;have e2:(n.neg.m&&decide (d.neg.v=1))=(n.m&&decide (d.v=1)):=by
  rw[show n.neg.m=false from rfl,a1,decide_eq_false (by omega),a6]
 rw[e1,e2]
theorem GW(n:Int):(hE n 1).num=n/\(hE n 1).den=1:=by
 obtain⟨e1,e2⟩:=ld (n:=n) (show 1≠0 by decide);rw[hy]at e1 e2;refine⟨?_,?_⟩
 ·exact e1.trans (em n)
 ·exact e2
theorem CC(n d:NI)(A:d.v≠0)(q:okW n.v)(o:okW d.v):az prog 189 [eI n,eI d] (eF (.make n d)):=by
 have i:=su d;refine aO nf Eo mix (by simp[f189]) ?_;simp[f189,-bm];rw[bm];simp[-bm];refine join (fun s=>∃a d':NI,0<d'.v/\okW a.v/\okW d'.v/\NF.make a d'=NF.make n d/\aM s.env 2=.ptr 0 []/\aM s.env 3=.ptr 1 []/\aM s.env 4=.ptr 2 []/\s.heap=[.box false (.p (eI a)),.box false (.p (eI d')),.box false (.p (.st 131 [.st 129 [.int .i64 0,.aG],.st 129 [.int .i64 0,.aG]]))]) ?_ ?_
 ·by_cases l:d.v<0
  ·rw[if_pos l]at i;simp;refine c1 i ?_;simp;refine e1 (sF n q) ?_;simp;refine e1 (sF d o) ?_;simp[ad];exact⟨⟨rfl,rfl⟩,n.neg,d.neg,by rw[NI.Db];omega,pO q (by rw[NI.Db];omega),pO o (by rw[NI.Db];omega),U4 l,rfl,rfl⟩
  ·rw[if_neg l,if_neg A]at i;simp;refine c1 i ?_;simp;exact⟨n,d,by omega,q,o,rfl,rfl,rfl⟩
 ·rintro⟨G,H⟩ ⟨a,d',F,y,r,z,b,e,f,u⟩;dsimp only at b e f u;subst u;rw[<-z];clear z i;have t:=MS a d' y r;obtain⟨g1,g2,g3,g4⟩:=SE (n:=a) F;have og:okW (et a.v d'.v):=by
   refine pO r ?_;rw[et];exact g7 (he (ec _)) (Nat.gcd_le_right _ (by omega))
  have w:=MU a (.mk' (et a.v d'.v)) g2 y og;have x:=MU d' (.mk' (et a.v d'.v)) g2 r og
  by_cases hs:d'.v=1
  ·have g:d'.sm=true:=NI.yw (by omega) (by omega);have j:=lG g;have k:=mq g;rw[hs]at k;have C:eF (.make a d')=.st 131 [eI a,eI d']:=by
    rw[eF];have D:(NF.make a d').num=a:=by
     show(⟨(hE a.v d'.v).num,a.m&&decide (d'.v=1)⟩:NI)=a;rw[hs,(GW _).1];simp
    have E:eI (NF.make a d').den=eI d':=by
     refine mv ?_ (fun h=>?_)
     ·show((hE a.v d'.v).den:Int)=d'.v;rw[hs,(GW _).2];rfl
     ·have:((hE a.v d'.v).den:Int)= -9223372036854775808:=h;omega
    rw[D,E]
   rw[C];simp[b,e,f,ad,j,k,di,cM]
   done
  ·rw[eF,<-g3 hs,<-g4];have B:(wI d'=.aG/\¬sI d'=1)\/∃c cs,wI d'=.seq (c::cs):=by
    rcases g:d'.sm with _|_
    ·exact .inr (nC g)
    ·exact .inl ⟨lG g,by rw[mq g];exact hs⟩
   rcases B with⟨j,k⟩|⟨c,cs,j⟩
   ·simp[b,e,f,ad,j,k,di,cM];refine c2 t ?_;simp[b,e,f,ad];refine e2 w ?_;simp[b,e,f,ad];refine e2 x ?_;simp[b,e,f,ad]
    done
   ·simp[b,e,f,ad,j,di,cM];refine c2 t ?_;simp[b,e,f,ad];refine e2 w ?_;simp[b,e,f,ad];refine e2 x ?_;simp[b,e,f,ad]
    done
theorem kG(a:NF):a.num.v=a.q.num:=rfl
theorem ji(a:NF):a.den.v=a.q.den:=rfl
theorem jI(a:NF):a.den.v.natAbs=a.q.den:=by rw[ji,ec]
theorem qA{x y:NI}{k l:Nat}(hx:x.v.natAbs<2^k)(a:y.v.natAbs<2^l)(h:k+l<=4*kB):az prog 190 [eI x,eI y] (eI (x.mul y)):=by
 have b:=xi hx;have c:=xi a;have d:kB=100000:=rfl;exact yE x y (by omega)
theorem oc{x y:Int}{k l:Nat}(hx:x.natAbs<2^k)(a:y.natAbs<2^l):(x*y).natAbs<2^(k+l):=by
 rw[dp,gy];exact Nat.mul_lt_mul'' hx a
theorem BD{n d:NI}{q:Rat}(m:Bool)(hq:hE n.v d.v=q)(a:(n.m&&decide (d.v=1))=m):NF.make n d=⟨q,m⟩:=by rw[NF.make,hq,a]
theorem U2(a b:NF):NF.make (a.num.mul b.num) (a.den.mul b.den)=a.mul b:=by
 refine BD _ ?_ rfl;rw[NI.lF,NI.lF,kG,kG,ji,ji,Rat.mul_def,Rat.normalize_eq_mkRat];rfl
theorem xk(a b:NF)(c:ch kB a.q)(d:ch kB b.q):az prog 172 [eF a,eF b] (eF (a.mul b)):=by
 have f:=qA (x:=a.num) (y:=b.num) c.1 d.1 (by omega);have g:=qA (x:=a.den) (y:=b.den) (by rw[jI];exact c.2) (by rw[jI];exact d.2) (by omega);have e:=CC (a.num.mul b.num) (a.den.mul b.den) (by rw[NI.lF,ji,ji];have:=a.q.den_nz;have:=b.q.den_nz;exact ee (by omega) (by omega)) (gQ (oc c.1 d.1) (by omega)) (gQ (oc (x:=a.den.v) (y:=b.den.v) (by rw[jI];exact c.2) (by rw[jI];exact d.2)) (by omega));rw[U2]at e;refine aO nf MF mix (by simp[f172]) ?_;simp[f172,ad];refine e2 f ?_;simp[ad];refine e2 g ?_;simp[ad];refine e2 e ?_;simp[ad]
theorem Ve(a:NF)(h:a.q≠0):NF.make a.den a.num=a.inv:=by
 refine BD _ ?_ rfl;rw[kG,ji];show hE a.q.den a.q.num=a.q⁻¹;rw[Rat.inv_def]
theorem JC(a:NF)(c:ch kB a.q)(b:a.q≠0):az prog 173 [eF a] (eF a.inv):=by
 have d:=CC a.den a.num (by rw[kG];exact mt hG.1 b) (gQ (by rw[jI];exact c.2) o8) (gQ c.1 o8);rw[Ve a b]at d;refine aO nf ME mix (by simp[f173]) ?_;simp[f173,ad];refine c2 d ?_;simp[ad]
theorem Wx(a b:NF)(g:ch kB a.q)(c:ch kB b.q)(f:b.q≠0):az prog 75 [eF a,eF b] (eF (a.div b)):=by
 have h:=JC b c f;have d:=xk a b.inv g (azB c);have e:a.mul b.inv=a.div b:=by
  rw[NF.mul,NF.div,NF.inv,Rat.div_def]
 rw[e]at d;refine aO nf N3 mix (by simp[f75]) ?_;simp[f75,ad];refine e1 h ?_;simp[ad];refine e2 d ?_;simp[ad]
theorem VJ(a b:NF)(h:¬(a.fe=true/\b.fe=true)):NF.make ((a.num.mul b.den).add (b.num.mul a.den)) (a.den.mul b.den)=a.add b:=by
 have g:(a.fe&&b.fe)=false:=by simpa using h
 refine BD _ ?_ ?_
 ·rw[NI.qE,NI.lF,NI.lF,NI.lF,kG,kG,ji,ji,Rat.add_def'];rfl
 ·rw[g,a1];have:¬(a.den.mul b.den).v=1:=by
   intro c;rw[NI.lF,ji,ji]at c;have d:a.q.den*b.q.den=1:=by exact_mod_cast c
   have e:=Nat.eq_one_of_mul_eq_one_right d;have f:=Nat.eq_one_of_mul_eq_one_left d;exact h ⟨by rw[NF.fe];simp[e,f],by rw[NF.fe];simp[e,f]⟩
  rw[decide_eq_false this,a6]
theorem Ki{q:Rat}(h:q.den=1):(q.num:Rat)=q:=by
 apply Rat.ext
 ·rw[Rat.num_intCast]
 ·rw[Rat.den_intCast,h]
theorem Ln(a b:NF)(j:ch kB a.q)(k:ch kB b.q):az prog 89 [eF a,eF b] (eF (a.add b)):=by
 have d:=AR a;have n:=AR b;refine aO nf Oc mix (by simp[f89]) ?_
 by_cases hw:a.fe=true/\b.fe=true
 ·rw[hw.1]at d;rw[hw.2]at n;have l:=vc a.num b.num (gQ j.1 o8) (gQ k.1 o8);have g:=B0 (a.num.add b.num);have c:a.q.den=1:=by simpa[NF.fe]using hw.1
  have f:b.q.den=1:=by simpa[NF.fe]using hw.2
  have e:NF.whole (a.num.add b.num)=a.add b:=by
   rw[NF.whole,NF.add];have e1:(((a.num.add b.num).v:Int):Rat)=a.q+b.q:=by
    rw[NI.qE,kG,kG,Rat.intCast_add,Ki c,Ki f]
   have e2:(a.num.add b.num).m=(a.fe&&b.fe&&(a.num.sm&&b.num.sm)):=by rw[hw.1,hw.2];rfl
   rw[e1,e2]
  rw[e]at g;simp[f89,ad];refine c1 d ?_;simp[ad];refine c1 n ?_;simp[ad];refine c2 l ?_;simp[ad];refine c1 g ?_;simp[ad]
 ·have h:a.den.v.natAbs<2^kB:=by rw[jI];exact j.2
  have i:b.den.v.natAbs<2^kB:=by rw[jI];exact k.2
  have l:=qA (x:=a.num) (y:=b.den) j.1 i (by omega);have g:=qA (x:=b.num) (y:=a.den) k.1 h (by omega);have s:(a.num.mul b.den).v.natAbs<2^(kB+kB):=oc j.1 i;have t:(b.num.mul a.den).v.natAbs<2^(kB+kB):=oc k.1 h;have p:=vc _ _ (gQ s (by omega)) (gQ t (by omega));have r:=qA (x:=a.den) (y:=b.den) h i (by omega);have u:((a.num.mul b.den).add (b.num.mul a.den)).v.natAbs<2^(kB+kB+1):=by
   rw[NI.qE,gt];exact gl (Int.natAbs_add_le _ _) (by omega)
  have w:kB=100000:=rfl;have o:=CC ((a.num.mul b.den).add (b.num.mul a.den)) (a.den.mul b.den) (by rw[NI.lF,ji,ji];have:=a.q.den_nz;have:=b.q.den_nz;exact ee (by omega) (by omega)) (gQ u (by omega)) (gQ (oc (x:=a.den.v) (y:=b.den.v) h i) (by omega));rw[VJ a b hw]at o;have hc:a.fe=false\/(a.fe=true/\b.fe=false):=by
   rcases c:a.fe with _|_
   ·exact .inl rfl
   ·exact .inr ⟨rfl,by rcases f:b.fe with _|_;rfl;exact(hw ⟨c,f⟩).elim⟩
  rcases hc with c|⟨c,f⟩
  ·rw[c]at d;simp[f89,ad];refine c1 d ?_;simp[ad];refine e2 l ?_;simp[ad];refine e2 g ?_;simp[ad];refine e2 p ?_;simp[ad];refine e2 r ?_;simp[ad];refine e2 o ?_;simp[ad]
  ·rw[c]at d;rw[f]at n;simp[f89,ad];refine c1 d ?_;simp[ad];refine c1 n ?_;simp[ad];refine e2 l ?_;simp[ad];refine e2 g ?_;simp[ad];refine e2 p ?_;simp[ad];refine e2 r ?_;simp[ad];refine e2 o ?_;simp[ad]
theorem xT(a b:NF)(d:ch kB a.q)(c:ch kB b.q):az prog 191 [eF a,eF b] (eF (a.sub b)):=by
 have e:=JB b c;have f:=Ln a b.neg d (AH c);refine aO nf En mix (by simp[f191]) ?_;simp[f191,ad];refine e1 e ?_;simp[ad];refine e2 f ?_;simp[ad];exact Wk.refl _
def dF(x y:Rat):Int:=if x<y then -1 else if x=y then 0 else 1
theorem azP(a b:Rat):jB (a.num*b.den) (b.num*a.den)=dF a b:=by
 have c:a<b↔a.num*b.den<b.num*a.den:=hK _ _;have f:a=b↔a.num*b.den=b.num*a.den:=by
  constructor
  ·rintro rfl;rfl
  ·intro h
   by_cases d:a<b
   ·rw[c]at d;omega
   ·by_cases e:b<a
    ·have g:=(hK b a).1 e;omega
    ·exact Rat.le_antisymm (hJ.1 e) (hJ.1 d)
 simp only[jB,dF,c,f]
theorem sN(a b:NF)(c:ch kB a.q)(d:ch kB b.q):az prog 136 [eF a,eF b] (.int .i64 (dF a.q b.q)):=by
 have e:a.den.v.natAbs<2^kB:=by rw[jI];exact c.2
 have f:b.den.v.natAbs<2^kB:=by rw[jI];exact d.2
 have j:=qA (x:=a.num) (y:=b.den) c.1 f (by omega);have k:=qA (x:=b.num) (y:=a.den) d.1 e (by omega);have h:(a.num.mul b.den).v.natAbs<2^(kB+kB):=oc c.1 f;have i:(b.num.mul a.den).v.natAbs<2^(kB+kB):=oc d.1 e;have g:=MR _ _ (gQ h (by omega)) (gQ i (by omega));rw[NI.lF,NI.lF,kG,kG,ji,ji,azP]at g;refine aO nf Fb mix (by simp[f136]) ?_;simp[f136,ad];refine e2 j ?_;simp[ad];refine e2 k ?_;simp[ad];refine e2 g ?_;simp[ad]
def low:Nat->Nat->List Nat
 |0,_=>[]
 |i+1,n=>(48+n/10^i% 10)::low i n
def nd(n:Nat):Nat:=if h:n=0 then 0 else nd (n/10)+1
 decreasing_by omega
theorem nH:∀(i n:Nat),i<nd n↔10^i<=n
 |0,n=>by
  rw[nd];split
  ·subst n;simp
  ·simp;omega
 |i+1,n=>by
  rw[nd];split
  ·rename_i h;subst h;have:=gm (n:=i+1) (show 0<10 by omega);constructor
   ·intro h;omega
   ·intro h;omega
  ·have:=nH i (n/10);rw[hm (by omega),<-gt]at this;rw[<-this];omega
theorem pT(b n:Nat):∀a,low (a+b) n=low a (n/10^b)++low b n
 |0=>by simp[low]
 |a+1=>by
  rw[show a+1+b=(a+b)+1 by omega,low,low,pT b n a,Nat.div_div_eq_div_mul,<-gy,Nat.add_comm b a];rfl
theorem BE(n k:Nat):∀b,b<=k->low b (n% 10^k)=low b n
 |0,_=>rfl
 |b+1,h=>by
  have e:k=b+(k-b-1+1):=by omega
  have a:n% 10^k/10^b=n/10^b% 10^(k-b-1+1):=by
   conv=>lhs;rw[e,gy]
   rw[Nat.mod_mul_right_div_self]
  rw[low,low,BE n k b (by omega),a,Nat.mod_mod_of_dvd _ (Nat.pow_dvd_pow 10 (show 1<=k-b-1+1 by omega)|>fun h=>by simpa using h)]
theorem azs{n m:Nat}(h:∀i,i<nd n↔i<m):nd n=m:=by
 have a:=h m;have b:=h (nd n);omega
theorem Cj{n k:Nat}(h:10^k<=n):nd n=nd (n/10^k)+k:=by
 refine azs fun i=>?_;rw[nH]
 by_cases hi:i<k
 ·have:=gg (show 0<10 by omega) (Nat.le_of_lt hi);constructor
  ·intro _;omega
  ·intro _;omega
 ·obtain⟨j,rfl⟩:∃j,i=j+k:=⟨i-k,by omega⟩
  rw[gy,<-hm (gm (by omega)),<-nH];omega
theorem qC{n k:Nat}(h:n<10^k):nd n<=k:=by
 rcases g6 k (nd n)with a|a
 ·rw[nH]at a;omega
 ·exact a
theorem yn{n:Nat}(h:0<n):0<nd n:=by rw[nH,g9];exact h
theorem U5{M:Nat}(h:10^9<=M):low (nd M) M=low (nd (M/10^9)) (M/10^9)++low 9 (M% 10^9):=by
 rw[Cj h,pT,BE _ _ _ (gj 9)]
theorem pR(n:Nat):∀i,(low i n).length=i
 |0=>rfl
 |i+1=>by simp[low,pR n i]
def bp(n:Nat):List Nat:=low (max 1 (nd n)) n
def cQ(z:Int):List Nat:=if z<0 then 45::bp z.natAbs else bp z.natAbs
def bN(q:Rat):List Nat:=if q.den=1 then cQ q.num else cQ q.num++47::bp q.den
def aW(s:List Nat):Nat:=s.foldl (fun n c=>n*10+(c-48)) 0
def cm(c:Nat):Bool:=decide (48<=c)&&decide (c<=57)
theorem wX(s:List Nat)(c:Nat):aW (s++[c])=aW s*10+(c-48):=by simp[aW]
theorem rP(i n:Nat):low (i+1) n=low i (n/10)++[48+n% 10]:=by
 have:=pT 1 n i;rw[this];simp[low]
theorem Om:∀(i n:Nat),(low i n).all cm=true
 |0,n=>rfl
 |i+1,n=>by
  rw[low,e6,Om i n];have:=hv (n/10^i) (show 0<10 by omega);simp[cm];omega
theorem IQ:∀(i n:Nat),aW (low i n)=n% 10^i
 |0,n=>by simp[low,aW,Nat.mod_one]
 |i+1,n=>by
  rw[rP,wX,IQ i,gt,g5 (10^i),Nat.mod_mul];omega
theorem HJ(n:Nat):n<10^nd n:=by
 rcases g6 n (10^nd n)with h|h
 ·exact h
 ·have:=(nH (nd n) n).2 h;omega
theorem xl(n:Nat):aW (bp n)=n:=by
 rw[bp,IQ];refine g0 (gi (HJ n) (gg (by omega) (by omega)))
theorem rT(n:Nat):(bp n).length=max 1 (nd n):=pR _ _
theorem uX(n:Nat):(bp n).all cm=true:=Om _ _
theorem pD:bp 0=[48]:=by
 have:nd 0=0:=by rw[nd,dif_pos rfl]
 rw[bp,this];rfl
def dE(s:List Nat):Bool:=!s.isEmpty&&s.all cm&&(decide (s.head?≠some 48)||decide (s=[48]))
theorem jd:∀(k:Nat)(s:List Nat),s.length=k->s.all cm=true->aW s<10^k
 |0,s,h,_=>by
            have:s=[]:=e7.1 h
            subst this;simp[aW]
 |n+1,s,h,a=>by
  have b:s≠[]:=by intro e;subst e;simp at h
  obtain⟨t,c,rfl⟩:∃t c,s=t++[c]:=⟨s.dropLast,s.getLast b,(fb b).symm⟩
  simp only[gb,e6,ge,ay,av]at a;have d:=jd n t (by simpa using h) a.1;have hc:=a.2;simp only[cm,av,decide_eq_true_eq]at hc;rw[wX,gt];omega
theorem JL:∀(k:Nat)(s:List Nat),s.length=k->s.all cm=true->low k (aW s)=s
 |0,s,h,_=>by
            have:s=[]:=e7.1 h
            subst this;rfl
 |n+1,s,h,a=>by
  have b:s≠[]:=by intro e;subst e;simp at h
  obtain⟨t,c,rfl⟩:∃t c,s=t++[c]:=⟨s.dropLast,s.getLast b,(fb b).symm⟩
  simp only[gb,e6,ge,ay,av]at a;have d:=JL n t (by simpa using h) a.1;have hc:=a.2;simp only[cm,av,decide_eq_true_eq]at hc;rw[rP,wX];have e1:(aW t*10+(c-48))/10=aW t:=by omega
  have e2:(aW t*10+(c-48))% 10=c-48:=by omega
  rw[e1,e2,d];congr 2;omega
theorem QO(c:Nat)(s:List Nat)(h:49<=c):10^s.length<=aW (c::s):=by
 have key:∀(s:List Nat)(a:Nat),a*10^s.length<=s.foldl (fun n c=>n*10+(c-48)) a:=by
  intro s
  induction s with
  |nil=>intro a;simp
  |cons x r b=>
   intro a;rw[ga,fm];refine g7 ?_ (b _);rw[gt,g5 (10^r.length),<-hA];exact hp _ (by omega)
 have:=key s (c-48);rw[aW,ga,Nat.zero_mul,hB];refine g7 ?_ this;have:1*10^s.length<=(c-48)*10^s.length:=hp _ (by omega);omega
theorem uM{s:List Nat}(h:dE s=true):bp (aW s)=s:=by
 simp only[dE,av,ax,decide_eq_true_eq,aT]at h;obtain⟨⟨f,a⟩,b⟩:=h;rcases b with b|rfl
 ·cases s with
  |nil=>simp at f
  |cons c r=>
   have hc:cm c=true:=by simpa using(e6.symm.trans a|>fun h=>by simpa using h:cm c=true/\r.all cm=true).1
   simp only[cm,av,decide_eq_true_eq]at hc;have i:49<=c:=by
    have:c≠48:=fun e=>b (by rw[e];rfl);omega
   have g:=jd _ _ rfl a;have j:=QO c r i;have k:nd (aW (c::r))=r.length+1:=by
    have l:=(nH r.length _).2 j;have d:=qC g;rw[fm]at d;omega
   rw[bp,k,show max 1 (r.length+1)=r.length+1 by omega];exact JL _ _ rfl a
 ·have:aW [48]=0:=rfl;rw[this,pD]
def bZ(c:Nat):List Nat->List Nat×List Nat×Bool
 |[]=>([],[],false)
 |x::r=>if x=c then([],r,true)else(x::(bZ c r).1,(bZ c r).2.1,(bZ c r).2.2)
theorem HH(c:Nat):∀(a b:List Nat),c∉a->bZ c (a++c::b)=(a,b,true)
 |[],b,_=>by simp[bZ]
 |x::a,b,h=>by
  simp only[gc,not_or]at h;rw[e8,bZ,if_neg (fun e=>h.1 e.symm),HH c a b h.2]
theorem GL(c:Nat):∀(a:List Nat),c∉a->bZ c a=(a,[],false)
 |[],_=>rfl
 |x::a,h=>by
  simp only[gc,not_or]at h;rw[bZ,if_neg (fun e=>h.1 e.symm),GL c a h.2]
theorem oH(c:Nat):∀(s:List Nat),((bZ c s).2.2=true/\s=(bZ c s).1++c::(bZ c s).2.1)\/((bZ c s).2.2=false/\(bZ c s).1=s/\(bZ c s).2.1=[])
 |[]=>by simp[bZ]
 |x::s=>by
  rw[bZ]
  by_cases h:x=c
  ·subst h;simp
  ·rw[if_neg h];rcases oH c s with⟨a,b⟩|⟨a,b,d⟩
   ·left;exact⟨a,by dsimp only;rw[e8,<-b]⟩
   ·right;exact⟨a,by dsimp only;rw[b],d⟩
def bV(s:List Nat):Bool:=decide (s.head?=some 45)
def cS(s:List Nat):List Nat:=if bV s=true then s.tail else s
def bD(s:List Nat):List Nat:=(bZ 47 (cS s)).1
def bK(s:List Nat):List Nat:=(bZ 47 (cS s)).2.1
def dR(s:List Nat):Bool:=(bZ 47 (cS s)).2.2
def kI(s:List Nat):Bool:=dE (bD s)&&!(bV s&&decide (bD s=[48]))&&(!dR s||(dE (bK s)&&decide (bK s≠[48])&&decide (bK s≠[49])))
def bY(s:List Nat):Int:=
 if kI s=false then 1
 else if 600<(bD s).length\/600<(bK s).length then 4
 else if dR s=true/\hd (aW (bD s)) (aW (bK s))≠1 then 1 else 0
def aX(s:List Nat):Rat:=hE (if bV s=true then -(aW (bD s):Int)else aW (bD s)) (if dR s=true then aW (bK s)else 1:Nat)
theorem O9{s:List Nat}(h:s.all cm=true){c:Nat}(hc:cm c=false):c∉s:=by
 intro a;rw[fv]at h;rw[h c a]at hc;cases hc
theorem iR{s:List Nat}(h:dE s=true):s.all cm=true:=by
 simp only[dE,av]at h;exact h.1.2
theorem tU(n:Nat):cQ (n:Int)=bp n:=by
 rw[cQ,if_neg (by omega)];rfl
theorem aB9{n:Nat}(h:0<n):cQ (-(n:Int))=45::bp n:=by
 rw[cQ,if_pos (by omega)];congr 1;rw[ei];rfl
theorem xm{s:List Nat}(h:dE s=true)(a:s≠[48]):0<aW s:=by
 rcases gx (aW s)with e|e
 ·have:=uM h;rw[e,pD]at this;exact(a this.symm).elim
 ·exact e
theorem iQ{s:List Nat}(h:bY s=0):bN (aX s)=s/\(aX s).num=(if bV s=true then -(aW (bD s):Int)else aW (bD s))/\(aX s).den=(if dR s=true then aW (bK s)else 1:Nat):=by
 unfold bY at h
 split at h
 ·cases h
 rename_i b
 split at h
 ·cases h
 split at h
 ·cases h
 rename_i g;have b:kI s=true:=by simpa using b
 simp only[kI,av,aT,Bool.and_eq_false_iff,decide_eq_false_iff_not,ax,decide_eq_true_eq]at b;obtain⟨⟨d,a2⟩,a3⟩:=b;have hs:s=(if bV s=true then[45]else[])++cS s:=by
  rw[cS]
  by_cases a:bV s=true
  ·rw[if_pos a,if_pos a];simp only[bV,decide_eq_true_eq]at a;cases s with
   |nil=>simp at a
   |cons c r=>simp at a;subst a;rfl
  ·rw[if_neg a,if_neg a];rfl
 have i:(if dR s=true then aW (bK s)else 1:Nat)≠0:=by
  split
  ·rename_i hf;rcases a3 with a3|a3
   ·rw[hf]at a3;cases a3
   ·have:=xm a3.1.1 a3.1.2;omega
  ·omega
 have j:hd (if bV s=true then -(aW (bD s):Int)else aW (bD s)).natAbs (if dR s=true then aW (bK s)else 1:Nat)=1:=by
  have e:(if bV s=true then -(aW (bD s):Int)else aW (bD s)).natAbs=aW (bD s):=by split<;>omega
  rw[e]
  by_cases hf:dR s=true
  ·rw[if_pos hf];exact Decidable.not_not.1 fun e=>g ⟨hf,e⟩
  ·rw[if_neg hf,hy]
 obtain⟨e1,e2⟩:=ld (n:=if bV s=true then -(aW (bD s):Int)else aW (bD s)) i;rw[j]at e1 e2;simp only[Nat.div_one]at e2;have e1:(aX s).num=(if bV s=true then -(aW (bD s):Int)else aW (bD s)):=by rw[aX,e1];exact em _
 have e2:(aX s).den=(if dR s=true then aW (bK s)else 1:Nat):=e2;refine⟨?_,e1,e2⟩;have hI:cQ (aX s).num=(if bV s=true then[45]else[])++bD s:=by
  rw[e1]
  by_cases a:bV s=true
  ·rw[if_pos a,if_pos a,aB9,uM d];·rfl
   refine xm d ?_;rcases a2 with a2|a2
   ·rw[a]at a2;cases a2
   ·exact a2
  ·rw[if_neg a,if_neg a,tU,uM d];rfl
 rw[bN,hI,e2]
 by_cases hf:dR s=true
 ·have f:dE (bK s)=true/\bK s≠[48]/\bK s≠[49]:=by
   rcases a3 with a3|a3
   ·rw[hf]at a3;cases a3
   ·exact⟨a3.1.1,a3.1.2,a3.2⟩
  have k:aW (bK s)≠1:=by
   intro e;have:=uM f.1;rw[e]at this;have b:nd 1=1:=by rw[nd,dif_neg (by omega),nd,dif_pos (by omega)]
   have:bp 1=[49]:=by rw[bp,b];rfl
   exact f.2.2 (by rw[<-this];assumption|>Eq.symm)
  rw[if_pos hf,if_neg k,uM f.1]
  conv=>rhs;rw[hs]
  rw[List.append_assoc];congr 1;rcases oH 47 (cS s)with⟨g1,g2⟩|⟨g1,_⟩
  ·exact g2.symm
  ·rw[dR,g1]at hf;cases hf
 ·rw[if_neg hf,if_pos rfl]
  conv=>rhs;rw[hs]
  congr 1;rcases oH 47 (cS s)with⟨g1,g2⟩|⟨g1,g2,_⟩
  ·exact(hf g1).elim
  ·exact g2
theorem An(z:Int)(r:List Nat):bV (cQ z++r)=decide (z<0)/\cS (cQ z++r)=bp z.natAbs++r:=by
 by_cases h:z<0
 ·have:cQ z=45::bp z.natAbs:=by rw[cQ,if_pos h]
  rw[this];simp[bV,cS,h]
 ·have e:cQ z=bp z.natAbs:=by rw[cQ,if_neg h]
  have a:=uX z.natAbs;have hl:=rT z.natAbs;rw[e];have b:bV (bp z.natAbs++r)=false:=by
   cases d:bp z.natAbs with
   |nil=>rw[d]at hl;simp at hl;omega
   |cons c t=>
    rw[d]at a;simp only[e6,av]at a;have hc:=a.1;simp only[cm,av,decide_eq_true_eq]at hc;have:¬(some c=some 45):=by intro e;injection e with e;omega
    simp only[bV,e8,fI,this,decide_false]
  exact⟨by rw[b];simp[h],by rw[cS,b];simp⟩
theorem uh(q:Rat):bV (bN q)=decide (q.num<0)/\bD (bN q)=bp q.num.natAbs/\dR (bN q)=decide (q.den≠1)/\bK (bN q)=if q.den=1 then[]else bp q.den:=by
 have d:47∉bp q.num.natAbs:=O9 (uX _) rfl
 by_cases h:q.den=1
 ·have e:bN q=cQ q.num++[]:=by rw[bN,if_pos h,ew]
  obtain⟨c,b⟩:=An q.num [];rw[ew,ew]at b;have a:=GL 47 _ d;rw[<-b]at a;rw[e];refine⟨c,?_,?_,?_⟩
  ·rw[ew,bD,a,b]
  ·rw[ew,dR,a,h];rfl
  ·rw[ew,bK,a,if_pos h]
 ·have e:bN q=cQ q.num++47::bp q.den:=by rw[bN,if_neg h]
  obtain⟨c,b⟩:=An q.num (47::bp q.den);have a:=HH 47 _ (bp q.den) d;rw[<-b]at a;rw[e];refine⟨c,?_,?_,?_⟩
  ·rw[bD,a]
  ·rw[dR,a];simp[h]
  ·rw[bK,a,if_neg h]
theorem IV(q:Rat):aX (bN q)=q:=by
 obtain⟨a,b,c,d⟩:=uh q;have e1:(if bV (bN q)=true then -(aW (bD (bN q)):Int)else aW (bD (bN q)))=q.num:=by
  rw[a,b,xl]
  by_cases h:q.num<0
  ·simp[h];omega
  ·simp[h];omega
 have e2:(if dR (bN q)=true then aW (bK (bN q))else 1:Nat)=q.den:=by
  rw[c,d]
  by_cases h:q.den=1
  ·simp[h]
  ·simp[h,xl]
 rw[aX,e1,e2,Rat.num_divInt_den]
theorem aCa{a b:Rat}(h:bN a=bN b):a=b:=by rw[<-IV a,h,IV]
theorem tT{n k:Nat}(h:n<10^k)(hk:1<=k):(bp n).length<=k:=by
 rw[rT];have:=qC h;omega
theorem BB(z:Int):(cQ z).length<=(bp z.natAbs).length+1:=by
 rw[cQ];split<;>simp
theorem aCk(q:Rat):(bN q).length<=(bp q.num.natAbs).length+(bp q.den).length+2:=by
 have:=BB q.num;rw[bN];split<;>simp<;>omega
theorem R9(k:Nat):2^(3*k)<=10^k:=by
 rw[hb];exact Nat.pow_le_pow_left (by omega) k
theorem Hl{n k:Nat}(h:n<2^(3*k))(hk:1<=k):(bp n).length<=k:=tT (gi h (R9 k)) hk
theorem CK{n k K:Nat}(h:n<2^K)(a:K<=3*k)(hk:1<=k):(bp n).length<=k:=Hl (gi h (gg (by decide) a)) hk
def mD:Nat:=600
theorem W1{s:List Nat}(h:bY s=0):(aX s).num.natAbs<10^mD/\(aX s).den<10^mD:=by
 obtain⟨k,f,g⟩:=iQ h;unfold bY at h
 split at h
 ·cases h
 rename_i a
 split at h
 ·cases h
 rename_i hl;have a:kI s=true:=by simpa using a
 simp only[kI,av,ax,decide_eq_true_eq]at a;obtain⟨⟨b,_⟩,a3⟩:=a;have c:=jd _ _ rfl (iR b);have i:10^(bD s).length<=10^mD:=gg (by omega) (by rw[mD];omega);refine⟨?_,?_⟩
 ·rw[f];have e:(if bV s=true then -(aW (bD s):Int)else aW (bD s)).natAbs=aW (bD s):=by split<;>omega
  rw[e];exact gi c i
 ·rw[g]
  by_cases hf:dR s=true
  ·rw[if_pos hf];rcases a3 with a3|a3
   ·rw[hf]at a3;cases a3
   ·have d:=jd _ _ rfl (iR a3.1.1);have j:10^(bK s).length<=10^mD:=gg (by omega) (by rw[mD];omega);exact gi d j
  ·rw[if_neg hf];exact Nat.one_lt_pow (by decide) (by omega)
open Go
def cV(l:List UInt8):List Nat:=l.map (·.toNat)
theorem Sh(l:List UInt8):(cV l).map hM=l:=by
 induction l with
 |nil=>rfl
 |cons a r b=>simp only[cV,fl]at b⊢;rw[b];simp
def mE(c:Nat):List Nat->Nat->Int
 |[],_=>-1
 |x::r,i=>bif hh x c then(i:Int)else mE c r (i+1)
theorem JU(c:UInt8):∀(l:List UInt8)(i:Nat),mE c.toNat (cV l) i=if bk l c= -1 then -1 else bk l c+i
 |[],i=>by simp[mE,cV,bk]
 |x::r,i=>by
  have b:=JU c r (i+1);simp only[cV]at b;simp only[cV,fl,mE,bk]
  by_cases hx:x=c
  ·subst hx;simp
  ·have e:hh x.toNat c.toNat=false:=by
    cases d:hh x.toNat c.toNat
    ·rfl
    ·exact(hx (hL.1 (hn d))).elim
   have f:=Lib.indexByte_ge r c;simp only[e,cond_false,b,beq_iff_eq,hx,if_false]
   by_cases a:bk r c= -1
   ·simp[a]
   ·rw[if_neg a,if_neg a];rw[if_neg (by omega)];omega
theorem JV(c:Nat):∀(s:List Nat)(k:Nat),((bZ c s).2.2=false/\mE c s k= -1/\bZ c s=(s,[],false))\/
 ∃i,i<s.length/\mE c s k=((k+i:Nat):Int)/\bZ c s=(s.take i,s.drop (i+1),true)
 |[],k=>by simp[bZ,mE]
 |x::r,k=>by
  rw[bZ,mE]
  by_cases h:x=c
  ·subst h;right;refine⟨0,by simp,?_,?_⟩
   ·simp
   ·simp
  ·have d:hh x c=false:=by
    cases d:hh x c
    ·rfl
    ·exact(h (hn d)).elim
   rw[d,if_neg h,cond_false];rcases JV c r (k+1)with⟨e,a,b⟩|⟨i,e,a,b⟩
   ·left;exact⟨e,a,by rw[b]⟩
   ·right;refine⟨i+1,by simp;omega,?_,?_⟩
    ·rw[a];congr 1;omega
    ·rw[b];simp
theorem Cp(n:Nat):cV (be n)=bp n:=by
 induction n using Nat.strongRecOn with
 |ind n a=>
  rw[be]
  by_cases h:n<10
  ·rw[dif_pos h,bp];have c:nd n<=1:=qC (by omega);rw[show max 1 (nd n)=1 by omega];rw[show(1:Nat)=0+1 from rfl,rP,low,List.nil_append,g0 h];simp[cV,hN];omega
  ·rw[dif_neg h];have b:=a (n/10) (by omega);have e:nd n=nd (n/10)+1:=by
    have:=Cj (n:=n) (k:=1) (by omega);rw[ha]at this;exact this
   have d:0<nd (n/10):=yn (by omega);rw[bp,e,show max 1 (nd (n/10)+1)=max 1 (nd (n/10))+1 by omega,rP];have:cV (be (n/10)++[hM (48+n% 10)])=cV (be (n/10))++[48+n% 10]:=by
    simp[cV,hN];omega
   rw[this,b,bp]
theorem axM(z:Int):cV (b4 z)=cQ z:=by
 rw[b4,cQ]
 by_cases h:z<0
 ·rw[if_pos h,if_pos h];show 45::cV _=_;rw[Cp]
 ·rw[if_neg h,if_neg h,Cp];congr 1;omega
def qW(s:List Nat):Nat->List Nat
 |0=>[]
 |n+1=>s++qW s n
theorem I9(s:List UInt8):∀n,qW (cV s) n=cV (b2 s n)
 |0=>by simp[qW,b2,cV]
 |n+1=>by
  have a:=I9 s n;simp only[cV]at a;simp[qW,b2,cV,a]
theorem A4(c:Nat):∀n,qW [c] n=fd n c
 |0=>rfl
 |n+1=>by rw[qW,A4 c n];rfl
theorem Av(l:List UInt8):bv l [45]=bV (cV l):=by
 cases l with
 |nil=>rfl
 |cons c r=>
  rw[bv,bV];simp only[cV,fl,List.isPrefixOf,fI,ay,Option.some.injEq]
  by_cases h:c=45
  ·subst h;rfl
  ·have a:¬c.toNat=45:=fun e=>h (hL.1 e);have b:((45:UInt8)==c)=false:=by simpa using fun e=>h e.symm
   rw[b];simp[a]
theorem GH(l:List UInt8):cV (br l [45])=cS (cV l):=by
 rw[br,Av,cS];cases h:bV (cV l)
 ·simp
 ·cases l with
  |nil=>simp[cV,bV]at h
  |cons c r=>simp[cV]
def kF(s:List Nat):List Nat:=s.dropWhile cm
def iF(s:List Nat):List Nat:=(s.reverse.dropWhile cm).reverse
theorem vY{p:Nat->Bool}:∀{s:List Nat},s.dropWhile p=[]↔s.all p=true
 |[]=>by simp
 |x::r=>by
  rw[List.dropWhile_cons];cases h:p x
  ·simp[h]
  ·simp[h,vY]
theorem SR(s:List Nat):kF (iF s)=[]↔s.all cm=true:=by
 rw[kF,vY,iF];constructor
 ·intro h
  by_cases a:s.reverse.dropWhile cm=[]
  ·rw[vY,e9]at a;exact a
  ·have b:=List.head_dropWhile_not cm a;rw[e9,fv]at h;rw[h _ (List.head_mem a)]at b;cases b
 ·intro h;have:s.reverse.dropWhile cm=[]:=by rw[vY,e9];exact h
  rw[this];rfl
end Go.au
namespace Go.Proofs
open Go.Shelf
def Tryz.R4:da:=⟨fun|103=>270|210=>315|206=>318|n=>n,fun|9=>9|4=>4|24=>324|3=>3|n=>n,fun|n=>n⟩
theorem Tryz.ayM:cy prog R4:={
 mixed:=by kernel_rfl
 f103:=func270.trans (congrArg some (by kernel_rfl))
 f206:=func318.trans (congrArg some (by kernel_rfl))
 f210:=func315.trans (congrArg some (by kernel_rfl))
 t3:=underlying3
 a3:=isAgg3
 z3:=sizeOf3
 v3:=zeroValue3
 t4:=underlying4
 a4:=isAgg4
 z4:=sizeOf4
 v4:=zeroValue4
 t9:=underlying9
 a9:=isAgg9
 z9:=sizeOf9
 v9:=zeroValue9
 t24:=underlying324
 a24:=isAgg324
 z24:=sizeOf324
 v24:=zeroValue324}
open Go.RowKit in
theorem Tryz.strings_CutPrefix(s p:ByteArray)(w:a7):
 a8 prog 270 #[.string s,.string p] w fun e w'=>e=.returned (.tuple #[.string ⟨(br s.data.toList p.data.toList).toArray⟩,.bool (bv s.data.toList p.data.toList)])/\w'=w:=Any.strings_CutPrefix ayM s p w
def Tryz.RX:da:=⟨fun|283=>323|n=>n,fun|3=>3|9=>9|4=>4|n=>n,fun|n=>n⟩
theorem Tryz.azj:ck prog RX:={
 mixed:=by kernel_rfl
 f283:=func323.trans (congrArg some (by kernel_rfl))
 t3:=underlying3
 a3:=isAgg3
 z3:=sizeOf3
 v3:=zeroValue3
 t4:=underlying4
 a4:=isAgg4
 z4:=sizeOf4
 v4:=zeroValue4
 t9:=underlying9
 a9:=isAgg9
 z9:=sizeOf9
 v9:=zeroValue9}
open Go.Lib in
theorem Tryz.internal_strconv_small(i:Nat)(h:i<100)(w:a7):
 a8 prog 323 #[.int .i64 i] w fun e w'=>e=.returned (.string ⟨(be i).toArray⟩)/\w'=w:=Any.internal_strconv_small azj i h w
def Tryz.Rj:da:=⟨fun|284=>324|129=>305|317=>362|318=>363|n=>n,fun|53=>308|3=>3|212=>396|0=>0|4=>4|46=>322|5=>5|9=>9|n=>n,fun|17=>1|n=>n⟩
theorem Tryz.U8:Go.Proofs.LaysM.n284 prog Rj:={
 mixed:=by kernel_rfl
 f129:=func305.trans (congrArg some (by kernel_rfl))
 f284:=func324.trans (congrArg some (by kernel_rfl))
 f317:=func362.trans (congrArg some (by kernel_rfl))
 f318:=func363.trans (congrArg some (by kernel_rfl))
 t0:=underlying0
 a0:=isAgg0
 z0:=sizeOf0
 v0:=zeroValue0
 t3:=underlying3
 a3:=isAgg3
 z3:=sizeOf3
 v3:=zeroValue3
 t4:=underlying4
 a4:=isAgg4
 z4:=sizeOf4
 v4:=zeroValue4
 t5:=underlying5
 a5:=isAgg5
 z5:=sizeOf5
 v5:=zeroValue5
 t9:=underlying9
 a9:=isAgg9
 z9:=sizeOf9
 v9:=zeroValue9
 t46:=underlying322
 a46:=isAgg322
 z46:=sizeOf322
 v46:=zeroValue322
 t53:=underlying308
 a53:=isAgg308
 z53:=sizeOf308
 v53:=zeroValue308
 t212:=underlying396
 a212:=isAgg396
 z212:=sizeOf396
 v212:=zeroValue396
 g17:=by kernel_rfl
 i0:=by kernel_rfl
 i3:=by kernel_rfl
 i4:=by kernel_rfl
 i5:=by kernel_rfl
 i9:=by kernel_rfl
 i46:=by kernel_rfl
 i53:=by kernel_rfl
 i212:=by kernel_rfl
 m17:=by kernel_rfl}
open Go.Lib in
theorem Tryz.internal_strconv_numDigits(u:Nat)(h1:1<=u)(h2:u<18446744073709551616)(w:a7)(htab:b1 prog w "internal/strconv.uint64pow10" .u64 b0):
 a8 prog 324 #[.int .u64 u] w fun e w'=>e=.returned (.int .i64 (bi u))/\w'=w:=Any.internal_strconv_numDigits U8 u h1 h2 w htab
def Tryz.RW:da:=⟨fun|285=>325|n=>n,fun|37=>225|53=>308|3=>3|4=>4|51=>354|9=>9|5=>5|0=>0|n=>n,fun|n=>n⟩
theorem Tryz.azk:ce prog RW:={
 mixed:=by kernel_rfl
 f285:=func325.trans (congrArg some (by kernel_rfl))
 t0:=underlying0
 a0:=isAgg0
 z0:=sizeOf0
 v0:=zeroValue0
 t3:=underlying3
 a3:=isAgg3
 z3:=sizeOf3
 v3:=zeroValue3
 t4:=underlying4
 a4:=isAgg4
 z4:=sizeOf4
 v4:=zeroValue4
 t5:=underlying5
 a5:=isAgg5
 z5:=sizeOf5
 v5:=zeroValue5
 t9:=underlying9
 a9:=isAgg9
 z9:=sizeOf9
 v9:=zeroValue9
 t37:=underlying225
 a37:=isAgg225
 z37:=sizeOf225
 v37:=zeroValue225
 t51:=underlying354
 a51:=isAgg354
 z51:=sizeOf354
 v51:=zeroValue354
 t53:=underlying308
 a53:=isAgg308
 z53:=sizeOf308
 v53:=zeroValue308}
open Go.RowKit Go.Sort Go.Lib in
theorem Tryz.internal_strconv_formatBase10(ak off cap:Nat)(u:Nat)(d:Array UInt8)(w:a7)(hH:Holds (fun(b:UInt8)=>dg .u8 (b.toNat:Int)) w ak off d)(hu:u<10^d.size)(hu64:u<18446744073709551616)(hsz:d.size<4611686018427387904):
 a8 prog 325 #[.slice (some ⟨ak,off,none⟩) d.size cap,.int .u64 u] w fun e w'=>
  e=.returned (.tuple #[])/\∃(n v':Nat)(dk:Array UInt8),w'=(putRow (fun(b:UInt8)=>dg .u8 (b.toNat:Int)) w ak off dk).drewN n/\FmtInv d.size u 0 v' dk:=Any.internal_strconv_formatBase10 azk ak off cap u d w hH hu hu64 hsz
def Tryz.Q5:da:=⟨fun|171=>152|243=>228|246=>281|283=>323|284=>324|285=>325|286=>326|129=>305|317=>362|318=>363|319=>364|320=>365|337=>380|338=>381|n=>n,fun|3=>3|9=>9|2=>2|4=>4|171=>362|0=>0|53=>308|37=>225|5=>5|173=>364|212=>396|51=>354|20=>20|213=>397|46=>322|232=>420|233=>421|n=>n,fun|17=>1|18=>6|19=>7|n=>n⟩
theorem Tryz.U9:Go.Proofs.LaysM.n171 prog Q5:={
 mixed:=by kernel_rfl
 f129:=func305.trans (congrArg some (by kernel_rfl))
 f171:=func152.trans (congrArg some (by kernel_rfl))
 f243:=func228.trans (congrArg some (by kernel_rfl))
 f246:=func281.trans (congrArg some (by kernel_rfl))
 f283:=func323.trans (congrArg some (by kernel_rfl))
 f284:=func324.trans (congrArg some (by kernel_rfl))
 f285:=func325.trans (congrArg some (by kernel_rfl))
 f286:=func326.trans (congrArg some (by kernel_rfl))
 f317:=func362.trans (congrArg some (by kernel_rfl))
 f318:=func363.trans (congrArg some (by kernel_rfl))
 f319:=func364.trans (congrArg some (by kernel_rfl))
 f320:=func365.trans (congrArg some (by kernel_rfl))
 f337:=func380.trans (congrArg some (by kernel_rfl))
 f338:=func381.trans (congrArg some (by kernel_rfl))
 t0:=underlying0
 a0:=isAgg0
 z0:=sizeOf0
 v0:=zeroValue0
 t2:=underlying2
 a2:=isAgg2
 z2:=sizeOf2
 v2:=zeroValue2
 t3:=underlying3
 a3:=isAgg3
 z3:=sizeOf3
 v3:=zeroValue3
 t4:=underlying4
 a4:=isAgg4
 z4:=sizeOf4
 v4:=zeroValue4
 t5:=underlying5
 a5:=isAgg5
 z5:=sizeOf5
 v5:=zeroValue5
 t9:=underlying9
 a9:=isAgg9
 z9:=sizeOf9
 v9:=zeroValue9
 t20:=underlying20
 a20:=isAgg20
 z20:=sizeOf20
 v20:=zeroValue20
 t37:=underlying225
 a37:=isAgg225
 z37:=sizeOf225
 v37:=zeroValue225
 t46:=underlying322
 a46:=isAgg322
 z46:=sizeOf322
 v46:=zeroValue322
 t51:=underlying354
 a51:=isAgg354
 z51:=sizeOf354
 v51:=zeroValue354
 t53:=underlying308
 a53:=isAgg308
 z53:=sizeOf308
 v53:=zeroValue308
 t171:=underlying362
 a171:=isAgg362
 z171:=sizeOf362
 v171:=zeroValue362
 t173:=underlying364
 a173:=isAgg364
 z173:=sizeOf364
 v173:=zeroValue364
 t212:=underlying396
 a212:=isAgg396
 z212:=sizeOf396
 v212:=zeroValue396
 t213:=underlying397
 a213:=isAgg397
 z213:=sizeOf397
 t232:=underlying420
 a232:=isAgg420
 z232:=sizeOf420
 v232:=zeroValue420
 t233:=underlying421
 a233:=isAgg421
 z233:=sizeOf421
 v233:=zeroValue421
 g17:=by kernel_rfl
 g18:=by kernel_rfl
 g19:=by kernel_rfl
 i0:=by kernel_rfl
 i2:=by kernel_rfl
 i3:=by kernel_rfl
 i4:=by kernel_rfl
 i5:=by kernel_rfl
 i9:=by kernel_rfl
 i20:=by kernel_rfl
 i37:=by kernel_rfl
 i46:=by kernel_rfl
 i51:=by kernel_rfl
 i53:=by kernel_rfl
 i171:=by kernel_rfl
 i173:=by kernel_rfl
 i212:=by kernel_rfl
 i232:=by kernel_rfl
 i233:=by kernel_rfl
 m17:=by kernel_rfl
 m18:=by kernel_rfl
 m19:=by kernel_rfl}
open Go.RowKit Go.Sort Go.Lib in
theorem Tryz.strconv_Itoa(n:Int)(h0: -9223372036854775808<=n)(h1:n<=9223372036854775807)(w:a7)(htab:b1 prog w "internal/strconv.uint64pow10" .u64 b0):
 a8 prog 152 #[.int .i64 n] w fun e w'=>e=.returned (.string ⟨(b4 n).toArray⟩)/\∃k os,w'=grow (w.drewN k) os:=Any.strconv_Itoa U9 n h0 h1 w htab
def Tryz.Q6:da:=⟨fun|172=>277|244=>320|245=>321|247=>356|279=>357|280=>358|281=>359|282=>360|287=>377|316=>378|171=>152|205=>379|321=>385|322=>386|243=>228|246=>281|283=>323|284=>324|285=>325|286=>326|129=>305|317=>362|318=>363|319=>364|320=>365|337=>380|338=>381|n=>n,fun|9=>9|3=>3|75=>229|76=>230|4=>4|5=>5|167=>388|37=>225|0=>0|85=>389|2=>2|168=>391|53=>308|175=>409|46=>322|210=>413|127=>330|145=>419|143=>417|21=>21|171=>362|173=>364|212=>396|51=>354|20=>20|213=>397|232=>420|233=>421|80=>288|n=>n,fun|15=>4|16=>5|17=>1|18=>6|19=>7|n=>n⟩
theorem Tryz.Va:Go.Proofs.LaysC.n172 prog Q6:={
 mixed:=by kernel_rfl
 f129:=func305.trans (congrArg some (by kernel_rfl))
 f171:=func152.trans (congrArg some (by kernel_rfl))
 f172:=func277.trans (congrArg some (by kernel_rfl))
 f205:=func379.trans (congrArg some (by kernel_rfl))
 f243:=func228.trans (congrArg some (by kernel_rfl))
 f244:=func320.trans (congrArg some (by kernel_rfl))
 f245:=func321.trans (congrArg some (by kernel_rfl))
 f246:=func281.trans (congrArg some (by kernel_rfl))
 f247:=func356.trans (congrArg some (by kernel_rfl))
 f279:=func357.trans (congrArg some (by kernel_rfl))
 f280:=func358.trans (congrArg some (by kernel_rfl))
 f281:=func359.trans (congrArg some (by kernel_rfl))
 f282:=func360.trans (congrArg some (by kernel_rfl))
 f283:=func323.trans (congrArg some (by kernel_rfl))
 f284:=func324.trans (congrArg some (by kernel_rfl))
 f285:=func325.trans (congrArg some (by kernel_rfl))
 f286:=func326.trans (congrArg some (by kernel_rfl))
 f287:=func377.trans (congrArg some (by kernel_rfl))
 f316:=func378.trans (congrArg some (by kernel_rfl))
 f317:=func362.trans (congrArg some (by kernel_rfl))
 f318:=func363.trans (congrArg some (by kernel_rfl))
 f319:=func364.trans (congrArg some (by kernel_rfl))
 f320:=func365.trans (congrArg some (by kernel_rfl))
 f321:=func385.trans (congrArg some (by kernel_rfl))
 f322:=func386.trans (congrArg some (by kernel_rfl))
 f337:=func380.trans (congrArg some (by kernel_rfl))
 f338:=func381.trans (congrArg some (by kernel_rfl))
 t0:=underlying0
 a0:=isAgg0
 z0:=sizeOf0
 v0:=zeroValue0
 t2:=underlying2
 a2:=isAgg2
 z2:=sizeOf2
 v2:=zeroValue2
 t3:=underlying3
 a3:=isAgg3
 z3:=sizeOf3
 v3:=zeroValue3
 t4:=underlying4
 a4:=isAgg4
 z4:=sizeOf4
 v4:=zeroValue4
 t5:=underlying5
 a5:=isAgg5
 z5:=sizeOf5
 v5:=zeroValue5
 t9:=underlying9
 a9:=isAgg9
 z9:=sizeOf9
 v9:=zeroValue9
 t20:=underlying20
 a20:=isAgg20
 z20:=sizeOf20
 v20:=zeroValue20
 t21:=underlying21
 a21:=isAgg21
 z21:=sizeOf21
 v21:=zeroValue21
 t37:=underlying225
 a37:=isAgg225
 z37:=sizeOf225
 v37:=zeroValue225
 t46:=underlying322
 a46:=isAgg322
 z46:=sizeOf322
 v46:=zeroValue322
 t51:=underlying354
 a51:=isAgg354
 z51:=sizeOf354
 v51:=zeroValue354
 t53:=underlying308
 a53:=isAgg308
 z53:=sizeOf308
 v53:=zeroValue308
 t75:=underlying229
 a75:=isAgg229
 z75:=sizeOf229
 v75:=zeroValue229
 t76:=underlying230
 a76:=isAgg230
 z76:=sizeOf230
 v76:=zeroValue230
 t85:=underlying389
 a85:=isAgg389
 z85:=sizeOf389
 v85:=zeroValue389
 t127:=underlying330
 a127:=isAgg330
 z127:=sizeOf330
 v127:=zeroValue330
 t143:=underlying417
 a143:=isAgg417
 z143:=sizeOf417
 v143:=zeroValue417
 t145:=underlying419
 a145:=isAgg419
 z145:=sizeOf419
 v145:=zeroValue419
 t167:=underlying388
 a167:=isAgg388
 z167:=sizeOf388
 v167:=zeroValue388
 t168:=underlying391
 a168:=isAgg391
 z168:=sizeOf391
 v168:=zeroValue391
 t171:=underlying362
 a171:=isAgg362
 z171:=sizeOf362
 v171:=zeroValue362
 t173:=underlying364
 a173:=isAgg364
 z173:=sizeOf364
 v173:=zeroValue364
 t175:=underlying409
 a175:=isAgg409
 z175:=sizeOf409
 v175:=zeroValue409
 t210:=underlying413
 a210:=isAgg413
 z210:=sizeOf413
 v210:=zeroValue413
 t212:=underlying396
 a212:=isAgg396
 z212:=sizeOf396
 v212:=zeroValue396
 t213:=underlying397
 a213:=isAgg397
 z213:=sizeOf397
 t232:=underlying420
 a232:=isAgg420
 z232:=sizeOf420
 v232:=zeroValue420
 t233:=underlying421
 a233:=isAgg421
 z233:=sizeOf421
 v233:=zeroValue421
 g15:=by kernel_rfl
 g16:=by kernel_rfl
 g17:=by kernel_rfl
 g18:=by kernel_rfl
 g19:=by kernel_rfl
 t80:=underlying288
 a80:=isAgg288
 z80:=sizeOf288
 v80:=zeroValue288
 i0:=by kernel_rfl
 i2:=by kernel_rfl
 i3:=by kernel_rfl
 i4:=by kernel_rfl
 i5:=by kernel_rfl
 i9:=by kernel_rfl
 i20:=by kernel_rfl
 i21:=by kernel_rfl
 i37:=by kernel_rfl
 i46:=by kernel_rfl
 i51:=by kernel_rfl
 i53:=by kernel_rfl
 i75:=by kernel_rfl
 i76:=by kernel_rfl
 i80:=by kernel_rfl
 i85:=by kernel_rfl
 i127:=by kernel_rfl
 i143:=by kernel_rfl
 i145:=by kernel_rfl
 i167:=by kernel_rfl
 i168:=by kernel_rfl
 i171:=by kernel_rfl
 i173:=by kernel_rfl
 i175:=by kernel_rfl
 i210:=by kernel_rfl
 i212:=by kernel_rfl
 i232:=by kernel_rfl
 i233:=by kernel_rfl
 m15:=by kernel_rfl
 m16:=by kernel_rfl
 m17:=by kernel_rfl
 m18:=by kernel_rfl
 m19:=by kernel_rfl
 c0:=by kernel_rfl
 c2:=by kernel_rfl
 c3:=by kernel_rfl
 c4:=by kernel_rfl
 c5:=by kernel_rfl
 c9:=by kernel_rfl
 c20:=by kernel_rfl
 c21:=by kernel_rfl
 c37:=by kernel_rfl
 c46:=by kernel_rfl
 c51:=by kernel_rfl
 c53:=by kernel_rfl
 c75:=by kernel_rfl
 c76:=by kernel_rfl
 c80:=by kernel_rfl
 c85:=by kernel_rfl
 c127:=by kernel_rfl
 c143:=by kernel_rfl
 c145:=by kernel_rfl
 c167:=by kernel_rfl
 c168:=by kernel_rfl
 c171:=by kernel_rfl
 c173:=by kernel_rfl
 c175:=by kernel_rfl
 c210:=by kernel_rfl
 c212:=by kernel_rfl
 c213:=by kernel_rfl
 c232:=by kernel_rfl
 c233:=by kernel_rfl}
open Go.RowKit in
theorem Tryz.strconv_Atoi_ok(s:ByteArray)(hmax:s.size<=9223372036854775806)(v:Int)(h:b5 s.data.toList= .ok v)(w:a7):
 a8 prog 277 #[.string s] w fun e w'=>e=.returned (.tuple #[.int .i64 v,.nilIface])/\(w'=w\/∃t,w'=Lib.bytesWorld w 5 t):=Any.strconv_Atoi_ok Va s hmax v h w
def Tryz.RZ:da:=⟨fun|219=>317|217=>352|225=>353|224=>354|267=>355|266=>375|314=>376|n=>n,fun|9=>9|3=>3|4=>4|5=>5|46=>322|146=>400|51=>354|n=>n,fun|1=>0|n=>n⟩
theorem Tryz.azb:cv prog RZ:={
 mixed:=by kernel_rfl
 f217:=func352.trans (congrArg some (by kernel_rfl))
 f219:=func317.trans (congrArg some (by kernel_rfl))
 f224:=func354.trans (congrArg some (by kernel_rfl))
 f225:=func353.trans (congrArg some (by kernel_rfl))
 f266:=func375.trans (congrArg some (by kernel_rfl))
 f267:=func355.trans (congrArg some (by kernel_rfl))
 f314:=func376.trans (congrArg some (by kernel_rfl))
 t3:=underlying3
 a3:=isAgg3
 z3:=sizeOf3
 v3:=zeroValue3
 t4:=underlying4
 a4:=isAgg4
 z4:=sizeOf4
 v4:=zeroValue4
 t5:=underlying5
 a5:=isAgg5
 z5:=sizeOf5
 v5:=zeroValue5
 t9:=underlying9
 a9:=isAgg9
 z9:=sizeOf9
 v9:=zeroValue9
 t46:=underlying322
 a46:=isAgg322
 z46:=sizeOf322
 v46:=zeroValue322
 t51:=underlying354
 a51:=isAgg354
 z51:=sizeOf354
 v51:=zeroValue354
 t146:=underlying400
 a146:=isAgg400
 z146:=sizeOf400
 v146:=zeroValue400
 g1:=by kernel_rfl}
open Go.RowKit Go.Lib in
theorem Tryz.stringslite_Index_one(s:ByteArray)(c:UInt8)(w:a7):
 a8 prog 317 #[.string s,.string ⟨#[c]⟩] w fun e w'=>e=.returned (.int .i64 (bk s.data.toList c))/\w'=w:=Any.stringslite_Index_one azb s c w
def Tryz.SJ:da:=⟨fun|99=>275|206=>318|n=>n,fun|9=>9|4=>4|3=>3|n=>n,fun|n=>n⟩
theorem Tryz.azl:cc prog SJ:={
 mixed:=by kernel_rfl
 f99:=func275.trans (congrArg some (by kernel_rfl))
 f206:=func318.trans (congrArg some (by kernel_rfl))
 t3:=underlying3
 a3:=isAgg3
 z3:=sizeOf3
 v3:=zeroValue3
 t4:=underlying4
 a4:=isAgg4
 z4:=sizeOf4
 v4:=zeroValue4
 t9:=underlying9
 a9:=isAgg9
 z9:=sizeOf9
 v9:=zeroValue9}
open Go.RowKit Go.Lib in
theorem Tryz.strings_HasPrefix(s p:ByteArray)(w:a7):
 a8 prog 275 #[.string s,.string p] w fun e w'=>e=.returned (.bool (bv s.data.toList p.data.toList))/\w'=w:=Any.strings_HasPrefix azl s p w
def Tryz.R5:da:=⟨fun|101=>276|208=>319|206=>318|n=>n,fun|9=>9|4=>4|3=>3|n=>n,fun|n=>n⟩
theorem Tryz.ayL:c6 prog R5:={
 mixed:=by kernel_rfl
 f101:=func276.trans (congrArg some (by kernel_rfl))
 f206:=func318.trans (congrArg some (by kernel_rfl))
 f208:=func319.trans (congrArg some (by kernel_rfl))
 t3:=underlying3
 a3:=isAgg3
 z3:=sizeOf3
 v3:=zeroValue3
 t4:=underlying4
 a4:=isAgg4
 z4:=sizeOf4
 v4:=zeroValue4
 t9:=underlying9
 a9:=isAgg9
 z9:=sizeOf9
 v9:=zeroValue9}
open Go.RowKit Go.Lib in
theorem Tryz.strings_TrimPrefix(s p:ByteArray)(w:a7):
 a8 prog 276 #[.string s,.string p] w fun e w'=>e=.returned (.string ⟨(br s.data.toList p.data.toList).toArray⟩)/\w'=w:=Any.strings_TrimPrefix ayL s p w
def Tryz.Gt:da:=⟨fun|105=>289|212=>335|99=>275|165=>280|166=>150|170=>229|169=>230|263=>369|264=>255|206=>318|240=>226|241=>322|276=>279|277=>361|n=>n,fun|9=>9|3=>3|4=>4|20=>20|0=>0|46=>322|109=>369|5=>5|72=>227|76=>230|51=>354|146=>400|53=>308|148=>309|70=>224|37=>225|75=>229|127=>330|164=>326|80=>288|n=>n,fun|n=>n⟩
theorem Tryz.ayT:cx prog Gt:={
 mixed:=by kernel_rfl
 f99:=func275.trans (congrArg some (by kernel_rfl))
 f105:=func289.trans (congrArg some (by kernel_rfl))
 f165:=func280.trans (congrArg some (by kernel_rfl))
 f166:=func150.trans (congrArg some (by kernel_rfl))
 f169:=func230.trans (congrArg some (by kernel_rfl))
 f170:=func229.trans (congrArg some (by kernel_rfl))
 f206:=func318.trans (congrArg some (by kernel_rfl))
 f212:=func335.trans (congrArg some (by kernel_rfl))
 f240:=func226.trans (congrArg some (by kernel_rfl))
 f241:=func322.trans (congrArg some (by kernel_rfl))
 f263:=func369.trans (congrArg some (by kernel_rfl))
 f264:=func255.trans (congrArg some (by kernel_rfl))
 f276:=func279.trans (congrArg some (by kernel_rfl))
 f277:=func361.trans (congrArg some (by kernel_rfl))
 t0:=underlying0
 a0:=isAgg0
 z0:=sizeOf0
 v0:=zeroValue0
 t3:=underlying3
 a3:=isAgg3
 z3:=sizeOf3
 v3:=zeroValue3
 t4:=underlying4
 a4:=isAgg4
 z4:=sizeOf4
 v4:=zeroValue4
 t5:=underlying5
 a5:=isAgg5
 z5:=sizeOf5
 v5:=zeroValue5
 t9:=underlying9
 a9:=isAgg9
 z9:=sizeOf9
 v9:=zeroValue9
 t20:=underlying20
 a20:=isAgg20
 z20:=sizeOf20
 v20:=zeroValue20
 t37:=underlying225
 a37:=isAgg225
 z37:=sizeOf225
 v37:=zeroValue225
 t46:=underlying322
 a46:=isAgg322
 z46:=sizeOf322
 v46:=zeroValue322
 t51:=underlying354
 a51:=isAgg354
 z51:=sizeOf354
 v51:=zeroValue354
 t53:=underlying308
 a53:=isAgg308
 z53:=sizeOf308
 v53:=zeroValue308
 t70:=underlying224
 a70:=isAgg224
 z70:=sizeOf224
 v70:=zeroValue224
 t72:=underlying227
 a72:=isAgg227
 z72:=sizeOf227
 v72:=zeroValue227
 t75:=underlying229
 a75:=isAgg229
 z75:=sizeOf229
 v75:=zeroValue229
 t76:=underlying230
 a76:=isAgg230
 z76:=sizeOf230
 v76:=zeroValue230
 t109:=underlying369
 a109:=isAgg369
 z109:=sizeOf369
 v109:=zeroValue369
 t127:=underlying330
 a127:=isAgg330
 z127:=sizeOf330
 v127:=zeroValue330
 t146:=underlying400
 a146:=isAgg400
 z146:=sizeOf400
 v146:=zeroValue400
 t148:=underlying309
 a148:=isAgg309
 z148:=sizeOf309
 v148:=zeroValue309
 t164:=underlying326
 a164:=isAgg326
 z164:=sizeOf326
 v164:=zeroValue326}
theorem Tryz.QB:Builder.Extra prog Gt:={
 sizeBuilder:=by kernel_rfl
 liesBuilder:=by kernel_rfl
 t5:=underlying5
 a5:=isAgg5
 z5:=sizeOf5
 v5:=zeroValue5
 infoByte:=by kernel_rfl
 cellsByte:=by kernel_rfl
 sizeByte:=by kernel_rfl
 neB5:=by decide}
open Go.RowKit Go.Lib in
theorem Tryz.strings_Repeat(s:ByteArray)(c:Nat)(w:a7)(hc:c<=9223372036854775807)(hlen:s.size*c<=140737488355328):
 a8 prog 289 #[.string s,.int .i64 c] w fun e w'=>e=.returned (.string ⟨(b2 s.data.toList c).toArray⟩)/\Below w.heap.size w w':=Any.strings_Repeat ayT QB s c w hc hlen
end Go.Proofs
namespace Go.Proofs
open Go.Shelf Go.RowKit Go.Sort Go.Lib
set_option maxHeartbeats 6400000 in
set_option maxRecDepth 100000 in
theorem Tryz.QA(u:Nat)(hu64:u<18446744073709551616)(w:a7)
 (htab:b1 prog w "internal/strconv.uint64pow10" .u64 b0):
 a8 prog 334 #[.int .u64 u,.int .i64 10] w fun e w'=>e=.returned (.string ⟨(be u).toArray⟩)/\∃k os,w'=grow (w.drewN k) os:=by
 have e323:∀args w,(callFunc 323 args).run prog w=.ok (.enter 323 args) w:=enters_of func323 (by kernel_rfl) rfl;have e324:∀args w,(callFunc 324 args).run prog w=.ok (.enter 324 args) w:=enters_of func324 (by kernel_rfl) rfl;have e325:∀args w,(callFunc 325 args).run prog w=.ok (.enter 325 args) w:=enters_of func325 (by kernel_rfl) rfl
 by_cases hs:u<100
 ·go_enter func334,ntmps334
  go_wp2_with (go_at_fn 323;refine(internal_strconv_small u hs _).mono ?_;rintro e w' ⟨rfl,rfl⟩)
  go_ret
  exact⟨rfl,0,#[],by simp[World.drewN_zero]⟩
 ·have hu1:1<=u:=by omega
  have hnd20:bi u<=20:=by have:=Lib.numDigits_eq u hu1 hu64;split at this<;>omega
  have hb3:bi u<=24:=by omega
  have hal:prog.arrayLen 362=24:=by kernel_rfl
  have hsl1:∀W,(Instr.sliceAt 362 (.pointer (some ⟨w.heap.size,0,none⟩)) none (some (.int .i64 (bi u:Int))) none).run prog W=.ok (.slice (some ⟨w.heap.size,0,none⟩) (bi u) 24) W:=fun W=>by
   rw[run_sliceAt_array_h W 362 ⟨w.heap.size,0,none⟩ (by kernel_rfl) .i64 (bi u:Int) (by omega) (by rw[hal];omega)]
   go_simp
  have hH0:=Lib.holds_zero0 w 362 (bi u) hb3;have hfmt:=internal_strconv_formatBase10 w.heap.size 0 24 u (Array.replicate (bi u) 0) (w.alloc (.cells bo 362)) hH0 (by rw[ao];exact Lib.lt_pow_nDigits u) hu64 (by rw[ao];omega);rw[ao]at hfmt;have HH0:=Lib.hid hH0;clear hH0 hal
  go_enter func334,ntmps334
  go_wp2_with (first
   |(go_at_fn 324;refine(internal_strconv_numDigits u hu1 hu64 _ (Lib.tabIs_alloc htab _)).mono ?_;rintro e w' ⟨rfl,rfl⟩))
  go_at_fn 325
  refine hfmt.mono ?_;rintro e w' ⟨rfl,k,v',dk,rfl,hF⟩;have hcv:(convert 225 9 (.slice (some ⟨w.heap.size,0,none⟩) (bi u) 24)).run prog ((putRow (fun(b:UInt8)=>dg .u8 (b.toNat:Int)) (w.alloc (.cells bo 362)) w.heap.size 0 dk).drewN k)=.ok (.string ⟨(be u).toArray⟩) ((putRow (fun(b:UInt8)=>dg .u8 (b.toNat:Int)) (w.alloc (.cells bo 362)) w.heap.size 0 dk).drewN k):=by
   have h:=run_convert_bytes_back (P:=prog) ((putRow (fun(b:UInt8)=>dg .u8 (b.toNat:Int)) (w.alloc (.cells bo 362)) w.heap.size 0 dk).drewN k) 225 9 5 ⟨w.heap.size,0,none⟩ 24 (be u) (by kernel_rfl) (by kernel_rfl) (by kernel_rfl) (fun j hj=>by
    rw[Lib.row_is_numeral hF j hj,Lib.add_plain,World.cell?_drewN];exact cell?_putRow (fun(b:UInt8)=>dg .u8 (b.toNat:Int)) _ w.heap.size 0 _ dk HH0.out (by rw[hF.size,ao]) j (by rw[hF.size];rw[b3]at hj;exact hj))
   rw[b3]at h;exact h
  go_wp2
  go_ret
  obtain⟨os,eo⟩:=Lib.fin_at w (.cells bo 362) dk k 0;exact⟨rfl,k,os,eo⟩
end Go.Proofs
namespace Go.au
open Go.Proofs
theorem sr{P:Program}{w:a7}{aa:Nat->Prop}(l:List UInt8):aw P w aa (.str (cV l)) (.string ⟨l.toArray⟩):=by
 simp only[aw];exact⟨_,rfl,by simp[cV]⟩
theorem mn{P:Program}{w:a7}{aa:Nat->Prop}{s:List Nat}{v:Value}(h:aw P w aa (.str s) v):∃bs:ByteArray,v=.string bs/\s=cV bs.data.toList:=by
 simp only[aw]at h;obtain⟨bs,rfl,rfl⟩:=h;exact⟨bs,rfl,rfl⟩
theorem one_byte{w:a7}{aa:Nat->Prop}{c:Nat}{v:Value}(h:aw prog w aa (.str [c]) v):∃b:UInt8,v=.string ⟨#[b]⟩/\c=b.toNat:=by
 obtain⟨bs,rfl,f⟩:=mn h;clear h;have h:=f;clear f
 match e:bs.data.toList with
 |[]=>rw[e]at h;simp[cV]at h
 |[b]=>
  rw[e]at h;simp[cV]at h;refine⟨b,?_,h⟩;congr 1;cases bs with
  |mk d=>simp at e⊢;exact Array.ext' (by simpa using e)
 |a::b::r=>rw[e]at h;simp[cV]at h
theorem Cr{w:a7}{aa:Nat->Prop}{v:Value}(h:aw prog w aa (.str [45]) v):v=.string ⟨#[45]⟩:=by
 obtain⟨b,rfl,a⟩:=one_byte h;have:b=45:=hL.1 a.symm;rw[this]
theorem Ff(s:List Nat)(c:Nat):az prog 317 [.str s,.str [c]] (.int .i64 (mE c s 0)):=by
 refine ju (iC func317 (by kernel_rfl)) fun w aa g _ _ f=>?_;obtain⟨x,y,rfl,a,d⟩:=l9 f;obtain⟨b,rfl,rfl⟩:=one_byte d;obtain⟨bs,rfl,rfl⟩:=mn a;refine(stringslite_Index_one bs b w).mono ?_;rintro e w' ⟨rfl,rfl⟩;refine⟨_,rfl,⟨gj _,fun _ _=>rfl,rfl,rfl⟩,fun w aa=>?_⟩;have e1:=JU b bs.data.toList 0;simp only[aw]at e1⊢;rw[e1]
 by_cases h:bk bs.data.toList b= -1<;>simp[h]
theorem Wt(s:List Nat)(c:Nat)(h:s.length<=1048576):az prog 274 [.str s,.str [c]] (.aC [.str (bZ c s).1,.str (bZ c s).2.1,.bool (bZ c s).2.2]):=by
 refine aO nf E4 mix (by simp[f274]) ?_;simp[f274];refine c2 (Ff s c) ?_;rcases JV c s 0 with⟨_,a,b⟩|⟨i,d,a,b⟩
 ·simp[a,b]
 ·rw[hB]at a;have w:=cJ (i:=i) (by omega);have e1:((i:Int)+1).toNat=i+1:=by omega
  simp[a,b,w,e1];omega
theorem MV(s:List Nat)(c:Nat)(h:s.length<=1048576):az prog 223 [.str s,.str [c]] (.aC [.str (bZ c s).1,.str (bZ c s).2.1,.bool (bZ c s).2.2]):=by
 refine aO nf Fm mix (by simp[f223]) ?_;simp[f223];refine c2 (Wt s c h) ?_;simp
theorem V3(s:List Nat):az prog 275 [.str s,.str [45]] (.bool (bV s)):=by
 refine ju (iC func275 (by kernel_rfl)) fun w aa d _ _ c=>?_;obtain⟨x,y,rfl,a,b⟩:=l9 c;obtain rfl:=Cr b;obtain⟨bs,rfl,rfl⟩:=mn a;refine(strings_HasPrefix bs _ w).mono ?_;rintro e w' ⟨rfl,rfl⟩;exact⟨_,rfl,⟨gj _,fun _ _=>rfl,rfl,rfl⟩,fun w aa=>by rw[<-Av];simp only[aw]⟩
theorem Io(s:List Nat):az prog 276 [.str s,.str [45]] (.str (cS s)):=by
 refine ju (iC func276 (by kernel_rfl)) fun w aa d _ _ c=>?_;obtain⟨x,y,rfl,a,b⟩:=l9 c;obtain rfl:=Cr b;obtain⟨bs,rfl,rfl⟩:=mn a;refine(strings_TrimPrefix bs _ w).mono ?_;rintro e w' ⟨rfl,rfl⟩;exact⟨_,rfl,⟨gj _,fun _ _=>rfl,rfl,rfl⟩,fun w aa=>by rw[<-GH];exact sr _⟩
theorem VD(s:List Nat):az prog 270 [.str s,.str [45]] (.aC [.str (cS s),.bool (bV s)]):=by
 refine ju (iC func270 (by kernel_rfl)) fun w aa d _ _ c=>?_;obtain⟨x,y,rfl,a,b⟩:=l9 c;obtain rfl:=Cr b;obtain⟨bs,rfl,rfl⟩:=mn a;refine(strings_CutPrefix bs _ w).mono ?_;rintro e w' ⟨rfl,rfl⟩;refine⟨_,rfl,⟨gj _,fun _ _=>rfl,rfl,rfl⟩,fun w aa=>?_⟩;rw[<-GH,<-Av];simp only[aw,bg];refine⟨[_,_],⟨_,_,rfl,?_,_,_,rfl,rfl,rfl⟩,rfl⟩;exact⟨_,rfl,by simp[cV]⟩
theorem Lr{w:a7}{aa:Nat->Prop}(b:mg prog w aa):b1 prog w "internal/strconv.uint64pow10" .u64 b0:=by
 obtain⟨_,T,a⟩:=b.raw 1 _ rfl;have c:prog.globalNamed "internal/strconv.uint64pow10" =some 1:=by kernel_rfl
 simp only[b1,World.var?,c,Option.bind_some,a];rfl
theorem Fe(n:Int)(b:-9223372036854775808<=n)(c:n<=9223372036854775807):az prog 152 [.int .i64 n] (.str (cQ n)):=by
 refine ju (iC func152 (by kernel_rfl)) fun w aa g _ f d=>?_;obtain⟨x,rfl,a⟩:=xw d;simp only[aw]at a;subst a;refine(strconv_Itoa n b c w (Lr f)).mono ?_;rintro e w' ⟨rfl,k,os,rfl⟩;refine⟨_,rfl,⟨?_,fun k hk=>?_,rfl,rfl⟩,fun w aa=>?_⟩
 ·simp[db,World.drewN]
 ·simp only[db];exact ap hk
 ·rw[<-axM];exact sr _
theorem Wz(u:Nat)(f:u<18446744073709551616):az prog 334 [.int .u64 u,.int .i64 10] (.str (bp u)):=by
 refine ju (iC func334 (by kernel_rfl)) fun w aa g _ d c=>?_;obtain⟨x,y,rfl,a,b⟩:=l9 c;simp only[aw]at a b;subst a b;refine(QA u f w (Lr d)).mono ?_;rintro e w' ⟨rfl,k,os,rfl⟩;refine⟨_,rfl,⟨?_,fun k hk=>?_,rfl,rfl⟩,fun w aa=>?_⟩
 ·simp[db,World.drewN]
 ·simp only[db];exact ap hk
 ·rw[<-Cp];exact sr _
theorem MW(u:Nat)(a:u<18446744073709551616):az prog 288 [.int .u64 u,.int .i64 10] (.str (bp u)):=by
 refine aO nf EZ mix (by simp[f288]) ?_;simp[f288];refine c2 (Wz u a) ?_;simp
theorem MY(s:List Nat)(c:Nat)(hc:c<=9223372036854775807)(hl:s.length*c<=140737488355328):az prog 289 [.str s,.int .i64 c] (.str (qW s c)):=by
 refine ju (iC func289 (by kernel_rfl)) fun w aa g _ h f=>?_;obtain⟨x,y,rfl,d,b⟩:=l9 f;obtain⟨bs,rfl,rfl⟩:=mn d;simp only[aw]at b;subst b;refine(strings_Repeat bs c w hc (by simpa[cV]using hl)).mono ?_;rintro e w' ⟨rfl,a⟩;exact⟨_,rfl,⟨a.size,a.block,a.os,a.output⟩,fun w aa=>by
  rw[I9];exact sr _⟩
theorem Fg(s:List Nat)(v:Int)(h:b5 (s.map hM)=.ok v)(hl:s.length<=9223372036854775806):az prog 277 [.str s] (.aC [.int .i64 v,.fF]):=by
 refine ju (iC func277 (by kernel_rfl)) fun w aa f _ g c=>?_;obtain⟨x,rfl,b⟩:=xw c;obtain⟨bs,rfl,rfl⟩:=mn b;rw[Sh]at h;refine(strconv_Atoi_ok bs (by simpa[cV]using hl) v h w).mono ?_;rintro e w' ⟨rfl,d⟩;refine⟨_,rfl,?_,fun w aa=>by simp[aw,bg]⟩;rcases d with rfl|⟨t,rfl⟩
 ·exact⟨gj _,fun _ _=>rfl,rfl,rfl⟩
 ·have a:=Lib.bytesWorld_below w 5 t;exact⟨a.size,a.block,a.os,a.output⟩
def tB:Nat:=1000000000000000000
theorem B8:tB=10^18:=by decide
theorem JK:∀i,low i 0=fd i 48
 |0=>rfl
 |i+1=>by rw[rP,Nat.zero_div,JK i,List.replicate_succ']
theorem OG{r:Nat}(h:r<tB):fd (18-(bp r).length) 48++bp r=low 18 r:=by
 rw[rT,bp];have c:nd r<=18:=qC (by rw[<-B8];exact h);obtain⟨k,hk⟩:∃k,k=max 1 (nd r):=⟨_,rfl⟩
 have d:k<=18:=by omega
 have b:r<10^k:=gi (HJ r) (gg (by decide) (by omega));rw[<-hk];have:=pT (18-k) r (a:=k);have e:low 18 r=low (18-k) (r/10^k)++low k r:=by
  have:=pT k r (18-k);rw[show 18-k+k=18 by omega]at this;exact this
 rw[e,hz b,JK]
theorem BO{r:Nat}(h:r<tB):(bp r).length<=18:=by
 rw[rT];have a:nd r<=18:=qC (by rw[<-B8];exact h);omega
theorem Ux{m:Nat}(h:tB<=m):bp m=bp (m/tB)++low 18 (m% tB):=by
 rw[B8]at h⊢;have e:=Cj (n:=m) (k:=18) h;have a:0<nd (m/10^18):=yn (hr h (gm (by decide)));rw[bp,bp,show max 1 (nd m)=max 1 (nd (m/10^18))+18 by omega,pT,BE m 18 18 (gj _)]
def jn(m:Nat)(a:List (List Nat)):List Nat:=(if m=0 then[]else bp m)++a.reverse.flatten
def ek(m:Nat):List Nat:=if m/tB=0 then bp m else low 18 (m% tB)
theorem IY{m:Nat}(h:m≠0)(c:List (List Nat)):jn (m/tB) (c++[ek m])=jn m c:=by
 rw[jn,jn,if_neg h,ek,List.reverse_append]
 by_cases a:m/tB=0
 ·rw[if_pos a,if_pos a];simp
 ·rw[if_neg a,if_neg a];have:tB<=m:=by
   rcases g6 m tB with b|b
   ·exact(a (hz b)).elim
   ·exact b
  rw[Ux this];simp
theorem Uz(a:List (List Nat)):jn 0 a=a.reverse.flatten:=by rw[jn,if_pos rfl];rfl
theorem xE(n:Nat):0<(bp n).length:=by rw[rT];omega
theorem HU(m:Nat):ek m≠[]:=by
 intro h;have:(ek m).length=0:=by rw[h];rfl
 rw[ek]at this
 split at this
 ·have:=xE m;omega
 ·rw[pR]at this;omega
theorem HV(m:Nat):(ek m).length<=18:=by
 rw[ek]
 split
 ·rename_i h;have b:m<tB:=by
   rcases g6 m tB with a|a
   ·exact a
   ·have:=hr a (show 0<tB by decide);omega
  exact BO b
 ·rw[pR];exact gj _
theorem JS{c:Nat}(h:cm c=true):c<256:=by
 simp only[cm,av,decide_eq_true_eq]at h;omega
end Go.au
namespace Go.Proofs
open Go.au
theorem Tryz.zL:prog.underlying 224=some (.pointer 227):=by kernel_rfl
theorem Tryz.E6:prog.underlying 326=some .unsafePointer:=by kernel_rfl
theorem Tryz.EK:(prog.info? 227).map (·.size)=some 2:=by kernel_rfl
theorem Tryz.azm:liesAt prog prog.depth 227 (2/prog.cellsOf 227) 0 227 1=true:=by kernel_rfl
set_option maxHeartbeats 1000000 in
set_option maxRecDepth 100000 in
theorem Tryz.QI(b:Nat)(w:a7)(h0:w.cell? ⟨b,0,none⟩=some (.pointer (some ⟨b,0,none⟩))):
 a8 prog 226 #[.pointer (some ⟨b,0,none⟩)] w fun e w'=>e=.returned (.tuple #[])/\w'=w:=by
 obtain⟨j,hj,_⟩:=Option.map_eq_some_iff.1 EK
 go_enter func226,ntmps226
 go_wp2
 rw[Lib.run_neq_ptr_same w _ zL hj]
 go_wp2
 go_end0
 exact⟨rfl,rfl⟩
set_option maxHeartbeats 1000000 in
set_option maxRecDepth 100000 in
theorem Tryz.QJ(b:Nat)(w:a7)(h0:w.cell? ⟨b,0,none⟩=some (.pointer none))(hsh:w.shape? b=some (227,2))(hfz:w.frozen? ⟨b,0,none⟩=false):
 a8 prog 226 #[.pointer (some ⟨b,0,none⟩)] w fun e w'=>e=.returned (.tuple #[])/\w'=w.setCell ⟨b,0,none⟩ (.pointer (some ⟨b,0,none⟩)):=by
 obtain⟨j,hj,hjs⟩:=Option.map_eq_some_iff.1 EK
 go_enter func226,ntmps226
 go_wp2
 rw[Lib.run_to_unsafe w ⟨b,0,none⟩ zL E6 hj (by rw[hjs];decide) hsh (Nat.zero_lt_succ 1)];simp only[Result.andThen];rw[cb]
 go_wp2
 rw[run_callFunc_extern func279 (by kernel_rfl) (by kernel_rfl) (by kernel_rfl) (e:=Extern.AbiNoEscape.same) (by kernel_rfl)];rw[Lib.run_noEscape];simp only[Result.andThen];rw[cb]
 go_wp2
 rw[Lib.run_from_unsafe w ⟨b,0,none⟩ E6 zL hj hsh azm];simp only[Result.andThen];rw[cb]
 go_wp2
 go_end0
 exact⟨rfl,rfl⟩
end Go.Proofs
