import Derived.Test.YtgpphcmkjhklgaaGreatDoorPF
import Derived.Lib.ItoaNum
import Derived.Lib.Strings
import Derived.Lib.Repeat
import Derived.Lib.Bytealg
import Derived.Test.YtgpphcmkjhklgaaGreatDoorThA
import Derived.Test.YtgpphcmkjhklgaaGreatDoorPE
import Derived.Shelf.Strings.Builder1
import Derived.Shelf.Strings.Builder2
import Derived.Shelf.Strings.Trim
import Derived.Shelf.Small.Utf8
import Derived.Shelf.Small.Bits
import Derived.Shelf.Small.Strs
import Derived.Shelf.Small.Wraps
import Derived.Shelf.Strings.BuilderF
import Derived.Shelf.Strings.Builder2Cap
import Derived.Shelf.Strconv.Atoi
import Derived.Shelf.Strconv.Itoa0
import Derived.Shelf.Strconv.Itoa1
import Derived.Shelf.LaysM
import Derived.Shelf.Strconv.Itoa2
import Derived.Shelf.Strconv.Itoa3
import Derived.Shelf.Strconv.AtoiErrFast
import Derived.Shelf.Strconv.ParseIntEmpty
import Derived.Shelf.Strconv.AtoiFail
import Derived.Shelf.Strconv.Clone
import Derived.Shelf.Strconv.SyntaxError
import Derived.Shelf.LaysC
import Derived.Shelf.Strconv.ToError
import Derived.Shelf.Strconv.Lower
import Derived.Shelf.Strconv.ParseUint10
import Derived.Shelf.Strconv.ParseUint10Empty
import Derived.Shelf.Strconv.ParseUint10Any
import Derived.Shelf.Strconv.ParseInt10
import Derived.Shelf.Strconv.AtoiLong
import Derived.Shelf.Strconv.AtoiInnerAll
import Derived.Shelf.Strconv.RangeError
import Derived.Shelf.Strconv.ToErrorRange
import Derived.Shelf.Strconv.AtoiAll
import Derived.Shelf.Strconv.ParseUintEmpty
import Derived.Shelf.Strings.Search1
import Derived.Shelf.Strings.Search2
import Derived.Shelf.Strings.Search3
import Derived.Shelf.Strings.Cut
import Derived.Shelf.Strings.Count
import Derived.Shelf.Strings.Shaped
import Derived.Shelf.Strings.Prefix
import Derived.Shelf.Unicode.Decode
import Derived.Shelf.Strings.Runes
import Derived.Shelf.Strings.AsciiSet
import Derived.Shelf.Bits.Mul64
import Derived.Shelf.Strings.Repeat
import Derived.Shelf.Unicode.DecodeSlow
import Derived.Shelf.Unicode.DecodeAny
import Derived.Shelf.Unicode.DecodeLast
import Derived.Shelf.Slices.Turned
import Derived.Test.YtgpphcmkjhklgaaGreatDoorProg
import Derived.Lib.Walk
import Derived.Lib.ItoaMem
import Derived.WalkKit
import Derived.BigCall
import Derived.BigGuard
import Derived.Lib.AppendIntMem
import Derived.Lib.Builder
import Derived.Laws.Externs
import Derived.Shelf.RegionOpenPlain
/- Parts of a proof. -/
set_option linter.unusedSimpArgs false
set_option linter.unusedVariables false
set_option linter.unusedSectionVars false
open Go.Proofs.Tryz
open Array renaming size_replicate->an, getElem?_append_left->ao
open Bool renaming and_eq_true->ap, or_eq_true->av, not_eq_true'->ax, and_true->ay, and_eq_false_iff->aT, false_and->a1, and_false->a6, true_and->a7
open Go renaming World->a8, Calls->bb
open Go.IntKind renaming i64->be
open Go.Lib renaming decDigits->bi, nDigits->bk, indexByte->bl, bitLen->bo, zeros24->bv, trimPrefix->b0, hasPrefix->b1, pow10Tab->b2, TabIs->b3, repeatL->b4, decDigits_length->b5, itoa->cb, atoiAll->cc
open Go.Oper renaming upon_value->ce
open Go.Proofs.Lays renaming n99->ck, n285->cv, n283->cx, n219->cy, n105->c6, n103->da, n101->db
open Go.Shelf renaming Ren->dg
open Go.Sort renaming grow->dl
open Go.Value renaming int->dp
open Int renaming ediv_emod_unique->dq, natAbs_mul->dz, emod_lt_of_pos->ea, emod_nonneg->eb, ediv_lt_of_lt_mul->ec, tmod_lt_of_pos->ed, natAbs_natCast->ee, lt_tmod_of_pos->ei, mul_ne_zero->ej, natAbs_neg->em, mul_le_mul->en, ediv_one->eq, mul_sub->ew, mul_neg->e6
open List renaming append_nil->e7, all_cons->e8, length_eq_zero_iff->e9, mem_cons->fa, cons_append->fb, all_reverse->fd, all_eq_true->fl, head?_cons->fm, dropLast_concat_getLast->fv, replicate->fZ, map_cons->gb, length_cons->gc, foldl_cons->ge, all_append->gg, all_nil->gi
open Nat renaming pow_le_pow_right->gj, lt_of_lt_of_le->gm, le_refl->gt, lt_of_le_of_lt->gx, pow_pos->gy, eq_zero_or_pos->g0, pow_succ->g5, mod_eq_of_lt->g6, mul_comm->g7, add_sub_cancel->g8, pow_add->g9, lt_or_ge->ha, le_trans->hb, div_lt_iff_lt_mul->hd, pow_zero->hg, pow_one->hh, pow_mul->hl, div_pos->hm, gcd->hn, le_of_eq->ho, le_mul_of_pos_left->hp, beq->hr, le_div_iff_mul_le->ht, eq_of_beq_eq_true->hv, mul_le_mul_right->hy, mul_le_mul_left->hz, mod_lt->hA, gcd_one_right->hB, div_eq_of_lt->hC, mul_assoc->hD, zero_add->hE, gcd_comm->hG, pow_two->hK
open Rat renaming divInt->hL, num_eq_zero->hM, not_lt->hN, lt_iff->hO
open UInt8 renaming toNat_inj->hP, ofNat->hQ, toNat_ofNat'->hR
namespace Go.ag
open Go.Proofs
set_option maxHeartbeats 4000000
set_option maxRecDepth 100000
theorem nt{a b:NI}(h:a.v=b.v)(d:a.v= -9223372036854775808->a.m=b.m):eI a=eI b:=by
 by_cases c:a.v= -9223372036854775808
 ·have:=d c;cases a;cases b;dsimp only at h this;subst h this;rfl
 ·have e:a.sm=b.sm:=by
   simp only[NI.sm,h];rw[h]at c;simp[c]
  rw[jd,jd,e,h]
theorem Yz{a b:Int}(c:0<b):(a.tdiv b=a/b/\a.tmod b=a% b/\¬a.tmod b<0)\/(a.tdiv b-1=a/b/\a.tmod b+b=a% b/\a.tmod b<0/\a/b<0):=by
 have f:=Int.tmod_add_mul_tdiv a b;have g:=ei a c;have i:=ed a c
 by_cases h:a.tmod b<0
 ·right;have e:=(dq (a:=a) (r:=a.tmod b+b) (q:=a.tdiv b-1) c).2 ⟨by rw[ew];omega,by omega,by omega⟩;have j:a<0:=by
   rcases Int.lt_or_le a 0 with d|d
   ·exact d
   ·have:=Int.tmod_nonneg b d;omega
  have d:a/b<0:=ec c (by omega);omega
 ·left;have e:=(dq (a:=a) (r:=a.tmod b) (q:=a.tdiv b) c).2 ⟨by omega,by omega,by omega⟩;omega
theorem afL{a b:Int}(c:0<b):((if a<0 then -((a.natAbs% b.natAbs:Nat):Int)else(a.natAbs% b.natAbs:Nat))<0/\a/b=(if a<0 then -((a.natAbs/b.natAbs:Nat):Int)else(a.natAbs/b.natAbs:Nat))-1/\a% b=(if a<0 then -((a.natAbs% b.natAbs:Nat):Int)else(a.natAbs% b.natAbs:Nat))+b)\/
 (¬(if a<0 then -((a.natAbs% b.natAbs:Nat):Int)else(a.natAbs% b.natAbs:Nat))<0/\a/b=(if a<0 then -((a.natAbs/b.natAbs:Nat):Int)else(a.natAbs/b.natAbs:Nat))/\a% b=(if a<0 then -((a.natAbs% b.natAbs:Nat):Int)else(a.natAbs% b.natAbs:Nat))):=by
 have e:((b.natAbs:Nat):Int)=b:=by omega
 have f:=Nat.mod_add_div a.natAbs b.natAbs;have g:=hA a.natAbs (show 0<b.natAbs by omega);have i:((a.natAbs% b.natAbs:Nat):Int)+b*(a.natAbs/b.natAbs:Nat)=(a.natAbs:Nat):=by
  rw[<-e,<-Int.natCast_mul,<-Int.natCast_add,e,f]
 generalize a.natAbs% b.natAbs=r at*;generalize a.natAbs/b.natAbs=q at*
 by_cases h:a<0
 ·simp only[if_pos h]
  by_cases j:r=0
  ·right;have d:=(dq (a:=a) (r:=0) (q:=-(q:Int)) c).2 ⟨by rw[e6];omega,by omega,by omega⟩;omega
  ·left;have d:=(dq (a:=a) (r:=-(r:Int)+b) (q:=-(q:Int)-1) c).2 ⟨by rw[ew,e6];omega,by omega,by omega⟩;omega
 ·simp only[if_neg h];right;have d:=(dq (a:=a) (r:=(r:Int)) (q:=(q:Int)) c).2 ⟨by omega,by omega,by omega⟩;omega
theorem LI(a b:NI)(i:0<b.v)(M:okW a.v)(z:okW b.v):aA prog 289 [eI a,eI b] (.aE [eI (a.div b),eI (a.mod b)]):=by
 have V:=n8 (eI a) a.v (mv a);have hq:=n8 (eI b) b.v (mv b);have af:=n6 M;have ag:=n6 z;have O:=Ds a.v.natAbs b.v.natAbs (by omega) (by omega) (by omega);refine aG nf HC mix (by simp[f289]) ?_;simp[f289,-bm];rw[bm];simp[-bm];refine join (fun s=>aN s.env 2=.ptr 0 []/\aN s.env 3=.ptr 1 []/\aN s.env 4=.ptr 2 []/\aN s.env 5=.ptr 3 []/\s.heap=[.box false (.p (eI a)),.box false (.p (eI b)),.box false (.p (.st 130 [.int .i64 0,.aW])),.box false (.p (.st 130 [.int .i64 0,.aW]))]) ?_ ?_
 ·rcases hs:a.sm with _|_
  ·obtain⟨c,cs,l⟩:=ov hs;simp[aa,l,dC,cW]
  ·have l:=mq hs;rcases n:b.sm with _|_
   ·obtain⟨c,cs,m⟩:=ov n;simp[aa,l,m,dC,cW]
   ·have m:=mq n;have u:=nm hs;have w:=nm n;have al:=NI.qx hs;have am:=NI.qx n
    by_cases t:a.v= -9223372036854775808
    ·simp[aa,l,m,u,w,t,dC,cW]
    ·have r:¬b.v=0:=by omega
     have E:-9223372036854775808<a.v/b.v:=by
      have:=Int.le_ediv_of_mul_le (a:=-9223372036854775807) (b:=a.v) i (by omega);omega
     have F:a.v/b.v<9223372036854775808:=ec i (by omega);have G:=ea a.v i;have H:=eb a.v r;have J:eI (a.div b)=fj (a.v/b.v):=by rw[jd,if_pos (NI.AZ E F)];rfl
     have f2:eI (a.mod b)=fj (a.v% b.v):=oC (by omega) (by omega);rw[J,f2];have aj:=ei a.v i;have ai:=ed a.v i;rcases Yz (a:=a.v) i with⟨d1,d2,d3⟩|⟨d1,d2,d3,d4⟩
     ·have q1:be.wrap (a.v.tdiv b.v)=a.v/b.v:=by rw[d1];exact aO _ (by omega) (by omega)
      simp[aa,l,m,u,w,t,r,dC,cW,fj,d3,q1];exact d2.symm
     ·have q1:be.wrap (be.wrap (a.v.tdiv b.v)-1)=a.v/b.v:=by rw[aO (a.v.tdiv b.v) (by omega) (by omega),d1];exact aO _ (by omega) (by omega)
      have Z:be.wrap (a.v.tmod b.v+b.v)=a.v% b.v:=by rw[d2];exact aO _ (by omega) (by omega)
      simp[aa,l,m,u,w,t,r,dC,cW,fj,d3,q1,Z]
 ·rintro⟨ab,ah⟩ ⟨d,e,f,g,A⟩;dsimp only at d e f g A;subst A;have S:(au wB (a.v.natAbs/b.v.natAbs)).length<=900000:=by
   have:=dQ bh _ _ (gx (Nat.div_le_self a.v.natAbs b.v.natAbs) (cq bh a.v.natAbs));omega
  have T:(au wB (a.v.natAbs% b.v.natAbs)).length<=900000:=by
   have:=dQ bh _ _ (gx (Nat.mod_le a.v.natAbs b.v.natAbs) (cq bh a.v.natAbs));omega
  have C:=xL (decide (a.v<0)) (a.v.natAbs/b.v.natAbs) (by omega);have D:=xL (decide (a.v<0)) (a.v.natAbs% b.v.natAbs) (by omega);have P:=afL (a:=a.v) i;simp only[decide_eq_true_eq]at C D;have ak:=hA a.v.natAbs (show 0<b.v.natAbs by omega);generalize a.v.natAbs/b.v.natAbs=k at*;generalize a.v.natAbs% b.v.natAbs=j at*;have ae:-b.v<(if a.v<0 then -(j:Int)else(j:Int)):=by split<;>omega
  have L:a.v<0->(if a.v<0 then -(j:Int)else(j:Int))<=0:=fun h=>by rw[if_pos h];omega
  have X:okW (if a.v<0 then -(k:Int)else(k:Int)):=by rw[okW];split<;>simpa using S
  have Y:okW (if a.v<0 then -(j:Int)else(j:Int)):=by rw[okW];split<;>simpa using T
  have W:(if a.v<0 then -(k:Int)else(k:Int))= -9223372036854775808->a.v<0:=by split<;>omega
  generalize (if a.v<0 then -(k:Int)else(k:Int))=Q at*;generalize (if a.v<0 then -(j:Int)else(j:Int))=R at*;have y:=uK (.mk' R);simp only[NI.iv]at y;have G:=ea a.v i;have H:=eb a.v (show b.v≠0 by omega);simp[d,e,f,g];refine c1 V ?_;simp[d,e,f,g];refine c1 hq ?_;simp[d,e,f,g];refine c2 O ?_;simp;refine c2 C ?_;simp;refine c2 D ?_;simp[d,e,f,g,aa];refine c1 y ?_;rcases P with⟨d1,d2,d3⟩|⟨d1,d2,d3⟩
  ·have B:=EZ (.mk' Q) (.of 1) X (by rw[okW];decide);have N:=yh (.mk' R) b Y z;rw[uX (by decide) (by decide)]at B;have o:eI (a.div b)=eI ((NI.mk' Q).sub (.of 1)):=by
    refine nt (by rw[NI.RJ];exact d2) (fun h=>?_);have I:Q= -9223372036854775807:=by have:a.v/b.v= -9223372036854775808:=h;omega
    have U:¬a.v% b.v=0:=by omega
    subst I;show decide (a.v% b.v≠0)=_;simp[U];rfl
   have q:eI (a.mod b)=eI ((NI.mk' R).add b):=nt (by rw[NI.sM];exact d3) (fun h=>by have:a.v% b.v= -9223372036854775808:=h;omega);rw[o,q];simp[d,e,f,g,aa,d1];refine e1 (sS 1) ?_;simp[d,e,f,g,aa];refine e2 B ?_;simp[d,e,f,g,aa];refine e2 N ?_;simp[d,e,f,g,aa];exact⟨rfl,rfl⟩
  ·have o:eI (a.div b)=eI (.mk' Q):=by
    refine nt d2 (fun h=>?_);have ac:a.v/b.v= -9223372036854775808:=h;have ad:=L (W (by omega));have K:a.v% b.v=0:=by omega
    show decide (a.v% b.v≠0)=false;simp[K]
   have q:eI (a.mod b)=eI (.mk' R):=nt d3 (fun h=>by have:a.v% b.v= -9223372036854775808:=h;omega);rw[o,q]
   by_cases x:R=0
   ·simp[d,e,f,g,aa,x]
   ·simp[d,e,f,g,aa,d1,x]
theorem rP{a b:Int}(h:okW b)(c:a.natAbs<=b.natAbs):okW a:=by
 have:=dQ bh _ _ (gx c (cq bh b.natAbs));have:=n6 h;rw[okW];omega
theorem PE(a b:NI)(e:0<b.v)(d:okW a.v)(f:okW b.v):aA prog 245 [eI a,eI b] (eI (a.div b)):=by
 have c:=uK b;rw[if_neg (by omega),if_neg (by omega)]at c;refine aG nf Ol mix (by simp[f245]) ?_;simp[f245];refine c1 c ?_;simp;refine c2 (LI a b e d f) ?_;simp[aa]
 done
theorem NI.Ai(a:NI):a.abs.v.natAbs=a.v.natAbs:=by
 rw[NI.abs];split
 ·rw[NI.iv,em]
 ·rfl
theorem NI.Px(a:NI):0<=a.abs.v:=by
 rw[NI.abs];split
 ·rw[NI.iv];omega
 ·omega
def eM(a b:Int):Int:=(hn a.natAbs b.natAbs:Nat)
theorem PD(a b:NI)(j:okW a.v)(k:okW b.v):aA prog 244 [eI a,eI b] (eI (.mk' (eM a.v b.v))):=by
 refine aG nf Hr mix (by simp[f244]) ?_;simp[f244];refine e1 (PB a j) ?_;simp;refine e1 (PB b k) ?_;simp[aa];refine⟨⟨rfl,rfl⟩,?_⟩;have n:eM a.abs.v b.abs.v=eM a.v b.v:=by rw[eM,eM,NI.Ai,NI.Ai]
 refine lp (α:=NI×NI) (fun x=>⟨[(4,.ptr 2 []),(3,.ptr 1 []),(2,.ptr 0 [])],[.box false (.p (eI x.1)),.box false (.p (eI x.2)),.box false (.p (.st 130 [.int .i64 0,.aW]))]⟩)
  (fun x=>0<=x.1.v/\0<=x.2.v/\okW x.1.v/\okW x.2.v/\eM x.1.v x.2.v=eM a.v b.v) (fun x=>x.2.v.toNat) (a.abs,b.abs) ⟨NI.Px a,NI.Px b,rP j (ho (NI.Ai a)),rP k (ho (NI.Ai b)),n⟩ ?_
 rintro⟨x,y⟩ ⟨l,g,i,c,f⟩;dsimp only at l g i c f;have d:=uK y
 by_cases e:y.v=0
 ·rw[if_neg (by omega),if_pos e]at d;have hx:eI (.mk' (eM a.v b.v))=eI x:=by
   refine nt ?_ (fun h=>?_)
   ·rw[NI.iv,<-f,e,eM];simp;omega
   ·rw[NI.iv,eM]at h;omega
  rw[hx];simp;refine c1 d ?_;simp[aa]
 ·rw[if_neg (by omega),if_neg e]at d;have q:=ea x.v (show 0<y.v by omega);have o:=eb x.v e;have m:(x.v% y.v).natAbs=x.v.natAbs% y.v.natAbs:=by
   have e1:(x.v.natAbs:Int)=x.v:=by omega
   have e2:(y.v.natAbs:Int)=y.v:=by omega
   have e3:((x.v.natAbs% y.v.natAbs:Nat):Int)=x.v% y.v:=by rw[Int.natCast_emod,e1,e2]
   omega
  simp;refine c1 d ?_;simp[aa];refine c2 (LI x y (by omega) i c) ?_;simp[aa];refine⟨rfl,?_⟩;refine rd (y,x.mod y) ⟨g,o,c,rP c (by show(x.v% y.v).natAbs<=_;omega),?_⟩ (by show(x.v% y.v).toNat<y.v.toNat;omega);show eM y.v (x.v% y.v)=_;rw[<-f,eM,eM,m,hG y.v.natAbs,<-Nat.gcd_rec,hG]
theorem aFL{o x k A:Nat}(hx:1<=x)(d:1<=o)(h:o*x^k=A)(hk:1<=k):o*x<=A/\(2<=k->x*x<=A):=by
 have a:x<=x^k:=by
  calc x=x^1:=(hh x).symm
   _<=x^k:=gj hx hk
 refine⟨by rw[<-h];exact hz _ a,fun b=>?_⟩;have c:x*x<=x^k:=by
  calc x*x=x^2:=by rw[hK]
   _<=x^k:=gj hx b
 rw[<-h];exact hb c (hp _ d)
theorem Y9(a:NI)(n A:Nat)(E:1<=a.v)(q:A=a.v.natAbs^n)(J:(au wB A).length<=400000)(F:(au wB a.v.natAbs).length<=400000)(K:n<=1000000):aA prog 261 [eI a,.int .i64 n] (eI (.mk' A)):=by
 refine aG nf Gc mix (by simp[f261]) ?_;simp[f261];refine c1 (sS 1) ?_;rw[show fj 1=eI (.of 1)from(uX (by decide) (by decide)).symm];simp[aa];refine lp (α:=Nat×NI×NI) (fun s=>⟨[(1,.p (.int .i64 s.1)),(5,.ptr 2 []),(4,.ptr 1 []),(2,.ptr 0 [])],[.box false (.p (eI s.2.1)),.box false (.p (.st 130 [.int .i64 0,.aW])),.box false (.p (eI s.2.2))]⟩)
  (fun s=>s.1<=n/\1<=s.2.1.v/\1<=s.2.2.v/\(0<s.1->s.2.2.v.natAbs*s.2.1.v.natAbs^s.1=A)/\(s.1=0->s.2.2.v.natAbs=A)/\(au wB s.2.1.v.natAbs).length<=400000) (fun s=>s.1) (n,a,.of 1) ⟨gt _,E,(by decide:(1:Int)<=1),fun _=>by rw[q];show(1:Int).natAbs*_=_;simp,fun h=>by have h:n=0:=h;rw[q,h,hg];rfl,F⟩ ?_
 rintro⟨k,x,o⟩ ⟨C,c,i,b,l,m⟩;dsimp only at C c i b l m
 by_cases k0:k=0
 ·subst k0;have e:eI (.mk' A)=eI o:=by
   refine nt ?_ (fun h=>?_)
   ·rw[NI.iv,<-l rfl];omega
   ·rw[NI.iv]at h;omega
  rw[e];simp[aa]
 have b:=b (by omega);have r:=aFL (o:=o.v.natAbs) (x:=x.v.natAbs) (by omega) (by omega) b (by omega);have d:be.wrap (k% 2^be.bits&&&1% 2^be.bits:Nat)=(k% 2:Nat):=by
  rw[show(2^be.bits:Nat)=18446744073709551616 from rfl,g6 (show k<18446744073709551616 by omega),show 1% 18446744073709551616=2^1-1 from rfl,Nat.and_two_pow_sub_one_eq_mod];exact aO _ (by omega) (by omega)
 have hs:(k:Int).fdiv (2^min 1 be.bits)=(k/2:Nat):=by
  rw[show((2:Int)^min 1 be.bits)=2 from rfl,Int.fdiv_eq_ediv_of_nonneg _ (by decide)];omega
 have j:0<k:=by omega
 have L:(au wB o.v.natAbs).length<=400000:=by
  have D:o.v.natAbs<=A:=hb (Nat.le_mul_of_pos_right _ (show 0<x.v.natAbs by omega)) r.1;have:=dQ bh _ _ (gx D (cq bh A));omega
 have z:2<=k->(au wB (x.v*x.v).natAbs).length<=400000:=fun h=>by
  have:=dQ bh _ _ (gx (r.2 h) (cq bh A));rw[dz];omega
 have y:(1:Int)<=o.v*x.v:=by
  have:=en i c (by decide) (by omega);omega
 have B:(1:Int)<=x.v*x.v:=by
  have:=en c c (by decide) (by omega);omega
 have u:=A5 o x (by omega);have w:=A5 x x (by omega);have g:x.v.natAbs^k=(x.v*x.v).natAbs^(k/2)*x.v.natAbs^(k% 2):=by
  rw[dz,<-hK,<-hl,<-g9,Nat.div_add_mod]
 by_cases H:k% 2=1
 ·rw[H,hh]at g;have t:((k% 2:Nat):Int)=1:=by omega
  rw[t]at d
  by_cases k1:1<k
  ·have f:(1:Int)<k:=by omega
   simp[j,d];refine c2 u ?_;simp[aa,f];refine c2 w ?_;simp[aa,hs];refine rd (k/2,x.mul x,o.mul x) ⟨by omega,B,y,fun _=>?_,fun h=>by dsimp only at h;omega,z k1⟩ (by dsimp only;omega);rw[g]at b;show(o.v*x.v).natAbs*(x.v*x.v).natAbs^(k/2)=A;rw[<-b,dz o.v,g7 ((x.v*x.v).natAbs^(k/2)),hD]
  ·have f:¬(1:Int)<k:=by omega
   have G:k=1:=by omega
   simp[j,d];refine c2 u ?_;simp[aa,f,hs];refine rd (k/2,x,o.mul x) ⟨by omega,c,y,fun h=>by dsimp only at h;omega,fun _=>?_,m⟩ (by dsimp only;omega);subst G;rw[hh]at b;show(o.v*x.v).natAbs=A;rw[<-b,dz]
 ·have I:k% 2=0:=by omega
  rw[I,hg,Nat.mul_one]at g;have t:¬((k% 2:Nat):Int)=1:=by omega
  rw[show((k% 2:Nat):Int)=0 by omega]at d;have f:(1:Int)<k:=by omega
  simp[j,d,f];refine c2 w ?_;simp[aa,hs];refine rd (k/2,x.mul x,o) ⟨by omega,B,i,fun _=>?_,fun h=>by dsimp only at h;omega,z (by omega)⟩ (by dsimp only;omega);show o.v.natAbs*(x.v*x.v).natAbs^(k/2)=A;rw[<-g,b]
theorem Zi(x:Nat)(hx:x<18446744073709551616):aA prog 312 [.int .u64 x] (.int .i64 (bo x:Nat)):=by
 refine jH (iO func312 (by kernel_rfl)) fun w ad d _ _ c=>?_;obtain⟨a,rfl,b⟩:=zX c;simp only[aC]at b;subst b;refine(bits_Len64 x w (by omega) (by omega)).mono ?_;rintro e w' ⟨rfl,rfl⟩;refine⟨_,rfl,⟨gt _,fun _ _=>rfl,rfl,rfl⟩,fun w ad=>?_⟩;simp only[aC];rfl
def oD(n:Nat):Nat:=if n=0 then 0 else 64*((au wB n).length-1)+bo (ae wB n ((au wB n).length-1))
theorem tX{n:Nat}:au wB n=[]↔n=0:=by
 constructor
 ·intro h;have:=cq bh n;rw[h,List.length_nil,hg]at this;omega
 ·rintro rfl;exact lJ
theorem LN(n:Nat):n<2^oD n:=by
 by_cases b:n=0
 ·subst b;exact gy (by decide)
 ·rw[oD,if_neg b];have e:=cq bh n;have j:0<(au wB n).length:=by
   rcases g0 (au wB n).length with h|h
   ·exact(b (tX.1 (e9.1 h))).elim
   ·exact h
  obtain⟨m,i⟩:∃m,(au wB n).length=m+1:=⟨(au wB n).length-1,by omega⟩
  rw[i]at e⊢;rw[g8];have d:n/wB^m<wB:=by
   rw[hd (gy (by decide)),g7,<-g5];exact e
  have f:ae wB n m=n/wB^m:=by rw[ae,g6 d]
  have g:0<n/wB^m:=by
   rcases g0 (n/wB^m)with h|h
   ·have c:n<wB^m:=by
     rcases ha n (wB^m)with a|a
     ·exact a
     ·have:=hm a (gy (show 0<wB by decide));omega
    have:=dQ bh m n c;omega
   ·exact h
  have c:=zA (n/wB^m) (n/wB^m) (gt _) g d;rw[f,g9,hl];show n<wB^m*_;have a:n<(n/wB^m+1)*wB^m:=by
   rw[<-hd (gy (by decide))];omega
  rw[g7]at a;exact gm a (hz _ c.2.2)
theorem Y3(a:NI)(l:okW a.v):aA prog 290 [eI a] (.int .i64 (oD a.v.natAbs:Nat)):=by
 have b:=n8 (eI a) a.v (mv a);refine aG nf HB mix (by simp[f290]) ?_;have o:=n6 l;have q:∀i(h:i<(au wB a.v.natAbs).length),(au wB a.v.natAbs)[i]=ae wB a.v.natAbs i:=fun i h=>eD bh h;have f:=cr (B:=wB) bh a.v.natAbs ((au wB a.v.natAbs).length-1);have j:=Zi _ f;have A:=LN a.v.natAbs;have s:=tX (n:=a.v.natAbs)
 by_cases e:a.v.natAbs=0
 ·rw[e]at b⊢;simp only[eN,lJ]at b;simp[f290];refine c1 b ?_;simp[oD]
 ·have k:=mt s.1 e;rw[oD,if_neg e];have p:bo (ae wB a.v.natAbs ((au wB a.v.natAbs).length-1))<=64:=by
   rcases g0 (ae wB a.v.natAbs ((au wB a.v.natAbs).length-1))with h|h
   ·rw[h];decide
   ·exact PA h f
  simp only[eN]at b;generalize au wB a.v.natAbs=x at*;obtain⟨m,d⟩:∃m,x.length=m+1:=⟨x.length-1,by cases x with|nil=>exact(k rfl).elim|cons c cs=>simp⟩
  rw[d,g8]at j p f;rw[d,g8];rw[d]at o;have hx:=q m (by omega);have t:x[m]?=some (ae wB a.v.natAbs m):=by rw[List.getElem?_eq_getElem (by omega),hx]
  have u:be.wrap (m:Int)=m:=aO _ (by omega) (by omega);have w:be.wrap (64*(m:Int))=64*m:=aO _ (by omega) (by omega);have y:be.wrap (64*(m:Int)+(bo (ae wB a.v.natAbs m):Nat))=(64*m+bo (ae wB a.v.natAbs m):Nat):=by rw[aO _ (by omega) (by omega)];push_cast;rfl
  generalize bo (ae wB a.v.natAbs m)=g at*;have z:be.wrap (64*(m:Int)+g)=64*m+g:=by rw[y];push_cast;rfl
  simp[f290];refine c1 b ?_;have r:¬((m:Int)+1=0):=by omega
  simp[k,d,u,w,t,hx,r];refine c1 j ?_;simp[z]
noncomputable def eF(a:NF):PV:=.st 132 [eI a.num,eI a.den]
@[simp] theorem aL3(a:NF):aM (eF a)=.agg 132:=rfl
@[simp] theorem aKW(a:NF):cH (eF a)=[eI a.num,eI a.den]:=rfl
@[simp] theorem aMk(n:Int):aM (fj n)=.agg 130:=rfl
@[simp] theorem aKm:prog.cellsOf 130=2:=by kernel_rfl
@[simp] theorem aKn:prog.cellsOf 132=4:=by kernel_rfl
theorem ML:fj 1=eI (.mk' 1):=(oC (by decide) (by decide)).symm
def kB:Nat:=100000
theorem qW:kB<=3*kB:=hp _ (by decide)
theorem zP{n k:Nat}(h:n<2^k):(au wB n).length<=k/64+1:=by
 refine dQ bh _ _ (gm h ?_);rw[show wB=2^64 from rfl,<-hl];exact gj (by decide) (by omega)
theorem gZ{z:Int}{k:Nat}(h:z.natAbs<2^k)(hk:k<=3*kB):okW z:=by
 have:=zP h;have a:kB=100000:=rfl;rw[okW];omega
def NF.make(n d:NI):NF:=⟨hL n.v d.v,n.m&&decide (d.v=1)⟩
theorem C6(a:NF):aA prog 161 [eF a] (.bool a.fB):=by
 refine aG nf Hl mix (by simp[f161]) ?_;have f:a.den.v=a.q.den:=rfl;have h:=a.q.den_pos;rcases hs:a.den.sm with _|_
 ·obtain⟨c,cs,d⟩:=ov hs;have g:=NI.AD (a:=a.den) (by rw[hs];decide);have b:a.fB=false:=by rw[NF.fB,decide_eq_false_iff_not];omega
  simp[f161,aa,d,dC,cW,b]
 ·have d:=mq hs;have e:=nm hs;rw[f]at e;have b:a.fB=decide ((a.q.den:Int)=1):=by rw[NF.fB,decide_eq_decide];omega
  simp[f161,aa,d,e,dC,cW,b];rfl
theorem Ec(a:NI):aA prog 158 [eI a] (eF (.whole a)):=by
 refine aG nf Ho mix (by simp[f158]) ?_;simp[f158];refine e1 (sS 1) ?_;have b:(NF.whole a).num=a:=by cases a;rfl
 have c:(NF.whole a).den=.mk' 1:=rfl;simp[aa,eF,b,c,ML]
theorem qO(n:Int)(h:-9223372036854775808<=n)(b:n<=9223372036854775807):aA prog 68 [.int .i64 n] (eF (.int n)):=by
 have a:=Ec (.of n);rw[uX h b]at a;refine aG nf QI mix (by simp[f68]) ?_;simp[f68];refine c1 (sS n) ?_;simp;refine c1 a ?_;simp[aa];exact Wk.refl _
theorem Eu(q:Rat):(if q<0 then(-1:Int)else if q=0 then 0 else 1)=if q.num<0 then -1 else if q.num=0 then 0 else 1:=by
 have a:q<0↔q.num<0:=by rw[<-Rat.not_le,<-Rat.num_nonneg];omega
 have b:q=0↔q.num=0:=hM.symm;simp only[a,b]
theorem xV(a:NF):aA prog 109 [eF a] (.int .i64 (if a.q<0 then -1 else if a.q=0 then 0 else 1)):=by
 have b:=uK a.num;refine aG nf He mix (by simp[f109]) ?_;simp[f109,aa];refine c1 b ?_;simp;exact Eu a.q
theorem L8(a:NF)(h:bI kB a.q):aA prog 206 [eF a] (eF a.neg):=by
 have d:=uU a.num (gZ h.1 qW);refine aG nf Hx mix (by simp[f206]) ?_;simp[f206,aa];refine e1 d ?_;have b:a.neg.num=a.num.neg:=by show(⟨(-a.q).num,false⟩:NI)=⟨-a.q.num,false⟩;rw[Rat.neg_num]
 have c:a.neg.den=a.den:=by show(⟨((-a.q).den:Int),false⟩:NI)=⟨a.q.den,false⟩;rw[Rat.neg_den]
 simp[aa,eF,b,c]
theorem Vz{n d:NI}(j:0<d.v):(NI.mk' (eM n.v d.v)).v≠0/\0<eM n.v d.v/\(¬d.v=1->eI (n.div (.mk' (eM n.v d.v)))=eI (NF.make n d).num)/\eI (d.div (.mk' (eM n.v d.v)))=eI (NF.make n d).den:=by
 obtain⟨dn,e⟩:∃dn:Nat,d.v=dn:=⟨d.v.toNat,by omega⟩
 have f:dn≠0:=by omega
 obtain⟨e1,e2⟩:=l7 (n:=n.v) f;have c:eM n.v d.v=(hn n.v.natAbs dn:Nat):=by rw[eM,e];rfl
 have k:0<hn n.v.natAbs dn:=Nat.gcd_pos_of_pos_right _ (by omega);have i:(hn n.v.natAbs dn:Int)∣n.v:=Int.ofNat_dvd_left.2 (Nat.gcd_dvd_left _ _);refine⟨by rw[NI.iv,c];omega,by rw[c];omega,fun g=>?_,?_⟩
 ·refine nt ?_ (fun _=>?_)
  ·show n.v/eM n.v d.v=(hL n.v d.v).num;rw[c,e,e1]
  ·show decide (n.v% eM n.v d.v≠0)=(n.m&&decide (d.v=1))
   rw[c,Int.emod_eq_zero_of_dvd i];simp[g]
 ·refine nt ?_ (fun h=>?_)
  ·show d.v/eM n.v d.v=((hL n.v d.v).den:Int)
   rw[c,e,e2];exact(Int.natCast_ediv _ _).symm
  ·have:d.v/eM n.v d.v= -9223372036854775808:=h;have:=Int.ediv_nonneg (a:=d.v) (b:=eM n.v d.v) (by omega) (by rw[c];omega);omega
theorem XT{n d:NI}(a:d.v<0):NF.make n.neg d.neg=NF.make n d:=by
 rw[NF.make,NF.make];have e1:hL n.neg.v d.neg.v=hL n.v d.v:=Rat.neg_divInt_neg _ _;have e2:(n.neg.m&&decide (d.neg.v=1))=(n.m&&decide (d.v=1)):=by
  rw[show n.neg.m=false from rfl,a1,decide_eq_false (by omega),a6]
 rw[e1,e2]
theorem JA(n:Int):(hL n 1).num=n/\(hL n 1).den=1:=by
 obtain⟨e1,e2⟩:=l7 (n:=n) (show 1≠0 by decide);rw[hB]at e1 e2;refine⟨?_,?_⟩
 ·exact e1.trans (eq n)
 ·exact e2
theorem EM(n d:NI)(A:d.v≠0)(q:okW n.v)(o:okW d.v):aA prog 163 [eI n,eI d] (eF (.make n d)):=by
 have i:=uK d;refine aG nf Ps mix (by simp[f163]) ?_;simp[f163,-bm];rw[bm];simp[-bm];refine join (fun s=>∃a d':NI,0<d'.v/\okW a.v/\okW d'.v/\NF.make a d'=NF.make n d/\aN s.env 2=.ptr 0 []/\aN s.env 3=.ptr 1 []/\aN s.env 4=.ptr 2 []/\s.heap=[.box false (.p (eI a)),.box false (.p (eI d')),.box false (.p (.st 132 [.st 130 [.int .i64 0,.aW],.st 130 [.int .i64 0,.aW]]))]) ?_ ?_
 ·by_cases l:d.v<0
  ·rw[if_pos l]at i;simp;refine c1 i ?_;simp;refine e1 (uU n q) ?_;simp;refine e1 (uU d o) ?_;simp[aa];exact⟨⟨rfl,rfl⟩,n.neg,d.neg,by rw[NI.Fx];omega,rP q (by rw[NI.Fx];omega),rP o (by rw[NI.Fx];omega),XT l,rfl,rfl⟩
  ·rw[if_neg l,if_neg A]at i;simp;refine c1 i ?_;simp;exact⟨n,d,by omega,q,o,rfl,rfl,rfl⟩
 ·rintro⟨G,H⟩ ⟨a,d',F,y,r,z,b,e,f,u⟩;dsimp only at b e f u;subst u;rw[<-z];clear z i;have t:=PD a d' y r;obtain⟨g1,g2,g3,g4⟩:=Vz (n:=a) F;have og:okW (eM a.v d'.v):=by
   refine rP r ?_;rw[eM];exact hb (ho (ee _)) (Nat.gcd_le_right _ (by omega))
  have w:=PE a (.mk' (eM a.v d'.v)) g2 y og;have x:=PE d' (.mk' (eM a.v d'.v)) g2 r og
  by_cases hs:d'.v=1
  ·have g:d'.sm=true:=NI.AZ (by omega) (by omega);have j:=mq g;have k:=nm g;rw[hs]at k;have C:eF (.make a d')=.st 132 [eI a,eI d']:=by
    rw[eF];have D:(NF.make a d').num=a:=by
     show(⟨(hL a.v d'.v).num,a.m&&decide (d'.v=1)⟩:NI)=a;rw[hs,(JA _).1];simp
    have E:eI (NF.make a d').den=eI d':=by
     refine nt ?_ (fun h=>?_)
     ·show((hL a.v d'.v).den:Int)=d'.v;rw[hs,(JA _).2];rfl
     ·have:((hL a.v d'.v).den:Int)= -9223372036854775808:=h;omega
    rw[D,E]
   rw[C];simp[b,e,f,aa,j,k,dC,cW]
   done
  ·rw[eF,<-g3 hs,<-g4];have B:(wI d'=.aW/\¬sI d'=1)\/∃c cs,wI d'=.seq (c::cs):=by
    rcases g:d'.sm with _|_
    ·exact .inr (ov g)
    ·exact .inl ⟨mq g,by rw[nm g];exact hs⟩
   rcases B with⟨j,k⟩|⟨c,cs,j⟩
   ·simp[b,e,f,aa,j,k,dC,cW];refine c2 t ?_;simp[b,e,f,aa];refine e2 w ?_;simp[b,e,f,aa];refine e2 x ?_;simp[b,e,f,aa]
    done
   ·simp[b,e,f,aa,j,dC,cW];refine c2 t ?_;simp[b,e,f,aa];refine e2 w ?_;simp[b,e,f,aa];refine e2 x ?_;simp[b,e,f,aa]
    done
theorem lI(a:NF):a.num.v=a.q.num:=rfl
theorem jx(a:NF):a.den.v=a.q.den:=rfl
theorem ki(a:NF):a.den.v.natAbs=a.q.den:=by rw[jx,ee]
theorem sH{x y:NI}{k l:Nat}(hx:x.v.natAbs<2^k)(a:y.v.natAbs<2^l)(h:k+l<=4*kB):aA prog 164 [eI x,eI y] (eI (x.mul y)):=by
 have b:=zP hx;have c:=zP a;have d:kB=100000:=rfl;exact A5 x y (by omega)
theorem pV{x y:Int}{k l:Nat}(hx:x.natAbs<2^k)(a:y.natAbs<2^l):(x*y).natAbs<2^(k+l):=by
 rw[dz,g9];exact Nat.mul_lt_mul'' hx a
theorem DQ{n d:NI}{q:Rat}(m:Bool)(hq:hL n.v d.v=q)(a:(n.m&&decide (d.v=1))=m):NF.make n d=⟨q,m⟩:=by rw[NF.make,hq,a]
theorem XR(a b:NF):NF.make (a.num.mul b.num) (a.den.mul b.den)=a.mul b:=by
 refine DQ _ ?_ rfl;rw[NI.mn,NI.mn,lI,lI,jx,jx,Rat.mul_def,Rat.normalize_eq_mkRat];rfl
theorem qA(a b:NF)(c:bI kB a.q)(d:bI kB b.q):aA prog 165 [eF a,eF b] (eF (a.mul b)):=by
 have f:=sH (x:=a.num) (y:=b.num) c.1 d.1 (by omega);have g:=sH (x:=a.den) (y:=b.den) (by rw[ki];exact c.2) (by rw[ki];exact d.2) (by omega);have e:=EM (a.num.mul b.num) (a.den.mul b.den) (by rw[NI.mn,jx,jx];have:=a.q.den_nz;have:=b.q.den_nz;exact ej (by omega) (by omega)) (gZ (pV c.1 d.1) (by omega)) (gZ (pV (x:=a.den.v) (y:=b.den.v) (by rw[ki];exact c.2) (by rw[ki];exact d.2)) (by omega));rw[XR]at e;refine aG nf Pq mix (by simp[f165]) ?_;simp[f165,aa];refine e2 f ?_;simp[aa];refine e2 g ?_;simp[aa];refine e2 e ?_;simp[aa]
theorem X2(a:NF)(h:a.q≠0):NF.make a.den a.num=a.inv:=by
 refine DQ _ ?_ rfl;rw[lI,jx];show hL a.q.den a.q.num=a.q⁻¹;rw[Rat.inv_def]
theorem L9(a:NF)(c:bI kB a.q)(b:a.q≠0):aA prog 169 [eF a] (eF a.inv):=by
 have d:=EM a.den a.num (by rw[lI];exact mt hM.1 b) (gZ (by rw[ki];exact c.2) qW) (gZ c.1 qW);rw[X2 a b]at d;refine aG nf Pm mix (by simp[f169]) ?_;simp[f169,aa];refine c2 d ?_;simp[aa]
theorem EU(a b:NF)(g:bI kB a.q)(c:bI kB b.q)(f:b.q≠0):aA prog 73 [eF a,eF b] (eF (a.div b)):=by
 have h:=L9 b c f;have d:=qA a b.inv g (Cu c);have e:a.mul b.inv=a.div b:=by
  rw[NF.mul,NF.div,NF.inv,Rat.div_def]
 rw[e]at d;refine aG nf QN mix (by simp[f73]) ?_;simp[f73,aa];refine e1 h ?_;simp[aa];refine e2 d ?_;simp[aa]
theorem Yx(a b:NF)(h:¬(a.fB=true/\b.fB=true)):NF.make ((a.num.mul b.den).add (b.num.mul a.den)) (a.den.mul b.den)=a.add b:=by
 have g:(a.fB&&b.fB)=false:=by simpa using h
 refine DQ _ ?_ ?_
 ·rw[NI.sM,NI.mn,NI.mn,NI.mn,lI,lI,jx,jx,Rat.add_def'];rfl
 ·rw[g,a1];have:¬(a.den.mul b.den).v=1:=by
   intro c;rw[NI.mn,jx,jx]at c;have d:a.q.den*b.q.den=1:=by exact_mod_cast c
   have e:=Nat.eq_one_of_mul_eq_one_right d;have f:=Nat.eq_one_of_mul_eq_one_left d;exact h ⟨by rw[NF.fB];simp[e,f],by rw[NF.fB];simp[e,f]⟩
  rw[decide_eq_false this,a6]
theorem MN{q:Rat}(h:q.den=1):(q.num:Rat)=q:=by
 apply Rat.ext
 ·rw[Rat.num_intCast]
 ·rw[Rat.den_intCast,h]
theorem u5(a b:NF)(j:bI kB a.q)(k:bI kB b.q):aA prog 70 [eF a,eF b] (eF (a.add b)):=by
 have d:=C6 a;have n:=C6 b;refine aG nf QK mix (by simp[f70]) ?_
 by_cases hw:a.fB=true/\b.fB=true
 ·rw[hw.1]at d;rw[hw.2]at n;have l:=yh a.num b.num (gZ j.1 qW) (gZ k.1 qW);have g:=Ec (a.num.add b.num);have c:a.q.den=1:=by simpa[NF.fB]using hw.1
  have f:b.q.den=1:=by simpa[NF.fB]using hw.2
  have e:NF.whole (a.num.add b.num)=a.add b:=by
   rw[NF.whole,NF.add];have e1:(((a.num.add b.num).v:Int):Rat)=a.q+b.q:=by
    rw[NI.sM,lI,lI,Rat.intCast_add,MN c,MN f]
   have e2:(a.num.add b.num).m=(a.fB&&b.fB&&(a.num.sm&&b.num.sm)):=by rw[hw.1,hw.2];rfl
   rw[e1,e2]
  rw[e]at g;simp[f70,aa];refine c1 d ?_;simp[aa];refine c1 n ?_;simp[aa];refine c2 l ?_;simp[aa];refine c1 g ?_;simp[aa]
 ·have h:a.den.v.natAbs<2^kB:=by rw[ki];exact j.2
  have i:b.den.v.natAbs<2^kB:=by rw[ki];exact k.2
  have l:=sH (x:=a.num) (y:=b.den) j.1 i (by omega);have g:=sH (x:=b.num) (y:=a.den) k.1 h (by omega);have s:(a.num.mul b.den).v.natAbs<2^(kB+kB):=pV j.1 i;have t:(b.num.mul a.den).v.natAbs<2^(kB+kB):=pV k.1 h;have p:=yh _ _ (gZ s (by omega)) (gZ t (by omega));have r:=sH (x:=a.den) (y:=b.den) h i (by omega);have u:((a.num.mul b.den).add (b.num.mul a.den)).v.natAbs<2^(kB+kB+1):=by
   rw[NI.sM,g5];exact gx (Int.natAbs_add_le _ _) (by omega)
  have w:kB=100000:=rfl;have o:=EM ((a.num.mul b.den).add (b.num.mul a.den)) (a.den.mul b.den) (by rw[NI.mn,jx,jx];have:=a.q.den_nz;have:=b.q.den_nz;exact ej (by omega) (by omega)) (gZ u (by omega)) (gZ (pV (x:=a.den.v) (y:=b.den.v) h i) (by omega));rw[Yx a b hw]at o;have hc:a.fB=false\/(a.fB=true/\b.fB=false):=by
   rcases c:a.fB with _|_
   ·exact .inl rfl
   ·exact .inr ⟨rfl,by rcases f:b.fB with _|_;rfl;exact(hw ⟨c,f⟩).elim⟩
  rcases hc with c|⟨c,f⟩
  ·rw[c]at d;simp[f70,aa];refine c1 d ?_;simp[aa];refine e2 l ?_;simp[aa];refine e2 g ?_;simp[aa];refine e2 p ?_;simp[aa];refine e2 r ?_;simp[aa];refine e2 o ?_;simp[aa]
  ·rw[c]at d;rw[f]at n;simp[f70,aa];refine c1 d ?_;simp[aa];refine c1 n ?_;simp[aa];refine e2 l ?_;simp[aa];refine e2 g ?_;simp[aa];refine e2 p ?_;simp[aa];refine e2 r ?_;simp[aa];refine e2 o ?_;simp[aa]
theorem As(a b:NF)(d:bI kB a.q)(c:bI kB b.q):aA prog 166 [eF a,eF b] (eF (a.sub b)):=by
 have e:=L8 b c;have f:=u5 a b.neg d (CZ c);refine aG nf Pp mix (by simp[f166]) ?_;simp[f166,aa];refine e1 e ?_;simp[aa];refine e2 f ?_;simp[aa];exact Wk.refl _
def cT(x y:Rat):Int:=if x<y then -1 else if x=y then 0 else 1
theorem aFh(a b:Rat):jU (a.num*b.den) (b.num*a.den)=cT a b:=by
 have c:a<b↔a.num*b.den<b.num*a.den:=hO _ _;have f:a=b↔a.num*b.den=b.num*a.den:=by
  constructor
  ·rintro rfl;rfl
  ·intro h
   by_cases d:a<b
   ·rw[c]at d;omega
   ·by_cases e:b<a
    ·have g:=(hO b a).1 e;omega
    ·exact Rat.le_antisymm (hN.1 e) (hN.1 d)
 simp only[jU,cT,c,f]
theorem oI(a b:NF)(c:bI kB a.q)(d:bI kB b.q):aA prog 110 [eF a,eF b] (.int .i64 (cT a.q b.q)):=by
 have e:a.den.v.natAbs<2^kB:=by rw[ki];exact c.2
 have f:b.den.v.natAbs<2^kB:=by rw[ki];exact d.2
 have j:=sH (x:=a.num) (y:=b.den) c.1 f (by omega);have k:=sH (x:=b.num) (y:=a.den) d.1 e (by omega);have h:(a.num.mul b.den).v.natAbs<2^(kB+kB):=pV c.1 f;have i:(b.num.mul a.den).v.natAbs<2^(kB+kB):=pV d.1 e;have g:=PC _ _ (gZ h (by omega)) (gZ i (by omega));rw[NI.mn,NI.mn,lI,lI,jx,jx,aFh]at g;refine aG nf Hd mix (by simp[f110]) ?_;simp[f110,aa];refine e2 j ?_;simp[aa];refine e2 k ?_;simp[aa];refine e2 g ?_;simp[aa]
def low:Nat->Nat->List Nat
 |0,_=>[]
 |i+1,n=>(48+n/10^i% 10)::low i n
def nd(n:Nat):Nat:=if h:n=0 then 0 else nd (n/10)+1
 decreasing_by omega
theorem nv:∀(i n:Nat),i<nd n↔10^i<=n
 |0,n=>by
  rw[nd];split
  ·subst n;simp
  ·simp;omega
 |i+1,n=>by
  rw[nd];split
  ·rename_i h;subst h;have:=gy (n:=i+1) (show 0<10 by omega);constructor
   ·intro h;omega
   ·intro h;omega
  ·have:=nv i (n/10);rw[ht (by omega),<-g5]at this;rw[<-this];omega
theorem rT(b n:Nat):∀a,low (a+b) n=low a (n/10^b)++low b n
 |0=>by simp[low]
 |a+1=>by
  rw[show a+1+b=(a+b)+1 by omega,low,low,rT b n a,Nat.div_div_eq_div_mul,<-g9,Nat.add_comm b a];rfl
theorem DR(n k:Nat):∀b,b<=k->low b (n% 10^k)=low b n
 |0,_=>rfl
 |b+1,h=>by
  have e:k=b+(k-b-1+1):=by omega
  have a:n% 10^k/10^b=n/10^b% 10^(k-b-1+1):=by
   conv=>lhs;rw[e,g9]
   rw[Nat.mod_mul_right_div_self]
  rw[low,low,DR n k b (by omega),a,Nat.mod_mod_of_dvd _ (Nat.pow_dvd_pow 10 (show 1<=k-b-1+1 by omega)|>fun h=>by simpa using h)]
theorem aD5{n m:Nat}(h:∀i,i<nd n↔i<m):nd n=m:=by
 have a:=h m;have b:=h (nd n);omega
theorem Ew{n k:Nat}(h:10^k<=n):nd n=nd (n/10^k)+k:=by
 refine aD5 fun i=>?_;rw[nv]
 by_cases hi:i<k
 ·have:=gj (show 0<10 by omega) (Nat.le_of_lt hi);constructor
  ·intro _;omega
  ·intro _;omega
 ·obtain⟨j,rfl⟩:∃j,i=j+k:=⟨i-k,by omega⟩
  rw[g9,<-ht (gy (by omega)),<-nv];omega
theorem sK{n k:Nat}(h:n<10^k):nd n<=k:=by
 rcases ha k (nd n)with a|a
 ·rw[nv]at a;omega
 ·exact a
theorem xW{n:Nat}(h:0<n):0<nd n:=by rw[nv,hg];exact h
theorem XU{M:Nat}(h:10^9<=M):low (nd M) M=low (nd (M/10^9)) (M/10^9)++low 9 (M% 10^9):=by
 rw[Ew h,rT,DR _ _ _ (gt 9)]
theorem rS(n:Nat):∀i,(low i n).length=i
 |0=>rfl
 |i+1=>by simp[low,rS n i]
def bc(n:Nat):List Nat:=low (max 1 (nd n)) n
def bL(z:Int):List Nat:=if z<0 then 45::bc z.natAbs else bc z.natAbs
def bn(q:Rat):List Nat:=if q.den=1 then bL q.num else bL q.num++47::bc q.den
def aZ(s:List Nat):Nat:=s.foldl (fun n c=>n*10+(c-48)) 0
def cm(c:Nat):Bool:=decide (48<=c)&&decide (c<=57)
theorem zD(s:List Nat)(c:Nat):aZ (s++[c])=aZ s*10+(c-48):=by simp[aZ]
theorem ui(i n:Nat):low (i+1) n=low i (n/10)++[48+n% 10]:=by
 have:=rT 1 n i;rw[this];simp[low]
theorem Rf:∀(i n:Nat),(low i n).all cm=true
 |0,n=>rfl
 |i+1,n=>by
  rw[low,e8,Rf i n];have:=hA (n/10^i) (show 0<10 by omega);simp[cm];omega
theorem Ll:∀(i n:Nat),aZ (low i n)=n% 10^i
 |0,n=>by simp[low,aZ,Nat.mod_one]
 |i+1,n=>by
  rw[ui,zD,Ll i,g5,g7 (10^i),Nat.mod_mul];omega
theorem Dx(n:Nat):n<10^nd n:=by
 rcases ha n (10^nd n)with h|h
 ·exact h
 ·have:=(nv (nd n) n).2 h;omega
theorem qD(n:Nat):aZ (bc n)=n:=by
 rw[bc,Ll];refine g6 (gm (Dx n) (gj (by omega) (by omega)))
theorem BO{a b:Nat}(h:bc a=bc b):a=b:=by rw[<-qD a,h,qD]
theorem rQ(n:Nat):(bc n).length=max 1 (nd n):=rS _ _
theorem oF(n:Nat):(bc n).all cm=true:=Rf _ _
theorem mT:bc 0=[48]:=by
 have:nd 0=0:=by rw[nd,dif_pos rfl]
 rw[bc,this];rfl
theorem Sh{n:Nat}(h:0<n):(bc n).head?=some (48+n/10^(nd n-1))/\0<n/10^(nd n-1)/\n/10^(nd n-1)<10:=by
 have d:=xW h;obtain⟨k,hk⟩:∃k,nd n=k+1:=⟨nd n-1,by omega⟩
 have e:max 1 (nd n)=k+1:=by omega
 have c:=(nv k n).1 (by omega);have a:=Dx n;rw[hk]at a;have b:n/10^k<10:=by rw[hd (gy (by omega)),g7,<-g5];exact a
 rw[bc,e,hk,g8];exact⟨by rw[low,fm,g6 b],hm c (gy (by omega)),b⟩
def dF(s:List Nat):Bool:=!s.isEmpty&&s.all cm&&(decide (s.head?≠some 48)||decide (s=[48]))
theorem F2(n:Nat):dF (bc n)=true:=by
 rcases g0 n with rfl|h
 ·rw[mT];rfl
 ·obtain⟨b,f,g⟩:=Sh h;have d:(bc n).isEmpty=false:=by
   have:=rQ n;cases he:bc n with
   |nil=>rw[he]at this;simp at this;omega
   |cons a l=>rfl
  have c:¬(some (48+n/10^(nd n-1))=some 48):=by intro e;injection e with e;omega
  simp only[dF,d,oF,b,Bool.not_false,a7,ne_eq,c,not_false_eq_true,decide_true,Bool.true_or]
theorem jq:∀(k:Nat)(s:List Nat),s.length=k->s.all cm=true->aZ s<10^k
 |0,s,h,_=>by
            have:s=[]:=e9.1 h
            subst this;simp[aZ]
 |n+1,s,h,a=>by
  have b:s≠[]:=by intro e;subst e;simp at h
  obtain⟨t,c,rfl⟩:∃t c,s=t++[c]:=⟨s.dropLast,s.getLast b,(fv b).symm⟩
  simp only[gg,e8,gi,ay,ap]at a;have d:=jq n t (by simpa using h) a.1;have hc:=a.2;simp only[cm,ap,decide_eq_true_eq]at hc;rw[zD,g5];omega
theorem Mi:∀(k:Nat)(s:List Nat),s.length=k->s.all cm=true->low k (aZ s)=s
 |0,s,h,_=>by
            have:s=[]:=e9.1 h
            subst this;rfl
 |n+1,s,h,a=>by
  have b:s≠[]:=by intro e;subst e;simp at h
  obtain⟨t,c,rfl⟩:∃t c,s=t++[c]:=⟨s.dropLast,s.getLast b,(fv b).symm⟩
  simp only[gg,e8,gi,ay,ap]at a;have d:=Mi n t (by simpa using h) a.1;have hc:=a.2;simp only[cm,ap,decide_eq_true_eq]at hc;rw[ui,zD];have e1:(aZ t*10+(c-48))/10=aZ t:=by omega
  have e2:(aZ t*10+(c-48))% 10=c-48:=by omega
  rw[e1,e2,d];congr 2;omega
theorem TR(c:Nat)(s:List Nat)(h:49<=c):10^s.length<=aZ (c::s):=by
 have key:∀(s:List Nat)(a:Nat),a*10^s.length<=s.foldl (fun n c=>n*10+(c-48)) a:=by
  intro s
  induction s with
  |nil=>intro a;simp
  |cons x r b=>
   intro a;rw[ge,gc];refine hb ?_ (b _);rw[g5,g7 (10^r.length),<-hD];exact hy _ (by omega)
 have:=key s (c-48);rw[aZ,ge,Nat.zero_mul,hE];refine hb ?_ this;have:1*10^s.length<=(c-48)*10^s.length:=hy _ (by omega);omega
theorem xC{s:List Nat}(h:dF s=true):bc (aZ s)=s:=by
 simp only[dF,ap,av,decide_eq_true_eq,ax]at h;obtain⟨⟨f,a⟩,b⟩:=h;rcases b with b|rfl
 ·cases s with
  |nil=>simp at f
  |cons c r=>
   have hc:cm c=true:=by simpa using(e8.symm.trans a|>fun h=>by simpa using h:cm c=true/\r.all cm=true).1
   simp only[cm,ap,decide_eq_true_eq]at hc;have i:49<=c:=by
    have:c≠48:=fun e=>b (by rw[e];rfl);omega
   have g:=jq _ _ rfl a;have j:=TR c r i;have k:nd (aZ (c::r))=r.length+1:=by
    have l:=(nv r.length _).2 j;have d:=sK g;rw[gc]at d;omega
   rw[bc,k,show max 1 (r.length+1)=r.length+1 by omega];exact Mi _ _ rfl a
 ·have:aZ [48]=0:=rfl;rw[this,mT]
def b9(c:Nat):List Nat->List Nat×List Nat×Bool
 |[]=>([],[],false)
 |x::r=>if x=c then([],r,true)else(x::(b9 c r).1,(b9 c r).2.1,(b9 c r).2.2)
theorem Dp(c:Nat):∀(a b:List Nat),c∉a->b9 c (a++c::b)=(a,b,true)
 |[],b,_=>by simp[b9]
 |x::a,b,h=>by
  simp only[fa,not_or]at h;rw[fb,b9,if_neg (fun e=>h.1 e.symm),Dp c a b h.2]
theorem C5(c:Nat):∀(a:List Nat),c∉a->b9 c a=(a,[],false)
 |[],_=>rfl
 |x::a,h=>by
  simp only[fa,not_or]at h;rw[b9,if_neg (fun e=>h.1 e.symm),C5 c a h.2]
theorem qq(c:Nat):∀(s:List Nat),((b9 c s).2.2=true/\s=(b9 c s).1++c::(b9 c s).2.1)\/((b9 c s).2.2=false/\(b9 c s).1=s/\(b9 c s).2.1=[])
 |[]=>by simp[b9]
 |x::s=>by
  rw[b9]
  by_cases h:x=c
  ·subst h;simp
  ·rw[if_neg h];rcases qq c s with⟨a,b⟩|⟨a,b,d⟩
   ·left;exact⟨a,by dsimp only;rw[fb,<-b]⟩
   ·right;exact⟨a,by dsimp only;rw[b],d⟩
def bZ(s:List Nat):Bool:=decide (s.head?=some 45)
def cU(s:List Nat):List Nat:=if bZ s=true then s.tail else s
def bH(s:List Nat):List Nat:=(b9 47 (cU s)).1
def bQ(s:List Nat):List Nat:=(b9 47 (cU s)).2.1
def et(s:List Nat):Bool:=(b9 47 (cU s)).2.2
def jN(s:List Nat):Bool:=dF (bH s)&&!(bZ s&&decide (bH s=[48]))&&(!et s||(dF (bQ s)&&decide (bQ s≠[48])&&decide (bQ s≠[49])))
def bK(s:List Nat):Int:=
 if jN s=false then 1
 else if 600<(bH s).length\/600<(bQ s).length then 4
 else if et s=true/\hn (aZ (bH s)) (aZ (bQ s))≠1 then 1 else 0
def aL(s:List Nat):Rat:=hL (if bZ s=true then -(aZ (bH s):Int)else aZ (bH s)) (if et s=true then aZ (bQ s)else 1:Nat)
theorem BM{s:List Nat}(h:s.all cm=true){c:Nat}(hc:cm c=false):c∉s:=by
 intro a;rw[fl]at h;rw[h c a]at hc;cases hc
theorem jf{s:List Nat}(h:dF s=true):s.all cm=true:=by
 simp only[dF,ap]at h;exact h.1.2
theorem wK(n:Nat):bL (n:Int)=bc n:=by
 rw[bL,if_neg (by omega)];rfl
theorem aG6{n:Nat}(h:0<n):bL (-(n:Int))=45::bc n:=by
 rw[bL,if_pos (by omega)];congr 1;rw[em];rfl
theorem zR{s:List Nat}(h:dF s=true)(a:s≠[48]):0<aZ s:=by
 rcases g0 (aZ s)with e|e
 ·have:=xC h;rw[e,mT]at this;exact(a this.symm).elim
 ·exact e
theorem fU{s:List Nat}(h:bK s=0):bn (aL s)=s/\(aL s).num=(if bZ s=true then -(aZ (bH s):Int)else aZ (bH s))/\(aL s).den=(if et s=true then aZ (bQ s)else 1:Nat):=by
 unfold bK at h
 split at h
 ·cases h
 rename_i b
 split at h
 ·cases h
 split at h
 ·cases h
 rename_i g;have b:jN s=true:=by simpa using b
 simp only[jN,ap,ax,aT,decide_eq_false_iff_not,av,decide_eq_true_eq]at b;obtain⟨⟨d,a2⟩,a3⟩:=b;have hs:s=(if bZ s=true then[45]else[])++cU s:=by
  rw[cU]
  by_cases a:bZ s=true
  ·rw[if_pos a,if_pos a];simp only[bZ,decide_eq_true_eq]at a;cases s with
   |nil=>simp at a
   |cons c r=>simp at a;subst a;rfl
  ·rw[if_neg a,if_neg a];rfl
 have i:(if et s=true then aZ (bQ s)else 1:Nat)≠0:=by
  split
  ·rename_i hf;rcases a3 with a3|a3
   ·rw[hf]at a3;cases a3
   ·have:=zR a3.1.1 a3.1.2;omega
  ·omega
 have j:hn (if bZ s=true then -(aZ (bH s):Int)else aZ (bH s)).natAbs (if et s=true then aZ (bQ s)else 1:Nat)=1:=by
  have e:(if bZ s=true then -(aZ (bH s):Int)else aZ (bH s)).natAbs=aZ (bH s):=by split<;>omega
  rw[e]
  by_cases hf:et s=true
  ·rw[if_pos hf];exact Decidable.not_not.1 fun e=>g ⟨hf,e⟩
  ·rw[if_neg hf,hB]
 obtain⟨e1,e2⟩:=l7 (n:=if bZ s=true then -(aZ (bH s):Int)else aZ (bH s)) i;rw[j]at e1 e2;simp only[Nat.div_one]at e2;have e1:(aL s).num=(if bZ s=true then -(aZ (bH s):Int)else aZ (bH s)):=by rw[aL,e1];exact eq _
 have e2:(aL s).den=(if et s=true then aZ (bQ s)else 1:Nat):=e2;refine⟨?_,e1,e2⟩;have hI:bL (aL s).num=(if bZ s=true then[45]else[])++bH s:=by
  rw[e1]
  by_cases a:bZ s=true
  ·rw[if_pos a,if_pos a,aG6,xC d];·rfl
   refine zR d ?_;rcases a2 with a2|a2
   ·rw[a]at a2;cases a2
   ·exact a2
  ·rw[if_neg a,if_neg a,wK,xC d];rfl
 rw[bn,hI,e2]
 by_cases hf:et s=true
 ·have f:dF (bQ s)=true/\bQ s≠[48]/\bQ s≠[49]:=by
   rcases a3 with a3|a3
   ·rw[hf]at a3;cases a3
   ·exact⟨a3.1.1,a3.1.2,a3.2⟩
  have k:aZ (bQ s)≠1:=by
   intro e;have:=xC f.1;rw[e]at this;have b:nd 1=1:=by rw[nd,dif_neg (by omega),nd,dif_pos (by omega)]
   have:bc 1=[49]:=by rw[bc,b];rfl
   exact f.2.2 (by rw[<-this];assumption|>Eq.symm)
  rw[if_pos hf,if_neg k,xC f.1]
  conv=>rhs;rw[hs]
  rw[List.append_assoc];congr 1;rcases qq 47 (cU s)with⟨g1,g2⟩|⟨g1,_⟩
  ·exact g2.symm
  ·rw[et,g1]at hf;cases hf
 ·rw[if_neg hf,if_pos rfl]
  conv=>rhs;rw[hs]
  congr 1;rcases qq 47 (cU s)with⟨g1,g2⟩|⟨g1,g2,_⟩
  ·exact(hf g1).elim
  ·exact g2
theorem zE(z:Int)(r:List Nat):bZ (bL z++r)=decide (z<0)/\cU (bL z++r)=bc z.natAbs++r:=by
 by_cases h:z<0
 ·have:bL z=45::bc z.natAbs:=by rw[bL,if_pos h]
  rw[this];simp[bZ,cU,h]
 ·have e:bL z=bc z.natAbs:=by rw[bL,if_neg h]
  have a:=oF z.natAbs;have b:=rQ z.natAbs;rw[e];have d:bZ (bc z.natAbs++r)=false:=by
   cases f:bc z.natAbs with
   |nil=>rw[f]at b;simp at b;omega
   |cons c t=>
    rw[f]at a;simp only[e8,ap]at a;have hc:=a.1;simp only[cm,ap,decide_eq_true_eq]at hc;have:¬(some c=some 45):=by intro e;injection e with e;omega
    simp only[bZ,fb,fm,this,decide_false]
  exact⟨by rw[d];simp[h],by rw[cU,d];simp⟩
theorem ux(q:Rat):bZ (bn q)=decide (q.num<0)/\bH (bn q)=bc q.num.natAbs/\et (bn q)=decide (q.den≠1)/\bQ (bn q)=if q.den=1 then[]else bc q.den:=by
 have d:47∉bc q.num.natAbs:=BM (oF _) rfl
 by_cases h:q.den=1
 ·have e:bn q=bL q.num++[]:=by rw[bn,if_pos h,e7]
  obtain⟨c,b⟩:=zE q.num [];rw[e7,e7]at b;have a:=C5 47 _ d;rw[<-b]at a;rw[e];refine⟨c,?_,?_,?_⟩
  ·rw[e7,bH,a,b]
  ·rw[e7,et,a,h];rfl
  ·rw[e7,bQ,a,if_pos h]
 ·have e:bn q=bL q.num++47::bc q.den:=by rw[bn,if_neg h]
  obtain⟨c,b⟩:=zE q.num (47::bc q.den);have a:=Dp 47 _ (bc q.den) d;rw[<-b]at a;rw[e];refine⟨c,?_,?_,?_⟩
  ·rw[bH,a]
  ·rw[et,a];simp[h]
  ·rw[bQ,a,if_neg h]
theorem xU(q:Rat):aL (bn q)=q:=by
 obtain⟨a,b,c,d⟩:=ux q;have e1:(if bZ (bn q)=true then -(aZ (bH (bn q)):Int)else aZ (bH (bn q)))=q.num:=by
  rw[a,b,qD]
  by_cases h:q.num<0
  ·simp[h];omega
  ·simp[h];omega
 have e2:(if et (bn q)=true then aZ (bQ (bn q))else 1:Nat)=q.den:=by
  rw[c,d]
  by_cases h:q.den=1
  ·simp[h]
  ·simp[h,qD]
 rw[aL,e1,e2,Rat.num_divInt_den]
theorem aG7{a b:Rat}(h:bn a=bn b):a=b:=by rw[<-xU a,h,xU]
theorem F1:bc 1=[49]:=by
 have a:nd 1=1:=by rw[nd,dif_neg (by omega),nd,dif_pos (by omega)]
 rw[bc,a];rfl
theorem ZL{q:Rat}(g:(bc q.num.natAbs).length<=600)(i:(bc q.den).length<=600):bK (bn q)=0:=by
 obtain⟨g1,g2,g3,g4⟩:=ux q;have hf:jN (bn q)=true:=by
  simp only[jN,g1,g2,g3,g4,F2,a7,ap,av,ax,aT,decide_eq_false_iff_not,decide_eq_true_eq];refine⟨?_,?_⟩
  ·by_cases h:q.num<0
   ·right;intro e;have:=BO (b:=0) (e.trans mT.symm);omega
   ·exact .inl h
  ·by_cases h:q.den=1
   ·left;simp[h]
   ·right;rw[if_neg h];have f:=q.den_nz;refine⟨⟨F2 _,fun e=>?_⟩,fun e=>?_⟩
    ·exact f (BO (e.trans mT.symm))
    ·exact h (BO (e.trans F1.symm))
 rw[bK,hf,if_neg (by simp),g2,g3,g4];rw[if_neg (by
  intro h;rcases h with h|h
  ·omega
  ·split at h
   ·simp at h
   ·omega)]
 rw[if_neg];rintro⟨c,a⟩;have d:¬q.den=1:=by simpa using c
 rw[if_neg d,qD,qD]at a;exact a q.reduced
theorem wJ{n k:Nat}(h:n<10^k)(hk:1<=k):(bc n).length<=k:=by
 rw[rQ];have:=sK h;omega
theorem DO(z:Int):(bL z).length<=(bc z.natAbs).length+1:=by
 rw[bL];split<;>simp
theorem aG8(q:Rat):(bn q).length<=(bc q.num.natAbs).length+(bc q.den).length+2:=by
 have:=DO q.num;rw[bn];split<;>simp<;>omega
theorem Sj(q:Rat):∀c∈bn q,c<58:=by
 have a:∀n,∀c∈bc n,c<58:=fun n c hc=>by
  have:=fl.1 (oF n) c hc;simp only[cm,ap,decide_eq_true_eq]at this;omega
 have hI:∀z,∀c∈bL z,c<58:=fun z c hc=>by
  rw[bL]at hc
  split at hc
  ·rcases fa.1 hc with rfl|hc
   ·omega
   ·exact a _ c hc
  ·exact a _ c hc
 intro c hc;rw[bn]at hc
 split at hc
 ·exact hI _ c hc
 ·rcases List.mem_append.1 hc with hc|hc
  ·exact hI _ c hc
  ·rcases fa.1 hc with rfl|hc
   ·omega
   ·exact a _ c hc
theorem U7(k:Nat):2^(3*k)<=10^k:=by
 rw[hl];exact Nat.pow_le_pow_left (by omega) k
theorem Ad{n k:Nat}(h:n<2^(3*k))(hk:1<=k):(bc n).length<=k:=wJ (gm h (U7 k)) hk
theorem ym{n k K:Nat}(h:n<2^K)(a:K<=3*k)(hk:1<=k):(bc n).length<=k:=Ad (gm h (gj (by decide) a)) hk
def mD:Nat:=600
theorem ZJ{q:Rat}(h:bI (3*mD) q):bK (bn q)=0:=ZL (Ad (k:=mD) h.1 (by decide)) (Ad (k:=mD) h.2 (by decide))
theorem GK{s:List Nat}(h:bK s=0):(aL s).num.natAbs<10^mD/\(aL s).den<10^mD:=by
 obtain⟨k,f,g⟩:=fU h;unfold bK at h
 split at h
 ·cases h
 rename_i a
 split at h
 ·cases h
 rename_i l;have a:jN s=true:=by simpa using a
 simp only[jN,ap,av,decide_eq_true_eq]at a;obtain⟨⟨b,_⟩,a3⟩:=a;have c:=jq _ _ rfl (jf b);have i:10^(bH s).length<=10^mD:=gj (by omega) (by rw[mD];omega);refine⟨?_,?_⟩
 ·rw[f];have e:(if bZ s=true then -(aZ (bH s):Int)else aZ (bH s)).natAbs=aZ (bH s):=by split<;>omega
  rw[e];exact gm c i
 ·rw[g]
  by_cases hf:et s=true
  ·rw[if_pos hf];rcases a3 with a3|a3
   ·rw[hf]at a3;cases a3
   ·have d:=jq _ _ rfl (jf a3.1.1);have j:10^(bQ s).length<=10^mD:=gj (by omega) (by rw[mD];omega);exact gm d j
  ·rw[if_neg hf];exact Nat.one_lt_pow (by decide) (by omega)
open Go
def cX(l:List UInt8):List Nat:=l.map (·.toNat)
theorem Vd(l:List UInt8):(cX l).map hQ=l:=by
 induction l with
 |nil=>rfl
 |cons a r b=>simp only[cX,gb]at b⊢;rw[b];simp
def nC(c:Nat):List Nat->Nat->Int
 |[],_=>-1
 |x::r,i=>bif hr x c then(i:Int)else nC c r (i+1)
theorem Mq(c:UInt8):∀(l:List UInt8)(i:Nat),nC c.toNat (cX l) i=if bl l c= -1 then -1 else bl l c+i
 |[],i=>by simp[nC,cX,bl]
 |x::r,i=>by
  have b:=Mq c r (i+1);simp only[cX]at b;simp only[cX,gb,nC,bl]
  by_cases hx:x=c
  ·subst hx;simp
  ·have e:hr x.toNat c.toNat=false:=by
    cases d:hr x.toNat c.toNat
    ·rfl
    ·exact(hx (hP.1 (hv d))).elim
   have f:=Lib.indexByte_ge r c;simp only[e,cond_false,b,beq_iff_eq,hx,if_false]
   by_cases a:bl r c= -1
   ·simp[a]
   ·rw[if_neg a,if_neg a];rw[if_neg (by omega)];omega
theorem Mr(c:Nat):∀(s:List Nat)(k:Nat),((b9 c s).2.2=false/\nC c s k= -1/\b9 c s=(s,[],false))\/
 ∃i,i<s.length/\nC c s k=((k+i:Nat):Int)/\b9 c s=(s.take i,s.drop (i+1),true)
 |[],k=>by simp[b9,nC]
 |x::r,k=>by
  rw[b9,nC]
  by_cases h:x=c
  ·subst h;right;refine⟨0,by simp,?_,?_⟩
   ·simp
   ·simp
  ·have d:hr x c=false:=by
    cases d:hr x c
    ·rfl
    ·exact(h (hv d)).elim
   rw[d,if_neg h,cond_false];rcases Mr c r (k+1)with⟨e,a,b⟩|⟨i,e,a,b⟩
   ·left;exact⟨e,a,by rw[b]⟩
   ·right;refine⟨i+1,by simp;omega,?_,?_⟩
    ·rw[a];congr 1;omega
    ·rw[b];simp
theorem Ce(n:Nat):cX (bi n)=bc n:=by
 induction n using Nat.strongRecOn with
 |ind n a=>
  rw[bi]
  by_cases h:n<10
  ·rw[dif_pos h,bc];have c:nd n<=1:=sK (by omega);rw[show max 1 (nd n)=1 by omega];rw[show(1:Nat)=0+1 from rfl,ui,low,List.nil_append,g6 h];simp[cX,hR];omega
  ·rw[dif_neg h];have b:=a (n/10) (by omega);have e:nd n=nd (n/10)+1:=by
    have:=Ew (n:=n) (k:=1) (by omega);rw[hh]at this;exact this
   have d:0<nd (n/10):=xW (by omega);rw[bc,e,show max 1 (nd (n/10)+1)=max 1 (nd (n/10))+1 by omega,ui];have:cX (bi (n/10)++[hQ (48+n% 10)])=cX (bi (n/10))++[48+n% 10]:=by
    simp[cX,hR];omega
   rw[this,b,bc]
theorem aDp(z:Int):cX (cb z)=bL z:=by
 rw[cb,bL]
 by_cases h:z<0
 ·rw[if_pos h,if_pos h];show 45::cX _=_;rw[Ce]
 ·rw[if_neg h,if_neg h,Ce];congr 1;omega
def tf(s:List Nat):Nat->List Nat
 |0=>[]
 |n+1=>s++tf s n
theorem LA(s:List UInt8):∀n,tf (cX s) n=cX (b4 s n)
 |0=>by simp[tf,b4,cX]
 |n+1=>by
  have a:=LA s n;simp only[cX]at a;simp[tf,b4,cX,a]
theorem Dg(c:Nat):∀n,tf [c] n=fZ n c
 |0=>rfl
 |n+1=>by rw[tf,Dg c n];rfl
theorem CM(l:List UInt8):b1 l [45]=bZ (cX l):=by
 cases l with
 |nil=>rfl
 |cons c r=>
  rw[b1,bZ];simp only[cX,gb,List.isPrefixOf,fm,ay,Option.some.injEq]
  by_cases h:c=45
  ·subst h;rfl
  ·have a:¬c.toNat=45:=fun e=>h (hP.1 e);have b:((45:UInt8)==c)=false:=by simpa using fun e=>h e.symm
   rw[b];simp[a]
theorem Jn(l:List UInt8):cX (b0 l [45])=cU (cX l):=by
 rw[b0,CM,cU];cases h:bZ (cX l)
 ·simp
 ·cases l with
  |nil=>simp[cX,bZ]at h
  |cons c r=>simp[cX]
def lH(s:List Nat):List Nat:=s.dropWhile cm
def iT(s:List Nat):List Nat:=(s.reverse.dropWhile cm).reverse
theorem y9{p:Nat->Bool}:∀{s:List Nat},s.dropWhile p=[]↔s.all p=true
 |[]=>by simp
 |x::r=>by
  rw[List.dropWhile_cons];cases h:p x
  ·simp[h]
  ·simp[h,y9]
theorem VK(s:List Nat):lH (iT s)=[]↔s.all cm=true:=by
 rw[lH,y9,iT];constructor
 ·intro h
  by_cases a:s.reverse.dropWhile cm=[]
  ·rw[y9,fd]at a;exact a
  ·have b:=List.head_dropWhile_not cm a;rw[fd,fl]at h;rw[h _ (List.head_mem a)]at b;cases b
 ·intro h;have:s.reverse.dropWhile cm=[]:=by rw[y9,fd];exact h
  rw[this];rfl
end Go.ag
namespace Go.Proofs
open Go.Shelf
def Tryz.U2:dg:=⟨fun|103=>251|210=>294|206=>297|n=>n,fun|9=>9|4=>4|24=>309|3=>3|n=>n,fun|n=>n⟩
theorem Tryz.aDE:da prog U2:={
 mixed:=by kernel_rfl
 f103:=func251.trans (congrArg some (by kernel_rfl))
 f206:=func297.trans (congrArg some (by kernel_rfl))
 f210:=func294.trans (congrArg some (by kernel_rfl))
 t3:=underlying3
 a3:=isAgg3
 z3:=sizeOf3
 v3:=zeroValue3
 t4:=underlying4
 a4:=isAgg4
 z4:=sizeOf4
 v4:=zeroValue4
 t9:=underlying9
 a9:=isAgg9
 z9:=sizeOf9
 v9:=zeroValue9
 t24:=underlying309
 a24:=isAgg309
 z24:=sizeOf309
 v24:=zeroValue309}
open Go.RowKit in
theorem Tryz.strings_CutPrefix(s p:ByteArray)(w:a8):
 bb prog 251 #[.string s,.string p] w fun e w'=>e=.returned (.tuple #[.string ⟨(b0 s.data.toList p.data.toList).toArray⟩,.bool (b1 s.data.toList p.data.toList)])/\w'=w:=Any.strings_CutPrefix aDE s p w
def Tryz.UX:dg:=⟨fun|283=>323|n=>n,fun|3=>3|9=>9|4=>4|n=>n,fun|n=>n⟩
theorem Tryz.aDQ:cx prog UX:={
 mixed:=by kernel_rfl
 f283:=func323.trans (congrArg some (by kernel_rfl))
 t3:=underlying3
 a3:=isAgg3
 z3:=sizeOf3
 v3:=zeroValue3
 t4:=underlying4
 a4:=isAgg4
 z4:=sizeOf4
 v4:=zeroValue4
 t9:=underlying9
 a9:=isAgg9
 z9:=sizeOf9
 v9:=zeroValue9}
open Go.Lib in
theorem Tryz.internal_strconv_small(i:Nat)(h:i<100)(w:a8):
 bb prog 323 #[.int .i64 i] w fun e w'=>e=.returned (.string ⟨(bi i).toArray⟩)/\w'=w:=Any.internal_strconv_small aDQ i h w
def Tryz.Ul:dg:=⟨fun|284=>324|129=>312|317=>362|318=>363|n=>n,fun|53=>304|3=>3|212=>396|0=>0|4=>4|46=>323|5=>5|9=>9|n=>n,fun|17=>1|n=>n⟩
theorem Tryz.XX:Go.Proofs.LaysM.n284 prog Ul:={
 mixed:=by kernel_rfl
 f129:=func312.trans (congrArg some (by kernel_rfl))
 f284:=func324.trans (congrArg some (by kernel_rfl))
 f317:=func362.trans (congrArg some (by kernel_rfl))
 f318:=func363.trans (congrArg some (by kernel_rfl))
 t0:=underlying0
 a0:=isAgg0
 z0:=sizeOf0
 v0:=zeroValue0
 t3:=underlying3
 a3:=isAgg3
 z3:=sizeOf3
 v3:=zeroValue3
 t4:=underlying4
 a4:=isAgg4
 z4:=sizeOf4
 v4:=zeroValue4
 t5:=underlying5
 a5:=isAgg5
 z5:=sizeOf5
 v5:=zeroValue5
 t9:=underlying9
 a9:=isAgg9
 z9:=sizeOf9
 v9:=zeroValue9
 t46:=underlying323
 a46:=isAgg323
 z46:=sizeOf323
 v46:=zeroValue323
 t53:=underlying304
 a53:=isAgg304
 z53:=sizeOf304
 v53:=zeroValue304
 t212:=underlying396
 a212:=isAgg396
 z212:=sizeOf396
 v212:=zeroValue396
 g17:=by kernel_rfl
 i0:=by kernel_rfl
 i3:=by kernel_rfl
 i4:=by kernel_rfl
 i5:=by kernel_rfl
 i9:=by kernel_rfl
 i46:=by kernel_rfl
 i53:=by kernel_rfl
 i212:=by kernel_rfl
 m17:=by kernel_rfl}
open Go.Lib in
theorem Tryz.internal_strconv_numDigits(u:Nat)(h1:1<=u)(h2:u<18446744073709551616)(w:a8)(htab:b3 prog w "internal/strconv.uint64pow10" .u64 b2):
 bb prog 324 #[.int .u64 u] w fun e w'=>e=.returned (.int .i64 (bk u))/\w'=w:=Any.internal_strconv_numDigits XX u h1 h2 w htab
def Tryz.UW:dg:=⟨fun|285=>325|n=>n,fun|37=>223|53=>304|3=>3|4=>4|51=>355|9=>9|5=>5|0=>0|n=>n,fun|n=>n⟩
theorem Tryz.aDR:cv prog UW:={
 mixed:=by kernel_rfl
 f285:=func325.trans (congrArg some (by kernel_rfl))
 t0:=underlying0
 a0:=isAgg0
 z0:=sizeOf0
 v0:=zeroValue0
 t3:=underlying3
 a3:=isAgg3
 z3:=sizeOf3
 v3:=zeroValue3
 t4:=underlying4
 a4:=isAgg4
 z4:=sizeOf4
 v4:=zeroValue4
 t5:=underlying5
 a5:=isAgg5
 z5:=sizeOf5
 v5:=zeroValue5
 t9:=underlying9
 a9:=isAgg9
 z9:=sizeOf9
 v9:=zeroValue9
 t37:=underlying223
 a37:=isAgg223
 z37:=sizeOf223
 v37:=zeroValue223
 t51:=underlying355
 a51:=isAgg355
 z51:=sizeOf355
 v51:=zeroValue355
 t53:=underlying304
 a53:=isAgg304
 z53:=sizeOf304
 v53:=zeroValue304}
open Go.RowKit Go.Sort Go.Lib in
theorem Tryz.internal_strconv_formatBase10(al off cap:Nat)(u:Nat)(d:Array UInt8)(w:a8)(hH:Holds (fun(b:UInt8)=>dp .u8 (b.toNat:Int)) w al off d)(hu:u<10^d.size)(hu64:u<18446744073709551616)(hsz:d.size<4611686018427387904):
 bb prog 325 #[.slice (some ⟨al,off,none⟩) d.size cap,.int .u64 u] w fun e w'=>
  e=.returned (.tuple #[])/\∃(n v':Nat)(dk:Array UInt8),w'=(putRow (fun(b:UInt8)=>dp .u8 (b.toNat:Int)) w al off dk).drewN n/\FmtInv d.size u 0 v' dk:=Any.internal_strconv_formatBase10 aDR al off cap u d w hH hu hu64 hsz
def Tryz.T8:dg:=⟨fun|171=>153|243=>227|246=>280|283=>323|284=>324|285=>325|286=>326|129=>312|317=>362|318=>363|319=>364|320=>365|337=>380|338=>381|n=>n,fun|3=>3|9=>9|2=>2|4=>4|171=>362|0=>0|53=>304|37=>223|5=>5|173=>364|212=>396|51=>355|20=>20|213=>397|46=>323|232=>420|233=>421|n=>n,fun|17=>1|18=>6|19=>7|n=>n⟩
theorem Tryz.XY:Go.Proofs.LaysM.n171 prog T8:={
 mixed:=by kernel_rfl
 f129:=func312.trans (congrArg some (by kernel_rfl))
 f171:=func153.trans (congrArg some (by kernel_rfl))
 f243:=func227.trans (congrArg some (by kernel_rfl))
 f246:=func280.trans (congrArg some (by kernel_rfl))
 f283:=func323.trans (congrArg some (by kernel_rfl))
 f284:=func324.trans (congrArg some (by kernel_rfl))
 f285:=func325.trans (congrArg some (by kernel_rfl))
 f286:=func326.trans (congrArg some (by kernel_rfl))
 f317:=func362.trans (congrArg some (by kernel_rfl))
 f318:=func363.trans (congrArg some (by kernel_rfl))
 f319:=func364.trans (congrArg some (by kernel_rfl))
 f320:=func365.trans (congrArg some (by kernel_rfl))
 f337:=func380.trans (congrArg some (by kernel_rfl))
 f338:=func381.trans (congrArg some (by kernel_rfl))
 t0:=underlying0
 a0:=isAgg0
 z0:=sizeOf0
 v0:=zeroValue0
 t2:=underlying2
 a2:=isAgg2
 z2:=sizeOf2
 v2:=zeroValue2
 t3:=underlying3
 a3:=isAgg3
 z3:=sizeOf3
 v3:=zeroValue3
 t4:=underlying4
 a4:=isAgg4
 z4:=sizeOf4
 v4:=zeroValue4
 t5:=underlying5
 a5:=isAgg5
 z5:=sizeOf5
 v5:=zeroValue5
 t9:=underlying9
 a9:=isAgg9
 z9:=sizeOf9
 v9:=zeroValue9
 t20:=underlying20
 a20:=isAgg20
 z20:=sizeOf20
 v20:=zeroValue20
 t37:=underlying223
 a37:=isAgg223
 z37:=sizeOf223
 v37:=zeroValue223
 t46:=underlying323
 a46:=isAgg323
 z46:=sizeOf323
 v46:=zeroValue323
 t51:=underlying355
 a51:=isAgg355
 z51:=sizeOf355
 v51:=zeroValue355
 t53:=underlying304
 a53:=isAgg304
 z53:=sizeOf304
 v53:=zeroValue304
 t171:=underlying362
 a171:=isAgg362
 z171:=sizeOf362
 v171:=zeroValue362
 t173:=underlying364
 a173:=isAgg364
 z173:=sizeOf364
 v173:=zeroValue364
 t212:=underlying396
 a212:=isAgg396
 z212:=sizeOf396
 v212:=zeroValue396
 t213:=underlying397
 a213:=isAgg397
 z213:=sizeOf397
 t232:=underlying420
 a232:=isAgg420
 z232:=sizeOf420
 v232:=zeroValue420
 t233:=underlying421
 a233:=isAgg421
 z233:=sizeOf421
 v233:=zeroValue421
 g17:=by kernel_rfl
 g18:=by kernel_rfl
 g19:=by kernel_rfl
 i0:=by kernel_rfl
 i2:=by kernel_rfl
 i3:=by kernel_rfl
 i4:=by kernel_rfl
 i5:=by kernel_rfl
 i9:=by kernel_rfl
 i20:=by kernel_rfl
 i37:=by kernel_rfl
 i46:=by kernel_rfl
 i51:=by kernel_rfl
 i53:=by kernel_rfl
 i171:=by kernel_rfl
 i173:=by kernel_rfl
 i212:=by kernel_rfl
 i232:=by kernel_rfl
 i233:=by kernel_rfl
 m17:=by kernel_rfl
 m18:=by kernel_rfl
 m19:=by kernel_rfl}
open Go.RowKit Go.Sort Go.Lib in
theorem Tryz.strconv_Itoa(n:Int)(h0: -9223372036854775808<=n)(h1:n<=9223372036854775807)(w:a8)(htab:b3 prog w "internal/strconv.uint64pow10" .u64 b2):
 bb prog 153 #[.int .i64 n] w fun e w'=>e=.returned (.string ⟨(cb n).toArray⟩)/\∃k os,w'=grow (w.drewN k) os:=Any.strconv_Itoa XY n h0 h1 w htab
def Tryz.T9:dg:=⟨fun|172=>260|244=>299|245=>300|247=>347|279=>348|280=>349|281=>350|282=>351|287=>375|316=>376|171=>153|205=>377|321=>385|322=>386|243=>227|246=>280|283=>323|284=>324|285=>325|286=>326|129=>312|317=>362|318=>363|319=>364|320=>365|337=>380|338=>381|n=>n,fun|9=>9|3=>3|75=>227|76=>228|4=>4|5=>5|167=>379|37=>223|0=>0|85=>380|2=>2|168=>382|53=>304|175=>405|46=>323|210=>409|127=>329|145=>419|143=>417|21=>21|171=>362|173=>364|212=>396|51=>355|20=>20|213=>397|232=>420|233=>421|80=>289|n=>n,fun|15=>4|16=>5|17=>1|18=>6|19=>7|n=>n⟩
theorem Tryz.XZ:Go.Proofs.LaysC.n172 prog T9:={
 mixed:=by kernel_rfl
 f129:=func312.trans (congrArg some (by kernel_rfl))
 f171:=func153.trans (congrArg some (by kernel_rfl))
 f172:=func260.trans (congrArg some (by kernel_rfl))
 f205:=func377.trans (congrArg some (by kernel_rfl))
 f243:=func227.trans (congrArg some (by kernel_rfl))
 f244:=func299.trans (congrArg some (by kernel_rfl))
 f245:=func300.trans (congrArg some (by kernel_rfl))
 f246:=func280.trans (congrArg some (by kernel_rfl))
 f247:=func347.trans (congrArg some (by kernel_rfl))
 f279:=func348.trans (congrArg some (by kernel_rfl))
 f280:=func349.trans (congrArg some (by kernel_rfl))
 f281:=func350.trans (congrArg some (by kernel_rfl))
 f282:=func351.trans (congrArg some (by kernel_rfl))
 f283:=func323.trans (congrArg some (by kernel_rfl))
 f284:=func324.trans (congrArg some (by kernel_rfl))
 f285:=func325.trans (congrArg some (by kernel_rfl))
 f286:=func326.trans (congrArg some (by kernel_rfl))
 f287:=func375.trans (congrArg some (by kernel_rfl))
 f316:=func376.trans (congrArg some (by kernel_rfl))
 f317:=func362.trans (congrArg some (by kernel_rfl))
 f318:=func363.trans (congrArg some (by kernel_rfl))
 f319:=func364.trans (congrArg some (by kernel_rfl))
 f320:=func365.trans (congrArg some (by kernel_rfl))
 f321:=func385.trans (congrArg some (by kernel_rfl))
 f322:=func386.trans (congrArg some (by kernel_rfl))
 f337:=func380.trans (congrArg some (by kernel_rfl))
 f338:=func381.trans (congrArg some (by kernel_rfl))
 t0:=underlying0
 a0:=isAgg0
 z0:=sizeOf0
 v0:=zeroValue0
 t2:=underlying2
 a2:=isAgg2
 z2:=sizeOf2
 v2:=zeroValue2
 t3:=underlying3
 a3:=isAgg3
 z3:=sizeOf3
 v3:=zeroValue3
 t4:=underlying4
 a4:=isAgg4
 z4:=sizeOf4
 v4:=zeroValue4
 t5:=underlying5
 a5:=isAgg5
 z5:=sizeOf5
 v5:=zeroValue5
 t9:=underlying9
 a9:=isAgg9
 z9:=sizeOf9
 v9:=zeroValue9
 t20:=underlying20
 a20:=isAgg20
 z20:=sizeOf20
 v20:=zeroValue20
 t21:=underlying21
 a21:=isAgg21
 z21:=sizeOf21
 v21:=zeroValue21
 t37:=underlying223
 a37:=isAgg223
 z37:=sizeOf223
 v37:=zeroValue223
 t46:=underlying323
 a46:=isAgg323
 z46:=sizeOf323
 v46:=zeroValue323
 t51:=underlying355
 a51:=isAgg355
 z51:=sizeOf355
 v51:=zeroValue355
 t53:=underlying304
 a53:=isAgg304
 z53:=sizeOf304
 v53:=zeroValue304
 t75:=underlying227
 a75:=isAgg227
 z75:=sizeOf227
 v75:=zeroValue227
 t76:=underlying228
 a76:=isAgg228
 z76:=sizeOf228
 v76:=zeroValue228
 t85:=underlying380
 a85:=isAgg380
 z85:=sizeOf380
 v85:=zeroValue380
 t127:=underlying329
 a127:=isAgg329
 z127:=sizeOf329
 v127:=zeroValue329
 t143:=underlying417
 a143:=isAgg417
 z143:=sizeOf417
 v143:=zeroValue417
 t145:=underlying419
 a145:=isAgg419
 z145:=sizeOf419
 v145:=zeroValue419
 t167:=underlying379
 a167:=isAgg379
 z167:=sizeOf379
 v167:=zeroValue379
 t168:=underlying382
 a168:=isAgg382
 z168:=sizeOf382
 v168:=zeroValue382
 t171:=underlying362
 a171:=isAgg362
 z171:=sizeOf362
 v171:=zeroValue362
 t173:=underlying364
 a173:=isAgg364
 z173:=sizeOf364
 v173:=zeroValue364
 t175:=underlying405
 a175:=isAgg405
 z175:=sizeOf405
 v175:=zeroValue405
 t210:=underlying409
 a210:=isAgg409
 z210:=sizeOf409
 v210:=zeroValue409
 t212:=underlying396
 a212:=isAgg396
 z212:=sizeOf396
 v212:=zeroValue396
 t213:=underlying397
 a213:=isAgg397
 z213:=sizeOf397
 t232:=underlying420
 a232:=isAgg420
 z232:=sizeOf420
 v232:=zeroValue420
 t233:=underlying421
 a233:=isAgg421
 z233:=sizeOf421
 v233:=zeroValue421
 g15:=by kernel_rfl
 g16:=by kernel_rfl
 g17:=by kernel_rfl
 g18:=by kernel_rfl
 g19:=by kernel_rfl
 t80:=underlying289
 a80:=isAgg289
 z80:=sizeOf289
 v80:=zeroValue289
 i0:=by kernel_rfl
 i2:=by kernel_rfl
 i3:=by kernel_rfl
 i4:=by kernel_rfl
 i5:=by kernel_rfl
 i9:=by kernel_rfl
 i20:=by kernel_rfl
 i21:=by kernel_rfl
 i37:=by kernel_rfl
 i46:=by kernel_rfl
 i51:=by kernel_rfl
 i53:=by kernel_rfl
 i75:=by kernel_rfl
 i76:=by kernel_rfl
 i80:=by kernel_rfl
 i85:=by kernel_rfl
 i127:=by kernel_rfl
 i143:=by kernel_rfl
 i145:=by kernel_rfl
 i167:=by kernel_rfl
 i168:=by kernel_rfl
 i171:=by kernel_rfl
 i173:=by kernel_rfl
 i175:=by kernel_rfl
 i210:=by kernel_rfl
 i212:=by kernel_rfl
 i232:=by kernel_rfl
 i233:=by kernel_rfl
 m15:=by kernel_rfl
 m16:=by kernel_rfl
 m17:=by kernel_rfl
 m18:=by kernel_rfl
 m19:=by kernel_rfl
 c0:=by kernel_rfl
 c2:=by kernel_rfl
 c3:=by kernel_rfl
 c4:=by kernel_rfl
 c5:=by kernel_rfl
 c9:=by kernel_rfl
 c20:=by kernel_rfl
 c21:=by kernel_rfl
 c37:=by kernel_rfl
 c46:=by kernel_rfl
 c51:=by kernel_rfl
 c53:=by kernel_rfl
 c75:=by kernel_rfl
 c76:=by kernel_rfl
 c80:=by kernel_rfl
 c85:=by kernel_rfl
 c127:=by kernel_rfl
 c143:=by kernel_rfl
 c145:=by kernel_rfl
 c167:=by kernel_rfl
 c168:=by kernel_rfl
 c171:=by kernel_rfl
 c173:=by kernel_rfl
 c175:=by kernel_rfl
 c210:=by kernel_rfl
 c212:=by kernel_rfl
 c213:=by kernel_rfl
 c232:=by kernel_rfl
 c233:=by kernel_rfl}
open Go.RowKit in
theorem Tryz.strconv_Atoi_ok(s:ByteArray)(hmax:s.size<=9223372036854775806)(v:Int)(h:cc s.data.toList= .ok v)(w:a8):
 bb prog 260 #[.string s] w fun e w'=>e=.returned (.tuple #[.int .i64 v,.nilIface])/\(w'=w\/∃t,w'=Lib.bytesWorld w 5 t):=Any.strconv_Atoi_ok XZ s hmax v h w
def Tryz.UZ:dg:=⟨fun|219=>296|217=>343|225=>344|224=>345|267=>346|266=>373|314=>374|n=>n,fun|9=>9|3=>3|4=>4|5=>5|46=>323|146=>400|51=>355|n=>n,fun|1=>0|n=>n⟩
theorem Tryz.aDO:cy prog UZ:={
 mixed:=by kernel_rfl
 f217:=func343.trans (congrArg some (by kernel_rfl))
 f219:=func296.trans (congrArg some (by kernel_rfl))
 f224:=func345.trans (congrArg some (by kernel_rfl))
 f225:=func344.trans (congrArg some (by kernel_rfl))
 f266:=func373.trans (congrArg some (by kernel_rfl))
 f267:=func346.trans (congrArg some (by kernel_rfl))
 f314:=func374.trans (congrArg some (by kernel_rfl))
 t3:=underlying3
 a3:=isAgg3
 z3:=sizeOf3
 v3:=zeroValue3
 t4:=underlying4
 a4:=isAgg4
 z4:=sizeOf4
 v4:=zeroValue4
 t5:=underlying5
 a5:=isAgg5
 z5:=sizeOf5
 v5:=zeroValue5
 t9:=underlying9
 a9:=isAgg9
 z9:=sizeOf9
 v9:=zeroValue9
 t46:=underlying323
 a46:=isAgg323
 z46:=sizeOf323
 v46:=zeroValue323
 t51:=underlying355
 a51:=isAgg355
 z51:=sizeOf355
 v51:=zeroValue355
 t146:=underlying400
 a146:=isAgg400
 z146:=sizeOf400
 v146:=zeroValue400
 g1:=by kernel_rfl}
open Go.RowKit Go.Lib in
theorem Tryz.stringslite_Index_one(s:ByteArray)(c:UInt8)(w:a8):
 bb prog 296 #[.string s,.string ⟨#[c]⟩] w fun e w'=>e=.returned (.int .i64 (bl s.data.toList c))/\w'=w:=Any.stringslite_Index_one aDO s c w
def Tryz.VD:dg:=⟨fun|99=>258|206=>297|n=>n,fun|9=>9|4=>4|3=>3|n=>n,fun|n=>n⟩
theorem Tryz.aDS:ck prog VD:={
 mixed:=by kernel_rfl
 f99:=func258.trans (congrArg some (by kernel_rfl))
 f206:=func297.trans (congrArg some (by kernel_rfl))
 t3:=underlying3
 a3:=isAgg3
 z3:=sizeOf3
 v3:=zeroValue3
 t4:=underlying4
 a4:=isAgg4
 z4:=sizeOf4
 v4:=zeroValue4
 t9:=underlying9
 a9:=isAgg9
 z9:=sizeOf9
 v9:=zeroValue9}
open Go.RowKit Go.Lib in
theorem Tryz.strings_HasPrefix(s p:ByteArray)(w:a8):
 bb prog 258 #[.string s,.string p] w fun e w'=>e=.returned (.bool (b1 s.data.toList p.data.toList))/\w'=w:=Any.strings_HasPrefix aDS s p w
def Tryz.U3:dg:=⟨fun|101=>259|208=>298|206=>297|n=>n,fun|9=>9|4=>4|3=>3|n=>n,fun|n=>n⟩
theorem Tryz.aDy:db prog U3:={
 mixed:=by kernel_rfl
 f101:=func259.trans (congrArg some (by kernel_rfl))
 f206:=func297.trans (congrArg some (by kernel_rfl))
 f208:=func298.trans (congrArg some (by kernel_rfl))
 t3:=underlying3
 a3:=isAgg3
 z3:=sizeOf3
 v3:=zeroValue3
 t4:=underlying4
 a4:=isAgg4
 z4:=sizeOf4
 v4:=zeroValue4
 t9:=underlying9
 a9:=isAgg9
 z9:=sizeOf9
 v9:=zeroValue9}
open Go.RowKit Go.Lib in
theorem Tryz.strings_TrimPrefix(s p:ByteArray)(w:a8):
 bb prog 259 #[.string s,.string p] w fun e w'=>e=.returned (.string ⟨(b0 s.data.toList p.data.toList).toArray⟩)/\w'=w:=Any.strings_TrimPrefix aDy s p w
def Tryz.I8:dg:=⟨fun|105=>293|212=>335|99=>258|165=>279|166=>151|170=>228|169=>229|263=>369|264=>246|206=>297|240=>225|241=>322|276=>278|277=>361|n=>n,fun|9=>9|3=>3|4=>4|20=>20|0=>0|46=>323|109=>369|5=>5|72=>225|76=>228|51=>355|146=>400|53=>304|148=>305|70=>222|37=>223|75=>227|127=>329|164=>325|80=>289|n=>n,fun|n=>n⟩
theorem Tryz.aDH:c6 prog I8:={
 mixed:=by kernel_rfl
 f99:=func258.trans (congrArg some (by kernel_rfl))
 f105:=func293.trans (congrArg some (by kernel_rfl))
 f165:=func279.trans (congrArg some (by kernel_rfl))
 f166:=func151.trans (congrArg some (by kernel_rfl))
 f169:=func229.trans (congrArg some (by kernel_rfl))
 f170:=func228.trans (congrArg some (by kernel_rfl))
 f206:=func297.trans (congrArg some (by kernel_rfl))
 f212:=func335.trans (congrArg some (by kernel_rfl))
 f240:=func225.trans (congrArg some (by kernel_rfl))
 f241:=func322.trans (congrArg some (by kernel_rfl))
 f263:=func369.trans (congrArg some (by kernel_rfl))
 f264:=func246.trans (congrArg some (by kernel_rfl))
 f276:=func278.trans (congrArg some (by kernel_rfl))
 f277:=func361.trans (congrArg some (by kernel_rfl))
 t0:=underlying0
 a0:=isAgg0
 z0:=sizeOf0
 v0:=zeroValue0
 t3:=underlying3
 a3:=isAgg3
 z3:=sizeOf3
 v3:=zeroValue3
 t4:=underlying4
 a4:=isAgg4
 z4:=sizeOf4
 v4:=zeroValue4
 t5:=underlying5
 a5:=isAgg5
 z5:=sizeOf5
 v5:=zeroValue5
 t9:=underlying9
 a9:=isAgg9
 z9:=sizeOf9
 v9:=zeroValue9
 t20:=underlying20
 a20:=isAgg20
 z20:=sizeOf20
 v20:=zeroValue20
 t37:=underlying223
 a37:=isAgg223
 z37:=sizeOf223
 v37:=zeroValue223
 t46:=underlying323
 a46:=isAgg323
 z46:=sizeOf323
 v46:=zeroValue323
 t51:=underlying355
 a51:=isAgg355
 z51:=sizeOf355
 v51:=zeroValue355
 t53:=underlying304
 a53:=isAgg304
 z53:=sizeOf304
 v53:=zeroValue304
 t70:=underlying222
 a70:=isAgg222
 z70:=sizeOf222
 v70:=zeroValue222
 t72:=underlying225
 a72:=isAgg225
 z72:=sizeOf225
 v72:=zeroValue225
 t75:=underlying227
 a75:=isAgg227
 z75:=sizeOf227
 v75:=zeroValue227
 t76:=underlying228
 a76:=isAgg228
 z76:=sizeOf228
 v76:=zeroValue228
 t109:=underlying369
 a109:=isAgg369
 z109:=sizeOf369
 v109:=zeroValue369
 t127:=underlying329
 a127:=isAgg329
 z127:=sizeOf329
 v127:=zeroValue329
 t146:=underlying400
 a146:=isAgg400
 z146:=sizeOf400
 v146:=zeroValue400
 t148:=underlying305
 a148:=isAgg305
 z148:=sizeOf305
 v148:=zeroValue305
 t164:=underlying325
 a164:=isAgg325
 z164:=sizeOf325
 v164:=zeroValue325}
theorem Tryz.TE:Builder.Extra prog I8:={
 sizeBuilder:=by kernel_rfl
 liesBuilder:=by kernel_rfl
 t5:=underlying5
 a5:=isAgg5
 z5:=sizeOf5
 v5:=zeroValue5
 infoByte:=by kernel_rfl
 cellsByte:=by kernel_rfl
 sizeByte:=by kernel_rfl
 neB5:=by decide}
open Go.RowKit Go.Lib in
theorem Tryz.strings_Repeat(s:ByteArray)(c:Nat)(w:a8)(hc:c<=9223372036854775807)(hlen:s.size*c<=140737488355328):
 bb prog 293 #[.string s,.int .i64 c] w fun e w'=>e=.returned (.string ⟨(b4 s.data.toList c).toArray⟩)/\Below w.heap.size w w':=Any.strings_Repeat aDH TE s c w hc hlen
end Go.Proofs
namespace Go.Proofs
open Go.Shelf Go.RowKit Go.Sort Go.Lib
set_option maxHeartbeats 6400000 in
set_option maxRecDepth 100000 in
theorem Tryz.TC(u:Nat)(hu64:u<18446744073709551616)(w:a8)
 (htab:b3 prog w "internal/strconv.uint64pow10" .u64 b2):
 bb prog 334 #[.int .u64 u,.int .i64 10] w fun e w'=>e=.returned (.string ⟨(bi u).toArray⟩)/\∃k os,w'=grow (w.drewN k) os:=by
 have e323:∀args w,(callFunc 323 args).run prog w=.ok (.enter 323 args) w:=enters_of func323 (by kernel_rfl) rfl;have e324:∀args w,(callFunc 324 args).run prog w=.ok (.enter 324 args) w:=enters_of func324 (by kernel_rfl) rfl;have e325:∀args w,(callFunc 325 args).run prog w=.ok (.enter 325 args) w:=enters_of func325 (by kernel_rfl) rfl
 by_cases hs:u<100
 ·go_enter func334,ntmps334
  go_wp2_with (go_at_fn 323;refine(internal_strconv_small u hs _).mono ?_;rintro e w' ⟨rfl,rfl⟩)
  go_ret
  exact⟨rfl,0,#[],by simp[World.drewN_zero]⟩
 ·have hu1:1<=u:=by omega
  have hnd20:bk u<=20:=by have:=Lib.numDigits_eq u hu1 hu64;split at this<;>omega
  have hb3:bk u<=24:=by omega
  have hal:prog.arrayLen 362=24:=by kernel_rfl
  have hsl1:∀W,(Instr.sliceAt 362 (.pointer (some ⟨w.heap.size,0,none⟩)) none (some (.int .i64 (bk u:Int))) none).run prog W=.ok (.slice (some ⟨w.heap.size,0,none⟩) (bk u) 24) W:=fun W=>by
   rw[run_sliceAt_array_h W 362 ⟨w.heap.size,0,none⟩ (by kernel_rfl) .i64 (bk u:Int) (by omega) (by rw[hal];omega)]
   go_simp
  have hH0:=Lib.holds_zero0 w 362 (bk u) hb3;have hfmt:=internal_strconv_formatBase10 w.heap.size 0 24 u (Array.replicate (bk u) 0) (w.alloc (.cells bv 362)) hH0 (by rw[an];exact Lib.lt_pow_nDigits u) hu64 (by rw[an];omega);rw[an]at hfmt;have HH0:=Lib.hid hH0;clear hH0 hal
  go_enter func334,ntmps334
  go_wp2_with (first
   |(go_at_fn 324;refine(internal_strconv_numDigits u hu1 hu64 _ (Lib.tabIs_alloc htab _)).mono ?_;rintro e w' ⟨rfl,rfl⟩))
  go_at_fn 325
  refine hfmt.mono ?_;rintro e w' ⟨rfl,k,v',dk,rfl,hF⟩;have hcv:(convert 223 9 (.slice (some ⟨w.heap.size,0,none⟩) (bk u) 24)).run prog ((putRow (fun(b:UInt8)=>dp .u8 (b.toNat:Int)) (w.alloc (.cells bv 362)) w.heap.size 0 dk).drewN k)=.ok (.string ⟨(bi u).toArray⟩) ((putRow (fun(b:UInt8)=>dp .u8 (b.toNat:Int)) (w.alloc (.cells bv 362)) w.heap.size 0 dk).drewN k):=by
   have h:=run_convert_bytes_back (P:=prog) ((putRow (fun(b:UInt8)=>dp .u8 (b.toNat:Int)) (w.alloc (.cells bv 362)) w.heap.size 0 dk).drewN k) 223 9 5 ⟨w.heap.size,0,none⟩ 24 (bi u) (by kernel_rfl) (by kernel_rfl) (by kernel_rfl) (fun j hj=>by
    rw[Lib.row_is_numeral hF j hj,Lib.add_plain,World.cell?_drewN];exact cell?_putRow (fun(b:UInt8)=>dp .u8 (b.toNat:Int)) _ w.heap.size 0 _ dk HH0.out (by rw[hF.size,an]) j (by rw[hF.size];rw[b5]at hj;exact hj))
   rw[b5]at h;exact h
  go_wp2
  go_ret
  obtain⟨os,eo⟩:=Lib.fin_at w (.cells bv 362) dk k 0;exact⟨rfl,k,os,eo⟩
end Go.Proofs
namespace Go.ag
open Go.Proofs
theorem uJ{P:Program}{w:a8}{ad:Nat->Prop}(l:List UInt8):aC P w ad (.str (cX l)) (.string ⟨l.toArray⟩):=by
 simp only[aC];exact⟨_,rfl,by simp[cX]⟩
theorem nj{P:Program}{w:a8}{ad:Nat->Prop}{s:List Nat}{v:Value}(h:aC P w ad (.str s) v):∃bs:ByteArray,v=.string bs/\s=cX bs.data.toList:=by
 simp only[aC]at h;obtain⟨bs,rfl,rfl⟩:=h;exact⟨bs,rfl,rfl⟩
theorem one_byte{w:a8}{ad:Nat->Prop}{c:Nat}{v:Value}(h:aC prog w ad (.str [c]) v):∃b:UInt8,v=.string ⟨#[b]⟩/\c=b.toNat:=by
 obtain⟨bs,rfl,f⟩:=nj h;clear h;have h:=f;clear f
 match e:bs.data.toList with
 |[]=>rw[e]at h;simp[cX]at h
 |[b]=>
  rw[e]at h;simp[cX]at h;refine⟨b,?_,h⟩;congr 1;cases bs with
  |mk d=>simp at e⊢;exact Array.ext' (by simpa using e)
 |a::b::r=>rw[e]at h;simp[cX]at h
theorem EC{w:a8}{ad:Nat->Prop}{v:Value}(h:aC prog w ad (.str [45]) v):v=.string ⟨#[45]⟩:=by
 obtain⟨b,rfl,a⟩:=one_byte h;have:b=45:=hP.1 a.symm;rw[this]
theorem Iq(s:List Nat)(c:Nat):aA prog 296 [.str s,.str [c]] (.int .i64 (nC c s 0)):=by
 refine jH (iO func296 (by kernel_rfl)) fun w ad g _ _ f=>?_;obtain⟨x,y,rfl,a,d⟩:=mS f;obtain⟨b,rfl,rfl⟩:=one_byte d;obtain⟨bs,rfl,rfl⟩:=nj a;refine(stringslite_Index_one bs b w).mono ?_;rintro e w' ⟨rfl,rfl⟩;refine⟨_,rfl,⟨gt _,fun _ _=>rfl,rfl,rfl⟩,fun w ad=>?_⟩;have e1:=Mq b bs.data.toList 0;simp only[aC]at e1⊢;rw[e1]
 by_cases h:bl bs.data.toList b= -1<;>simp[h]
theorem Zd(s:List Nat)(c:Nat)(h:s.length<=1048576):aA prog 257 [.str s,.str [c]] (.aE [.str (b9 c s).1,.str (b9 c s).2.1,.bool (b9 c s).2.2]):=by
 refine aG nf Ov mix (by simp[f257]) ?_;simp[f257];refine c2 (Iq s c) ?_;rcases Mr c s 0 with⟨_,a,b⟩|⟨i,d,a,b⟩
 ·simp[a,b]
 ·rw[hE]at a;have w:=ct (i:=i) (by omega);have e1:((i:Int)+1).toNat=i+1:=by omega
  simp[a,b,w,e1];omega
theorem PG(s:List Nat)(c:Nat)(h:s.length<=1048576):aA prog 184 [.str s,.str [c]] (.aE [.str (b9 c s).1,.str (b9 c s).2.1,.bool (b9 c s).2.2]):=by
 refine aG nf GX mix (by simp[f184]) ?_;simp[f184];refine c2 (Zd s c h) ?_;simp
theorem YR(s:List Nat):aA prog 258 [.str s,.str [45]] (.bool (bZ s)):=by
 refine jH (iO func258 (by kernel_rfl)) fun w ad d _ _ c=>?_;obtain⟨x,y,rfl,a,b⟩:=mS c;obtain rfl:=EC b;obtain⟨bs,rfl,rfl⟩:=nj a;refine(strings_HasPrefix bs _ w).mono ?_;rintro e w' ⟨rfl,rfl⟩;exact⟨_,rfl,⟨gt _,fun _ _=>rfl,rfl,rfl⟩,fun w ad=>by rw[<-CM];simp only[aC]⟩
theorem KS(s:List Nat):aA prog 259 [.str s,.str [45]] (.str (cU s)):=by
 refine jH (iO func259 (by kernel_rfl)) fun w ad d _ _ c=>?_;obtain⟨x,y,rfl,a,b⟩:=mS c;obtain rfl:=EC b;obtain⟨bs,rfl,rfl⟩:=nj a;refine(strings_TrimPrefix bs _ w).mono ?_;rintro e w' ⟨rfl,rfl⟩;exact⟨_,rfl,⟨gt _,fun _ _=>rfl,rfl,rfl⟩,fun w ad=>by rw[<-Jn];exact uJ _⟩
theorem Yr(s:List Nat):aA prog 251 [.str s,.str [45]] (.aE [.str (cU s),.bool (bZ s)]):=by
 refine jH (iO func251 (by kernel_rfl)) fun w ad d _ _ c=>?_;obtain⟨x,y,rfl,a,b⟩:=mS c;obtain rfl:=EC b;obtain⟨bs,rfl,rfl⟩:=nj a;refine(strings_CutPrefix bs _ w).mono ?_;rintro e w' ⟨rfl,rfl⟩;refine⟨_,rfl,⟨gt _,fun _ _=>rfl,rfl,rfl⟩,fun w ad=>?_⟩;rw[<-Jn,<-CM];simp only[aC,bw];refine⟨[_,_],⟨_,_,rfl,?_,_,_,rfl,rfl,rfl⟩,rfl⟩;exact⟨_,rfl,by simp[cX]⟩
theorem N4{w:a8}{ad:Nat->Prop}(b:mY prog w ad):b3 prog w "internal/strconv.uint64pow10" .u64 b2:=by
 obtain⟨_,T,a⟩:=b.raw 1 _ rfl;have c:prog.globalNamed "internal/strconv.uint64pow10" =some 1:=by kernel_rfl
 simp only[b3,World.var?,c,Option.bind_some,a];rfl
theorem Ip(n:Int)(b:-9223372036854775808<=n)(c:n<=9223372036854775807):aA prog 153 [.int .i64 n] (.str (bL n)):=by
 refine jH (iO func153 (by kernel_rfl)) fun w ad g _ f d=>?_;obtain⟨x,rfl,a⟩:=zX d;simp only[aC]at a;subst a;refine(strconv_Itoa n b c w (N4 f)).mono ?_;rintro e w' ⟨rfl,k,os,rfl⟩;refine⟨_,rfl,⟨?_,fun k hk=>?_,rfl,rfl⟩,fun w ad=>?_⟩
 ·simp[dl,World.drewN]
 ·simp only[dl];exact ao hk
 ·rw[<-aDp];exact uJ _
theorem Zf(u:Nat)(f:u<18446744073709551616):aA prog 334 [.int .u64 u,.int .i64 10] (.str (bc u)):=by
 refine jH (iO func334 (by kernel_rfl)) fun w ad g _ d c=>?_;obtain⟨x,y,rfl,a,b⟩:=mS c;simp only[aC]at a b;subst a b;refine(TC u f w (N4 d)).mono ?_;rintro e w' ⟨rfl,k,os,rfl⟩;refine⟨_,rfl,⟨?_,fun k hk=>?_,rfl,rfl⟩,fun w ad=>?_⟩
 ·simp[dl,World.drewN]
 ·simp only[dl];exact ao hk
 ·rw[<-Ce];exact uJ _
theorem PH(u:Nat)(a:u<18446744073709551616):aA prog 292 [.int .u64 u,.int .i64 10] (.str (bc u)):=by
 refine aG nf Ot mix (by simp[f292]) ?_;simp[f292];refine c2 (Zf u a) ?_;simp
theorem PI(s:List Nat)(c:Nat)(hc:c<=9223372036854775807)(g:s.length*c<=140737488355328):aA prog 293 [.str s,.int .i64 c] (.str (tf s c)):=by
 refine jH (iO func293 (by kernel_rfl)) fun w ad h _ i f=>?_;obtain⟨x,y,rfl,d,b⟩:=mS f;obtain⟨bs,rfl,rfl⟩:=nj d;simp only[aC]at b;subst b;refine(strings_Repeat bs c w hc (by simpa[cX]using g)).mono ?_;rintro e w' ⟨rfl,a⟩;exact⟨_,rfl,⟨a.size,a.block,a.os,a.output⟩,fun w ad=>by
  rw[LA];exact uJ _⟩
theorem Ir(s:List Nat)(v:Int)(h:cc (s.map hQ)=.ok v)(d:s.length<=9223372036854775806):aA prog 260 [.str s] (.aE [.int .i64 v,.fV]):=by
 refine jH (iO func260 (by kernel_rfl)) fun w ad g _ i c=>?_;obtain⟨x,rfl,b⟩:=zX c;obtain⟨bs,rfl,rfl⟩:=nj b;rw[Vd]at h;refine(strconv_Atoi_ok bs (by simpa[cX]using d) v h w).mono ?_;rintro e w' ⟨rfl,f⟩;refine⟨_,rfl,?_,fun w ad=>by simp[aC,bw]⟩;rcases f with rfl|⟨t,rfl⟩
 ·exact⟨gt _,fun _ _=>rfl,rfl,rfl⟩
 ·have a:=Lib.bytesWorld_below w 5 t;exact⟨a.size,a.block,a.os,a.output⟩
def tB:Nat:=1000000000000000000
theorem Ek:tB=10^18:=by decide
theorem Mh:∀i,low i 0=fZ i 48
 |0=>rfl
 |i+1=>by rw[ui,Nat.zero_div,Mh i,List.replicate_succ']
theorem Rv{r:Nat}(h:r<tB):fZ (18-(bc r).length) 48++bc r=low 18 r:=by
 rw[rQ,bc];have c:nd r<=18:=sK (by rw[<-Ek];exact h);obtain⟨k,hk⟩:∃k,k=max 1 (nd r):=⟨_,rfl⟩
 have d:k<=18:=by omega
 have b:r<10^k:=gm (Dx r) (gj (by decide) (by omega));rw[<-hk];have:=rT (18-k) r (a:=k);have e:low 18 r=low (18-k) (r/10^k)++low k r:=by
  have:=rT k r (18-k);rw[show 18-k+k=18 by omega]at this;exact this
 rw[e,hC b,Mh]
theorem D0{r:Nat}(h:r<tB):(bc r).length<=18:=by
 rw[rQ];have a:nd r<=18:=sK (by rw[<-Ek];exact h);omega
theorem Xm{m:Nat}(h:tB<=m):bc m=bc (m/tB)++low 18 (m% tB):=by
 rw[Ek]at h⊢;have e:=Ew (n:=m) (k:=18) h;have a:0<nd (m/10^18):=xW (hm h (gy (by decide)));rw[bc,bc,show max 1 (nd m)=max 1 (nd (m/10^18))+18 by omega,rT,DR m 18 18 (gt _)]
def jC(m:Nat)(a:List (List Nat)):List Nat:=(if m=0 then[]else bc m)++a.reverse.flatten
def eJ(m:Nat):List Nat:=if m/tB=0 then bc m else low 18 (m% tB)
theorem Lp{m:Nat}(h:m≠0)(c:List (List Nat)):jC (m/tB) (c++[eJ m])=jC m c:=by
 rw[jC,jC,if_neg h,eJ,List.reverse_append]
 by_cases a:m/tB=0
 ·rw[if_pos a,if_pos a];simp
 ·rw[if_neg a,if_neg a];have:tB<=m:=by
   rcases ha m tB with b|b
   ·exact(a (hC b)).elim
   ·exact b
  rw[Xm this];simp
theorem Xo(a:List (List Nat)):jC 0 a=a.reverse.flatten:=by rw[jC,if_pos rfl];rfl
theorem Ab(n:Nat):0<(bc n).length:=by rw[rQ];omega
theorem Kp(m:Nat):eJ m≠[]:=by
 intro h;have:(eJ m).length=0:=by rw[h];rfl
 rw[eJ]at this
 split at this
 ·have:=Ab m;omega
 ·rw[rS]at this;omega
theorem Kq(m:Nat):(eJ m).length<=18:=by
 rw[eJ]
 split
 ·rename_i h;have b:m<tB:=by
   rcases ha m tB with a|a
   ·exact a
   ·have:=hm a (show 0<tB by decide);omega
  exact D0 b
 ·rw[rS];exact gt _
theorem Mo{c:Nat}(h:cm c=true):c<256:=by
 simp only[cm,ap,decide_eq_true_eq]at h;omega
end Go.ag
namespace Go.Proofs
open Go.ag
theorem Tryz.B7:prog.underlying 222=some (.pointer 225):=by kernel_rfl
theorem Tryz.HG:prog.underlying 325=some .unsafePointer:=by kernel_rfl
theorem Tryz.HW:(prog.info? 225).map (·.size)=some 2:=by kernel_rfl
theorem Tryz.aDT:liesAt prog prog.depth 225 (2/prog.cellsOf 225) 0 225 1=true:=by kernel_rfl
set_option maxHeartbeats 1000000 in
set_option maxRecDepth 100000 in
theorem Tryz.TK(b:Nat)(w:a8)(h0:w.cell? ⟨b,0,none⟩=some (.pointer (some ⟨b,0,none⟩))):
 bb prog 225 #[.pointer (some ⟨b,0,none⟩)] w fun e w'=>e=.returned (.tuple #[])/\w'=w:=by
 obtain⟨j,hj,_⟩:=Option.map_eq_some_iff.1 HW
 go_enter func225,ntmps225
 go_wp2
 rw[Lib.run_neq_ptr_same w _ B7 hj]
 go_wp2
 go_end0
 exact⟨rfl,rfl⟩
set_option maxHeartbeats 1000000 in
set_option maxRecDepth 100000 in
theorem Tryz.TL(b:Nat)(w:a8)(h0:w.cell? ⟨b,0,none⟩=some (.pointer none))(hsh:w.shape? b=some (225,2))(hfz:w.frozen? ⟨b,0,none⟩=false):
 bb prog 225 #[.pointer (some ⟨b,0,none⟩)] w fun e w'=>e=.returned (.tuple #[])/\w'=w.setCell ⟨b,0,none⟩ (.pointer (some ⟨b,0,none⟩)):=by
 obtain⟨j,hj,hjs⟩:=Option.map_eq_some_iff.1 HW
 go_enter func225,ntmps225
 go_wp2
 rw[Lib.run_to_unsafe w ⟨b,0,none⟩ B7 HG hj (by rw[hjs];decide) hsh (Nat.zero_lt_succ 1)];simp only[Result.andThen];rw[ce]
 go_wp2
 rw[run_callFunc_extern func278 (by kernel_rfl) (by kernel_rfl) (by kernel_rfl) (e:=Extern.AbiNoEscape.same) (by kernel_rfl)];rw[Lib.run_noEscape];simp only[Result.andThen];rw[ce]
 go_wp2
 rw[Lib.run_from_unsafe w ⟨b,0,none⟩ HG B7 hj hsh aDT];simp only[Result.andThen];rw[ce]
 go_wp2
 go_end0
 exact⟨rfl,rfl⟩
end Go.Proofs
