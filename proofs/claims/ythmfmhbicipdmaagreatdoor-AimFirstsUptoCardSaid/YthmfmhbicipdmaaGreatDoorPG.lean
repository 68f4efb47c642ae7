import Derived.Test.YthmfmhbicipdmaaGreatDoorPF
import Derived.Lib.ItoaNum
import Derived.Lib.Strings
import Derived.Lib.Repeat
import Derived.Lib.Bytealg
import Derived.Test.YthmfmhbicipdmaaGreatDoorThA
import Derived.Test.YthmfmhbicipdmaaGreatDoorPE
import Derived.Shelf.Strings.Builder1
import Derived.Shelf.Strings.Builder2
import Derived.Shelf.Strings.Trim
import Derived.Shelf.Small.Utf8
import Derived.Shelf.Small.Bits
import Derived.Shelf.Small.Strs
import Derived.Shelf.Small.Wraps
import Derived.Shelf.Strings.BuilderF
import Derived.Shelf.Strings.Builder2Cap
import Derived.Shelf.Strconv.Atoi
import Derived.Shelf.Strconv.Itoa0
import Derived.Shelf.Strconv.Itoa1
import Derived.Shelf.LaysM
import Derived.Shelf.Strconv.Itoa2
import Derived.Shelf.Strconv.Itoa3
import Derived.Shelf.Strconv.AtoiErrFast
import Derived.Shelf.Strconv.ParseIntEmpty
import Derived.Shelf.Strconv.AtoiFail
import Derived.Shelf.Strconv.Clone
import Derived.Shelf.Strconv.SyntaxError
import Derived.Shelf.LaysC
import Derived.Shelf.Strconv.ToError
import Derived.Shelf.Strconv.Lower
import Derived.Shelf.Strconv.ParseUint10
import Derived.Shelf.Strconv.ParseUint10Empty
import Derived.Shelf.Strconv.ParseUint10Any
import Derived.Shelf.Strconv.ParseInt10
import Derived.Shelf.Strconv.AtoiLong
import Derived.Shelf.Strconv.AtoiInnerAll
import Derived.Shelf.Strconv.RangeError
import Derived.Shelf.Strconv.ToErrorRange
import Derived.Shelf.Strconv.AtoiAll
import Derived.Shelf.Strconv.ParseUintEmpty
import Derived.Shelf.Strings.Search1
import Derived.Shelf.Strings.Search2
import Derived.Shelf.Strings.Cut
import Derived.Shelf.Strings.Shaped
import Derived.Shelf.Strings.Prefix
import Derived.Shelf.Unicode.Decode
import Derived.Shelf.Strings.Runes
import Derived.Shelf.Strings.AsciiSet
import Derived.Shelf.Bits.Mul64
import Derived.Shelf.Strings.Repeat
import Derived.Shelf.Unicode.DecodeSlow
import Derived.Shelf.Unicode.DecodeAny
import Derived.Shelf.Unicode.DecodeLast
import Derived.Shelf.Slices.Turned
import Derived.Test.YthmfmhbicipdmaaGreatDoorProg
import Derived.Lib.Walk
import Derived.Lib.ItoaMem
import Derived.WalkKit
import Derived.BigCall
import Derived.BigGuard
import Derived.Lib.AppendIntMem
import Derived.Lib.Builder
import Derived.Laws.Externs
import Derived.Shelf.RegionOpenPlain
/- Parts of a proof. -/
set_option linter.unusedSimpArgs false
set_option linter.unusedVariables false
set_option linter.unusedSectionVars false
open Go.Proofs.Tryz
open Array renaming size_replicate->am, getElem?_append_left->ao
open Bool renaming and_eq_true->av, or_eq_true->ax, and_true->ay, not_eq_true'->aT, false_and->a1, and_false->a6
open Go renaming World->a7, Calls->a8
open Go.IntKind renaming i64->bb
open Go.Lib renaming decDigits->be, nDigits->bf, indexByte->bi, bitLen->bl, zeros24->bo, trimPrefix->bv, hasPrefix->bw, pow10Tab->b0, TabIs->b1, repeatL->b2, decDigits_length->b3, itoa->b4, atoiAll->b5
open Go.Oper renaming upon_value->cb
open Go.Proofs.Lays renaming n99->cc, n285->cd, n283->ce, n219->ck, n105->cv, n103->cx, n101->cy
open Go.Shelf renaming Ren->c6
open Go.Sort renaming grow->da
open Go.Value renaming int->db
open Int renaming ediv_emod_unique->dg, natAbs_mul->dl, emod_lt_of_pos->dp, emod_nonneg->dq, ediv_lt_of_lt_mul->dx, tmod_lt_of_pos->dy, natAbs_natCast->dz, lt_tmod_of_pos->ea, mul_ne_zero->eb, natAbs_neg->ec, mul_le_mul->ed, ediv_one->ee, mul_sub->ei, mul_neg->ej
open List renaming append_nil->em, all_cons->en, length_eq_zero_iff->eq, cons_append->er, all_reverse->ew, dropLast_concat_getLast->eP, replicate->e6, map_cons->e7, length_cons->e8, all_eq_true->e9, head?_cons->fa, foldl_cons->fb, all_append->fd, mem_cons->fl, all_nil->fm
open Nat renaming pow_le_pow_right->fv, lt_of_lt_of_le->fw, le_refl->gb, lt_of_le_of_lt->gc, pow_pos->ge, pow_succ->gg, eq_zero_or_pos->gi, pow_add->gj, mod_eq_of_lt->gm, mul_comm->gt, lt_or_ge->gx, le_trans->gy, add_sub_cancel->g0, pow_zero->g5, pow_one->g6, pow_mul->g7, gcd->g8, le_of_eq->g9, le_mul_of_pos_left->ha, beq->hb, le_div_iff_mul_le->hd, eq_of_beq_eq_true->he, div_lt_iff_lt_mul->hg, mul_le_mul_right->hh, div_pos->hl, mul_le_mul_left->hm, mod_lt->hn, gcd_one_right->ho, div_eq_of_lt->hp, mul_assoc->hr, zero_add->ht, gcd_comm->hv, pow_two->hy
open Rat renaming divInt->hz, num_eq_zero->hA, not_lt->hB, lt_iff->hC
open UInt8 renaming toNat_inj->hD, ofNat->hE, toNat_ofNat'->hG
namespace Go.ak
open Go.Proofs
set_option maxHeartbeats 4000000
set_option maxRecDepth 100000
theorem nM{a b:NI}(h:a.v=b.v)(d:a.v= -9223372036854775808->a.m=b.m):eI a=eI b:=by
 by_cases c:a.v= -9223372036854775808
 ·have:=d c;cases a;cases b;dsimp only at h this;subst h this;rfl
 ·have e:a.sm=b.sm:=by
   simp only[NI.sm,h];rw[h]at c;simp[c]
  rw[jI,jI,e,h]
theorem Zo{a b:Int}(c:0<b):(a.tdiv b=a/b/\a.tmod b=a% b/\¬a.tmod b<0)\/(a.tdiv b-1=a/b/\a.tmod b+b=a% b/\a.tmod b<0/\a/b<0):=by
 have f:=Int.tmod_add_mul_tdiv a b;have g:=ea a c;have i:=dy a c
 by_cases h:a.tmod b<0
 ·right;have e:=(dg (a:=a) (r:=a.tmod b+b) (q:=a.tdiv b-1) c).2 ⟨by rw[ei];omega,by omega,by omega⟩;have j:a<0:=by
   rcases Int.lt_or_le a 0 with d|d
   ·exact d
   ·have:=Int.tmod_nonneg b d;omega
  have d:a/b<0:=dx c (by omega);omega
 ·left;have e:=(dg (a:=a) (r:=a.tmod b) (q:=a.tdiv b) c).2 ⟨by omega,by omega,by omega⟩;omega
theorem azW{a b:Int}(c:0<b):((if a<0 then -((a.natAbs% b.natAbs:Nat):Int)else(a.natAbs% b.natAbs:Nat))<0/\a/b=(if a<0 then -((a.natAbs/b.natAbs:Nat):Int)else(a.natAbs/b.natAbs:Nat))-1/\a% b=(if a<0 then -((a.natAbs% b.natAbs:Nat):Int)else(a.natAbs% b.natAbs:Nat))+b)\/
 (¬(if a<0 then -((a.natAbs% b.natAbs:Nat):Int)else(a.natAbs% b.natAbs:Nat))<0/\a/b=(if a<0 then -((a.natAbs/b.natAbs:Nat):Int)else(a.natAbs/b.natAbs:Nat))/\a% b=(if a<0 then -((a.natAbs% b.natAbs:Nat):Int)else(a.natAbs% b.natAbs:Nat))):=by
 have e:((b.natAbs:Nat):Int)=b:=by omega
 have f:=Nat.mod_add_div a.natAbs b.natAbs;have g:=hn a.natAbs (show 0<b.natAbs by omega);have i:((a.natAbs% b.natAbs:Nat):Int)+b*(a.natAbs/b.natAbs:Nat)=(a.natAbs:Nat):=by
  rw[<-e,<-Int.natCast_mul,<-Int.natCast_add,e,f]
 generalize a.natAbs% b.natAbs=r at*;generalize a.natAbs/b.natAbs=q at*
 by_cases h:a<0
 ·simp only[if_pos h]
  by_cases j:r=0
  ·right;have d:=(dg (a:=a) (r:=0) (q:=-(q:Int)) c).2 ⟨by rw[ej];omega,by omega,by omega⟩;omega
  ·left;have d:=(dg (a:=a) (r:=-(r:Int)+b) (q:=-(q:Int)-1) c).2 ⟨by rw[ei,ej];omega,by omega,by omega⟩;omega
 ·simp only[if_neg h];right;have d:=(dg (a:=a) (r:=(r:Int)) (q:=(q:Int)) c).2 ⟨by omega,by omega,by omega⟩;omega
theorem L3(a b:NI)(i:0<b.v)(J:okW a.v)(w:okW b.v):au prog 328 [eI a,eI b] (.aC [eI (a.div b),eI (a.mod b)]):=by
 have S:=oF (eI a) a.v (mN a);have hq:=oF (eI b) b.v (mN b);have ac:=oB J;have ad:=oB w;have L:=Dn a.v.natAbs b.v.natAbs (by omega) (by omega) (by omega);refine aG nf Il mix (by simp[f328]) ?_;simp[f328,-aW];rw[aW];simp[-aW];refine join (fun s=>aN s.env 2=.ptr 0 []/\aN s.env 3=.ptr 1 []/\aN s.env 4=.ptr 2 []/\aN s.env 5=.ptr 3 []/\s.heap=[.box false (.p (eI a)),.box false (.p (eI b)),.box false (.p (.st 124 [.int .i64 0,.aH])),.box false (.p (.st 124 [.int .i64 0,.aH]))]) ?_ ?_
 ·rcases hs:a.sm with _|_
  ·obtain⟨c,cs,w1⟩:=oO hs;simp[aa,w1,dI,cV]
  ·have w1:=mK hs;rcases m:b.sm with _|_
   ·obtain⟨c,cs,l⟩:=oO m;simp[aa,w1,l,dI,cV]
   ·have l:=mK m;have q:=nI hs;have r:=nI m;have ai:=NI.qh hs;have aj:=NI.qh m
    by_cases o:a.v= -9223372036854775808
    ·simp[aa,w1,l,q,r,o,dI,cV]
    ·have n:¬b.v=0:=by omega
     have B:-9223372036854775808<a.v/b.v:=by
      have:=Int.le_ediv_of_mul_le (a:=-9223372036854775807) (b:=a.v) i (by omega);omega
     have C:a.v/b.v<9223372036854775808:=dx i (by omega);have D:=dp a.v i;have E:=dq a.v n;have G:eI (a.div b)=fA (a.v/b.v):=by rw[jI,if_pos (NI.AG B C)];rfl
     have f2:eI (a.mod b)=fA (a.v% b.v):=oV (by omega) (by omega);rw[G,f2];have ag:=ea a.v i;have af:=dy a.v i;rcases Zo (a:=a.v) i with⟨d1,d2,d3⟩|⟨d1,d2,d3,d4⟩
     ·have q1:bb.wrap (a.v.tdiv b.v)=a.v/b.v:=by rw[d1];exact aO _ (by omega) (by omega)
      simp[aa,w1,l,q,r,o,n,dI,cV,fA,d3,q1];exact d2.symm
     ·have q1:bb.wrap (bb.wrap (a.v.tdiv b.v)-1)=a.v/b.v:=by rw[aO (a.v.tdiv b.v) (by omega) (by omega),d1];exact aO _ (by omega) (by omega)
      have W:bb.wrap (a.v.tmod b.v+b.v)=a.v% b.v:=by rw[d2];exact aO _ (by omega) (by omega)
      simp[aa,w1,l,q,r,o,n,dI,cV,fA,d3,q1,W]
 ·rintro⟨X,ae⟩ ⟨d,e,f,g,x⟩;dsimp only at d e f g x;subst x;have N:(az wB (a.v.natAbs/b.v.natAbs)).length<=900000:=by
   have:=dT bp _ _ (gc (Nat.div_le_self a.v.natAbs b.v.natAbs) (cj bp a.v.natAbs));omega
  have O:(az wB (a.v.natAbs% b.v.natAbs)).length<=900000:=by
   have:=dT bp _ _ (gc (Nat.mod_le a.v.natAbs b.v.natAbs) (cj bp a.v.natAbs));omega
  have z:=xo (decide (a.v<0)) (a.v.natAbs/b.v.natAbs) (by omega);have A:=xo (decide (a.v<0)) (a.v.natAbs% b.v.natAbs) (by omega);have M:=azW (a:=a.v) i;simp only[decide_eq_true_eq]at z A;have ah:=hn a.v.natAbs (show 0<b.v.natAbs by omega);generalize a.v.natAbs/b.v.natAbs=k at*;generalize a.v.natAbs% b.v.natAbs=j at*;have ab:-b.v<(if a.v<0 then -(j:Int)else(j:Int)):=by split<;>omega
  have I:a.v<0->(if a.v<0 then -(j:Int)else(j:Int))<=0:=fun h=>by rw[if_pos h];omega
  have U:okW (if a.v<0 then -(k:Int)else(k:Int)):=by rw[okW];split<;>simpa using N
  have V:okW (if a.v<0 then -(j:Int)else(j:Int)):=by rw[okW];split<;>simpa using O
  have T:(if a.v<0 then -(k:Int)else(k:Int))= -9223372036854775808->a.v<0:=by split<;>omega
  generalize (if a.v<0 then -(k:Int)else(k:Int))=Q at*;generalize (if a.v<0 then -(j:Int)else(j:Int))=R at*;have u:=uG (.mk' R);simp only[NI.jg]at u;have D:=dp a.v i;have E:=dq a.v (show b.v≠0 by omega);simp[d,e,f,g];refine c1 S ?_;simp[d,e,f,g];refine c1 hq ?_;simp[d,e,f,g];refine c2 L ?_;simp;refine c2 z ?_;simp;refine c2 A ?_;simp[d,e,f,g,aa];refine c1 u ?_;rcases M with⟨d1,d2,d3⟩|⟨d1,d2,d3⟩
  ·have y:=ET (.mk' Q) (.of 1) U (by rw[okW];decide);have K:=xJ (.mk' R) b V w;rw[uQ (by decide) (by decide)]at y;have g1:eI (a.div b)=eI ((NI.mk' Q).sub (.of 1)):=by
    refine nM (by rw[NI.Sm];exact d2) (fun h=>?_);have F:Q= -9223372036854775807:=by have:a.v/b.v= -9223372036854775808:=h;omega
    have P:¬a.v% b.v=0:=by omega
    subst F;show decide (a.v% b.v≠0)=_;simp[P];rfl
   have g2:eI (a.mod b)=eI ((NI.mk' R).add b):=nM (by rw[NI.sT];exact d3) (fun h=>by have:a.v% b.v= -9223372036854775808:=h;omega);rw[g1,g2];simp[d,e,f,g,aa,d1];refine e1 (s9 1) ?_;simp[d,e,f,g,aa];refine e2 y ?_;simp[d,e,f,g,aa];refine e2 K ?_;simp[d,e,f,g,aa];exact⟨rfl,rfl⟩
  ·have g1:eI (a.div b)=eI (.mk' Q):=by
    refine nM d2 (fun h=>?_);have Y:a.v/b.v= -9223372036854775808:=h;have Z:=I (T (by omega));have H:a.v% b.v=0:=by omega
    show decide (a.v% b.v≠0)=false;simp[H]
   have g2:eI (a.mod b)=eI (.mk' R):=nM d3 (fun h=>by have:a.v% b.v= -9223372036854775808:=h;omega);rw[g1,g2]
   by_cases t:R=0
   ·simp[d,e,f,g,aa,t]
   ·simp[d,e,f,g,aa,d1,t]
theorem rO{a b:Int}(h:okW b)(c:a.natAbs<=b.natAbs):okW a:=by
 have:=dT bp _ _ (gc c (cj bp b.natAbs));have:=oB h;rw[okW];omega
theorem Qu(a b:NI)(e:0<b.v)(d:okW a.v)(f:okW b.v):au prog 294 [eI a,eI b] (eI (a.div b)):=by
 have c:=uG b;rw[if_neg (by omega),if_neg (by omega)]at c;refine aG nf O2 mix (by simp[f294]) ?_;simp[f294];refine c1 c ?_;simp;refine c2 (L3 a b e d f) ?_;simp[aa]
 done
theorem NI.zY(a:NI):a.abs.v.natAbs=a.v.natAbs:=by
 rw[NI.abs];split
 ·rw[NI.jg,ec]
 ·rfl
theorem NI.Qj(a:NI):0<=a.abs.v:=by
 rw[NI.abs];split
 ·rw[NI.jg];omega
 ·omega
def fc(a b:Int):Int:=(g8 a.natAbs b.natAbs:Nat)
theorem Qr(a b:NI)(j:okW a.v)(k:okW b.v):au prog 293 [eI a,eI b] (eI (.mk' (fc a.v b.v))):=by
 refine aG nf O3 mix (by simp[f293]) ?_;simp[f293];refine e1 (Qp a j) ?_;simp;refine e1 (Qp b k) ?_;simp[aa];refine⟨⟨rfl,rfl⟩,?_⟩;have n:fc a.abs.v b.abs.v=fc a.v b.v:=by rw[fc,fc,NI.zY,NI.zY]
 refine lp (α:=NI×NI) (fun x=>⟨[(4,.ptr 2 []),(3,.ptr 1 []),(2,.ptr 0 [])],[.box false (.p (eI x.1)),.box false (.p (eI x.2)),.box false (.p (.st 124 [.int .i64 0,.aH]))]⟩)
  (fun x=>0<=x.1.v/\0<=x.2.v/\okW x.1.v/\okW x.2.v/\fc x.1.v x.2.v=fc a.v b.v) (fun x=>x.2.v.toNat) (a.abs,b.abs) ⟨NI.Qj a,NI.Qj b,rO j (g9 (NI.zY a)),rO k (g9 (NI.zY b)),n⟩ ?_
 rintro⟨x,y⟩ ⟨l,g,i,c,f⟩;dsimp only at l g i c f;have d:=uG y
 by_cases e:y.v=0
 ·rw[if_neg (by omega),if_pos e]at d;have hx:eI (.mk' (fc a.v b.v))=eI x:=by
   refine nM ?_ (fun h=>?_)
   ·rw[NI.jg,<-f,e,fc];simp;omega
   ·rw[NI.jg,fc]at h;omega
  rw[hx];simp;refine c1 d ?_;simp[aa]
 ·rw[if_neg (by omega),if_neg e]at d;have q:=dp x.v (show 0<y.v by omega);have o:=dq x.v e;have m:(x.v% y.v).natAbs=x.v.natAbs% y.v.natAbs:=by
   have e1:(x.v.natAbs:Int)=x.v:=by omega
   have e2:(y.v.natAbs:Int)=y.v:=by omega
   have e3:((x.v.natAbs% y.v.natAbs:Nat):Int)=x.v% y.v:=by rw[Int.natCast_emod,e1,e2]
   omega
  simp;refine c1 d ?_;simp[aa];refine c2 (L3 x y (by omega) i c) ?_;simp[aa];refine⟨rfl,?_⟩;refine rd (y,x.mod y) ⟨g,o,c,rO c (by show(x.v% y.v).natAbs<=_;omega),?_⟩ (by show(x.v% y.v).toNat<y.v.toNat;omega);show fc y.v (x.v% y.v)=_;rw[<-f,fc,fc,m,hv y.v.natAbs,<-Nat.gcd_rec,hv]
theorem aKH{o x k A:Nat}(hx:1<=x)(d:1<=o)(h:o*x^k=A)(hk:1<=k):o*x<=A/\(2<=k->x*x<=A):=by
 have a:x<=x^k:=by
  calc x=x^1:=(g6 x).symm
   _<=x^k:=fv hx hk
 refine⟨by rw[<-h];exact hm _ a,fun b=>?_⟩;have c:x*x<=x^k:=by
  calc x*x=x^2:=by rw[hy]
   _<=x^k:=fv hx b
 rw[<-h];exact gy c (ha _ d)
theorem Z0(a:NI)(n A:Nat)(E:1<=a.v)(q:A=a.v.natAbs^n)(J:(az wB A).length<=400000)(F:(az wB a.v.natAbs).length<=400000)(K:n<=1000000):au prog 304 [eI a,.int .i64 n] (eI (.mk' A)):=by
 refine aG nf Iu mix (by simp[f304]) ?_;simp[f304];refine c1 (s9 1) ?_;rw[show fA 1=eI (.of 1)from(uQ (by decide) (by decide)).symm];simp[aa];refine lp (α:=Nat×NI×NI) (fun s=>⟨[(1,.p (.int .i64 s.1)),(5,.ptr 2 []),(4,.ptr 1 []),(2,.ptr 0 [])],[.box false (.p (eI s.2.1)),.box false (.p (.st 124 [.int .i64 0,.aH])),.box false (.p (eI s.2.2))]⟩)
  (fun s=>s.1<=n/\1<=s.2.1.v/\1<=s.2.2.v/\(0<s.1->s.2.2.v.natAbs*s.2.1.v.natAbs^s.1=A)/\(s.1=0->s.2.2.v.natAbs=A)/\(az wB s.2.1.v.natAbs).length<=400000) (fun s=>s.1) (n,a,.of 1) ⟨gb _,E,(by decide:(1:Int)<=1),fun _=>by rw[q];show(1:Int).natAbs*_=_;simp,fun h=>by have h:n=0:=h;rw[q,h,g5];rfl,F⟩ ?_
 rintro⟨k,x,o⟩ ⟨C,c,i,b,l,m⟩;dsimp only at C c i b l m
 by_cases k0:k=0
 ·subst k0;have e:eI (.mk' A)=eI o:=by
   refine nM ?_ (fun h=>?_)
   ·rw[NI.jg,<-l rfl];omega
   ·rw[NI.jg]at h;omega
  rw[e];simp[aa]
 have b:=b (by omega);have r:=aKH (o:=o.v.natAbs) (x:=x.v.natAbs) (by omega) (by omega) b (by omega);have d:bb.wrap (k% 2^bb.bits&&&1% 2^bb.bits:Nat)=(k% 2:Nat):=by
  rw[show(2^bb.bits:Nat)=18446744073709551616 from rfl,gm (show k<18446744073709551616 by omega),show 1% 18446744073709551616=2^1-1 from rfl,Nat.and_two_pow_sub_one_eq_mod];exact aO _ (by omega) (by omega)
 have hs:(k:Int).fdiv (2^min 1 bb.bits)=(k/2:Nat):=by
  rw[show((2:Int)^min 1 bb.bits)=2 from rfl,Int.fdiv_eq_ediv_of_nonneg _ (by decide)];omega
 have j:0<k:=by omega
 have L:(az wB o.v.natAbs).length<=400000:=by
  have D:o.v.natAbs<=A:=gy (Nat.le_mul_of_pos_right _ (show 0<x.v.natAbs by omega)) r.1;have:=dT bp _ _ (gc D (cj bp A));omega
 have z:2<=k->(az wB (x.v*x.v).natAbs).length<=400000:=fun h=>by
  have:=dT bp _ _ (gc (r.2 h) (cj bp A));rw[dl];omega
 have y:(1:Int)<=o.v*x.v:=by
  have:=ed i c (by decide) (by omega);omega
 have B:(1:Int)<=x.v*x.v:=by
  have:=ed c c (by decide) (by omega);omega
 have u:=AR o x (by omega);have w:=AR x x (by omega);have g:x.v.natAbs^k=(x.v*x.v).natAbs^(k/2)*x.v.natAbs^(k% 2):=by
  rw[dl,<-hy,<-g7,<-gj,Nat.div_add_mod]
 by_cases H:k% 2=1
 ·rw[H,g6]at g;have t:((k% 2:Nat):Int)=1:=by omega
  rw[t]at d
  by_cases k1:1<k
  ·have f:(1:Int)<k:=by omega
   simp[j,d];refine c2 u ?_;simp[aa,f];refine c2 w ?_;simp[aa,hs];refine rd (k/2,x.mul x,o.mul x) ⟨by omega,B,y,fun _=>?_,fun h=>by dsimp only at h;omega,z k1⟩ (by dsimp only;omega);rw[g]at b;show(o.v*x.v).natAbs*(x.v*x.v).natAbs^(k/2)=A;rw[<-b,dl o.v,gt ((x.v*x.v).natAbs^(k/2)),hr]
  ·have f:¬(1:Int)<k:=by omega
   have G:k=1:=by omega
   simp[j,d];refine c2 u ?_;simp[aa,f,hs];refine rd (k/2,x,o.mul x) ⟨by omega,c,y,fun h=>by dsimp only at h;omega,fun _=>?_,m⟩ (by dsimp only;omega);subst G;rw[g6]at b;show(o.v*x.v).natAbs=A;rw[<-b,dl]
 ·have I:k% 2=0:=by omega
  rw[I,g5,Nat.mul_one]at g;have t:¬((k% 2:Nat):Int)=1:=by omega
  rw[show((k% 2:Nat):Int)=0 by omega]at d;have f:(1:Int)<k:=by omega
  simp[j,d,f];refine c2 w ?_;simp[aa,hs];refine rd (k/2,x.mul x,o) ⟨by omega,B,i,fun _=>?_,fun h=>by dsimp only at h;omega,z (by omega)⟩ (by dsimp only;omega);show o.v.natAbs*(x.v*x.v).natAbs^(k/2)=A;rw[<-g,b]
theorem aja(x:Nat)(hx:x<18446744073709551616):au prog 321 [.int .u64 x] (.int .i64 (bl x:Nat)):=by
 refine mu (kV func321 (by kernel_rfl)) fun w ad d _ _ c=>?_;obtain⟨a,rfl,b⟩:=zJ c;simp only[aD]at b;subst b;refine(bits_Len64 x w (by omega) (by omega)).mono ?_;rintro e w' ⟨rfl,rfl⟩;refine⟨_,rfl,⟨gb _,fun _ _=>rfl,rfl,rfl⟩,fun w ad=>?_⟩;simp only[aD];rfl
def oX(n:Nat):Nat:=if n=0 then 0 else 64*((az wB n).length-1)+bl (ae wB n ((az wB n).length-1))
theorem tR{n:Nat}:az wB n=[]↔n=0:=by
 constructor
 ·intro h;have:=cj bp n;rw[h,List.length_nil,g5]at this;omega
 ·rintro rfl;exact l6
theorem L8(n:Nat):n<2^oX n:=by
 by_cases b:n=0
 ·subst b;exact ge (by decide)
 ·rw[oX,if_neg b];have e:=cj bp n;have j:0<(az wB n).length:=by
   rcases gi (az wB n).length with h|h
   ·exact(b (tR.1 (eq.1 h))).elim
   ·exact h
  obtain⟨m,i⟩:∃m,(az wB n).length=m+1:=⟨(az wB n).length-1,by omega⟩
  rw[i]at e⊢;rw[g0];have d:n/wB^m<wB:=by
   rw[hg (ge (by decide)),gt,<-gg];exact e
  have f:ae wB n m=n/wB^m:=by rw[ae,gm d]
  have g:0<n/wB^m:=by
   rcases gi (n/wB^m)with h|h
   ·have c:n<wB^m:=by
     rcases gx n (wB^m)with a|a
     ·exact a
     ·have:=hl a (ge (show 0<wB by decide));omega
    have:=dT bp m n c;omega
   ·exact h
  have c:=zh (n/wB^m) (n/wB^m) (gb _) g d;rw[f,gj,g7];show n<wB^m*_;have a:n<(n/wB^m+1)*wB^m:=by
   rw[<-hg (ge (by decide))];omega
  rw[gt]at a;exact fw a (hm _ c.2.2)
theorem ZT(a:NI)(l:okW a.v):au prog 283 [eI a] (.int .i64 (oX a.v.natAbs:Nat)):=by
 have b:=oF (eI a) a.v (mN a);refine aG nf IC mix (by simp[f283]) ?_;have o:=oB l;have q:∀i(h:i<(az wB a.v.natAbs).length),(az wB a.v.natAbs)[i]=ae wB a.v.natAbs i:=fun i h=>eO bp h;have f:=cr (B:=wB) bp a.v.natAbs ((az wB a.v.natAbs).length-1);have j:=aja _ f;have z:=L8 a.v.natAbs;have s:=tR (n:=a.v.natAbs)
 by_cases e:a.v.natAbs=0
 ·rw[e]at b⊢;simp only[eN,l6]at b;simp[f283];refine c1 b ?_;simp[oX]
 ·have k:=mt s.1 e;rw[oX,if_neg e];have p:bl (ae wB a.v.natAbs ((az wB a.v.natAbs).length-1))<=64:=by
   rcases gi (ae wB a.v.natAbs ((az wB a.v.natAbs).length-1))with h|h
   ·rw[h];decide
   ·exact Qo h f
  simp only[eN]at b;generalize az wB a.v.natAbs=x at*;obtain⟨m,d⟩:∃m,x.length=m+1:=⟨x.length-1,by cases x with|nil=>exact(k rfl).elim|cons c cs=>simp⟩
  rw[d,g0]at j p f;rw[d,g0];rw[d]at o;have hx:=q m (by omega);have t:x[m]?=some (ae wB a.v.natAbs m):=by rw[List.getElem?_eq_getElem (by omega),hx]
  have w1:bb.wrap (m:Int)=m:=aO _ (by omega) (by omega);have u:bb.wrap (64*(m:Int))=64*m:=aO _ (by omega) (by omega);have w:bb.wrap (64*(m:Int)+(bl (ae wB a.v.natAbs m):Nat))=(64*m+bl (ae wB a.v.natAbs m):Nat):=by rw[aO _ (by omega) (by omega)];push_cast;rfl
  generalize bl (ae wB a.v.natAbs m)=g at*;have y:bb.wrap (64*(m:Int)+g)=64*m+g:=by rw[w];push_cast;rfl
  simp[f283];refine c1 b ?_;have r:¬((m:Int)+1=0):=by omega
  simp[k,d,w1,u,t,hx,r];refine c1 j ?_;simp[y]
noncomputable def eF(a:NF):PV:=.st 126 [eI a.num,eI a.den]
@[simp] theorem aPm(a:NF):aI (eF a)=.agg 126:=rfl
@[simp] theorem aNN(a:NF):bW (eF a)=[eI a.num,eI a.den]:=rfl
@[simp] theorem aPN(n:Int):aI (fA n)=.agg 124:=rfl
@[simp] theorem aMW:prog.cellsOf 124=2:=by kernel_rfl
@[simp] theorem aMX:prog.cellsOf 126=4:=by kernel_rfl
theorem M8:fA 1=eI (.mk' 1):=(oV (by decide) (by decide)).symm
def kB:Nat:=100000
theorem qL:kB<=3*kB:=ha _ (by decide)
theorem zA{n k:Nat}(h:n<2^k):(az wB n).length<=k/64+1:=by
 refine dT bp _ _ (fw h ?_);rw[show wB=2^64 from rfl,<-g7];exact fv (by decide) (by omega)
theorem iM{z:Int}{k:Nat}(h:z.natAbs<2^k)(hk:k<=3*kB):okW z:=by
 have:=zA h;have a:kB=100000:=rfl;rw[okW];omega
def NF.make(n d:NI):NF:=⟨hz n.v d.v,n.m&&decide (d.v=1)⟩
theorem CZ(a:NF):au prog 239 [eF a] (.bool a.fR):=by
 refine aG nf OQ mix (by simp[f239]) ?_;have e:a.den.v=a.q.den:=rfl;have g:=a.q.den_pos;rcases hs:a.den.sm with _|_
 ·obtain⟨c,cs,w1⟩:=oO hs;have f:=NI.Am (a:=a.den) (by rw[hs];decide);have b:a.fR=false:=by rw[NF.fR,decide_eq_false_iff_not];omega
  simp[f239,aa,w1,dI,cV,b]
 ·have w1:=mK hs;have d:=nI hs;rw[e]at d;have b:a.fR=decide ((a.q.den:Int)=1):=by rw[NF.fR,decide_eq_decide];omega
  simp[f239,aa,w1,d,dI,cV,b];rfl
theorem D5(a:NI):au prog 225 [eI a] (eF (.whole a)):=by
 refine aG nf HQ mix (by simp[f225]) ?_;simp[f225];refine e1 (s9 1) ?_;have b:(NF.whole a).num=a:=by cases a;rfl
 have c:(NF.whole a).den=.mk' 1:=rfl;simp[aa,eF,b,c,M8]
theorem ma(n:Int)(h:-9223372036854775808<=n)(b:n<=9223372036854775807):au prog 132 [.int .i64 n] (eF (.int n)):=by
 have a:=D5 (.of n);rw[uQ h b]at a;refine aG nf IJ mix (by simp[f132]) ?_;simp[f132];refine c1 (s9 n) ?_;simp;refine c1 a ?_;simp[aa];exact Wk.refl _
theorem El(q:Rat):(if q<0 then(-1:Int)else if q=0 then 0 else 1)=if q.num<0 then -1 else if q.num=0 then 0 else 1:=by
 have a:q<0↔q.num<0:=by rw[<-Rat.not_le,<-Rat.num_nonneg];omega
 have b:q=0↔q.num=0:=hA.symm;simp only[a,b]
theorem l8(a:NF):au prog 194 [eF a] (.int .i64 (if a.q<0 then -1 else if a.q=0 then 0 else 1)):=by
 have b:=uG a.num;refine aG nf GZ mix (by simp[f194]) ?_;simp[f194,aa];refine c1 b ?_;simp;exact El a.q
theorem sZ(a:NF)(h:br kB a.q):au prog 145 [eF a] (eF a.neg):=by
 have d:=uN a.num (iM h.1 qL);refine aG nf PF mix (by simp[f145]) ?_;simp[f145,aa];refine e1 d ?_;have b:a.neg.num=a.num.neg:=by show(⟨(-a.q).num,false⟩:NI)=⟨-a.q.num,false⟩;rw[Rat.neg_num]
 have c:a.neg.den=a.den:=by show(⟨((-a.q).den:Int),false⟩:NI)=⟨a.q.den,false⟩;rw[Rat.neg_den]
 simp[aa,eF,b,c]
theorem Wc{n d:NI}(j:0<d.v):(NI.mk' (fc n.v d.v)).v≠0/\0<fc n.v d.v/\(¬d.v=1->eI (n.div (.mk' (fc n.v d.v)))=eI (NF.make n d).num)/\eI (d.div (.mk' (fc n.v d.v)))=eI (NF.make n d).den:=by
 obtain⟨dn,e⟩:∃dn:Nat,d.v=dn:=⟨d.v.toNat,by omega⟩
 have f:dn≠0:=by omega
 obtain⟨e1,e2⟩:=mv (n:=n.v) f;have c:fc n.v d.v=(g8 n.v.natAbs dn:Nat):=by rw[fc,e];rfl
 have k:0<g8 n.v.natAbs dn:=Nat.gcd_pos_of_pos_right _ (by omega);have i:(g8 n.v.natAbs dn:Int)∣n.v:=Int.ofNat_dvd_left.2 (Nat.gcd_dvd_left _ _);refine⟨by rw[NI.jg,c];omega,by rw[c];omega,fun g=>?_,?_⟩
 ·refine nM ?_ (fun _=>?_)
  ·show n.v/fc n.v d.v=(hz n.v d.v).num;rw[c,e,e1]
  ·show decide (n.v% fc n.v d.v≠0)=(n.m&&decide (d.v=1))
   rw[c,Int.emod_eq_zero_of_dvd i];simp[g]
 ·refine nM ?_ (fun h=>?_)
  ·show d.v/fc n.v d.v=((hz n.v d.v).den:Int)
   rw[c,e,e2];exact(Int.natCast_ediv _ _).symm
  ·have:d.v/fc n.v d.v= -9223372036854775808:=h;have:=Int.ediv_nonneg (a:=d.v) (b:=fc n.v d.v) (by omega) (by rw[c];omega);omega
theorem YG{n d:NI}(a:d.v<0):NF.make n.neg d.neg=NF.make n d:=by
 rw[NF.make,NF.make];have e1:hz n.neg.v d.neg.v=hz n.v d.v:=Rat.neg_divInt_neg _ _;have e2:(n.neg.m&&decide (d.neg.v=1))=(n.m&&decide (d.v=1)):=by
  rw[show n.neg.m=false from rfl,a1,decide_eq_false (by omega),a6]
 rw[e1,e2]
theorem JO(n:Int):(hz n 1).num=n/\(hz n 1).den=1:=by
 obtain⟨e1,e2⟩:=mv (n:=n) (show 1≠0 by decide);rw[ho]at e1 e2;refine⟨?_,?_⟩
 ·exact e1.trans (ee n)
 ·exact e2
theorem EF(n d:NI)(w:d.v≠0)(o:okW n.v)(l:okW d.v):au prog 237 [eI n,eI d] (eF (.make n d)):=by
 have i:=uG d;refine aG nf PW mix (by simp[f237]) ?_;simp[f237,-aW];rw[aW];simp[-aW];refine join (fun s=>∃a d':NI,0<d'.v/\okW a.v/\okW d'.v/\NF.make a d'=NF.make n d/\aN s.env 2=.ptr 0 []/\aN s.env 3=.ptr 1 []/\aN s.env 4=.ptr 2 []/\s.heap=[.box false (.p (eI a)),.box false (.p (eI d')),.box false (.p (.st 126 [.st 124 [.int .i64 0,.aH],.st 124 [.int .i64 0,.aH]]))]) ?_ ?_
 ·by_cases k:d.v<0
  ·rw[if_pos k]at i;simp;refine c1 i ?_;simp;refine e1 (uN n o) ?_;simp;refine e1 (uN d l) ?_;simp[aa];exact⟨⟨rfl,rfl⟩,n.neg,d.neg,by rw[NI.Fk];omega,rO o (by rw[NI.Fk];omega),rO l (by rw[NI.Fk];omega),YG k,rfl,rfl⟩
  ·rw[if_neg k,if_neg w]at i;simp;refine c1 i ?_;simp;exact⟨n,d,by omega,o,l,rfl,rfl,rfl⟩
 ·rintro⟨B,C⟩ ⟨a,d',y1,y2,y3,y4,b,e,f,r⟩;dsimp only at b e f r;subst r;rw[<-y4];clear y4 i;have q:=Qr a d' y2 y3;obtain⟨g1,g2,g3,g4⟩:=Wc (n:=a) y1;have og:okW (fc a.v d'.v):=by
   refine rO y3 ?_;rw[fc];exact gy (g9 (dz _)) (Nat.gcd_le_right _ (by omega))
  have t:=Qu a (.mk' (fc a.v d'.v)) g2 y2 og;have u:=Qu d' (.mk' (fc a.v d'.v)) g2 y3 og
  by_cases hs:d'.v=1
  ·have g:d'.sm=true:=NI.AG (by omega) (by omega);have w1:=mK g;have j:=nI g;rw[hs]at j;have y:eF (.make a d')=.st 126 [eI a,eI d']:=by
    rw[eF];have z:(NF.make a d').num=a:=by
     show(⟨(hz a.v d'.v).num,a.m&&decide (d'.v=1)⟩:NI)=a;rw[hs,(JO _).1];simp
    have A:eI (NF.make a d').den=eI d':=by
     refine nM ?_ (fun h=>?_)
     ·show((hz a.v d'.v).den:Int)=d'.v;rw[hs,(JO _).2];rfl
     ·have:((hz a.v d'.v).den:Int)= -9223372036854775808:=h;omega
    rw[z,A]
   rw[y];simp[b,e,f,aa,w1,j,dI,cV]
   done
  ·rw[eF,<-g3 hs,<-g4];have x:(wI d'=.aH/\¬sI d'=1)\/∃c cs,wI d'=.seq (c::cs):=by
    rcases g:d'.sm with _|_
    ·exact .inr (oO g)
    ·exact .inl ⟨mK g,by rw[nI g];exact hs⟩
   rcases x with⟨w1,j⟩|⟨c,cs,w1⟩
   ·simp[b,e,f,aa,w1,j,dI,cV];refine c2 q ?_;simp[b,e,f,aa];refine e2 t ?_;simp[b,e,f,aa];refine e2 u ?_;simp[b,e,f,aa]
    done
   ·simp[b,e,f,aa,w1,dI,cV];refine c2 q ?_;simp[b,e,f,aa];refine e2 t ?_;simp[b,e,f,aa];refine e2 u ?_;simp[b,e,f,aa]
    done
theorem lY(a:NF):a.num.v=a.q.num:=rfl
theorem jX(a:NF):a.den.v=a.q.den:=rfl
theorem kT(a:NF):a.den.v.natAbs=a.q.den:=by rw[jX,dz]
theorem sP{x y:NI}{k l:Nat}(hx:x.v.natAbs<2^k)(a:y.v.natAbs<2^l)(h:k+l<=4*kB):au prog 212 [eI x,eI y] (eI (x.mul y)):=by
 have b:=zA hx;have c:=zA a;have d:kB=100000:=rfl;exact AR x y (by omega)
theorem pM{x y:Int}{k l:Nat}(hx:x.natAbs<2^k)(a:y.natAbs<2^l):(x*y).natAbs<2^(k+l):=by
 rw[dl,gj];exact Nat.mul_lt_mul'' hx a
theorem DN{n d:NI}{q:Rat}(m:Bool)(hq:hz n.v d.v=q)(a:(n.m&&decide (d.v=1))=m):NF.make n d=⟨q,m⟩:=by rw[NF.make,hq,a]
theorem YE(a b:NF):NF.make (a.num.mul b.num) (a.den.mul b.den)=a.mul b:=by
 refine DN _ ?_ rfl;rw[NI.mJ,NI.mJ,lY,lY,jX,jX,Rat.mul_def,Rat.normalize_eq_mkRat];rfl
theorem ft(a b:NF)(c:br kB a.q)(d:br kB b.q):au prog 149 [eF a,eF b] (eF (a.mul b)):=by
 have f:=sP (x:=a.num) (y:=b.num) c.1 d.1 (by omega);have g:=sP (x:=a.den) (y:=b.den) (by rw[kT];exact c.2) (by rw[kT];exact d.2) (by omega);have e:=EF (a.num.mul b.num) (a.den.mul b.den) (by rw[NI.mJ,jX,jX];have:=a.q.den_nz;have:=b.q.den_nz;exact eb (by omega) (by omega)) (iM (pM c.1 d.1) (by omega)) (iM (pM (x:=a.den.v) (y:=b.den.v) (by rw[kT];exact c.2) (by rw[kT];exact d.2)) (by omega));rw[YE]at e;refine aG nf PC mix (by simp[f149]) ?_;simp[f149,aa];refine e2 f ?_;simp[aa];refine e2 g ?_;simp[aa];refine e2 e ?_;simp[aa]
theorem YQ(a:NF)(h:a.q≠0):NF.make a.den a.num=a.inv:=by
 refine DN _ ?_ rfl;rw[lY,jX];show hz a.q.den a.q.num=a.q⁻¹;rw[Rat.inv_def]
theorem Ea(a:NF)(c:br kB a.q)(b:a.q≠0):au prog 144 [eF a] (eF a.inv):=by
 have d:=EF a.den a.num (by rw[lY];exact mt hA.1 b) (iM (by rw[kT];exact c.2) qL) (iM c.1 qL);rw[YQ a b]at d;refine aG nf HE mix (by simp[f144]) ?_;simp[f144,aa];refine c2 d ?_;simp[aa]
theorem xN(a b:NF)(g:br kB a.q)(c:br kB b.q)(f:b.q≠0):au prog 133 [eF a,eF b] (eF (a.div b)):=by
 have h:=Ea b c f;have d:=ft a b.inv g (rP c);have e:a.mul b.inv=a.div b:=by
  rw[NF.mul,NF.div,NF.inv,Rat.div_def]
 rw[e]at d;refine aG nf II mix (by simp[f133]) ?_;simp[f133,aa];refine e1 h ?_;simp[aa];refine e2 d ?_;simp[aa]
theorem Zm(a b:NF)(h:¬(a.fR=true/\b.fR=true)):NF.make ((a.num.mul b.den).add (b.num.mul a.den)) (a.den.mul b.den)=a.add b:=by
 have g:(a.fR&&b.fR)=false:=by simpa using h
 refine DN _ ?_ ?_
 ·rw[NI.sT,NI.mJ,NI.mJ,NI.mJ,lY,lY,jX,jX,Rat.add_def'];rfl
 ·rw[g,a1];have:¬(a.den.mul b.den).v=1:=by
   intro c;rw[NI.mJ,jX,jX]at c;have d:a.q.den*b.q.den=1:=by exact_mod_cast c
   have e:=Nat.eq_one_of_mul_eq_one_right d;have f:=Nat.eq_one_of_mul_eq_one_left d;exact h ⟨by rw[NF.fR];simp[e,f],by rw[NF.fR];simp[e,f]⟩
  rw[decide_eq_false this,a6]
theorem Na{q:Rat}(h:q.den=1):(q.num:Rat)=q:=by
 apply Rat.ext
 ·rw[Rat.num_intCast]
 ·rw[Rat.den_intCast,h]
theorem mR(a b:NF)(i:br kB a.q)(j:br kB b.q):au prog 148 [eF a,eF b] (eF (a.add b)):=by
 have w1:=CZ a;have l:=CZ b;refine aG nf PD mix (by simp[f148]) ?_
 by_cases hw:a.fR=true/\b.fR=true
 ·rw[hw.1]at w1;rw[hw.2]at l;have k:=xJ a.num b.num (iM i.1 qL) (iM j.1 qL);have f:=D5 (a.num.add b.num);have c:a.q.den=1:=by simpa[NF.fR]using hw.1
  have d:b.q.den=1:=by simpa[NF.fR]using hw.2
  have e:NF.whole (a.num.add b.num)=a.add b:=by
   rw[NF.whole,NF.add];have e1:(((a.num.add b.num).v:Int):Rat)=a.q+b.q:=by
    rw[NI.sT,lY,lY,Rat.intCast_add,Na c,Na d]
   have e2:(a.num.add b.num).m=(a.fR&&b.fR&&(a.num.sm&&b.num.sm)):=by rw[hw.1,hw.2];rfl
   rw[e1,e2]
  rw[e]at f;simp[f148,aa];refine c1 w1 ?_;simp[aa];refine c1 l ?_;simp[aa];refine c2 k ?_;simp[aa];refine c1 f ?_;simp[aa]
 ·have g:a.den.v.natAbs<2^kB:=by rw[kT];exact i.2
  have h:b.den.v.natAbs<2^kB:=by rw[kT];exact j.2
  have k:=sP (x:=a.num) (y:=b.den) i.1 h (by omega);have f:=sP (x:=b.num) (y:=a.den) j.1 g (by omega);have r:(a.num.mul b.den).v.natAbs<2^(kB+kB):=pM i.1 h;have s:(b.num.mul a.den).v.natAbs<2^(kB+kB):=pM j.1 g;have o:=xJ _ _ (iM r (by omega)) (iM s (by omega));have p:=sP (x:=a.den) (y:=b.den) g h (by omega);have t:((a.num.mul b.den).add (b.num.mul a.den)).v.natAbs<2^(kB+kB+1):=by
   rw[NI.sT,gg];exact gc (Int.natAbs_add_le _ _) (by omega)
  have u:kB=100000:=rfl;have n:=EF ((a.num.mul b.den).add (b.num.mul a.den)) (a.den.mul b.den) (by rw[NI.mJ,jX,jX];have:=a.q.den_nz;have:=b.q.den_nz;exact eb (by omega) (by omega)) (iM t (by omega)) (iM (pM (x:=a.den.v) (y:=b.den.v) g h) (by omega));rw[Zm a b hw]at n;have hc:a.fR=false\/(a.fR=true/\b.fR=false):=by
   rcases c:a.fR with _|_
   ·exact .inl rfl
   ·exact .inr ⟨rfl,by rcases d:b.fR with _|_;rfl;exact(hw ⟨c,d⟩).elim⟩
  rcases hc with c|⟨c,d⟩
  ·rw[c]at w1;simp[f148,aa];refine c1 w1 ?_;simp[aa];refine e2 k ?_;simp[aa];refine e2 f ?_;simp[aa];refine e2 o ?_;simp[aa];refine e2 p ?_;simp[aa];refine e2 n ?_;simp[aa]
  ·rw[c]at w1;rw[d]at l;simp[f148,aa];refine c1 w1 ?_;simp[aa];refine c1 l ?_;simp[aa];refine e2 k ?_;simp[aa];refine e2 f ?_;simp[aa];refine e2 o ?_;simp[aa];refine e2 p ?_;simp[aa];refine e2 n ?_;simp[aa]
theorem mP(a b:NF)(d:br kB a.q)(c:br kB b.q):au prog 168 [eF a,eF b] (eF (a.sub b)):=by
 have e:=sZ b c;have f:=mR a b.neg d (qp c);refine aG nf Qa mix (by simp[f168]) ?_;simp[f168,aa];refine e1 e ?_;simp[aa];refine e2 f ?_;simp[aa];exact Wk.refl _
def dA(x y:Rat):Int:=if x<y then -1 else if x=y then 0 else 1
theorem aKg(a b:Rat):kG (a.num*b.den) (b.num*a.den)=dA a b:=by
 have c:a<b↔a.num*b.den<b.num*a.den:=hC _ _;have f:a=b↔a.num*b.den=b.num*a.den:=by
  constructor
  ·rintro rfl;rfl
  ·intro h
   by_cases d:a<b
   ·rw[c]at d;omega
   ·by_cases e:b<a
    ·have g:=(hC b a).1 e;omega
    ·exact Rat.le_antisymm (hB.1 e) (hB.1 d)
 simp only[kG,dA,c,f]
theorem qB(a b:NF)(c:br kB a.q)(d:br kB b.q):au prog 124 [eF a,eF b] (.int .i64 (dA a.q b.q)):=by
 have e:a.den.v.natAbs<2^kB:=by rw[kT];exact c.2
 have f:b.den.v.natAbs<2^kB:=by rw[kT];exact d.2
 have j:=sP (x:=a.num) (y:=b.den) c.1 f (by omega);have k:=sP (x:=b.num) (y:=a.den) d.1 e (by omega);have h:(a.num.mul b.den).v.natAbs<2^(kB+kB):=pM c.1 f;have i:(b.num.mul a.den).v.natAbs<2^(kB+kB):=pM d.1 e;have g:=Qq _ _ (iM h (by omega)) (iM i (by omega));rw[NI.mJ,NI.mJ,lY,lY,jX,jX,aKg]at g;refine aG nf IV mix (by simp[f124]) ?_;simp[f124,aa];refine e2 j ?_;simp[aa];refine e2 k ?_;simp[aa];refine e2 g ?_;simp[aa]
def low:Nat->Nat->List Nat
 |0,_=>[]
 |i+1,n=>(48+n/10^i% 10)::low i n
def nd(n:Nat):Nat:=if h:n=0 then 0 else nd (n/10)+1
 decreasing_by omega
theorem oY:∀(i n:Nat),i<nd n↔10^i<=n
 |0,n=>by
  rw[nd];split
  ·subst n;simp
  ·simp;omega
 |i+1,n=>by
  rw[nd];split
  ·rename_i h;subst h;have:=ge (n:=i+1) (show 0<10 by omega);constructor
   ·intro h;omega
   ·intro h;omega
  ·have:=oY i (n/10);rw[hd (by omega),<-gg]at this;rw[<-this];omega
theorem rV(b n:Nat):∀a,low (a+b) n=low a (n/10^b)++low b n
 |0=>by simp[low]
 |a+1=>by
  rw[show a+1+b=(a+b)+1 by omega,low,low,rV b n a,Nat.div_div_eq_div_mul,<-gj,Nat.add_comm b a];rfl
theorem DO(n k:Nat):∀b,b<=k->low b (n% 10^k)=low b n
 |0,_=>rfl
 |b+1,h=>by
  have e:k=b+(k-b-1+1):=by omega
  have a:n% 10^k/10^b=n/10^b% 10^(k-b-1+1):=by
   conv=>lhs;rw[e,gj]
   rw[Nat.mod_mul_right_div_self]
  rw[low,low,DO n k b (by omega),a,Nat.mod_mod_of_dvd _ (Nat.pow_dvd_pow 10 (show 1<=k-b-1+1 by omega)|>fun h=>by simpa using h)]
theorem aJW{n m:Nat}(h:∀i,i<nd n↔i<m):nd n=m:=by
 have a:=h m;have b:=h (nd n);omega
theorem En{n k:Nat}(h:10^k<=n):nd n=nd (n/10^k)+k:=by
 refine aJW fun i=>?_;rw[oY]
 by_cases hi:i<k
 ·have:=fv (show 0<10 by omega) (Nat.le_of_lt hi);constructor
  ·intro _;omega
  ·intro _;omega
 ·obtain⟨j,rfl⟩:∃j,i=j+k:=⟨i-k,by omega⟩
  rw[gj,<-hd (ge (by omega)),<-oY];omega
theorem sR{n k:Nat}(h:n<10^k):nd n<=k:=by
 rcases gx k (nd n)with a|a
 ·rw[oY]at a;omega
 ·exact a
theorem Az{n:Nat}(h:0<n):0<nd n:=by rw[oY,g5];exact h
theorem YH{M:Nat}(h:10^9<=M):low (nd M) M=low (nd (M/10^9)) (M/10^9)++low 9 (M% 10^9):=by
 rw[En h,rV,DO _ _ _ (gb 9)]
theorem rU(n:Nat):∀i,(low i n).length=i
 |0=>rfl
 |i+1=>by simp[low,rU n i]
def bd(n:Nat):List Nat:=low (max 1 (nd n)) n
def bN(z:Int):List Nat:=if z<0 then 45::bd z.natAbs else bd z.natAbs
def bc(q:Rat):List Nat:=if q.den=1 then bN q.num else bN q.num++47::bd q.den
def aX(s:List Nat):Nat:=s.foldl (fun n c=>n*10+(c-48)) 0
def cq(c:Nat):Bool:=decide (48<=c)&&decide (c<=57)
theorem zj(s:List Nat)(c:Nat):aX (s++[c])=aX s*10+(c-48):=by simp[aX]
theorem ud(i n:Nat):low (i+1) n=low i (n/10)++[48+n% 10]:=by
 have:=rV 1 n i;rw[this];simp[low]
theorem RM:∀(i n:Nat),(low i n).all cq=true
 |0,n=>rfl
 |i+1,n=>by
  rw[low,en,RM i n];have:=hn (n/10^i) (show 0<10 by omega);simp[cq];omega
theorem LA:∀(i n:Nat),aX (low i n)=n% 10^i
 |0,n=>by simp[low,aX,Nat.mod_one]
 |i+1,n=>by
  rw[ud,zj,LA i,gg,gt (10^i),Nat.mod_mul];omega
theorem Du(n:Nat):n<10^nd n:=by
 rcases gx n (10^nd n)with h|h
 ·exact h
 ·have:=(oY (nd n) n).2 h;omega
theorem zC(n:Nat):aX (bd n)=n:=by
 rw[bd,LA];refine gm (fw (Du n) (fv (by omega) (by omega)))
theorem rR(n:Nat):(bd n).length=max 1 (nd n):=rU _ _
theorem sC(n:Nat):(bd n).all cq=true:=RM _ _
theorem rD:bd 0=[48]:=by
 have:nd 0=0:=by rw[nd,dif_pos rfl]
 rw[bd,this];rfl
def dO(s:List Nat):Bool:=!s.isEmpty&&s.all cq&&(decide (s.head?≠some 48)||decide (s=[48]))
theorem jR:∀(k:Nat)(s:List Nat),s.length=k->s.all cq=true->aX s<10^k
 |0,s,h,_=>by
            have:s=[]:=eq.1 h
            subst this;simp[aX]
 |n+1,s,h,a=>by
  have b:s≠[]:=by intro e;subst e;simp at h
  obtain⟨t,c,rfl⟩:∃t c,s=t++[c]:=⟨s.dropLast,s.getLast b,(eP b).symm⟩
  simp only[fd,en,fm,ay,av]at a;have d:=jR n t (by simpa using h) a.1;have hc:=a.2;simp only[cq,av,decide_eq_true_eq]at hc;rw[zj,gg];omega
theorem MA:∀(k:Nat)(s:List Nat),s.length=k->s.all cq=true->low k (aX s)=s
 |0,s,h,_=>by
            have:s=[]:=eq.1 h
            subst this;rfl
 |n+1,s,h,a=>by
  have b:s≠[]:=by intro e;subst e;simp at h
  obtain⟨t,c,rfl⟩:∃t c,s=t++[c]:=⟨s.dropLast,s.getLast b,(eP b).symm⟩
  simp only[fd,en,fm,ay,av]at a;have d:=MA n t (by simpa using h) a.1;have hc:=a.2;simp only[cq,av,decide_eq_true_eq]at hc;rw[ud,zj];have e1:(aX t*10+(c-48))/10=aX t:=by omega
  have e2:(aX t*10+(c-48))% 10=c-48:=by omega
  rw[e1,e2,d];congr 2;omega
theorem Ur(c:Nat)(s:List Nat)(h:49<=c):10^s.length<=aX (c::s):=by
 have key:∀(s:List Nat)(a:Nat),a*10^s.length<=s.foldl (fun n c=>n*10+(c-48)) a:=by
  intro s
  induction s with
  |nil=>intro a;simp
  |cons x r b=>
   intro a;rw[fb,e8];refine gy ?_ (b _);rw[gg,gt (10^r.length),<-hr];exact hh _ (by omega)
 have:=key s (c-48);rw[aX,fb,Nat.zero_mul,ht];refine gy ?_ this;have:1*10^s.length<=(c-48)*10^s.length:=hh _ (by omega);omega
theorem xf{s:List Nat}(h:dO s=true):bd (aX s)=s:=by
 simp only[dO,av,ax,decide_eq_true_eq,aT]at h;obtain⟨⟨f,a⟩,b⟩:=h;rcases b with b|rfl
 ·cases s with
  |nil=>simp at f
  |cons c r=>
   have hc:cq c=true:=by simpa using(en.symm.trans a|>fun h=>by simpa using h:cq c=true/\r.all cq=true).1
   simp only[cq,av,decide_eq_true_eq]at hc;have i:49<=c:=by
    have:c≠48:=fun e=>b (by rw[e];rfl);omega
   have g:=jR _ _ rfl a;have j:=Ur c r i;have k:nd (aX (c::r))=r.length+1:=by
    have l:=(oY r.length _).2 j;have d:=sR g;rw[e8]at d;omega
   rw[bd,k,show max 1 (r.length+1)=r.length+1 by omega];exact MA _ _ rfl a
 ·have:aX [48]=0:=rfl;rw[this,rD]
def b8(c:Nat):List Nat->List Nat×List Nat×Bool
 |[]=>([],[],false)
 |x::r=>if x=c then([],r,true)else(x::(b8 c r).1,(b8 c r).2.1,(b8 c r).2.2)
theorem Dj(c:Nat):∀(a b:List Nat),c∉a->b8 c (a++c::b)=(a,b,true)
 |[],b,_=>by simp[b8]
 |x::a,b,h=>by
  simp only[fl,not_or]at h;rw[er,b8,if_neg (fun e=>h.1 e.symm),Dj c a b h.2]
theorem CY(c:Nat):∀(a:List Nat),c∉a->b8 c a=(a,[],false)
 |[],_=>rfl
 |x::a,h=>by
  simp only[fl,not_or]at h;rw[b8,if_neg (fun e=>h.1 e.symm),CY c a h.2]
theorem qd(c:Nat):∀(s:List Nat),((b8 c s).2.2=true/\s=(b8 c s).1++c::(b8 c s).2.1)\/((b8 c s).2.2=false/\(b8 c s).1=s/\(b8 c s).2.1=[])
 |[]=>by simp[b8]
 |x::s=>by
  rw[b8]
  by_cases h:x=c
  ·subst h;simp
  ·rw[if_neg h];rcases qd c s with⟨a,b⟩|⟨a,b,d⟩
   ·left;exact⟨a,by dsimp only;rw[er,<-b]⟩
   ·right;exact⟨a,by dsimp only;rw[b],d⟩
def bY(s:List Nat):Bool:=decide (s.head?=some 45)
def df(s:List Nat):List Nat:=if bY s=true then s.tail else s
def bH(s:List Nat):List Nat:=(b8 47 (df s)).1
def bP(s:List Nat):List Nat:=(b8 47 (df s)).2.1
def eL(s:List Nat):Bool:=(b8 47 (df s)).2.2
def nL(s:List Nat):Bool:=dO (bH s)&&!(bY s&&decide (bH s=[48]))&&(!eL s||(dO (bP s)&&decide (bP s≠[48])&&decide (bP s≠[49])))
def b6(s:List Nat):Int:=
 if nL s=false then 1
 else if 600<(bH s).length\/600<(bP s).length then 4
 else if eL s=true/\g8 (aX (bH s)) (aX (bP s))≠1 then 1 else 0
def bg(s:List Nat):Rat:=hz (if bY s=true then -(aX (bH s):Int)else aX (bH s)) (if eL s=true then aX (bP s)else 1:Nat)
theorem BI{s:List Nat}(h:s.all cq=true){c:Nat}(hc:cq c=false):c∉s:=by
 intro a;rw[e9]at h;rw[h c a]at hc;cases hc
theorem ks{s:List Nat}(h:dO s=true):s.all cq=true:=by
 simp only[dO,av]at h;exact h.1.2
theorem vW(n:Nat):bN (n:Int)=bd n:=by
 rw[bN,if_neg (by omega)];rfl
theorem aLE{n:Nat}(h:0<n):bN (-(n:Int))=45::bd n:=by
 rw[bN,if_pos (by omega)];congr 1;rw[ec];rfl
theorem zD{s:List Nat}(h:dO s=true)(a:s≠[48]):0<aX s:=by
 rcases gi (aX s)with e|e
 ·have:=xf h;rw[e,rD]at this;exact(a this.symm).elim
 ·exact e
theorem jm{s:List Nat}(h:b6 s=0):bc (bg s)=s/\(bg s).num=(if bY s=true then -(aX (bH s):Int)else aX (bH s))/\(bg s).den=(if eL s=true then aX (bP s)else 1:Nat):=by
 unfold b6 at h
 split at h
 ·cases h
 rename_i b
 split at h
 ·cases h
 split at h
 ·cases h
 rename_i g;have b:nL s=true:=by simpa using b
 simp only[nL,av,aT,Bool.and_eq_false_iff,decide_eq_false_iff_not,ax,decide_eq_true_eq]at b;obtain⟨⟨d,a2⟩,a3⟩:=b;have hs:s=(if bY s=true then[45]else[])++df s:=by
  rw[df]
  by_cases a:bY s=true
  ·rw[if_pos a,if_pos a];simp only[bY,decide_eq_true_eq]at a;cases s with
   |nil=>simp at a
   |cons c r=>simp at a;subst a;rfl
  ·rw[if_neg a,if_neg a];rfl
 have i:(if eL s=true then aX (bP s)else 1:Nat)≠0:=by
  split
  ·rename_i hf;rcases a3 with a3|a3
   ·rw[hf]at a3;cases a3
   ·have:=zD a3.1.1 a3.1.2;omega
  ·omega
 have j:g8 (if bY s=true then -(aX (bH s):Int)else aX (bH s)).natAbs (if eL s=true then aX (bP s)else 1:Nat)=1:=by
  have e:(if bY s=true then -(aX (bH s):Int)else aX (bH s)).natAbs=aX (bH s):=by split<;>omega
  rw[e]
  by_cases hf:eL s=true
  ·rw[if_pos hf];exact Decidable.not_not.1 fun e=>g ⟨hf,e⟩
  ·rw[if_neg hf,ho]
 obtain⟨e1,e2⟩:=mv (n:=if bY s=true then -(aX (bH s):Int)else aX (bH s)) i;rw[j]at e1 e2;simp only[Nat.div_one]at e2;have e1:(bg s).num=(if bY s=true then -(aX (bH s):Int)else aX (bH s)):=by rw[bg,e1];exact ee _
 have e2:(bg s).den=(if eL s=true then aX (bP s)else 1:Nat):=e2;refine⟨?_,e1,e2⟩;have hI:bN (bg s).num=(if bY s=true then[45]else[])++bH s:=by
  rw[e1]
  by_cases a:bY s=true
  ·rw[if_pos a,if_pos a,aLE,xf d];·rfl
   refine zD d ?_;rcases a2 with a2|a2
   ·rw[a]at a2;cases a2
   ·exact a2
  ·rw[if_neg a,if_neg a,vW,xf d];rfl
 rw[bc,hI,e2]
 by_cases hf:eL s=true
 ·have f:dO (bP s)=true/\bP s≠[48]/\bP s≠[49]:=by
   rcases a3 with a3|a3
   ·rw[hf]at a3;cases a3
   ·exact⟨a3.1.1,a3.1.2,a3.2⟩
  have k:aX (bP s)≠1:=by
   intro e;have:=xf f.1;rw[e]at this;have b:nd 1=1:=by rw[nd,dif_neg (by omega),nd,dif_pos (by omega)]
   have:bd 1=[49]:=by rw[bd,b];rfl
   exact f.2.2 (by rw[<-this];assumption|>Eq.symm)
  rw[if_pos hf,if_neg k,xf f.1]
  conv=>rhs;rw[hs]
  rw[List.append_assoc];congr 1;rcases qd 47 (df s)with⟨g1,g2⟩|⟨g1,_⟩
  ·exact g2.symm
  ·rw[eL,g1]at hf;cases hf
 ·rw[if_neg hf,if_pos rfl]
  conv=>rhs;rw[hs]
  congr 1;rcases qd 47 (df s)with⟨g1,g2⟩|⟨g1,g2,_⟩
  ·exact(hf g1).elim
  ·exact g2
theorem zk(z:Int)(r:List Nat):bY (bN z++r)=decide (z<0)/\df (bN z++r)=bd z.natAbs++r:=by
 by_cases h:z<0
 ·have:bN z=45::bd z.natAbs:=by rw[bN,if_pos h]
  rw[this];simp[bY,df,h]
 ·have e:bN z=bd z.natAbs:=by rw[bN,if_neg h]
  have a:=sC z.natAbs;have b:=rR z.natAbs;rw[e];have d:bY (bd z.natAbs++r)=false:=by
   cases f:bd z.natAbs with
   |nil=>rw[f]at b;simp at b;omega
   |cons c t=>
    rw[f]at a;simp only[en,av]at a;have hc:=a.1;simp only[cq,av,decide_eq_true_eq]at hc;have:¬(some c=some 45):=by intro e;injection e with e;omega
    simp only[bY,er,fa,this,decide_false]
  exact⟨by rw[d];simp[h],by rw[df,d];simp⟩
theorem wE(q:Rat):bY (bc q)=decide (q.num<0)/\bH (bc q)=bd q.num.natAbs/\eL (bc q)=decide (q.den≠1)/\bP (bc q)=if q.den=1 then[]else bd q.den:=by
 have d:47∉bd q.num.natAbs:=BI (sC _) rfl
 by_cases h:q.den=1
 ·have e:bc q=bN q.num++[]:=by rw[bc,if_pos h,em]
  obtain⟨c,b⟩:=zk q.num [];rw[em,em]at b;have a:=CY 47 _ d;rw[<-b]at a;rw[e];refine⟨c,?_,?_,?_⟩
  ·rw[em,bH,a,b]
  ·rw[em,eL,a,h];rfl
  ·rw[em,bP,a,if_pos h]
 ·have e:bc q=bN q.num++47::bd q.den:=by rw[bc,if_neg h]
  obtain⟨c,b⟩:=zk q.num (47::bd q.den);have a:=Dj 47 _ (bd q.den) d;rw[<-b]at a;rw[e];refine⟨c,?_,?_,?_⟩
  ·rw[bH,a]
  ·rw[eL,a];simp[h]
  ·rw[bP,a,if_neg h]
theorem LC(q:Rat):bg (bc q)=q:=by
 obtain⟨a,b,c,d⟩:=wE q;have e1:(if bY (bc q)=true then -(aX (bH (bc q)):Int)else aX (bH (bc q)))=q.num:=by
  rw[a,b,zC]
  by_cases h:q.num<0
  ·simp[h];omega
  ·simp[h];omega
 have e2:(if eL (bc q)=true then aX (bP (bc q))else 1:Nat)=q.den:=by
  rw[c,d]
  by_cases h:q.den=1
  ·simp[h]
  ·simp[h,zC]
 rw[bg,e1,e2,Rat.num_divInt_den]
theorem aLG{a b:Rat}(h:bc a=bc b):a=b:=by rw[<-LC a,h,LC]
theorem aLF:bd 1=[49]:=by
 have a:nd 1=1:=by rw[nd,dif_neg (by omega),nd,dif_pos (by omega)]
 rw[bd,a];rfl
theorem vV{n k:Nat}(h:n<10^k)(hk:1<=k):(bd n).length<=k:=by
 rw[rR];have:=sR h;omega
theorem Ou{n k:Nat}(h:(bd n).length<=k):n<10^k:=by
 rw[rR]at h;exact fw (Du n) (fv (by omega) (by omega))
theorem DK(z:Int):(bN z).length<=(bd z.natAbs).length+1:=by
 rw[bN];split<;>simp
theorem aLH(q:Rat):(bc q).length<=(bd q.num.natAbs).length+(bd q.den).length+2:=by
 have:=DK q.num;rw[bc];split<;>simp<;>omega
theorem VH(k:Nat):2^(3*k)<=10^k:=by
 rw[g7];exact Nat.pow_le_pow_left (by omega) k
theorem Ka{n k:Nat}(h:n<2^(3*k))(hk:1<=k):(bd n).length<=k:=vV (fw h (VH k)) hk
theorem xP{n k K:Nat}(h:n<2^K)(a:K<=3*k)(hk:1<=k):(bd n).length<=k:=Ka (fw h (fv (by decide) a)) hk
def mD:Nat:=600
theorem GW{s:List Nat}(h:b6 s=0):(bg s).num.natAbs<10^mD/\(bg s).den<10^mD:=by
 obtain⟨k,f,g⟩:=jm h;unfold b6 at h
 split at h
 ·cases h
 rename_i a
 split at h
 ·cases h
 rename_i l;have a:nL s=true:=by simpa using a
 simp only[nL,av,ax,decide_eq_true_eq]at a;obtain⟨⟨b,_⟩,a3⟩:=a;have c:=jR _ _ rfl (ks b);have i:10^(bH s).length<=10^mD:=fv (by omega) (by rw[mD];omega);refine⟨?_,?_⟩
 ·rw[f];have e:(if bY s=true then -(aX (bH s):Int)else aX (bH s)).natAbs=aX (bH s):=by split<;>omega
  rw[e];exact fw c i
 ·rw[g]
  by_cases hf:eL s=true
  ·rw[if_pos hf];rcases a3 with a3|a3
   ·rw[hf]at a3;cases a3
   ·have d:=jR _ _ rfl (ks a3.1.1);have j:10^(bP s).length<=10^mD:=fv (by omega) (by rw[mD];omega);exact fw d j
  ·rw[if_neg hf];exact Nat.one_lt_pow (by decide) (by omega)
open Go
def eH(l:List UInt8):List Nat:=l.map (·.toNat)
theorem VP(l:List UInt8):(eH l).map hE=l:=by
 induction l with
 |nil=>rfl
 |cons a r b=>simp only[eH,e7]at b⊢;rw[b];simp
def pn(c:Nat):List Nat->Nat->Int
 |[],_=>-1
 |x::r,i=>bif hb x c then(i:Int)else pn c r (i+1)
theorem MK(c:UInt8):∀(l:List UInt8)(i:Nat),pn c.toNat (eH l) i=if bi l c= -1 then -1 else bi l c+i
 |[],i=>by simp[pn,eH,bi]
 |x::r,i=>by
  have b:=MK c r (i+1);simp only[eH]at b;simp only[eH,e7,pn,bi]
  by_cases hx:x=c
  ·subst hx;simp
  ·have e:hb x.toNat c.toNat=false:=by
    cases d:hb x.toNat c.toNat
    ·rfl
    ·exact(hx (hD.1 (he d))).elim
   have f:=Lib.indexByte_ge r c;simp only[e,cond_false,b,beq_iff_eq,hx,if_false]
   by_cases a:bi r c= -1
   ·simp[a]
   ·rw[if_neg a,if_neg a];rw[if_neg (by omega)];omega
theorem ML(c:Nat):∀(s:List Nat)(k:Nat),((b8 c s).2.2=false/\pn c s k= -1/\b8 c s=(s,[],false))\/
 ∃i,i<s.length/\pn c s k=((k+i:Nat):Int)/\b8 c s=(s.take i,s.drop (i+1),true)
 |[],k=>by simp[b8,pn]
 |x::r,k=>by
  rw[b8,pn]
  by_cases h:x=c
  ·subst h;right;refine⟨0,by simp,?_,?_⟩
   ·simp
   ·simp
  ·have d:hb x c=false:=by
    cases d:hb x c
    ·rfl
    ·exact(h (he d)).elim
   rw[d,if_neg h,cond_false];rcases ML c r (k+1)with⟨e,a,b⟩|⟨i,e,a,b⟩
   ·left;exact⟨e,a,by rw[b]⟩
   ·right;refine⟨i+1,by simp;omega,?_,?_⟩
    ·rw[a];congr 1;omega
    ·rw[b];simp
theorem Et(n:Nat):eH (be n)=bd n:=by
 induction n using Nat.strongRecOn with
 |ind n a=>
  rw[be]
  by_cases h:n<10
  ·rw[dif_pos h,bd];have c:nd n<=1:=sR (by omega);rw[show max 1 (nd n)=1 by omega];rw[show(1:Nat)=0+1 from rfl,ud,low,List.nil_append,gm h];simp[eH,hG];omega
  ·rw[dif_neg h];have b:=a (n/10) (by omega);have e:nd n=nd (n/10)+1:=by
    have:=En (n:=n) (k:=1) (by omega);rw[g6]at this;exact this
   have d:0<nd (n/10):=Az (by omega);rw[bd,e,show max 1 (nd (n/10)+1)=max 1 (nd (n/10))+1 by omega,ud];have:eH (be (n/10)++[hE (48+n% 10)])=eH (be (n/10))++[48+n% 10]:=by
    simp[eH,hG];omega
   rw[this,b,bd]
theorem aJj(z:Int):eH (b4 z)=bN z:=by
 rw[b4,bN]
 by_cases h:z<0
 ·rw[if_pos h,if_pos h];show 45::eH _=_;rw[Et]
 ·rw[if_neg h,if_neg h,Et];congr 1;omega
def tz(s:List Nat):Nat->List Nat
 |0=>[]
 |n+1=>s++tz s n
theorem LU(s:List UInt8):∀n,tz (eH s) n=eH (b2 s n)
 |0=>by simp[tz,b2,eH]
 |n+1=>by
  have a:=LU s n;simp only[eH]at a;simp[tz,b2,eH,a]
theorem Db(c:Nat):∀n,tz [c] n=e6 n c
 |0=>rfl
 |n+1=>by rw[tz,Db c n];rfl
theorem CG(l:List UInt8):bw l [45]=bY (eH l):=by
 cases l with
 |nil=>rfl
 |cons c r=>
  rw[bw,bY];simp only[eH,e7,List.isPrefixOf,fa,ay,Option.some.injEq]
  by_cases h:c=45
  ·subst h;rfl
  ·have a:¬c.toNat=45:=fun e=>h (hD.1 e);have b:((45:UInt8)==c)=false:=by simpa using fun e=>h e.symm
   rw[b];simp[a]
theorem JC(l:List UInt8):eH (bv l [45])=df (eH l):=by
 rw[bv,CG,df];cases h:bY (eH l)
 ·simp
 ·cases l with
  |nil=>simp[eH,bY]at h
  |cons c r=>simp[eH]
def lX(s:List Nat):List Nat:=s.dropWhile cq
def jx(s:List Nat):List Nat:=(s.reverse.dropWhile cq).reverse
theorem yF{p:Nat->Bool}:∀{s:List Nat},s.dropWhile p=[]↔s.all p=true
 |[]=>by simp
 |x::r=>by
  rw[List.dropWhile_cons];cases h:p x
  ·simp[h]
  ·simp[h,yF]
theorem Wq(s:List Nat):lX (jx s)=[]↔s.all cq=true:=by
 rw[lX,yF,jx];constructor
 ·intro h
  by_cases a:s.reverse.dropWhile cq=[]
  ·rw[yF,ew]at a;exact a
  ·have b:=List.head_dropWhile_not cq a;rw[ew,e9]at h;rw[h _ (List.head_mem a)]at b;cases b
 ·intro h;have:s.reverse.dropWhile cq=[]:=by rw[yF,ew];exact h
  rw[this];rfl
end Go.ak
namespace Go.Proofs
open Go.Shelf
def Tryz.VC:c6:=⟨fun|103=>316|210=>345|206=>340|n=>n,fun|9=>9|4=>4|24=>372|3=>3|n=>n,fun|n=>n⟩
theorem Tryz.aJK:cx prog VC:={
 mixed:=by kernel_rfl
 f103:=func316.trans (congrArg some (by kernel_rfl))
 f206:=func340.trans (congrArg some (by kernel_rfl))
 f210:=func345.trans (congrArg some (by kernel_rfl))
 t3:=underlying3
 a3:=isAgg3
 z3:=sizeOf3
 v3:=zeroValue3
 t4:=underlying4
 a4:=isAgg4
 z4:=sizeOf4
 v4:=zeroValue4
 t9:=underlying9
 a9:=isAgg9
 z9:=sizeOf9
 v9:=zeroValue9
 t24:=underlying372
 a24:=isAgg372
 z24:=sizeOf372
 v24:=zeroValue372}
open Go.RowKit in
theorem Tryz.strings_CutPrefix(s p:ByteArray)(w:a7):
 a8 prog 316 #[.string s,.string p] w fun e w'=>e=.returned (.tuple #[.string ⟨(bv s.data.toList p.data.toList).toArray⟩,.bool (bw s.data.toList p.data.toList)])/\w'=w:=Any.strings_CutPrefix aJK s p w
def Tryz.Vx:c6:=⟨fun|283=>349|n=>n,fun|3=>3|9=>9|4=>4|n=>n,fun|n=>n⟩
theorem Tryz.aJQ:ce prog Vx:={
 mixed:=by kernel_rfl
 f283:=func349.trans (congrArg some (by kernel_rfl))
 t3:=underlying3
 a3:=isAgg3
 z3:=sizeOf3
 v3:=zeroValue3
 t4:=underlying4
 a4:=isAgg4
 z4:=sizeOf4
 v4:=zeroValue4
 t9:=underlying9
 a9:=isAgg9
 z9:=sizeOf9
 v9:=zeroValue9}
open Go.Lib in
theorem Tryz.internal_strconv_small(i:Nat)(h:i<100)(w:a7):
 a8 prog 349 #[.int .i64 i] w fun e w'=>e=.returned (.string ⟨(be i).toArray⟩)/\w'=w:=Any.internal_strconv_small aJQ i h w
def Tryz.UU:c6:=⟨fun|284=>350|129=>321|317=>372|318=>373|n=>n,fun|53=>320|3=>3|212=>415|0=>0|4=>4|46=>369|5=>5|9=>9|n=>n,fun|17=>3|n=>n⟩
theorem Tryz.YK:Go.Proofs.LaysM.n284 prog UU:={
 mixed:=by kernel_rfl
 f129:=func321.trans (congrArg some (by kernel_rfl))
 f284:=func350.trans (congrArg some (by kernel_rfl))
 f317:=func372.trans (congrArg some (by kernel_rfl))
 f318:=func373.trans (congrArg some (by kernel_rfl))
 t0:=underlying0
 a0:=isAgg0
 z0:=sizeOf0
 v0:=zeroValue0
 t3:=underlying3
 a3:=isAgg3
 z3:=sizeOf3
 v3:=zeroValue3
 t4:=underlying4
 a4:=isAgg4
 z4:=sizeOf4
 v4:=zeroValue4
 t5:=underlying5
 a5:=isAgg5
 z5:=sizeOf5
 v5:=zeroValue5
 t9:=underlying9
 a9:=isAgg9
 z9:=sizeOf9
 v9:=zeroValue9
 t46:=underlying369
 a46:=isAgg369
 z46:=sizeOf369
 v46:=zeroValue369
 t53:=underlying320
 a53:=isAgg320
 z53:=sizeOf320
 v53:=zeroValue320
 t212:=underlying415
 a212:=isAgg415
 z212:=sizeOf415
 v212:=zeroValue415
 g17:=by kernel_rfl
 i0:=by kernel_rfl
 i3:=by kernel_rfl
 i4:=by kernel_rfl
 i5:=by kernel_rfl
 i9:=by kernel_rfl
 i46:=by kernel_rfl
 i53:=by kernel_rfl
 i212:=by kernel_rfl
 m17:=by kernel_rfl}
open Go.Lib in
theorem Tryz.internal_strconv_numDigits(u:Nat)(h1:1<=u)(h2:u<18446744073709551616)(w:a7)(htab:b1 prog w "internal/strconv.uint64pow10" .u64 b0):
 a8 prog 350 #[.int .u64 u] w fun e w'=>e=.returned (.int .i64 (bf u))/\w'=w:=Any.internal_strconv_numDigits YK u h1 h2 w htab
def Tryz.Vw:c6:=⟨fun|285=>351|n=>n,fun|37=>352|53=>320|3=>3|4=>4|51=>395|9=>9|5=>5|0=>0|n=>n,fun|n=>n⟩
theorem Tryz.aJR:cd prog Vw:={
 mixed:=by kernel_rfl
 f285:=func351.trans (congrArg some (by kernel_rfl))
 t0:=underlying0
 a0:=isAgg0
 z0:=sizeOf0
 v0:=zeroValue0
 t3:=underlying3
 a3:=isAgg3
 z3:=sizeOf3
 v3:=zeroValue3
 t4:=underlying4
 a4:=isAgg4
 z4:=sizeOf4
 v4:=zeroValue4
 t5:=underlying5
 a5:=isAgg5
 z5:=sizeOf5
 v5:=zeroValue5
 t9:=underlying9
 a9:=isAgg9
 z9:=sizeOf9
 v9:=zeroValue9
 t37:=underlying352
 a37:=isAgg352
 z37:=sizeOf352
 v37:=zeroValue352
 t51:=underlying395
 a51:=isAgg395
 z51:=sizeOf395
 v51:=zeroValue395
 t53:=underlying320
 a53:=isAgg320
 z53:=sizeOf320
 v53:=zeroValue320}
open Go.RowKit Go.Sort Go.Lib in
theorem Tryz.internal_strconv_formatBase10(aq off cap:Nat)(u:Nat)(d:Array UInt8)(w:a7)(hH:Holds (fun(b:UInt8)=>db .u8 (b.toNat:Int)) w aq off d)(hu:u<10^d.size)(hu64:u<18446744073709551616)(hsz:d.size<4611686018427387904):
 a8 prog 351 #[.slice (some ⟨aq,off,none⟩) d.size cap,.int .u64 u] w fun e w'=>
  e=.returned (.tuple #[])/\∃(n v':Nat)(dk:Array UInt8),w'=(putRow (fun(b:UInt8)=>db .u8 (b.toNat:Int)) w aq off dk).drewN n/\FmtInv d.size u 0 v' dk:=Any.internal_strconv_formatBase10 aJR aq off cap u d w hH hu hu64 hsz
def Tryz.UG:c6:=⟨fun|171=>295|243=>329|246=>348|283=>349|284=>350|285=>351|286=>352|129=>321|317=>372|318=>373|319=>374|320=>375|337=>386|338=>387|n=>n,fun|3=>3|9=>9|2=>2|4=>4|171=>391|0=>0|53=>320|37=>352|5=>5|173=>393|212=>415|51=>395|20=>20|213=>416|46=>369|232=>436|233=>437|n=>n,fun|17=>3|18=>6|19=>7|n=>n⟩
theorem Tryz.YL:Go.Proofs.LaysM.n171 prog UG:={
 mixed:=by kernel_rfl
 f129:=func321.trans (congrArg some (by kernel_rfl))
 f171:=func295.trans (congrArg some (by kernel_rfl))
 f243:=func329.trans (congrArg some (by kernel_rfl))
 f246:=func348.trans (congrArg some (by kernel_rfl))
 f283:=func349.trans (congrArg some (by kernel_rfl))
 f284:=func350.trans (congrArg some (by kernel_rfl))
 f285:=func351.trans (congrArg some (by kernel_rfl))
 f286:=func352.trans (congrArg some (by kernel_rfl))
 f317:=func372.trans (congrArg some (by kernel_rfl))
 f318:=func373.trans (congrArg some (by kernel_rfl))
 f319:=func374.trans (congrArg some (by kernel_rfl))
 f320:=func375.trans (congrArg some (by kernel_rfl))
 f337:=func386.trans (congrArg some (by kernel_rfl))
 f338:=func387.trans (congrArg some (by kernel_rfl))
 t0:=underlying0
 a0:=isAgg0
 z0:=sizeOf0
 v0:=zeroValue0
 t2:=underlying2
 a2:=isAgg2
 z2:=sizeOf2
 v2:=zeroValue2
 t3:=underlying3
 a3:=isAgg3
 z3:=sizeOf3
 v3:=zeroValue3
 t4:=underlying4
 a4:=isAgg4
 z4:=sizeOf4
 v4:=zeroValue4
 t5:=underlying5
 a5:=isAgg5
 z5:=sizeOf5
 v5:=zeroValue5
 t9:=underlying9
 a9:=isAgg9
 z9:=sizeOf9
 v9:=zeroValue9
 t20:=underlying20
 a20:=isAgg20
 z20:=sizeOf20
 v20:=zeroValue20
 t37:=underlying352
 a37:=isAgg352
 z37:=sizeOf352
 v37:=zeroValue352
 t46:=underlying369
 a46:=isAgg369
 z46:=sizeOf369
 v46:=zeroValue369
 t51:=underlying395
 a51:=isAgg395
 z51:=sizeOf395
 v51:=zeroValue395
 t53:=underlying320
 a53:=isAgg320
 z53:=sizeOf320
 v53:=zeroValue320
 t171:=underlying391
 a171:=isAgg391
 z171:=sizeOf391
 v171:=zeroValue391
 t173:=underlying393
 a173:=isAgg393
 z173:=sizeOf393
 v173:=zeroValue393
 t212:=underlying415
 a212:=isAgg415
 z212:=sizeOf415
 v212:=zeroValue415
 t213:=underlying416
 a213:=isAgg416
 z213:=sizeOf416
 t232:=underlying436
 a232:=isAgg436
 z232:=sizeOf436
 v232:=zeroValue436
 t233:=underlying437
 a233:=isAgg437
 z233:=sizeOf437
 v233:=zeroValue437
 g17:=by kernel_rfl
 g18:=by kernel_rfl
 g19:=by kernel_rfl
 i0:=by kernel_rfl
 i2:=by kernel_rfl
 i3:=by kernel_rfl
 i4:=by kernel_rfl
 i5:=by kernel_rfl
 i9:=by kernel_rfl
 i20:=by kernel_rfl
 i37:=by kernel_rfl
 i46:=by kernel_rfl
 i51:=by kernel_rfl
 i53:=by kernel_rfl
 i171:=by kernel_rfl
 i173:=by kernel_rfl
 i212:=by kernel_rfl
 i232:=by kernel_rfl
 i233:=by kernel_rfl
 m17:=by kernel_rfl
 m18:=by kernel_rfl
 m19:=by kernel_rfl}
open Go.RowKit Go.Sort Go.Lib in
theorem Tryz.strconv_Itoa(n:Int)(h0: -9223372036854775808<=n)(h1:n<=9223372036854775807)(w:a7)(htab:b1 prog w "internal/strconv.uint64pow10" .u64 b0):
 a8 prog 295 #[.int .i64 n] w fun e w'=>e=.returned (.string ⟨(b4 n).toArray⟩)/\∃k os,w'=grow (w.drewN k) os:=Any.strconv_Itoa YL n h0 h1 w htab
def Tryz.UH:c6:=⟨fun|172=>303|244=>341|245=>342|247=>360|279=>361|280=>362|281=>363|282=>364|287=>379|316=>380|171=>295|205=>381|321=>388|322=>389|243=>329|246=>348|283=>349|284=>350|285=>351|286=>352|129=>321|317=>372|318=>373|319=>374|320=>375|337=>386|338=>387|n=>n,fun|9=>9|3=>3|75=>356|76=>357|4=>4|5=>5|167=>401|37=>352|0=>0|85=>402|2=>2|168=>404|53=>320|175=>420|46=>369|210=>424|127=>385|145=>434|143=>432|21=>21|171=>391|173=>393|212=>415|51=>395|20=>20|213=>416|232=>436|233=>437|80=>297|n=>n,fun|15=>4|16=>5|17=>3|18=>6|19=>7|n=>n⟩
theorem Tryz.YM:Go.Proofs.LaysC.n172 prog UH:={
 mixed:=by kernel_rfl
 f129:=func321.trans (congrArg some (by kernel_rfl))
 f171:=func295.trans (congrArg some (by kernel_rfl))
 f172:=func303.trans (congrArg some (by kernel_rfl))
 f205:=func381.trans (congrArg some (by kernel_rfl))
 f243:=func329.trans (congrArg some (by kernel_rfl))
 f244:=func341.trans (congrArg some (by kernel_rfl))
 f245:=func342.trans (congrArg some (by kernel_rfl))
 f246:=func348.trans (congrArg some (by kernel_rfl))
 f247:=func360.trans (congrArg some (by kernel_rfl))
 f279:=func361.trans (congrArg some (by kernel_rfl))
 f280:=func362.trans (congrArg some (by kernel_rfl))
 f281:=func363.trans (congrArg some (by kernel_rfl))
 f282:=func364.trans (congrArg some (by kernel_rfl))
 f283:=func349.trans (congrArg some (by kernel_rfl))
 f284:=func350.trans (congrArg some (by kernel_rfl))
 f285:=func351.trans (congrArg some (by kernel_rfl))
 f286:=func352.trans (congrArg some (by kernel_rfl))
 f287:=func379.trans (congrArg some (by kernel_rfl))
 f316:=func380.trans (congrArg some (by kernel_rfl))
 f317:=func372.trans (congrArg some (by kernel_rfl))
 f318:=func373.trans (congrArg some (by kernel_rfl))
 f319:=func374.trans (congrArg some (by kernel_rfl))
 f320:=func375.trans (congrArg some (by kernel_rfl))
 f321:=func388.trans (congrArg some (by kernel_rfl))
 f322:=func389.trans (congrArg some (by kernel_rfl))
 f337:=func386.trans (congrArg some (by kernel_rfl))
 f338:=func387.trans (congrArg some (by kernel_rfl))
 t0:=underlying0
 a0:=isAgg0
 z0:=sizeOf0
 v0:=zeroValue0
 t2:=underlying2
 a2:=isAgg2
 z2:=sizeOf2
 v2:=zeroValue2
 t3:=underlying3
 a3:=isAgg3
 z3:=sizeOf3
 v3:=zeroValue3
 t4:=underlying4
 a4:=isAgg4
 z4:=sizeOf4
 v4:=zeroValue4
 t5:=underlying5
 a5:=isAgg5
 z5:=sizeOf5
 v5:=zeroValue5
 t9:=underlying9
 a9:=isAgg9
 z9:=sizeOf9
 v9:=zeroValue9
 t20:=underlying20
 a20:=isAgg20
 z20:=sizeOf20
 v20:=zeroValue20
 t21:=underlying21
 a21:=isAgg21
 z21:=sizeOf21
 v21:=zeroValue21
 t37:=underlying352
 a37:=isAgg352
 z37:=sizeOf352
 v37:=zeroValue352
 t46:=underlying369
 a46:=isAgg369
 z46:=sizeOf369
 v46:=zeroValue369
 t51:=underlying395
 a51:=isAgg395
 z51:=sizeOf395
 v51:=zeroValue395
 t53:=underlying320
 a53:=isAgg320
 z53:=sizeOf320
 v53:=zeroValue320
 t75:=underlying356
 a75:=isAgg356
 z75:=sizeOf356
 v75:=zeroValue356
 t76:=underlying357
 a76:=isAgg357
 z76:=sizeOf357
 v76:=zeroValue357
 t85:=underlying402
 a85:=isAgg402
 z85:=sizeOf402
 v85:=zeroValue402
 t127:=underlying385
 a127:=isAgg385
 z127:=sizeOf385
 v127:=zeroValue385
 t143:=underlying432
 a143:=isAgg432
 z143:=sizeOf432
 v143:=zeroValue432
 t145:=underlying434
 a145:=isAgg434
 z145:=sizeOf434
 v145:=zeroValue434
 t167:=underlying401
 a167:=isAgg401
 z167:=sizeOf401
 v167:=zeroValue401
 t168:=underlying404
 a168:=isAgg404
 z168:=sizeOf404
 v168:=zeroValue404
 t171:=underlying391
 a171:=isAgg391
 z171:=sizeOf391
 v171:=zeroValue391
 t173:=underlying393
 a173:=isAgg393
 z173:=sizeOf393
 v173:=zeroValue393
 t175:=underlying420
 a175:=isAgg420
 z175:=sizeOf420
 v175:=zeroValue420
 t210:=underlying424
 a210:=isAgg424
 z210:=sizeOf424
 v210:=zeroValue424
 t212:=underlying415
 a212:=isAgg415
 z212:=sizeOf415
 v212:=zeroValue415
 t213:=underlying416
 a213:=isAgg416
 z213:=sizeOf416
 t232:=underlying436
 a232:=isAgg436
 z232:=sizeOf436
 v232:=zeroValue436
 t233:=underlying437
 a233:=isAgg437
 z233:=sizeOf437
 v233:=zeroValue437
 g15:=by kernel_rfl
 g16:=by kernel_rfl
 g17:=by kernel_rfl
 g18:=by kernel_rfl
 g19:=by kernel_rfl
 t80:=underlying297
 a80:=isAgg297
 z80:=sizeOf297
 v80:=zeroValue297
 i0:=by kernel_rfl
 i2:=by kernel_rfl
 i3:=by kernel_rfl
 i4:=by kernel_rfl
 i5:=by kernel_rfl
 i9:=by kernel_rfl
 i20:=by kernel_rfl
 i21:=by kernel_rfl
 i37:=by kernel_rfl
 i46:=by kernel_rfl
 i51:=by kernel_rfl
 i53:=by kernel_rfl
 i75:=by kernel_rfl
 i76:=by kernel_rfl
 i80:=by kernel_rfl
 i85:=by kernel_rfl
 i127:=by kernel_rfl
 i143:=by kernel_rfl
 i145:=by kernel_rfl
 i167:=by kernel_rfl
 i168:=by kernel_rfl
 i171:=by kernel_rfl
 i173:=by kernel_rfl
 i175:=by kernel_rfl
 i210:=by kernel_rfl
 i212:=by kernel_rfl
 i232:=by kernel_rfl
 i233:=by kernel_rfl
 m15:=by kernel_rfl
 m16:=by kernel_rfl
 m17:=by kernel_rfl
 m18:=by kernel_rfl
 m19:=by kernel_rfl
 c0:=by kernel_rfl
 c2:=by kernel_rfl
 c3:=by kernel_rfl
 c4:=by kernel_rfl
 c5:=by kernel_rfl
 c9:=by kernel_rfl
 c20:=by kernel_rfl
 c21:=by kernel_rfl
 c37:=by kernel_rfl
 c46:=by kernel_rfl
 c51:=by kernel_rfl
 c53:=by kernel_rfl
 c75:=by kernel_rfl
 c76:=by kernel_rfl
 c80:=by kernel_rfl
 c85:=by kernel_rfl
 c127:=by kernel_rfl
 c143:=by kernel_rfl
 c145:=by kernel_rfl
 c167:=by kernel_rfl
 c168:=by kernel_rfl
 c171:=by kernel_rfl
 c173:=by kernel_rfl
 c175:=by kernel_rfl
 c210:=by kernel_rfl
 c212:=by kernel_rfl
 c213:=by kernel_rfl
 c232:=by kernel_rfl
 c233:=by kernel_rfl}
open Go.RowKit in
theorem Tryz.strconv_Atoi_ok(s:ByteArray)(hmax:s.size<=9223372036854775806)(v:Int)(h:b5 s.data.toList= .ok v)(w:a7):
 a8 prog 303 #[.string s] w fun e w'=>e=.returned (.tuple #[.int .i64 v,.nilIface])/\(w'=w\/∃t,w'=Lib.bytesWorld w 5 t):=Any.strconv_Atoi_ok YM s hmax v h w
def Tryz.Vz:c6:=⟨fun|219=>339|217=>356|225=>357|224=>358|267=>359|266=>377|314=>378|n=>n,fun|9=>9|3=>3|4=>4|5=>5|46=>369|146=>396|51=>395|n=>n,fun|1=>2|n=>n⟩
theorem Tryz.aJO:ck prog Vz:={
 mixed:=by kernel_rfl
 f217:=func356.trans (congrArg some (by kernel_rfl))
 f219:=func339.trans (congrArg some (by kernel_rfl))
 f224:=func358.trans (congrArg some (by kernel_rfl))
 f225:=func357.trans (congrArg some (by kernel_rfl))
 f266:=func377.trans (congrArg some (by kernel_rfl))
 f267:=func359.trans (congrArg some (by kernel_rfl))
 f314:=func378.trans (congrArg some (by kernel_rfl))
 t3:=underlying3
 a3:=isAgg3
 z3:=sizeOf3
 v3:=zeroValue3
 t4:=underlying4
 a4:=isAgg4
 z4:=sizeOf4
 v4:=zeroValue4
 t5:=underlying5
 a5:=isAgg5
 z5:=sizeOf5
 v5:=zeroValue5
 t9:=underlying9
 a9:=isAgg9
 z9:=sizeOf9
 v9:=zeroValue9
 t46:=underlying369
 a46:=isAgg369
 z46:=sizeOf369
 v46:=zeroValue369
 t51:=underlying395
 a51:=isAgg395
 z51:=sizeOf395
 v51:=zeroValue395
 t146:=underlying396
 a146:=isAgg396
 z146:=sizeOf396
 v146:=zeroValue396
 g1:=by kernel_rfl}
open Go.RowKit Go.Lib in
theorem Tryz.stringslite_Index_one(s:ByteArray)(c:UInt8)(w:a7):
 a8 prog 339 #[.string s,.string ⟨#[c]⟩] w fun e w'=>e=.returned (.int .i64 (bi s.data.toList c))/\w'=w:=Any.stringslite_Index_one aJO s c w
def Tryz.Wh:c6:=⟨fun|99=>302|206=>340|n=>n,fun|9=>9|4=>4|3=>3|n=>n,fun|n=>n⟩
theorem Tryz.aJS:cc prog Wh:={
 mixed:=by kernel_rfl
 f99:=func302.trans (congrArg some (by kernel_rfl))
 f206:=func340.trans (congrArg some (by kernel_rfl))
 t3:=underlying3
 a3:=isAgg3
 z3:=sizeOf3
 v3:=zeroValue3
 t4:=underlying4
 a4:=isAgg4
 z4:=sizeOf4
 v4:=zeroValue4
 t9:=underlying9
 a9:=isAgg9
 z9:=sizeOf9
 v9:=zeroValue9}
open Go.RowKit Go.Lib in
theorem Tryz.strings_HasPrefix(s p:ByteArray)(w:a7):
 a8 prog 302 #[.string s,.string p] w fun e w'=>e=.returned (.bool (bw s.data.toList p.data.toList))/\w'=w:=Any.strings_HasPrefix aJS s p w
def Tryz.VD:c6:=⟨fun|101=>284|208=>322|206=>340|n=>n,fun|9=>9|4=>4|3=>3|n=>n,fun|n=>n⟩
theorem Tryz.aJJ:cy prog VD:={
 mixed:=by kernel_rfl
 f101:=func284.trans (congrArg some (by kernel_rfl))
 f206:=func340.trans (congrArg some (by kernel_rfl))
 f208:=func322.trans (congrArg some (by kernel_rfl))
 t3:=underlying3
 a3:=isAgg3
 z3:=sizeOf3
 v3:=zeroValue3
 t4:=underlying4
 a4:=isAgg4
 z4:=sizeOf4
 v4:=zeroValue4
 t9:=underlying9
 a9:=isAgg9
 z9:=sizeOf9
 v9:=zeroValue9}
open Go.RowKit Go.Lib in
theorem Tryz.strings_TrimPrefix(s p:ByteArray)(w:a7):
 a8 prog 284 #[.string s,.string p] w fun e w'=>e=.returned (.string ⟨(bv s.data.toList p.data.toList).toArray⟩)/\w'=w:=Any.strings_TrimPrefix aJJ s p w
def Tryz.Jn:c6:=⟨fun|105=>298|212=>335|99=>302|165=>336|166=>299|170=>337|169=>300|263=>353|264=>269|206=>340|240=>338|241=>354|276=>355|277=>376|n=>n,fun|9=>9|3=>3|4=>4|20=>20|0=>0|46=>369|109=>382|5=>5|72=>354|76=>357|51=>395|146=>396|53=>320|148=>321|70=>351|37=>352|75=>356|127=>385|164=>398|80=>297|n=>n,fun|n=>n⟩
theorem Tryz.aJL:cv prog Jn:={
 mixed:=by kernel_rfl
 f99:=func302.trans (congrArg some (by kernel_rfl))
 f105:=func298.trans (congrArg some (by kernel_rfl))
 f165:=func336.trans (congrArg some (by kernel_rfl))
 f166:=func299.trans (congrArg some (by kernel_rfl))
 f169:=func300.trans (congrArg some (by kernel_rfl))
 f170:=func337.trans (congrArg some (by kernel_rfl))
 f206:=func340.trans (congrArg some (by kernel_rfl))
 f212:=func335.trans (congrArg some (by kernel_rfl))
 f240:=func338.trans (congrArg some (by kernel_rfl))
 f241:=func354.trans (congrArg some (by kernel_rfl))
 f263:=func353.trans (congrArg some (by kernel_rfl))
 f264:=func269.trans (congrArg some (by kernel_rfl))
 f276:=func355.trans (congrArg some (by kernel_rfl))
 f277:=func376.trans (congrArg some (by kernel_rfl))
 t0:=underlying0
 a0:=isAgg0
 z0:=sizeOf0
 v0:=zeroValue0
 t3:=underlying3
 a3:=isAgg3
 z3:=sizeOf3
 v3:=zeroValue3
 t4:=underlying4
 a4:=isAgg4
 z4:=sizeOf4
 v4:=zeroValue4
 t5:=underlying5
 a5:=isAgg5
 z5:=sizeOf5
 v5:=zeroValue5
 t9:=underlying9
 a9:=isAgg9
 z9:=sizeOf9
 v9:=zeroValue9
 t20:=underlying20
 a20:=isAgg20
 z20:=sizeOf20
 v20:=zeroValue20
 t37:=underlying352
 a37:=isAgg352
 z37:=sizeOf352
 v37:=zeroValue352
 t46:=underlying369
 a46:=isAgg369
 z46:=sizeOf369
 v46:=zeroValue369
 t51:=underlying395
 a51:=isAgg395
 z51:=sizeOf395
 v51:=zeroValue395
 t53:=underlying320
 a53:=isAgg320
 z53:=sizeOf320
 v53:=zeroValue320
 t70:=underlying351
 a70:=isAgg351
 z70:=sizeOf351
 v70:=zeroValue351
 t72:=underlying354
 a72:=isAgg354
 z72:=sizeOf354
 v72:=zeroValue354
 t75:=underlying356
 a75:=isAgg356
 z75:=sizeOf356
 v75:=zeroValue356
 t76:=underlying357
 a76:=isAgg357
 z76:=sizeOf357
 v76:=zeroValue357
 t109:=underlying382
 a109:=isAgg382
 z109:=sizeOf382
 v109:=zeroValue382
 t127:=underlying385
 a127:=isAgg385
 z127:=sizeOf385
 v127:=zeroValue385
 t146:=underlying396
 a146:=isAgg396
 z146:=sizeOf396
 v146:=zeroValue396
 t148:=underlying321
 a148:=isAgg321
 z148:=sizeOf321
 v148:=zeroValue321
 t164:=underlying398
 a164:=isAgg398
 z164:=sizeOf398
 v164:=zeroValue398}
theorem Tryz.Ud:Builder.Extra prog Jn:={
 sizeBuilder:=by kernel_rfl
 liesBuilder:=by kernel_rfl
 t5:=underlying5
 a5:=isAgg5
 z5:=sizeOf5
 v5:=zeroValue5
 infoByte:=by kernel_rfl
 cellsByte:=by kernel_rfl
 sizeByte:=by kernel_rfl
 neB5:=by decide}
open Go.RowKit Go.Lib in
theorem Tryz.strings_Repeat(s:ByteArray)(c:Nat)(w:a7)(hc:c<=9223372036854775807)(hlen:s.size*c<=140737488355328):
 a8 prog 298 #[.string s,.int .i64 c] w fun e w'=>e=.returned (.string ⟨(b2 s.data.toList c).toArray⟩)/\Below w.heap.size w w':=Any.strings_Repeat aJL Ud s c w hc hlen
end Go.Proofs
namespace Go.Proofs
open Go.Shelf Go.RowKit Go.Sort Go.Lib
set_option maxHeartbeats 6400000 in
set_option maxRecDepth 100000 in
theorem Tryz.Uc(u:Nat)(hu64:u<18446744073709551616)(w:a7)
 (htab:b1 prog w "internal/strconv.uint64pow10" .u64 b0):
 a8 prog 334 #[.int .u64 u,.int .i64 10] w fun e w'=>e=.returned (.string ⟨(be u).toArray⟩)/\∃k os,w'=grow (w.drewN k) os:=by
 have e349:∀args w,(callFunc 349 args).run prog w=.ok (.enter 349 args) w:=enters_of func349 (by kernel_rfl) rfl;have e350:∀args w,(callFunc 350 args).run prog w=.ok (.enter 350 args) w:=enters_of func350 (by kernel_rfl) rfl;have e351:∀args w,(callFunc 351 args).run prog w=.ok (.enter 351 args) w:=enters_of func351 (by kernel_rfl) rfl
 by_cases hs:u<100
 ·go_enter func334,ntmps334
  go_wp2_with (go_at_fn 349;refine(internal_strconv_small u hs _).mono ?_;rintro e w' ⟨rfl,rfl⟩)
  go_ret
  exact⟨rfl,0,#[],by simp[World.drewN_zero]⟩
 ·have hu1:1<=u:=by omega
  have hnd20:bf u<=20:=by have:=Lib.numDigits_eq u hu1 hu64;split at this<;>omega
  have hb3:bf u<=24:=by omega
  have hal:prog.arrayLen 391=24:=by kernel_rfl
  have hsl1:∀W,(Instr.sliceAt 391 (.pointer (some ⟨w.heap.size,0,none⟩)) none (some (.int .i64 (bf u:Int))) none).run prog W=.ok (.slice (some ⟨w.heap.size,0,none⟩) (bf u) 24) W:=fun W=>by
   rw[run_sliceAt_array_h W 391 ⟨w.heap.size,0,none⟩ (by kernel_rfl) .i64 (bf u:Int) (by omega) (by rw[hal];omega)]
   go_simp
  have hH0:=Lib.holds_zero0 w 391 (bf u) hb3;have hfmt:=internal_strconv_formatBase10 w.heap.size 0 24 u (Array.replicate (bf u) 0) (w.alloc (.cells bo 391)) hH0 (by rw[am];exact Lib.lt_pow_nDigits u) hu64 (by rw[am];omega);rw[am]at hfmt;have HH0:=Lib.hid hH0;clear hH0 hal
  go_enter func334,ntmps334
  go_wp2_with (first
   |(go_at_fn 350;refine(internal_strconv_numDigits u hu1 hu64 _ (Lib.tabIs_alloc htab _)).mono ?_;rintro e w' ⟨rfl,rfl⟩))
  go_at_fn 351
  refine hfmt.mono ?_;rintro e w' ⟨rfl,k,v',dk,rfl,hF⟩;have hcv:(convert 352 9 (.slice (some ⟨w.heap.size,0,none⟩) (bf u) 24)).run prog ((putRow (fun(b:UInt8)=>db .u8 (b.toNat:Int)) (w.alloc (.cells bo 391)) w.heap.size 0 dk).drewN k)=.ok (.string ⟨(be u).toArray⟩) ((putRow (fun(b:UInt8)=>db .u8 (b.toNat:Int)) (w.alloc (.cells bo 391)) w.heap.size 0 dk).drewN k):=by
   have h:=run_convert_bytes_back (P:=prog) ((putRow (fun(b:UInt8)=>db .u8 (b.toNat:Int)) (w.alloc (.cells bo 391)) w.heap.size 0 dk).drewN k) 352 9 5 ⟨w.heap.size,0,none⟩ 24 (be u) (by kernel_rfl) (by kernel_rfl) (by kernel_rfl) (fun j hj=>by
    rw[Lib.row_is_numeral hF j hj,Lib.add_plain,World.cell?_drewN];exact cell?_putRow (fun(b:UInt8)=>db .u8 (b.toNat:Int)) _ w.heap.size 0 _ dk HH0.out (by rw[hF.size,am]) j (by rw[hF.size];rw[b3]at hj;exact hj))
   rw[b3]at h;exact h
  go_wp2
  go_ret
  obtain⟨os,eo⟩:=Lib.fin_at w (.cells bo 391) dk k 0;exact⟨rfl,k,os,eo⟩
end Go.Proofs
namespace Go.ak
open Go.Proofs
theorem zK{P:Program}{w:a7}{ad:Nat->Prop}(l:List UInt8):aD P w ad (.str (eH l)) (.string ⟨l.toArray⟩):=by
 simp only[aD];exact⟨_,rfl,by simp[eH]⟩
theorem sf{P:Program}{w:a7}{ad:Nat->Prop}{s:List Nat}{v:Value}(h:aD P w ad (.str s) v):∃bs:ByteArray,v=.string bs/\s=eH bs.data.toList:=by
 simp only[aD]at h;obtain⟨bs,rfl,rfl⟩:=h;exact⟨bs,rfl,rfl⟩
theorem Ms{w:a7}{ad:Nat->Prop}{c:Nat}{v:Value}(h:aD prog w ad (.str [c]) v):∃b:UInt8,v=.string ⟨#[b]⟩/\c=b.toNat:=by
 obtain⟨bs,rfl,f⟩:=sf h;clear h;have h:=f;clear f
 match e:bs.data.toList with
 |[]=>rw[e]at h;simp[eH]at h
 |[b]=>
  rw[e]at h;simp[eH]at h;refine⟨b,?_,h⟩;congr 1;cases bs with
  |mk d=>simp at e⊢;exact Array.ext' (by simpa using e)
 |a::b::r=>rw[e]at h;simp[eH]at h
theorem Eu{w:a7}{ad:Nat->Prop}{v:Value}(h:aD prog w ad (.str [45]) v):v=.string ⟨#[45]⟩:=by
 obtain⟨b,rfl,a⟩:=Ms h;have:b=45:=hD.1 a.symm;rw[this]
theorem aiN(s:List Nat)(c:Nat):au prog 339 [.str s,.str [c]] (.int .i64 (pn c s 0)):=by
 refine mu (kV func339 (by kernel_rfl)) fun w ad g _ _ f=>?_;obtain⟨x,y,rfl,a,d⟩:=rB f;obtain⟨b,rfl,rfl⟩:=Ms d;obtain⟨bs,rfl,rfl⟩:=sf a;refine(stringslite_Index_one bs b w).mono ?_;rintro e w' ⟨rfl,rfl⟩;refine⟨_,rfl,⟨gb _,fun _ _=>rfl,rfl,rfl⟩,fun w ad=>?_⟩;have e1:=MK b bs.data.toList 0;simp only[aD]at e1⊢;rw[e1]
 by_cases h:bi bs.data.toList b= -1<;>simp[h]
theorem Z7(s:List Nat)(c:Nat)(h:s.length<=1048576):au prog 301 [.str s,.str [c]] (.aC [.str (b8 c s).1,.str (b8 c s).2.1,.bool (b8 c s).2.2]):=by
 refine aG nf Iv mix (by simp[f301]) ?_;simp[f301];refine c2 (aiN s c) ?_;rcases ML c s 0 with⟨_,a,b⟩|⟨i,d,a,b⟩
 ·simp[a,b]
 ·rw[ht]at a;have w:=ct (i:=i) (by omega);have e1:((i:Int)+1).toNat=i+1:=by omega
  simp[a,b,w,e1];omega
theorem Qv(s:List Nat)(c:Nat)(h:s.length<=1048576):au prog 241 [.str s,.str [c]] (.aC [.str (b8 c s).1,.str (b8 c s).2.1,.bool (b8 c s).2.2]):=by
 refine aG nf Gv mix (by simp[f241]) ?_;simp[f241];refine c2 (Z7 s c h) ?_;simp
theorem ZG(s:List Nat):au prog 302 [.str s,.str [45]] (.bool (bY s)):=by
 refine mu (kV func302 (by kernel_rfl)) fun w ad d _ _ c=>?_;obtain⟨x,y,rfl,a,b⟩:=rB c;obtain rfl:=Eu b;obtain⟨bs,rfl,rfl⟩:=sf a;refine(strings_HasPrefix bs _ w).mono ?_;rintro e w' ⟨rfl,rfl⟩;exact⟨_,rfl,⟨gb _,fun _ _=>rfl,rfl,rfl⟩,fun w ad=>by rw[<-CG];simp only[aD]⟩
theorem K9(s:List Nat):au prog 284 [.str s,.str [45]] (.str (df s)):=by
 refine mu (kV func284 (by kernel_rfl)) fun w ad d _ _ c=>?_;obtain⟨x,y,rfl,a,b⟩:=rB c;obtain rfl:=Eu b;obtain⟨bs,rfl,rfl⟩:=sf a;refine(strings_TrimPrefix bs _ w).mono ?_;rintro e w' ⟨rfl,rfl⟩;exact⟨_,rfl,⟨gb _,fun _ _=>rfl,rfl,rfl⟩,fun w ad=>by rw[<-JC];exact zK _⟩
theorem Zf(s:List Nat):au prog 316 [.str s,.str [45]] (.aC [.str (df s),.bool (bY s)]):=by
 refine mu (kV func316 (by kernel_rfl)) fun w ad d _ _ c=>?_;obtain⟨x,y,rfl,a,b⟩:=rB c;obtain rfl:=Eu b;obtain⟨bs,rfl,rfl⟩:=sf a;refine(strings_CutPrefix bs _ w).mono ?_;rintro e w' ⟨rfl,rfl⟩;refine⟨_,rfl,⟨gb _,fun _ _=>rfl,rfl,rfl⟩,fun w ad=>?_⟩;rw[<-JC,<-CG];simp only[aD,bK];refine⟨[_,_],⟨_,_,rfl,?_,_,_,rfl,rfl,rfl⟩,rfl⟩;exact⟨_,rfl,by simp[eH]⟩
theorem Ov{w:a7}{ad:Nat->Prop}(b:nG prog w ad):b1 prog w "internal/strconv.uint64pow10" .u64 b0:=by
 obtain⟨_,T,a⟩:=b.raw 3 _ rfl;have c:prog.globalNamed "internal/strconv.uint64pow10" =some 3:=by kernel_rfl
 simp only[b1,World.var?,c,Option.bind_some,a];rfl
theorem ai0(n:Int)(b:-9223372036854775808<=n)(c:n<=9223372036854775807):au prog 295 [.int .i64 n] (.str (bN n)):=by
 refine mu (kV func295 (by kernel_rfl)) fun w ad g _ f d=>?_;obtain⟨x,rfl,a⟩:=zJ d;simp only[aD]at a;subst a;refine(strconv_Itoa n b c w (Ov f)).mono ?_;rintro e w' ⟨rfl,k,os,rfl⟩;refine⟨_,rfl,⟨?_,fun k hk=>?_,rfl,rfl⟩,fun w ad=>?_⟩
 ·simp[da,World.drewN]
 ·simp only[da];exact ao hk
 ·rw[<-aJj];exact zK _
theorem ahU(u:Nat)(f:u<18446744073709551616):au prog 334 [.int .u64 u,.int .i64 10] (.str (bd u)):=by
 refine mu (kV func334 (by kernel_rfl)) fun w ad g _ d c=>?_;obtain⟨x,y,rfl,a,b⟩:=rB c;simp only[aD]at a b;subst a b;refine(Uc u f w (Ov d)).mono ?_;rintro e w' ⟨rfl,k,os,rfl⟩;refine⟨_,rfl,⟨?_,fun k hk=>?_,rfl,rfl⟩,fun w ad=>?_⟩
 ·simp[da,World.drewN]
 ·simp only[da];exact ao hk
 ·rw[<-Et];exact zK _
theorem Qw(u:Nat)(a:u<18446744073709551616):au prog 297 [.int .u64 u,.int .i64 10] (.str (bd u)):=by
 refine aG nf O0 mix (by simp[f297]) ?_;simp[f297];refine c2 (ahU u a) ?_;simp
theorem Qx(s:List Nat)(c:Nat)(hc:c<=9223372036854775807)(g:s.length*c<=140737488355328):au prog 298 [.str s,.int .i64 c] (.str (tz s c)):=by
 refine mu (kV func298 (by kernel_rfl)) fun w ad h _ i f=>?_;obtain⟨x,y,rfl,d,b⟩:=rB f;obtain⟨bs,rfl,rfl⟩:=sf d;simp only[aD]at b;subst b;refine(strings_Repeat bs c w hc (by simpa[eH]using g)).mono ?_;rintro e w' ⟨rfl,a⟩;exact⟨_,rfl,⟨a.size,a.block,a.os,a.output⟩,fun w ad=>by
  rw[LU];exact zK _⟩
theorem Z6(s:List Nat)(v:Int)(h:b5 (s.map hE)=.ok v)(d:s.length<=9223372036854775806):au prog 303 [.str s] (.aC [.int .i64 v,.gO]):=by
 refine mu (kV func303 (by kernel_rfl)) fun w ad g _ i c=>?_;obtain⟨x,rfl,b⟩:=zJ c;obtain⟨bs,rfl,rfl⟩:=sf b;rw[VP]at h;refine(strconv_Atoi_ok bs (by simpa[eH]using d) v h w).mono ?_;rintro e w' ⟨rfl,f⟩;refine⟨_,rfl,?_,fun w ad=>by simp[aD,bK]⟩;rcases f with rfl|⟨t,rfl⟩
 ·exact⟨gb _,fun _ _=>rfl,rfl,rfl⟩
 ·have a:=Lib.bytesWorld_below w 5 t;exact⟨a.size,a.block,a.os,a.output⟩
def tB:Nat:=1000000000000000000
theorem Ec:tB=10^18:=by decide
theorem Mz:∀i,low i 0=e6 i 48
 |0=>rfl
 |i+1=>by rw[ud,Nat.zero_div,Mz i,List.replicate_succ']
theorem R7{r:Nat}(h:r<tB):e6 (18-(bd r).length) 48++bd r=low 18 r:=by
 rw[rR,bd];have c:nd r<=18:=sR (by rw[<-Ec];exact h);obtain⟨k,hk⟩:∃k,k=max 1 (nd r):=⟨_,rfl⟩
 have d:k<=18:=by omega
 have b:r<10^k:=fw (Du r) (fv (by decide) (by omega));rw[<-hk];have:=rV (18-k) r (a:=k);have e:low 18 r=low (18-k) (r/10^k)++low k r:=by
  have:=rV k r (18-k);rw[show 18-k+k=18 by omega]at this;exact this
 rw[e,hp b,Mz]
theorem DX{r:Nat}(h:r<tB):(bd r).length<=18:=by
 rw[rR];have a:nd r<=18:=sR (by rw[<-Ec];exact h);omega
theorem X8{m:Nat}(h:tB<=m):bd m=bd (m/tB)++low 18 (m% tB):=by
 rw[Ec]at h⊢;have e:=En (n:=m) (k:=18) h;have a:0<nd (m/10^18):=Az (hl h (ge (by decide)));rw[bd,bd,show max 1 (nd m)=max 1 (nd (m/10^18))+18 by omega,rV,DO m 18 18 (gb _)]
def kj(m:Nat)(a:List (List Nat)):List Nat:=(if m=0 then[]else bd m)++a.reverse.flatten
def eQ(m:Nat):List Nat:=if m/tB=0 then bd m else low 18 (m% tB)
theorem LG{m:Nat}(h:m≠0)(c:List (List Nat)):kj (m/tB) (c++[eQ m])=kj m c:=by
 rw[kj,kj,if_neg h,eQ,List.reverse_append]
 by_cases a:m/tB=0
 ·rw[if_pos a,if_pos a];simp
 ·rw[if_neg a,if_neg a];have:tB<=m:=by
   rcases gx m tB with b|b
   ·exact(a (hp b)).elim
   ·exact b
  rw[X8 this];simp
theorem Ya(a:List (List Nat)):kj 0 a=a.reverse.flatten:=by rw[kj,if_pos rfl];rfl
theorem zR(n:Nat):0<(bd n).length:=by rw[rR];omega
theorem KE(m:Nat):eQ m≠[]:=by
 intro h;have:(eQ m).length=0:=by rw[h];rfl
 rw[eQ]at this
 split at this
 ·have:=zR m;omega
 ·rw[rU]at this;omega
theorem KF(m:Nat):(eQ m).length<=18:=by
 rw[eQ]
 split
 ·rename_i h;have b:m<tB:=by
   rcases gx m tB with a|a
   ·exact a
   ·have:=hl a (show 0<tB by decide);omega
  exact DX b
 ·rw[rU];exact gb _
theorem MI{c:Nat}(h:cq c=true):c<256:=by
 simp only[cq,av,decide_eq_true_eq]at h;omega
end Go.ak
namespace Go.Proofs
open Go.ak
theorem Tryz.Cc:prog.underlying 351=some (.pointer 354):=by kernel_rfl
theorem Tryz.He:prog.underlying 398=some .unsafePointer:=by kernel_rfl
theorem Tryz.Hv:(prog.info? 354).map (·.size)=some 2:=by kernel_rfl
theorem Tryz.aJT:liesAt prog prog.depth 354 (2/prog.cellsOf 354) 0 354 1=true:=by kernel_rfl
set_option maxHeartbeats 1000000 in
set_option maxRecDepth 100000 in
theorem Tryz.Uj(b:Nat)(w:a7)(h0:w.cell? ⟨b,0,none⟩=some (.pointer (some ⟨b,0,none⟩))):
 a8 prog 338 #[.pointer (some ⟨b,0,none⟩)] w fun e w'=>e=.returned (.tuple #[])/\w'=w:=by
 obtain⟨j,hj,_⟩:=Option.map_eq_some_iff.1 Hv
 go_enter func338,ntmps338
 go_wp2
 rw[Lib.run_neq_ptr_same w _ Cc hj]
 go_wp2
 go_end0
 exact⟨rfl,rfl⟩
set_option maxHeartbeats 1000000 in
set_option maxRecDepth 100000 in
theorem Tryz.Uk(b:Nat)(w:a7)(h0:w.cell? ⟨b,0,none⟩=some (.pointer none))(hsh:w.shape? b=some (354,2))(hfz:w.frozen? ⟨b,0,none⟩=false):
 a8 prog 338 #[.pointer (some ⟨b,0,none⟩)] w fun e w'=>e=.returned (.tuple #[])/\w'=w.setCell ⟨b,0,none⟩ (.pointer (some ⟨b,0,none⟩)):=by
 obtain⟨j,hj,hjs⟩:=Option.map_eq_some_iff.1 Hv
 go_enter func338,ntmps338
 go_wp2
 rw[Lib.run_to_unsafe w ⟨b,0,none⟩ Cc He hj (by rw[hjs];decide) hsh (Nat.zero_lt_succ 1)];simp only[Result.andThen];rw[cb]
 go_wp2
 rw[run_callFunc_extern func355 (by kernel_rfl) (by kernel_rfl) (by kernel_rfl) (e:=Extern.AbiNoEscape.same) (by kernel_rfl)];rw[Lib.run_noEscape];simp only[Result.andThen];rw[cb]
 go_wp2
 rw[Lib.run_from_unsafe w ⟨b,0,none⟩ He Cc hj hsh aJT];simp only[Result.andThen];rw[cb]
 go_wp2
 go_end0
 exact⟨rfl,rfl⟩
end Go.Proofs
