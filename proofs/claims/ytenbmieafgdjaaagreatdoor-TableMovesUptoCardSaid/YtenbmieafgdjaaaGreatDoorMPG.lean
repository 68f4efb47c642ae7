import Derived.Test.YtenbmieafgdjaaaGreatDoorMPF
import Derived.Lib.ItoaNum
import Derived.Lib.Strings
import Derived.Lib.Repeat
import Derived.Lib.Bytealg
import Derived.Test.YtenbmieafgdjaaaGreatDoorMThA
import Derived.Test.YtenbmieafgdjaaaGreatDoorMPE
import Derived.Shelf.Strings.Builder1
import Derived.Shelf.Strings.Builder2
import Derived.Shelf.Strings.OnBuilder
import Derived.Shelf.Strings.Trim
import Derived.Shelf.Small.Utf8
import Derived.Shelf.Small.Bits
import Derived.Shelf.Small.Strs
import Derived.Shelf.Small.Wraps
import Derived.Shelf.Strings.BuilderF
import Derived.Shelf.Strconv.Atoi
import Derived.Shelf.Strconv.Itoa0
import Derived.Shelf.Strconv.Itoa1
import Derived.Shelf.LaysM
import Derived.Shelf.Strconv.Itoa2
import Derived.Shelf.Strconv.Itoa3
import Derived.Shelf.Strconv.AtoiErrFast
import Derived.Shelf.Strconv.ParseIntEmpty
import Derived.Shelf.Strconv.AtoiFail
import Derived.Shelf.Strconv.Clone
import Derived.Shelf.Strconv.SyntaxError
import Derived.Shelf.LaysC
import Derived.Shelf.Strconv.ToError
import Derived.Shelf.Strconv.Lower
import Derived.Shelf.Strconv.ParseUint10
import Derived.Shelf.Strconv.ParseUint10Empty
import Derived.Shelf.Strconv.ParseUint10Any
import Derived.Shelf.Strconv.ParseInt10
import Derived.Shelf.Strconv.AtoiLong
import Derived.Shelf.Strconv.AtoiInnerAll
import Derived.Shelf.Strconv.RangeError
import Derived.Shelf.Strconv.ToErrorRange
import Derived.Shelf.Strconv.AtoiAll
import Derived.Shelf.Strings.Search1
import Derived.Shelf.Strings.Search2
import Derived.Shelf.Strings.Search3
import Derived.Shelf.Strings.Cut
import Derived.Shelf.Strings.Count
import Derived.Shelf.Strings.Shaped
import Derived.Shelf.Strings.Prefix
import Derived.Shelf.Strings.Split
import Derived.Shelf.Strings.Runes
import Derived.Shelf.Strings.AsciiSet
import Derived.Shelf.Bits.Mul64
import Derived.Shelf.Strings.Repeat
import Derived.Shelf.Unicode.DecodeSlow
import Derived.Test.YtenbmieafgdjaaaGreatDoorProg
import Derived.Lib.Walk
import Derived.Lib.ItoaMem
import Derived.WalkKit
import Derived.BigCall
import Derived.BigGuard
import Derived.Lib.AppendIntMem
import Derived.Lib.Builder
import Derived.Laws.Externs
import Derived.Shelf.RegionOpenPlain
/- Parts of a proof. -/
set_option linter.unusedSimpArgs false
set_option linter.unusedVariables false
set_option linter.unusedSectionVars false
open Go.Proofs.Tryz
open Array renaming size_replicate->ao, getElem?_append_left->ap
open Bool renaming and_eq_true->av, or_eq_true->ax, and_true->ay, not_eq_true'->aT, false_and->a1, and_false->a6
open Go renaming World->a7, Calls->a8
open Go.IntKind renaming i64->bb
open Go.Lib renaming decDigits->be, nDigits->bi, indexByte->bk, bitLen->bl, zeros24->bo, trimPrefix->bv, hasPrefix->b0, pow10Tab->b1, TabIs->b2, repeatL->b3, decDigits_length->b4, itoa->b5, atoiAll->cb
open Go.Oper renaming upon_value->cc
open Go.Proofs.Lays renaming n99->ce, n285->ck, n283->cv, n219->cx, n105->cy, n103->c6, n101->da
open Go.Shelf renaming Ren->db
open Go.Sort renaming grow->dg
open Go.Value renaming int->dl
open Int renaming ediv_emod_unique->dp, natAbs_mul->dq, emod_lt_of_pos->dz, emod_nonneg->ea, ediv_lt_of_lt_mul->eb, tmod_lt_of_pos->ec, natAbs_natCast->ed, lt_tmod_of_pos->ee, mul_ne_zero->ei, natAbs_neg->ej, mul_le_mul->em, ediv_one->en, mul_sub->eq, mul_neg->ew
open List renaming append_nil->e6, all_cons->e7, length_eq_zero_iff->e8, cons_append->e9, all_reverse->fb, dropLast_concat_getLast->fd, replicate->fl, map_cons->fm, length_cons->fv, all_eq_true->fK, head?_cons->gb, foldl_cons->gc, all_append->ge, mem_cons->gg, all_nil->gi
open Nat renaming pow_le_pow_right->gj, lt_of_lt_of_le->gm, le_refl->gt, lt_of_le_of_lt->gx, pow_pos->gy, pow_succ->g0, eq_zero_or_pos->g5, pow_add->g6, mod_eq_of_lt->g7, mul_comm->g8, lt_or_ge->g9, le_trans->ha, add_sub_cancel->hb, pow_zero->hd, pow_one->he, pow_mul->hg, gcd->hh, le_of_eq->hl, le_mul_of_pos_left->hm, beq->hn, le_div_iff_mul_le->ho, eq_of_beq_eq_true->hp, div_lt_iff_lt_mul->hr, mul_le_mul_right->ht, div_pos->hv, mul_le_mul_left->hy, mod_lt->hz, gcd_one_right->hA, div_eq_of_lt->hB, mul_assoc->hC, zero_add->hD, gcd_comm->hE, pow_two->hG
open Rat renaming divInt->hK, num_eq_zero->hL, not_lt->hM, lt_iff->hN
open UInt8 renaming toNat_inj->hO, ofNat->hP, toNat_ofNat'->hQ
namespace Go.al
open Go.Proofs
set_option maxHeartbeats 4000000
set_option maxRecDepth 100000
theorem mn{a b:NI}(h:a.v=b.v)(d:a.v= -9223372036854775808->a.m=b.m):eI a=eI b:=by
 by_cases c:a.v= -9223372036854775808
 ·have:=d c;cases a;cases b;dsimp only at h this;subst h this;rfl
 ·have e:a.sm=b.sm:=by
   simp only[NI.sm,h];rw[h]at c;simp[c]
  rw[iO,iO,e,h]
theorem Wz{a b:Int}(c:0<b):(a.tdiv b=a/b/\a.tmod b=a% b/\¬a.tmod b<0)\/(a.tdiv b-1=a/b/\a.tmod b+b=a% b/\a.tmod b<0/\a/b<0):=by
 have f:=Int.tmod_add_mul_tdiv a b;have g:=ee a c;have i:=ec a c
 by_cases h:a.tmod b<0
 ·right;have e:=(dp (a:=a) (r:=a.tmod b+b) (q:=a.tdiv b-1) c).2 ⟨by rw[eq];omega,by omega,by omega⟩;have j:a<0:=by
   rcases Int.lt_or_le a 0 with d|d
   ·exact d
   ·have:=Int.tmod_nonneg b d;omega
  have d:a/b<0:=eb c (by omega);omega
 ·left;have e:=(dp (a:=a) (r:=a.tmod b) (q:=a.tdiv b) c).2 ⟨by omega,by omega,by omega⟩;omega
theorem Yg{a b:Int}(c:0<b):((if a<0 then -((a.natAbs% b.natAbs:Nat):Int)else(a.natAbs% b.natAbs:Nat))<0/\a/b=(if a<0 then -((a.natAbs/b.natAbs:Nat):Int)else(a.natAbs/b.natAbs:Nat))-1/\a% b=(if a<0 then -((a.natAbs% b.natAbs:Nat):Int)else(a.natAbs% b.natAbs:Nat))+b)\/
 (¬(if a<0 then -((a.natAbs% b.natAbs:Nat):Int)else(a.natAbs% b.natAbs:Nat))<0/\a/b=(if a<0 then -((a.natAbs/b.natAbs:Nat):Int)else(a.natAbs/b.natAbs:Nat))/\a% b=(if a<0 then -((a.natAbs% b.natAbs:Nat):Int)else(a.natAbs% b.natAbs:Nat))):=by
 have e:((b.natAbs:Nat):Int)=b:=by omega
 have f:=Nat.mod_add_div a.natAbs b.natAbs;have g:=hz a.natAbs (show 0<b.natAbs by omega);have i:((a.natAbs% b.natAbs:Nat):Int)+b*(a.natAbs/b.natAbs:Nat)=(a.natAbs:Nat):=by
  rw[<-e,<-Int.natCast_mul,<-Int.natCast_add,e,f]
 generalize a.natAbs% b.natAbs=r at*;generalize a.natAbs/b.natAbs=q at*
 by_cases h:a<0
 ·simp only[if_pos h]
  by_cases j:r=0
  ·right;have d:=(dp (a:=a) (r:=0) (q:=-(q:Int)) c).2 ⟨by rw[ew];omega,by omega,by omega⟩;omega
  ·left;have d:=(dp (a:=a) (r:=-(r:Int)+b) (q:=-(q:Int)-1) c).2 ⟨by rw[eq,ew];omega,by omega,by omega⟩;omega
 ·simp only[if_neg h];right;have d:=(dp (a:=a) (r:=(r:Int)) (q:=(q:Int)) c).2 ⟨by omega,by omega,by omega⟩;omega
theorem Jx(a b:NI)(i:0<b.v)(M:okW a.v)(z:okW b.v):az prog 294 [eI a,eI b] (.aD [eI (a.div b),eI (a.mod b)]):=by
 have V:=nj (eI a) a.v (lE a);have hq:=nj (eI b) b.v (lE b);have af:=nh M;have ag:=nh z;have O:=Bs a.v.natAbs b.v.natAbs (by omega) (by omega) (by omega);refine aM nf LY mix (by simp[f294]) ?_;simp[f294,-br];rw[br];simp[-br];refine join (fun s=>aN s.env 2=.ptr 0 []/\aN s.env 3=.ptr 1 []/\aN s.env 4=.ptr 2 []/\aN s.env 5=.ptr 3 []/\s.heap=[.box false (.p (eI a)),.box false (.p (eI b)),.box false (.p (.st 129 [.int .i64 0,.aF])),.box false (.p (.st 129 [.int .i64 0,.aF]))]) ?_ ?_
 ·rcases hs:a.sm with _|_
  ·obtain⟨c,cs,l⟩:=nC hs;simp[ad,l,dh,cO]
  ·have l:=lB hs;rcases n:b.sm with _|_
   ·obtain⟨c,cs,m⟩:=nC n;simp[ad,l,m,dh,cO]
   ·have m:=lB n;have u:=mh hs;have w:=mh n;have al:=NI.oK hs;have am:=NI.oK n
    by_cases t:a.v= -9223372036854775808
    ·simp[ad,l,m,u,w,t,dh,cO]
    ·have r:¬b.v=0:=by omega
     have E:-9223372036854775808<a.v/b.v:=by
      have:=Int.le_ediv_of_mul_le (a:=-9223372036854775807) (b:=a.v) i (by omega);omega
     have F:a.v/b.v<9223372036854775808:=eb i (by omega);have G:=dz a.v i;have H:=ea a.v r;have J:eI (a.div b)=eP (a.v/b.v):=by rw[iO,if_pos (NI.yG E F)];rfl
     have f2:eI (a.mod b)=eP (a.v% b.v):=nG (by omega) (by omega);rw[J,f2];have aj:=ee a.v i;have ai:=ec a.v i;rcases Wz (a:=a.v) i with⟨d1,d2,d3⟩|⟨d1,d2,d3,d4⟩
     ·have q1:bb.wrap (a.v.tdiv b.v)=a.v/b.v:=by rw[d1];exact aI _ (by omega) (by omega)
      simp[ad,l,m,u,w,t,r,dh,cO,eP,d3,q1];exact d2.symm
     ·have q1:bb.wrap (bb.wrap (a.v.tdiv b.v)-1)=a.v/b.v:=by rw[aI (a.v.tdiv b.v) (by omega) (by omega),d1];exact aI _ (by omega) (by omega)
      have Z:bb.wrap (a.v.tmod b.v+b.v)=a.v% b.v:=by rw[d2];exact aI _ (by omega) (by omega)
      simp[ad,l,m,u,w,t,r,dh,cO,eP,d3,q1,Z]
 ·rintro⟨aa,ah⟩ ⟨d,e,f,g,A⟩;dsimp only at d e f g A;subst A;have S:(aq wB (a.v.natAbs/b.v.natAbs)).length<=900000:=by
   have:=dJ bh _ _ (gx (Nat.div_le_self a.v.natAbs b.v.natAbs) (cj bh a.v.natAbs));omega
  have T:(aq wB (a.v.natAbs% b.v.natAbs)).length<=900000:=by
   have:=dJ bh _ _ (gx (Nat.mod_le a.v.natAbs b.v.natAbs) (cj bh a.v.natAbs));omega
  have C:=uZ (decide (a.v<0)) (a.v.natAbs/b.v.natAbs) (by omega);have D:=uZ (decide (a.v<0)) (a.v.natAbs% b.v.natAbs) (by omega);have P:=Yg (a:=a.v) i;simp only[decide_eq_true_eq]at C D;have ak:=hz a.v.natAbs (show 0<b.v.natAbs by omega);generalize a.v.natAbs/b.v.natAbs=k at*;generalize a.v.natAbs% b.v.natAbs=j at*;have ae:-b.v<(if a.v<0 then -(j:Int)else(j:Int)):=by split<;>omega
  have L:a.v<0->(if a.v<0 then -(j:Int)else(j:Int))<=0:=fun h=>by rw[if_pos h];omega
  have X:okW (if a.v<0 then -(k:Int)else(k:Int)):=by rw[okW];split<;>simpa using S
  have Y:okW (if a.v<0 then -(j:Int)else(j:Int)):=by rw[okW];split<;>simpa using T
  have W:(if a.v<0 then -(k:Int)else(k:Int))= -9223372036854775808->a.v<0:=by split<;>omega
  generalize (if a.v<0 then -(k:Int)else(k:Int))=Q at*;generalize (if a.v<0 then -(j:Int)else(j:Int))=R at*;have y:=sA (.mk' R);simp only[NI.ig]at y;have G:=dz a.v i;have H:=ea a.v (show b.v≠0 by omega);simp[d,e,f,g];refine c1 V ?_;simp[d,e,f,g];refine c1 hq ?_;simp[d,e,f,g];refine c2 O ?_;simp;refine c2 C ?_;simp;refine c2 D ?_;simp[d,e,f,g,ad];refine c1 y ?_;rcases P with⟨d1,d2,d3⟩|⟨d1,d2,d3⟩
  ·have B:=C0 (.mk' Q) (.of 1) X (by rw[okW];decide);have N:=vp (.mk' R) b Y z;rw[sP (by decide) (by decide)]at B;have o:eI (a.div b)=eI ((NI.mk' Q).sub (.of 1)):=by
    refine mn (by rw[NI.Pw];exact d2) (fun h=>?_);have I:Q= -9223372036854775807:=by have:a.v/b.v= -9223372036854775808:=h;omega
    have U:¬a.v% b.v=0:=by omega
    subst I;show decide (a.v% b.v≠0)=_;simp[U];rfl
   have q:eI (a.mod b)=eI ((NI.mk' R).add b):=mn (by rw[NI.qE];exact d3) (fun h=>by have:a.v% b.v= -9223372036854775808:=h;omega);rw[o,q];simp[d,e,f,g,ad,d1];refine e1 (qK 1) ?_;simp[d,e,f,g,ad];refine e2 B ?_;simp[d,e,f,g,ad];refine e2 N ?_;simp[d,e,f,g,ad];exact⟨rfl,rfl⟩
  ·have o:eI (a.div b)=eI (.mk' Q):=by
    refine mn d2 (fun h=>?_);have ab:a.v/b.v= -9223372036854775808:=h;have ac:=L (W (by omega));have K:a.v% b.v=0:=by omega
    show decide (a.v% b.v≠0)=false;simp[K]
   have q:eI (a.mod b)=eI (.mk' R):=mn d3 (fun h=>by have:a.v% b.v= -9223372036854775808:=h;omega);rw[o,q]
   by_cases x:R=0
   ·simp[d,e,f,g,ad,x]
   ·simp[d,e,f,g,ad,d1,x]
theorem pQ{a b:Int}(h:okW b)(c:a.natAbs<=b.natAbs):okW a:=by
 have:=dJ bh _ _ (gx c (cj bh b.natAbs));have:=nh h;rw[okW];omega
theorem Nj(a b:NI)(e:0<b.v)(d:okW a.v)(f:okW b.v):az prog 254 [eI a,eI b] (eI (a.div b)):=by
 have c:=sA b;rw[if_neg (by omega),if_neg (by omega)]at c;refine aM nf LR mix (by simp[f254]) ?_;simp[f254];refine c1 c ?_;simp;refine c2 (Jx a b e d f) ?_;simp[ad]
 done
theorem NI.xX(a:NI):a.abs.v.natAbs=a.v.natAbs:=by
 rw[NI.abs];split
 ·rw[NI.ig,ej]
 ·rfl
theorem NI.M9(a:NI):0<=a.abs.v:=by
 rw[NI.abs];split
 ·rw[NI.ig];omega
 ·omega
def ey(a b:Int):Int:=(hh a.natAbs b.natAbs:Nat)
theorem Ng(a b:NI)(j:okW a.v)(k:okW b.v):az prog 253 [eI a,eI b] (eI (.mk' (ey a.v b.v))):=by
 refine aM nf LS mix (by simp[f253]) ?_;simp[f253];refine e1 (Nd a j) ?_;simp;refine e1 (Nd b k) ?_;simp[ad];refine⟨⟨rfl,rfl⟩,?_⟩;have n:ey a.abs.v b.abs.v=ey a.v b.v:=by rw[ey,ey,NI.xX,NI.xX]
 refine lp (α:=NI×NI) (fun x=>⟨[(4,.ptr 2 []),(3,.ptr 1 []),(2,.ptr 0 [])],[.box false (.p (eI x.1)),.box false (.p (eI x.2)),.box false (.p (.st 129 [.int .i64 0,.aF]))]⟩)
  (fun x=>0<=x.1.v/\0<=x.2.v/\okW x.1.v/\okW x.2.v/\ey x.1.v x.2.v=ey a.v b.v) (fun x=>x.2.v.toNat) (a.abs,b.abs) ⟨NI.M9 a,NI.M9 b,pQ j (hl (NI.xX a)),pQ k (hl (NI.xX b)),n⟩ ?_
 rintro⟨x,y⟩ ⟨l,g,i,c,f⟩;dsimp only at l g i c f;have d:=sA y
 by_cases e:y.v=0
 ·rw[if_neg (by omega),if_pos e]at d;have hx:eI (.mk' (ey a.v b.v))=eI x:=by
   refine mn ?_ (fun h=>?_)
   ·rw[NI.ig,<-f,e,ey];simp;omega
   ·rw[NI.ig,ey]at h;omega
  rw[hx];simp;refine c1 d ?_;simp[ad]
 ·rw[if_neg (by omega),if_neg e]at d;have q:=dz x.v (show 0<y.v by omega);have o:=ea x.v e;have m:(x.v% y.v).natAbs=x.v.natAbs% y.v.natAbs:=by
   have e1:(x.v.natAbs:Int)=x.v:=by omega
   have e2:(y.v.natAbs:Int)=y.v:=by omega
   have e3:((x.v.natAbs% y.v.natAbs:Nat):Int)=x.v% y.v:=by rw[Int.natCast_emod,e1,e2]
   omega
  simp;refine c1 d ?_;simp[ad];refine c2 (Jx x y (by omega) i c) ?_;simp[ad];refine⟨rfl,?_⟩;refine rd (y,x.mod y) ⟨g,o,c,pQ c (by show(x.v% y.v).natAbs<=_;omega),?_⟩ (by show(x.v% y.v).toNat<y.v.toNat;omega);show ey y.v (x.v% y.v)=_;rw[<-f,ey,ey,m,hE y.v.natAbs,<-Nat.gcd_rec,hE]
theorem aAS{o x k A:Nat}(hx:1<=x)(d:1<=o)(h:o*x^k=A)(hk:1<=k):o*x<=A/\(2<=k->x*x<=A):=by
 have a:x<=x^k:=by
  calc x=x^1:=(he x).symm
   _<=x^k:=gj hx hk
 refine⟨by rw[<-h];exact hy _ a,fun b=>?_⟩;have c:x*x<=x^k:=by
  calc x*x=x^2:=by rw[hG]
   _<=x^k:=gj hx b
 rw[<-h];exact ha c (hm _ d)
theorem W6(a:NI)(n A:Nat)(E:1<=a.v)(q:A=a.v.natAbs^n)(J:(aq wB A).length<=400000)(F:(aq wB a.v.natAbs).length<=400000)(K:n<=1000000):az prog 278 [eI a,.int .i64 n] (eI (.mk' A)):=by
 refine aM nf Ef mix (by simp[f278]) ?_;simp[f278];refine c1 (qK 1) ?_;rw[show eP 1=eI (.of 1)from(sP (by decide) (by decide)).symm];simp[ad];refine lp (α:=Nat×NI×NI) (fun s=>⟨[(1,.p (.int .i64 s.1)),(5,.ptr 2 []),(4,.ptr 1 []),(2,.ptr 0 [])],[.box false (.p (eI s.2.1)),.box false (.p (.st 129 [.int .i64 0,.aF])),.box false (.p (eI s.2.2))]⟩)
  (fun s=>s.1<=n/\1<=s.2.1.v/\1<=s.2.2.v/\(0<s.1->s.2.2.v.natAbs*s.2.1.v.natAbs^s.1=A)/\(s.1=0->s.2.2.v.natAbs=A)/\(aq wB s.2.1.v.natAbs).length<=400000) (fun s=>s.1) (n,a,.of 1) ⟨gt _,E,(by decide:(1:Int)<=1),fun _=>by rw[q];show(1:Int).natAbs*_=_;simp,fun h=>by have h:n=0:=h;rw[q,h,hd];rfl,F⟩ ?_
 rintro⟨k,x,o⟩ ⟨C,c,i,b,l,m⟩;dsimp only at C c i b l m
 by_cases k0:k=0
 ·subst k0;have e:eI (.mk' A)=eI o:=by
   refine mn ?_ (fun h=>?_)
   ·rw[NI.ig,<-l rfl];omega
   ·rw[NI.ig]at h;omega
  rw[e];simp[ad]
 have b:=b (by omega);have r:=aAS (o:=o.v.natAbs) (x:=x.v.natAbs) (by omega) (by omega) b (by omega);have d:bb.wrap (k% 2^bb.bits&&&1% 2^bb.bits:Nat)=(k% 2:Nat):=by
  rw[show(2^bb.bits:Nat)=18446744073709551616 from rfl,g7 (show k<18446744073709551616 by omega),show 1% 18446744073709551616=2^1-1 from rfl,Nat.and_two_pow_sub_one_eq_mod];exact aI _ (by omega) (by omega)
 have hs:(k:Int).fdiv (2^min 1 bb.bits)=(k/2:Nat):=by
  rw[show((2:Int)^min 1 bb.bits)=2 from rfl,Int.fdiv_eq_ediv_of_nonneg _ (by decide)];omega
 have j:0<k:=by omega
 have L:(aq wB o.v.natAbs).length<=400000:=by
  have D:o.v.natAbs<=A:=ha (Nat.le_mul_of_pos_right _ (show 0<x.v.natAbs by omega)) r.1;have:=dJ bh _ _ (gx D (cj bh A));omega
 have z:2<=k->(aq wB (x.v*x.v).natAbs).length<=400000:=fun h=>by
  have:=dJ bh _ _ (gx (r.2 h) (cj bh A));rw[dq];omega
 have y:(1:Int)<=o.v*x.v:=by
  have:=em i c (by decide) (by omega);omega
 have B:(1:Int)<=x.v*x.v:=by
  have:=em c c (by decide) (by omega);omega
 have u:=yN o x (by omega);have w:=yN x x (by omega);have g:x.v.natAbs^k=(x.v*x.v).natAbs^(k/2)*x.v.natAbs^(k% 2):=by
  rw[dq,<-hG,<-hg,<-g6,Nat.div_add_mod]
 by_cases H:k% 2=1
 ·rw[H,he]at g;have t:((k% 2:Nat):Int)=1:=by omega
  rw[t]at d
  by_cases k1:1<k
  ·have f:(1:Int)<k:=by omega
   simp[j,d];refine c2 u ?_;simp[ad,f];refine c2 w ?_;simp[ad,hs];refine rd (k/2,x.mul x,o.mul x) ⟨by omega,B,y,fun _=>?_,fun h=>by dsimp only at h;omega,z k1⟩ (by dsimp only;omega);rw[g]at b;show(o.v*x.v).natAbs*(x.v*x.v).natAbs^(k/2)=A;rw[<-b,dq o.v,g8 ((x.v*x.v).natAbs^(k/2)),hC]
  ·have f:¬(1:Int)<k:=by omega
   have G:k=1:=by omega
   simp[j,d];refine c2 u ?_;simp[ad,f,hs];refine rd (k/2,x,o.mul x) ⟨by omega,c,y,fun h=>by dsimp only at h;omega,fun _=>?_,m⟩ (by dsimp only;omega);subst G;rw[he]at b;show(o.v*x.v).natAbs=A;rw[<-b,dq]
 ·have I:k% 2=0:=by omega
  rw[I,hd,Nat.mul_one]at g;have t:¬((k% 2:Nat):Int)=1:=by omega
  rw[show((k% 2:Nat):Int)=0 by omega]at d;have f:(1:Int)<k:=by omega
  simp[j,d,f];refine c2 w ?_;simp[ad,hs];refine rd (k/2,x.mul x,o) ⟨by omega,B,i,fun _=>?_,fun h=>by dsimp only at h;omega,z (by omega)⟩ (by dsimp only;omega);show o.v.natAbs*(x.v*x.v).natAbs^(k/2)=A;rw[<-g,b]
theorem Xi(x:Nat)(hx:x<18446744073709551616):az prog 305 [.int .u64 x] (.int .i64 (bl x:Nat)):=by
 refine jr (iD func305 (by kernel_rfl)) fun w aa d _ _ c=>?_;obtain⟨a,rfl,b⟩:=xJ c;simp only[aA]at b;subst b;refine(bits_Len64 x w (by omega) (by omega)).mono ?_;rintro e w' ⟨rfl,rfl⟩;refine⟨_,rfl,⟨gt _,fun _ _=>rfl,rfl,rfl⟩,fun w aa=>?_⟩;simp only[aA];rfl
def nH(n:Nat):Nat:=if n=0 then 0 else 64*((aq wB n).length-1)+bl (ae wB n ((aq wB n).length-1))
theorem rF{n:Nat}:aq wB n=[]↔n=0:=by
 constructor
 ·intro h;have:=cj bh n;rw[h,List.length_nil,hd]at this;omega
 ·rintro rfl;exact kG
theorem JC(n:Nat):n<2^nH n:=by
 by_cases b:n=0
 ·subst b;exact gy (by decide)
 ·rw[nH,if_neg b];have e:=cj bh n;have j:0<(aq wB n).length:=by
   rcases g5 (aq wB n).length with h|h
   ·exact(b (rF.1 (e8.1 h))).elim
   ·exact h
  obtain⟨m,i⟩:∃m,(aq wB n).length=m+1:=⟨(aq wB n).length-1,by omega⟩
  rw[i]at e⊢;rw[hb];have d:n/wB^m<wB:=by
   rw[hr (gy (by decide)),g8,<-g0];exact e
  have f:ae wB n m=n/wB^m:=by rw[ae,g7 d]
  have g:0<n/wB^m:=by
   rcases g5 (n/wB^m)with h|h
   ·have c:n<wB^m:=by
     rcases g9 n (wB^m)with a|a
     ·exact a
     ·have:=hv a (gy (show 0<wB by decide));omega
    have:=dJ bh m n c;omega
   ·exact h
  have c:=xi (n/wB^m) (n/wB^m) (gt _) g d;rw[f,g6,hg];show n<wB^m*_;have a:n<(n/wB^m+1)*wB^m:=by
   rw[<-hr (gy (by decide))];omega
  rw[g8]at a;exact gm a (hy _ c.2.2)
theorem W3(a:NI)(l:okW a.v):az prog 286 [eI a] (.int .i64 (nH a.v.natAbs:Nat)):=by
 have b:=nj (eI a) a.v (lE a);refine aM nf Fk mix (by simp[f286]) ?_;have o:=nh l;have q:∀i(h:i<(aq wB a.v.natAbs).length),(aq wB a.v.natAbs)[i]=ae wB a.v.natAbs i:=fun i h=>eg bh h;have f:=cq (B:=wB) bh a.v.natAbs ((aq wB a.v.natAbs).length-1);have j:=Xi _ f;have A:=JC a.v.natAbs;have s:=rF (n:=a.v.natAbs)
 by_cases e:a.v.natAbs=0
 ·rw[e]at b⊢;simp only[eN,kG]at b;simp[f286];refine c1 b ?_;simp[nH]
 ·have k:=mt s.1 e;rw[nH,if_neg e];have p:bl (ae wB a.v.natAbs ((aq wB a.v.natAbs).length-1))<=64:=by
   rcases g5 (ae wB a.v.natAbs ((aq wB a.v.natAbs).length-1))with h|h
   ·rw[h];decide
   ·exact Nc h f
  simp only[eN]at b;generalize aq wB a.v.natAbs=x at*;obtain⟨m,d⟩:∃m,x.length=m+1:=⟨x.length-1,by cases x with|nil=>exact(k rfl).elim|cons c cs=>simp⟩
  rw[d,hb]at j p f;rw[d,hb];rw[d]at o;have hx:=q m (by omega);have t:x[m]?=some (ae wB a.v.natAbs m):=by rw[List.getElem?_eq_getElem (by omega),hx]
  have u:bb.wrap (m:Int)=m:=aI _ (by omega) (by omega);have w:bb.wrap (64*(m:Int))=64*m:=aI _ (by omega) (by omega);have y:bb.wrap (64*(m:Int)+(bl (ae wB a.v.natAbs m):Nat))=(64*m+bl (ae wB a.v.natAbs m):Nat):=by rw[aI _ (by omega) (by omega)];push_cast;rfl
  generalize bl (ae wB a.v.natAbs m)=g at*;have z:bb.wrap (64*(m:Int)+g)=64*m+g:=by rw[y];push_cast;rfl
  simp[f286];refine c1 b ?_;have r:¬((m:Int)+1=0):=by omega
  simp[k,d,u,w,t,hx,r];refine c1 j ?_;simp[z]
noncomputable def eF(a:NF):PV:=.st 131 [eI a.num,eI a.den]
@[simp] theorem aI7(a:NF):aL (eF a)=.agg 131:=rfl
@[simp] theorem aGO(a:NF):cB (eF a)=[eI a.num,eI a.den]:=rfl
@[simp] theorem aKg(n:Int):aL (eP n)=.agg 129:=rfl
@[simp] theorem aFu:prog.cellsOf 129=2:=by kernel_rfl
@[simp] theorem aFw:prog.cellsOf 131=4:=by kernel_rfl
theorem Kv:eP 1=eI (.mk' 1):=(nG (by decide) (by decide)).symm
def kB:Nat:=100000
theorem o8:kB<=3*kB:=hm _ (by decide)
theorem xA{n k:Nat}(h:n<2^k):(aq wB n).length<=k/64+1:=by
 refine dJ bh _ _ (gm h ?_);rw[show wB=2^64 from rfl,<-hg];exact gj (by decide) (by omega)
theorem gS{z:Int}{k:Nat}(h:z.natAbs<2^k)(hk:k<=3*kB):okW z:=by
 have:=xA h;have a:kB=100000:=rfl;rw[okW];omega
def NF.make(n d:NI):NF:=⟨hK n.v d.v,n.m&&decide (d.v=1)⟩
theorem A6(a:NF):az prog 187 [eF a] (.bool a.fk):=by
 refine aM nf EB mix (by simp[f187]) ?_;have f:a.den.v=a.q.den:=rfl;have h:=a.q.den_pos;rcases hs:a.den.sm with _|_
 ·obtain⟨c,cs,d⟩:=nC hs;have g:=NI.yn (a:=a.den) (by rw[hs];decide);have b:a.fk=false:=by rw[NF.fk,decide_eq_false_iff_not];omega
  simp[f187,ad,d,dh,cO,b]
 ·have d:=lB hs;have e:=mh hs;rw[f]at e;have b:a.fk=decide ((a.q.den:Int)=1):=by rw[NF.fk,decide_eq_decide];omega
  simp[f187,ad,d,e,dh,cO,b];rfl
theorem Ce(a:NI):az prog 170 [eI a] (eF (.whole a)):=by
 refine aM nf MZ mix (by simp[f170]) ?_;simp[f170];refine e1 (qK 1) ?_;have b:(NF.whole a).num=a:=by cases a;rfl
 have c:(NF.whole a).den=.mk' 1:=rfl;simp[ad,eF,b,c,Kv]
theorem sX(n:Int)(h:-9223372036854775808<=n)(b:n<=9223372036854775807):az prog 74 [.int .i64 n] (eF (.int n)):=by
 have a:=Ce (.of n);rw[sP h b]at a;refine aM nf OA mix (by simp[f74]) ?_;simp[f74];refine c1 (qK n) ?_;simp;refine c1 a ?_;simp[ad];exact Wk.refl _
theorem Cv(q:Rat):(if q<0 then(-1:Int)else if q=0 then 0 else 1)=if q.num<0 then -1 else if q.num=0 then 0 else 1:=by
 have a:q<0↔q.num<0:=by rw[<-Rat.not_le,<-Rat.num_nonneg];omega
 have b:q=0↔q.num=0:=hL.symm;simp only[a,b]
theorem Cc(a:NF):az prog 146 [eF a] (.int .i64 (if a.q<0 then -1 else if a.q=0 then 0 else 1)):=by
 have b:=sA a.num;refine aM nf My mix (by simp[f146]) ?_;simp[f146,ad];refine c1 b ?_;simp;exact Cv a.q
theorem yz(a:NF)(h:bL kB a.q):az prog 174 [eF a] (eF a.neg):=by
 have d:=sM a.num (gS h.1 o8);refine aM nf MV mix (by simp[f174]) ?_;simp[f174,ad];refine e1 d ?_;have b:a.neg.num=a.num.neg:=by show(⟨(-a.q).num,false⟩:NI)=⟨-a.q.num,false⟩;rw[Rat.neg_num]
 have c:a.neg.den=a.den:=by show(⟨((-a.q).den:Int),false⟩:NI)=⟨a.q.den,false⟩;rw[Rat.neg_den]
 simp[ad,eF,b,c]
theorem Tt{n d:NI}(j:0<d.v):(NI.mk' (ey n.v d.v)).v≠0/\0<ey n.v d.v/\(¬d.v=1->eI (n.div (.mk' (ey n.v d.v)))=eI (NF.make n d).num)/\eI (d.div (.mk' (ey n.v d.v)))=eI (NF.make n d).den:=by
 obtain⟨dn,e⟩:∃dn:Nat,d.v=dn:=⟨d.v.toNat,by omega⟩
 have f:dn≠0:=by omega
 obtain⟨e1,e2⟩:=kV (n:=n.v) f;have c:ey n.v d.v=(hh n.v.natAbs dn:Nat):=by rw[ey,e];rfl
 have k:0<hh n.v.natAbs dn:=Nat.gcd_pos_of_pos_right _ (by omega);have i:(hh n.v.natAbs dn:Int)∣n.v:=Int.ofNat_dvd_left.2 (Nat.gcd_dvd_left _ _);refine⟨by rw[NI.ig,c];omega,by rw[c];omega,fun g=>?_,?_⟩
 ·refine mn ?_ (fun _=>?_)
  ·show n.v/ey n.v d.v=(hK n.v d.v).num;rw[c,e,e1]
  ·show decide (n.v% ey n.v d.v≠0)=(n.m&&decide (d.v=1))
   rw[c,Int.emod_eq_zero_of_dvd i];simp[g]
 ·refine mn ?_ (fun h=>?_)
  ·show d.v/ey n.v d.v=((hK n.v d.v).den:Int)
   rw[c,e,e2];exact(Int.natCast_ediv _ _).symm
  ·have:d.v/ey n.v d.v= -9223372036854775808:=h;have:=Int.ediv_nonneg (a:=d.v) (b:=ey n.v d.v) (by omega) (by rw[c];omega);omega
theorem VQ{n d:NI}(a:d.v<0):NF.make n.neg d.neg=NF.make n d:=by
 rw[NF.make,NF.make];have e1:hK n.neg.v d.neg.v=hK n.v d.v:=Rat.neg_divInt_neg _ _;have e2:(n.neg.m&&decide (d.neg.v=1))=(n.m&&decide (d.v=1)):=by
  rw[show n.neg.m=false from rfl,a1,decide_eq_false (by omega),a6]
 rw[e1,e2]
theorem He(n:Int):(hK n 1).num=n/\(hK n 1).den=1:=by
 obtain⟨e1,e2⟩:=kV (n:=n) (show 1≠0 by decide);rw[hA]at e1 e2;refine⟨?_,?_⟩
 ·exact e1.trans (en n)
 ·exact e2
theorem CQ(n d:NI)(A:d.v≠0)(q:okW n.v)(o:okW d.v):az prog 189 [eI n,eI d] (eF (.make n d)):=by
 have i:=sA d;refine aM nf EA mix (by simp[f189]) ?_;simp[f189,-br];rw[br];simp[-br];refine join (fun s=>∃a d':NI,0<d'.v/\okW a.v/\okW d'.v/\NF.make a d'=NF.make n d/\aN s.env 2=.ptr 0 []/\aN s.env 3=.ptr 1 []/\aN s.env 4=.ptr 2 []/\s.heap=[.box false (.p (eI a)),.box false (.p (eI d')),.box false (.p (.st 131 [.st 129 [.int .i64 0,.aF],.st 129 [.int .i64 0,.aF]]))]) ?_ ?_
 ·by_cases l:d.v<0
  ·rw[if_pos l]at i;simp;refine c1 i ?_;simp;refine e1 (sM n q) ?_;simp;refine e1 (sM d o) ?_;simp[ad];exact⟨⟨rfl,rfl⟩,n.neg,d.neg,by rw[NI.Dr];omega,pQ q (by rw[NI.Dr];omega),pQ o (by rw[NI.Dr];omega),VQ l,rfl,rfl⟩
  ·rw[if_neg l,if_neg A]at i;simp;refine c1 i ?_;simp;exact⟨n,d,by omega,q,o,rfl,rfl,rfl⟩
 ·rintro⟨G,H⟩ ⟨a,d',F,y,r,z,b,e,f,u⟩;dsimp only at b e f u;subst u;rw[<-z];clear z i;have t:=Ng a d' y r;obtain⟨g1,g2,g3,g4⟩:=Tt (n:=a) F;have og:okW (ey a.v d'.v):=by
   refine pQ r ?_;rw[ey];exact ha (hl (ed _)) (Nat.gcd_le_right _ (by omega))
  have w:=Nj a (.mk' (ey a.v d'.v)) g2 y og;have x:=Nj d' (.mk' (ey a.v d'.v)) g2 r og
  by_cases hs:d'.v=1
  ·have g:d'.sm=true:=NI.yG (by omega) (by omega);have j:=lB g;have k:=mh g;rw[hs]at k;have C:eF (.make a d')=.st 131 [eI a,eI d']:=by
    rw[eF];have D:(NF.make a d').num=a:=by
     show(⟨(hK a.v d'.v).num,a.m&&decide (d'.v=1)⟩:NI)=a;rw[hs,(He _).1];simp
    have E:eI (NF.make a d').den=eI d':=by
     refine mn ?_ (fun h=>?_)
     ·show((hK a.v d'.v).den:Int)=d'.v;rw[hs,(He _).2];rfl
     ·have:((hK a.v d'.v).den:Int)= -9223372036854775808:=h;omega
    rw[D,E]
   rw[C];simp[b,e,f,ad,j,k,dh,cO]
   done
  ·rw[eF,<-g3 hs,<-g4];have B:(wI d'=.aF/\¬sI d'=1)\/∃c cs,wI d'=.seq (c::cs):=by
    rcases g:d'.sm with _|_
    ·exact .inr (nC g)
    ·exact .inl ⟨lB g,by rw[mh g];exact hs⟩
   rcases B with⟨j,k⟩|⟨c,cs,j⟩
   ·simp[b,e,f,ad,j,k,dh,cO];refine c2 t ?_;simp[b,e,f,ad];refine e2 w ?_;simp[b,e,f,ad];refine e2 x ?_;simp[b,e,f,ad]
    done
   ·simp[b,e,f,ad,j,dh,cO];refine c2 t ?_;simp[b,e,f,ad];refine e2 w ?_;simp[b,e,f,ad];refine e2 x ?_;simp[b,e,f,ad]
    done
theorem kF(a:NF):a.num.v=a.q.num:=rfl
theorem jg(a:NF):a.den.v=a.q.den:=rfl
theorem jK(a:NF):a.den.v.natAbs=a.q.den:=by rw[jg,ed]
theorem qA{x y:NI}{k l:Nat}(hx:x.v.natAbs<2^k)(a:y.v.natAbs<2^l)(h:k+l<=4*kB):az prog 190 [eI x,eI y] (eI (x.mul y)):=by
 have b:=xA hx;have c:=xA a;have d:kB=100000:=rfl;exact yN x y (by omega)
theorem n9{x y:Int}{k l:Nat}(hx:x.natAbs<2^k)(a:y.natAbs<2^l):(x*y).natAbs<2^(k+l):=by
 rw[dq,g6];exact Nat.mul_lt_mul'' hx a
theorem BR{n d:NI}{q:Rat}(m:Bool)(hq:hK n.v d.v=q)(a:(n.m&&decide (d.v=1))=m):NF.make n d=⟨q,m⟩:=by rw[NF.make,hq,a]
theorem VO(a b:NF):NF.make (a.num.mul b.num) (a.den.mul b.den)=a.mul b:=by
 refine BR _ ?_ rfl;rw[NI.lA,NI.lA,kF,kF,jg,jg,Rat.mul_def,Rat.normalize_eq_mkRat];rfl
theorem sd(a b:NF)(c:bL kB a.q)(d:bL kB b.q):az prog 172 [eF a,eF b] (eF (a.mul b)):=by
 have f:=qA (x:=a.num) (y:=b.num) c.1 d.1 (by omega);have g:=qA (x:=a.den) (y:=b.den) (by rw[jK];exact c.2) (by rw[jK];exact d.2) (by omega);have e:=CQ (a.num.mul b.num) (a.den.mul b.den) (by rw[NI.lA,jg,jg];have:=a.q.den_nz;have:=b.q.den_nz;exact ei (by omega) (by omega)) (gS (n9 c.1 d.1) (by omega)) (gS (n9 (x:=a.den.v) (y:=b.den.v) (by rw[jK];exact c.2) (by rw[jK];exact d.2)) (by omega));rw[VO]at e;refine aM nf MX mix (by simp[f172]) ?_;simp[f172,ad];refine e2 f ?_;simp[ad];refine e2 g ?_;simp[ad];refine e2 e ?_;simp[ad]
theorem V0(a:NF)(h:a.q≠0):NF.make a.den a.num=a.inv:=by
 refine BR _ ?_ rfl;rw[kF,jg];show hK a.q.den a.q.num=a.q⁻¹;rw[Rat.inv_def]
theorem JT(a:NF)(c:bL kB a.q)(b:a.q≠0):az prog 173 [eF a] (eF a.inv):=by
 have d:=CQ a.den a.num (by rw[kF];exact mt hL.1 b) (gS (by rw[jK];exact c.2) o8) (gS c.1 o8);rw[V0 a b]at d;refine aM nf MW mix (by simp[f173]) ?_;simp[f173,ad];refine c2 d ?_;simp[ad]
theorem Xe(a b:NF)(g:bL kB a.q)(c:bL kB b.q)(f:b.q≠0):az prog 75 [eF a,eF b] (eF (a.div b)):=by
 have h:=JT b c f;have d:=sd a b.inv g (aAc c);have e:a.mul b.inv=a.div b:=by
  rw[NF.mul,NF.div,NF.inv,Rat.div_def]
 rw[e]at d;refine aM nf OB mix (by simp[f75]) ?_;simp[f75,ad];refine e1 h ?_;simp[ad];refine e2 d ?_;simp[ad]
theorem Wx(a b:NF)(h:¬(a.fk=true/\b.fk=true)):NF.make ((a.num.mul b.den).add (b.num.mul a.den)) (a.den.mul b.den)=a.add b:=by
 have g:(a.fk&&b.fk)=false:=by simpa using h
 refine BR _ ?_ ?_
 ·rw[NI.qE,NI.lA,NI.lA,NI.lA,kF,kF,jg,jg,Rat.add_def'];rfl
 ·rw[g,a1];have:¬(a.den.mul b.den).v=1:=by
   intro c;rw[NI.lA,jg,jg]at c;have d:a.q.den*b.q.den=1:=by exact_mod_cast c
   have e:=Nat.eq_one_of_mul_eq_one_right d;have f:=Nat.eq_one_of_mul_eq_one_left d;exact h ⟨by rw[NF.fk];simp[e,f],by rw[NF.fk];simp[e,f]⟩
  rw[decide_eq_false this,a6]
theorem Kx{q:Rat}(h:q.den=1):(q.num:Rat)=q:=by
 apply Rat.ext
 ·rw[Rat.num_intCast]
 ·rw[Rat.den_intCast,h]
theorem vq(a b:NF)(j:bL kB a.q)(k:bL kB b.q):az prog 89 [eF a,eF b] (eF (a.add b)):=by
 have d:=A6 a;have n:=A6 b;refine aM nf OO mix (by simp[f89]) ?_
 by_cases hw:a.fk=true/\b.fk=true
 ·rw[hw.1]at d;rw[hw.2]at n;have l:=vp a.num b.num (gS j.1 o8) (gS k.1 o8);have g:=Ce (a.num.add b.num);have c:a.q.den=1:=by simpa[NF.fk]using hw.1
  have f:b.q.den=1:=by simpa[NF.fk]using hw.2
  have e:NF.whole (a.num.add b.num)=a.add b:=by
   rw[NF.whole,NF.add];have e1:(((a.num.add b.num).v:Int):Rat)=a.q+b.q:=by
    rw[NI.qE,kF,kF,Rat.intCast_add,Kx c,Kx f]
   have e2:(a.num.add b.num).m=(a.fk&&b.fk&&(a.num.sm&&b.num.sm)):=by rw[hw.1,hw.2];rfl
   rw[e1,e2]
  rw[e]at g;simp[f89,ad];refine c1 d ?_;simp[ad];refine c1 n ?_;simp[ad];refine c2 l ?_;simp[ad];refine c1 g ?_;simp[ad]
 ·have h:a.den.v.natAbs<2^kB:=by rw[jK];exact j.2
  have i:b.den.v.natAbs<2^kB:=by rw[jK];exact k.2
  have l:=qA (x:=a.num) (y:=b.den) j.1 i (by omega);have g:=qA (x:=b.num) (y:=a.den) k.1 h (by omega);have s:(a.num.mul b.den).v.natAbs<2^(kB+kB):=n9 j.1 i;have t:(b.num.mul a.den).v.natAbs<2^(kB+kB):=n9 k.1 h;have p:=vp _ _ (gS s (by omega)) (gS t (by omega));have r:=qA (x:=a.den) (y:=b.den) h i (by omega);have u:((a.num.mul b.den).add (b.num.mul a.den)).v.natAbs<2^(kB+kB+1):=by
   rw[NI.qE,g0];exact gx (Int.natAbs_add_le _ _) (by omega)
  have w:kB=100000:=rfl;have o:=CQ ((a.num.mul b.den).add (b.num.mul a.den)) (a.den.mul b.den) (by rw[NI.lA,jg,jg];have:=a.q.den_nz;have:=b.q.den_nz;exact ei (by omega) (by omega)) (gS u (by omega)) (gS (n9 (x:=a.den.v) (y:=b.den.v) h i) (by omega));rw[Wx a b hw]at o;have hc:a.fk=false\/(a.fk=true/\b.fk=false):=by
   rcases c:a.fk with _|_
   ·exact .inl rfl
   ·exact .inr ⟨rfl,by rcases f:b.fk with _|_;rfl;exact(hw ⟨c,f⟩).elim⟩
  rcases hc with c|⟨c,f⟩
  ·rw[c]at d;simp[f89,ad];refine c1 d ?_;simp[ad];refine e2 l ?_;simp[ad];refine e2 g ?_;simp[ad];refine e2 p ?_;simp[ad];refine e2 r ?_;simp[ad];refine e2 o ?_;simp[ad]
  ·rw[c]at d;rw[f]at n;simp[f89,ad];refine c1 d ?_;simp[ad];refine c1 n ?_;simp[ad];refine e2 l ?_;simp[ad];refine e2 g ?_;simp[ad];refine e2 p ?_;simp[ad];refine e2 r ?_;simp[ad];refine e2 o ?_;simp[ad]
theorem u3(a b:NF)(d:bL kB a.q)(c:bL kB b.q):az prog 191 [eF a,eF b] (eF (a.sub b)):=by
 have e:=yz b c;have f:=vq a b.neg d (sx c);refine aM nf Ez mix (by simp[f191]) ?_;simp[f191,ad];refine e1 e ?_;simp[ad];refine e2 f ?_;simp[ad];exact Wk.refl _
def eM(x y:Rat):Int:=if x<y then -1 else if x=y then 0 else 1
theorem aAq(a b:Rat):jB (a.num*b.den) (b.num*a.den)=eM a b:=by
 have c:a<b↔a.num*b.den<b.num*a.den:=hN _ _;have f:a=b↔a.num*b.den=b.num*a.den:=by
  constructor
  ·rintro rfl;rfl
  ·intro h
   by_cases d:a<b
   ·rw[c]at d;omega
   ·by_cases e:b<a
    ·have g:=(hN b a).1 e;omega
    ·exact Rat.le_antisymm (hM.1 e) (hM.1 d)
 simp only[jB,eM,c,f]
theorem sV(a b:NF)(c:bL kB a.q)(d:bL kB b.q):az prog 136 [eF a,eF b] (.int .i64 (eM a.q b.q)):=by
 have e:a.den.v.natAbs<2^kB:=by rw[jK];exact c.2
 have f:b.den.v.natAbs<2^kB:=by rw[jK];exact d.2
 have j:=qA (x:=a.num) (y:=b.den) c.1 f (by omega);have k:=qA (x:=b.num) (y:=a.den) d.1 e (by omega);have h:(a.num.mul b.den).v.natAbs<2^(kB+kB):=n9 c.1 f;have i:(b.num.mul a.den).v.natAbs<2^(kB+kB):=n9 d.1 e;have g:=Nf _ _ (gS h (by omega)) (gS i (by omega));rw[NI.lA,NI.lA,kF,kF,jg,jg,aAq]at g;refine aM nf Fw mix (by simp[f136]) ?_;simp[f136,ad];refine e2 j ?_;simp[ad];refine e2 k ?_;simp[ad];refine e2 g ?_;simp[ad]
def low:Nat->Nat->List Nat
 |0,_=>[]
 |i+1,n=>(48+n/10^i% 10)::low i n
def nd(n:Nat):Nat:=if h:n=0 then 0 else nd (n/10)+1
 decreasing_by omega
theorem nI:∀(i n:Nat),i<nd n↔10^i<=n
 |0,n=>by
  rw[nd];split
  ·subst n;simp
  ·simp;omega
 |i+1,n=>by
  rw[nd];split
  ·rename_i h;subst h;have:=gy (n:=i+1) (show 0<10 by omega);constructor
   ·intro h;omega
   ·intro h;omega
  ·have:=nI i (n/10);rw[ho (by omega),<-g0]at this;rw[<-this];omega
theorem pT(b n:Nat):∀a,low (a+b) n=low a (n/10^b)++low b n
 |0=>by simp[low]
 |a+1=>by
  rw[show a+1+b=(a+b)+1 by omega,low,low,pT b n a,Nat.div_div_eq_div_mul,<-g6,Nat.add_comm b a];rfl
theorem BS(n k:Nat):∀b,b<=k->low b (n% 10^k)=low b n
 |0,_=>rfl
 |b+1,h=>by
  have e:k=b+(k-b-1+1):=by omega
  have a:n% 10^k/10^b=n/10^b% 10^(k-b-1+1):=by
   conv=>lhs;rw[e,g6]
   rw[Nat.mod_mul_right_div_self]
  rw[low,low,BS n k b (by omega),a,Nat.mod_mod_of_dvd _ (Nat.pow_dvd_pow 10 (show 1<=k-b-1+1 by omega)|>fun h=>by simpa using h)]
theorem az4{n m:Nat}(h:∀i,i<nd n↔i<m):nd n=m:=by
 have a:=h m;have b:=h (nd n);omega
theorem Cy{n k:Nat}(h:10^k<=n):nd n=nd (n/10^k)+k:=by
 refine az4 fun i=>?_;rw[nI]
 by_cases hi:i<k
 ·have:=gj (show 0<10 by omega) (Nat.le_of_lt hi);constructor
  ·intro _;omega
  ·intro _;omega
 ·obtain⟨j,rfl⟩:∃j,i=j+k:=⟨i-k,by omega⟩
  rw[g6,<-ho (gy (by omega)),<-nI];omega
theorem qC{n k:Nat}(h:n<10^k):nd n<=k:=by
 rcases g9 k (nd n)with a|a
 ·rw[nI]at a;omega
 ·exact a
theorem yB{n:Nat}(h:0<n):0<nd n:=by rw[nI,hd];exact h
theorem VR{M:Nat}(h:10^9<=M):low (nd M) M=low (nd (M/10^9)) (M/10^9)++low 9 (M% 10^9):=by
 rw[Cy h,pT,BS _ _ _ (gt 9)]
theorem pS(n:Nat):∀i,(low i n).length=i
 |0=>rfl
 |i+1=>by simp[low,pS n i]
def bt(n:Nat):List Nat:=low (max 1 (nd n)) n
def cR(z:Int):List Nat:=if z<0 then 45::bt z.natAbs else bt z.natAbs
def bC(q:Rat):List Nat:=if q.den=1 then cR q.num else cR q.num++47::bt q.den
def aW(s:List Nat):Nat:=s.foldl (fun n c=>n*10+(c-48)) 0
def cm(c:Nat):Bool:=decide (48<=c)&&decide (c<=57)
theorem xl(s:List Nat)(c:Nat):aW (s++[c])=aW s*10+(c-48):=by simp[aW]
theorem rQ(i n:Nat):low (i+1) n=low i (n/10)++[48+n% 10]:=by
 have:=pT 1 n i;rw[this];simp[low]
theorem OZ:∀(i n:Nat),(low i n).all cm=true
 |0,n=>rfl
 |i+1,n=>by
  rw[low,e7,OZ i n];have:=hz (n/10^i) (show 0<10 by omega);simp[cm];omega
theorem Jb:∀(i n:Nat),aW (low i n)=n% 10^i
 |0,n=>by simp[low,aW,Nat.mod_one]
 |i+1,n=>by
  rw[rQ,xl,Jb i,g0,g8 (10^i),Nat.mod_mul];omega
theorem H3(n:Nat):n<10^nd n:=by
 rcases g9 n (10^nd n)with h|h
 ·exact h
 ·have:=(nI (nd n) n).2 h;omega
theorem xC(n:Nat):aW (bt n)=n:=by
 rw[bt,Jb];refine g7 (gm (H3 n) (gj (by omega) (by omega)))
theorem rU(n:Nat):(bt n).length=max 1 (nd n):=pS _ _
theorem u9(n:Nat):(bt n).all cm=true:=OZ _ _
theorem pF:bt 0=[48]:=by
 have:nd 0=0:=by rw[nd,dif_pos rfl]
 rw[bt,this];rfl
def dE(s:List Nat):Bool:=!s.isEmpty&&s.all cm&&(decide (s.head?≠some 48)||decide (s=[48]))
theorem jb:∀(k:Nat)(s:List Nat),s.length=k->s.all cm=true->aW s<10^k
 |0,s,h,_=>by
            have:s=[]:=e8.1 h
            subst this;simp[aW]
 |n+1,s,h,a=>by
  have b:s≠[]:=by intro e;subst e;simp at h
  obtain⟨t,c,rfl⟩:∃t c,s=t++[c]:=⟨s.dropLast,s.getLast b,(fd b).symm⟩
  simp only[ge,e7,gi,ay,av]at a;have d:=jb n t (by simpa using h) a.1;have hc:=a.2;simp only[cm,av,decide_eq_true_eq]at hc;rw[xl,g0];omega
theorem J2:∀(k:Nat)(s:List Nat),s.length=k->s.all cm=true->low k (aW s)=s
 |0,s,h,_=>by
            have:s=[]:=e8.1 h
            subst this;rfl
 |n+1,s,h,a=>by
  have b:s≠[]:=by intro e;subst e;simp at h
  obtain⟨t,c,rfl⟩:∃t c,s=t++[c]:=⟨s.dropLast,s.getLast b,(fd b).symm⟩
  simp only[ge,e7,gi,ay,av]at a;have d:=J2 n t (by simpa using h) a.1;have hc:=a.2;simp only[cm,av,decide_eq_true_eq]at hc;rw[rQ,xl];have e1:(aW t*10+(c-48))/10=aW t:=by omega
  have e2:(aW t*10+(c-48))% 10=c-48:=by omega
  rw[e1,e2,d];congr 2;omega
theorem Rz(c:Nat)(s:List Nat)(h:49<=c):10^s.length<=aW (c::s):=by
 have key:∀(s:List Nat)(a:Nat),a*10^s.length<=s.foldl (fun n c=>n*10+(c-48)) a:=by
  intro s
  induction s with
  |nil=>intro a;simp
  |cons x r b=>
   intro a;rw[gc,fv];refine ha ?_ (b _);rw[g0,g8 (10^r.length),<-hC];exact ht _ (by omega)
 have:=key s (c-48);rw[aW,gc,Nat.zero_mul,hD];refine ha ?_ this;have:1*10^s.length<=(c-48)*10^s.length:=ht _ (by omega);omega
theorem uS{s:List Nat}(h:dE s=true):bt (aW s)=s:=by
 simp only[dE,av,ax,decide_eq_true_eq,aT]at h;obtain⟨⟨f,a⟩,b⟩:=h;rcases b with b|rfl
 ·cases s with
  |nil=>simp at f
  |cons c r=>
   have hc:cm c=true:=by simpa using(e7.symm.trans a|>fun h=>by simpa using h:cm c=true/\r.all cm=true).1
   simp only[cm,av,decide_eq_true_eq]at hc;have i:49<=c:=by
    have:c≠48:=fun e=>b (by rw[e];rfl);omega
   have g:=jb _ _ rfl a;have j:=Rz c r i;have k:nd (aW (c::r))=r.length+1:=by
    have l:=(nI r.length _).2 j;have d:=qC g;rw[fv]at d;omega
   rw[bt,k,show max 1 (r.length+1)=r.length+1 by omega];exact J2 _ _ rfl a
 ·have:aW [48]=0:=rfl;rw[this,pF]
def b8(c:Nat):List Nat->List Nat×List Nat×Bool
 |[]=>([],[],false)
 |x::r=>if x=c then([],r,true)else(x::(b8 c r).1,(b8 c r).2.1,(b8 c r).2.2)
theorem HY(c:Nat):∀(a b:List Nat),c∉a->b8 c (a++c::b)=(a,b,true)
 |[],b,_=>by simp[b8]
 |x::a,b,h=>by
  simp only[gg,not_or]at h;rw[e9,b8,if_neg (fun e=>h.1 e.symm),HY c a b h.2]
theorem G2(c:Nat):∀(a:List Nat),c∉a->b8 c a=(a,[],false)
 |[],_=>rfl
 |x::a,h=>by
  simp only[gg,not_or]at h;rw[b8,if_neg (fun e=>h.1 e.symm),G2 c a h.2]
theorem oG(c:Nat):∀(s:List Nat),((b8 c s).2.2=true/\s=(b8 c s).1++c::(b8 c s).2.1)\/((b8 c s).2.2=false/\(b8 c s).1=s/\(b8 c s).2.1=[])
 |[]=>by simp[b8]
 |x::s=>by
  rw[b8]
  by_cases h:x=c
  ·subst h;simp
  ·rw[if_neg h];rcases oG c s with⟨a,b⟩|⟨a,b,d⟩
   ·left;exact⟨a,by dsimp only;rw[e9,<-b]⟩
   ·right;exact⟨a,by dsimp only;rw[b],d⟩
def bZ(s:List Nat):Bool:=decide (s.head?=some 45)
def cS(s:List Nat):List Nat:=if bZ s=true then s.tail else s
def bD(s:List Nat):List Nat:=(b8 47 (cS s)).1
def bM(s:List Nat):List Nat:=(b8 47 (cS s)).2.1
def dR(s:List Nat):Bool:=(b8 47 (cS s)).2.2
def kH(s:List Nat):Bool:=dE (bD s)&&!(bZ s&&decide (bD s=[48]))&&(!dR s||(dE (bM s)&&decide (bM s≠[48])&&decide (bM s≠[49])))
def bX(s:List Nat):Int:=
 if kH s=false then 1
 else if 600<(bD s).length\/600<(bM s).length then 4
 else if dR s=true/\hh (aW (bD s)) (aW (bM s))≠1 then 1 else 0
def aY(s:List Nat):Rat:=hK (if bZ s=true then -(aW (bD s):Int)else aW (bD s)) (if dR s=true then aW (bM s)else 1:Nat)
theorem PK{s:List Nat}(h:s.all cm=true){c:Nat}(hc:cm c=false):c∉s:=by
 intro a;rw[fK]at h;rw[h c a]at hc;cases hc
theorem iS{s:List Nat}(h:dE s=true):s.all cm=true:=by
 simp only[dE,av]at h;exact h.1.2
theorem tZ(n:Nat):cR (n:Int)=bt n:=by
 rw[cR,if_neg (by omega)];rfl
theorem aDy{n:Nat}(h:0<n):cR (-(n:Int))=45::bt n:=by
 rw[cR,if_pos (by omega)];congr 1;rw[ej];rfl
theorem xD{s:List Nat}(h:dE s=true)(a:s≠[48]):0<aW s:=by
 rcases g5 (aW s)with e|e
 ·have:=uS h;rw[e,pF]at this;exact(a this.symm).elim
 ·exact e
theorem iR{s:List Nat}(h:bX s=0):bC (aY s)=s/\(aY s).num=(if bZ s=true then -(aW (bD s):Int)else aW (bD s))/\(aY s).den=(if dR s=true then aW (bM s)else 1:Nat):=by
 unfold bX at h
 split at h
 ·cases h
 rename_i b
 split at h
 ·cases h
 split at h
 ·cases h
 rename_i g;have b:kH s=true:=by simpa using b
 simp only[kH,av,aT,Bool.and_eq_false_iff,decide_eq_false_iff_not,ax,decide_eq_true_eq]at b;obtain⟨⟨d,a2⟩,a3⟩:=b;have hs:s=(if bZ s=true then[45]else[])++cS s:=by
  rw[cS]
  by_cases a:bZ s=true
  ·rw[if_pos a,if_pos a];simp only[bZ,decide_eq_true_eq]at a;cases s with
   |nil=>simp at a
   |cons c r=>simp at a;subst a;rfl
  ·rw[if_neg a,if_neg a];rfl
 have i:(if dR s=true then aW (bM s)else 1:Nat)≠0:=by
  split
  ·rename_i hf;rcases a3 with a3|a3
   ·rw[hf]at a3;cases a3
   ·have:=xD a3.1.1 a3.1.2;omega
  ·omega
 have j:hh (if bZ s=true then -(aW (bD s):Int)else aW (bD s)).natAbs (if dR s=true then aW (bM s)else 1:Nat)=1:=by
  have e:(if bZ s=true then -(aW (bD s):Int)else aW (bD s)).natAbs=aW (bD s):=by split<;>omega
  rw[e]
  by_cases hf:dR s=true
  ·rw[if_pos hf];exact Decidable.not_not.1 fun e=>g ⟨hf,e⟩
  ·rw[if_neg hf,hA]
 obtain⟨e1,e2⟩:=kV (n:=if bZ s=true then -(aW (bD s):Int)else aW (bD s)) i;rw[j]at e1 e2;simp only[Nat.div_one]at e2;have e1:(aY s).num=(if bZ s=true then -(aW (bD s):Int)else aW (bD s)):=by rw[aY,e1];exact en _
 have e2:(aY s).den=(if dR s=true then aW (bM s)else 1:Nat):=e2;refine⟨?_,e1,e2⟩;have hI:cR (aY s).num=(if bZ s=true then[45]else[])++bD s:=by
  rw[e1]
  by_cases a:bZ s=true
  ·rw[if_pos a,if_pos a,aDy,uS d];·rfl
   refine xD d ?_;rcases a2 with a2|a2
   ·rw[a]at a2;cases a2
   ·exact a2
  ·rw[if_neg a,if_neg a,tZ,uS d];rfl
 rw[bC,hI,e2]
 by_cases hf:dR s=true
 ·have f:dE (bM s)=true/\bM s≠[48]/\bM s≠[49]:=by
   rcases a3 with a3|a3
   ·rw[hf]at a3;cases a3
   ·exact⟨a3.1.1,a3.1.2,a3.2⟩
  have k:aW (bM s)≠1:=by
   intro e;have:=uS f.1;rw[e]at this;have b:nd 1=1:=by rw[nd,dif_neg (by omega),nd,dif_pos (by omega)]
   have:bt 1=[49]:=by rw[bt,b];rfl
   exact f.2.2 (by rw[<-this];assumption|>Eq.symm)
  rw[if_pos hf,if_neg k,uS f.1]
  conv=>rhs;rw[hs]
  rw[List.append_assoc];congr 1;rcases oG 47 (cS s)with⟨g1,g2⟩|⟨g1,_⟩
  ·exact g2.symm
  ·rw[dR,g1]at hf;cases hf
 ·rw[if_neg hf,if_pos rfl]
  conv=>rhs;rw[hs]
  congr 1;rcases oG 47 (cS s)with⟨g1,g2⟩|⟨g1,g2,_⟩
  ·exact(hf g1).elim
  ·exact g2
theorem AB(z:Int)(r:List Nat):bZ (cR z++r)=decide (z<0)/\cS (cR z++r)=bt z.natAbs++r:=by
 by_cases h:z<0
 ·have:cR z=45::bt z.natAbs:=by rw[cR,if_pos h]
  rw[this];simp[bZ,cS,h]
 ·have e:cR z=bt z.natAbs:=by rw[cR,if_neg h]
  have a:=u9 z.natAbs;have b:=rU z.natAbs;rw[e];have d:bZ (bt z.natAbs++r)=false:=by
   cases f:bt z.natAbs with
   |nil=>rw[f]at b;simp at b;omega
   |cons c t=>
    rw[f]at a;simp only[e7,av]at a;have hc:=a.1;simp only[cm,av,decide_eq_true_eq]at hc;have:¬(some c=some 45):=by intro e;injection e with e;omega
    simp only[bZ,e9,gb,this,decide_false]
  exact⟨by rw[d];simp[h],by rw[cS,d];simp⟩
theorem uq(q:Rat):bZ (bC q)=decide (q.num<0)/\bD (bC q)=bt q.num.natAbs/\dR (bC q)=decide (q.den≠1)/\bM (bC q)=if q.den=1 then[]else bt q.den:=by
 have d:47∉bt q.num.natAbs:=PK (u9 _) rfl
 by_cases h:q.den=1
 ·have e:bC q=cR q.num++[]:=by rw[bC,if_pos h,e6]
  obtain⟨c,b⟩:=AB q.num [];rw[e6,e6]at b;have a:=G2 47 _ d;rw[<-b]at a;rw[e];refine⟨c,?_,?_,?_⟩
  ·rw[e6,bD,a,b]
  ·rw[e6,dR,a,h];rfl
  ·rw[e6,bM,a,if_pos h]
 ·have e:bC q=cR q.num++47::bt q.den:=by rw[bC,if_neg h]
  obtain⟨c,b⟩:=AB q.num (47::bt q.den);have a:=HY 47 _ (bt q.den) d;rw[<-b]at a;rw[e];refine⟨c,?_,?_,?_⟩
  ·rw[bD,a]
  ·rw[dR,a];simp[h]
  ·rw[bM,a,if_neg h]
theorem Jd(q:Rat):aY (bC q)=q:=by
 obtain⟨a,b,c,d⟩:=uq q;have e1:(if bZ (bC q)=true then -(aW (bD (bC q)):Int)else aW (bD (bC q)))=q.num:=by
  rw[a,b,xC]
  by_cases h:q.num<0
  ·simp[h];omega
  ·simp[h];omega
 have e2:(if dR (bC q)=true then aW (bM (bC q))else 1:Nat)=q.den:=by
  rw[c,d]
  by_cases h:q.den=1
  ·simp[h]
  ·simp[h,xC]
 rw[aY,e1,e2,Rat.num_divInt_den]
theorem aDE{a b:Rat}(h:bC a=bC b):a=b:=by rw[<-Jd a,h,Jd]
theorem tY{n k:Nat}(h:n<10^k)(hk:1<=k):(bt n).length<=k:=by
 rw[rU];have:=qC h;omega
theorem BP(z:Int):(cR z).length<=(bt z.natAbs).length+1:=by
 rw[cR];split<;>simp
theorem aDH(q:Rat):(bC q).length<=(bt q.num.natAbs).length+(bt q.den).length+2:=by
 have:=BP q.num;rw[bC];split<;>simp<;>omega
theorem SV(k:Nat):2^(3*k)<=10^k:=by
 rw[hg];exact Nat.pow_le_pow_left (by omega) k
theorem HC{n k:Nat}(h:n<2^(3*k))(hk:1<=k):(bt n).length<=k:=tY (gm h (SV k)) hk
theorem vt{n k K:Nat}(h:n<2^K)(a:K<=3*k)(hk:1<=k):(bt n).length<=k:=HC (gm h (gj (by decide) a)) hk
def mD:Nat:=600
theorem XH{s:List Nat}(h:bX s=0):(aY s).num.natAbs<10^mD/\(aY s).den<10^mD:=by
 obtain⟨k,f,g⟩:=iR h;unfold bX at h
 split at h
 ·cases h
 rename_i a
 split at h
 ·cases h
 rename_i l;have a:kH s=true:=by simpa using a
 simp only[kH,av,ax,decide_eq_true_eq]at a;obtain⟨⟨b,_⟩,a3⟩:=a;have c:=jb _ _ rfl (iS b);have i:10^(bD s).length<=10^mD:=gj (by omega) (by rw[mD];omega);refine⟨?_,?_⟩
 ·rw[f];have e:(if bZ s=true then -(aW (bD s):Int)else aW (bD s)).natAbs=aW (bD s):=by split<;>omega
  rw[e];exact gm c i
 ·rw[g]
  by_cases hf:dR s=true
  ·rw[if_pos hf];rcases a3 with a3|a3
   ·rw[hf]at a3;cases a3
   ·have d:=jb _ _ rfl (iS a3.1.1);have j:10^(bM s).length<=10^mD:=gj (by omega) (by rw[mD];omega);exact gm d j
  ·rw[if_neg hf];exact Nat.one_lt_pow (by decide) (by omega)
open Go
def cT(l:List UInt8):List Nat:=l.map (·.toNat)
theorem S4(l:List UInt8):(cT l).map hP=l:=by
 induction l with
 |nil=>rfl
 |cons a r b=>simp only[cT,fm]at b⊢;rw[b];simp
def mB(c:Nat):List Nat->Nat->Int
 |[],_=>-1
 |x::r,i=>bif hn x c then(i:Int)else mB c r (i+1)
theorem Kb(c:UInt8):∀(l:List UInt8)(i:Nat),mB c.toNat (cT l) i=if bk l c= -1 then -1 else bk l c+i
 |[],i=>by simp[mB,cT,bk]
 |x::r,i=>by
  have b:=Kb c r (i+1);simp only[cT]at b;simp only[cT,fm,mB,bk]
  by_cases hx:x=c
  ·subst hx;simp
  ·have e:hn x.toNat c.toNat=false:=by
    cases d:hn x.toNat c.toNat
    ·rfl
    ·exact(hx (hO.1 (hp d))).elim
   have f:=Lib.indexByte_ge r c;simp only[e,cond_false,b,beq_iff_eq,hx,if_false]
   by_cases a:bk r c= -1
   ·simp[a]
   ·rw[if_neg a,if_neg a];rw[if_neg (by omega)];omega
theorem Kc(c:Nat):∀(s:List Nat)(k:Nat),((b8 c s).2.2=false/\mB c s k= -1/\b8 c s=(s,[],false))\/
 ∃i,i<s.length/\mB c s k=((k+i:Nat):Int)/\b8 c s=(s.take i,s.drop (i+1),true)
 |[],k=>by simp[b8,mB]
 |x::r,k=>by
  rw[b8,mB]
  by_cases h:x=c
  ·subst h;right;refine⟨0,by simp,?_,?_⟩
   ·simp
   ·simp
  ·have d:hn x c=false:=by
    cases d:hn x c
    ·rfl
    ·exact(h (hp d)).elim
   rw[d,if_neg h,cond_false];rcases Kc c r (k+1)with⟨e,a,b⟩|⟨i,e,a,b⟩
   ·left;exact⟨e,a,by rw[b]⟩
   ·right;refine⟨i+1,by simp;omega,?_,?_⟩
    ·rw[a];congr 1;omega
    ·rw[b];simp
theorem CE(n:Nat):cT (be n)=bt n:=by
 induction n using Nat.strongRecOn with
 |ind n a=>
  rw[be]
  by_cases h:n<10
  ·rw[dif_pos h,bt];have c:nd n<=1:=qC (by omega);rw[show max 1 (nd n)=1 by omega];rw[show(1:Nat)=0+1 from rfl,rQ,low,List.nil_append,g7 h];simp[cT,hQ];omega
  ·rw[dif_neg h];have b:=a (n/10) (by omega);have e:nd n=nd (n/10)+1:=by
    have:=Cy (n:=n) (k:=1) (by omega);rw[he]at this;exact this
   have d:0<nd (n/10):=yB (by omega);rw[bt,e,show max 1 (nd (n/10)+1)=max 1 (nd (n/10))+1 by omega,rQ];have:cT (be (n/10)++[hP (48+n% 10)])=cT (be (n/10))++[48+n% 10]:=by
    simp[cT,hQ];omega
   rw[this,b,bt]
theorem ayV(z:Int):cT (b5 z)=cR z:=by
 rw[b5,cR]
 by_cases h:z<0
 ·rw[if_pos h,if_pos h];show 45::cT _=_;rw[CE]
 ·rw[if_neg h,if_neg h,CE];congr 1;omega
def qV(s:List Nat):Nat->List Nat
 |0=>[]
 |n+1=>s++qV s n
theorem Jr(s:List UInt8):∀n,qV (cT s) n=cT (b3 s n)
 |0=>by simp[qV,b3,cT]
 |n+1=>by
  have a:=Jr s n;simp only[cT]at a;simp[qV,b3,cT,a]
theorem Bh(c:Nat):∀n,qV [c] n=fl n c
 |0=>rfl
 |n+1=>by rw[qV,Bh c n];rfl
theorem AL(l:List UInt8):b0 l [45]=bZ (cT l):=by
 cases l with
 |nil=>rfl
 |cons c r=>
  rw[b0,bZ];simp only[cT,fm,List.isPrefixOf,gb,ay,Option.some.injEq]
  by_cases h:c=45
  ·subst h;rfl
  ·have a:¬c.toNat=45:=fun e=>h (hO.1 e);have b:((45:UInt8)==c)=false:=by simpa using fun e=>h e.symm
   rw[b];simp[a]
theorem GY(l:List UInt8):cT (bv l [45])=cS (cT l):=by
 rw[bv,AL,cS];cases h:bZ (cT l)
 ·simp
 ·cases l with
  |nil=>simp[cT,bZ]at h
  |cons c r=>simp[cT]
def kD(s:List Nat):List Nat:=s.dropWhile cm
def iH(s:List Nat):List Nat:=(s.reverse.dropWhile cm).reverse
theorem wJ{p:Nat->Bool}:∀{s:List Nat},s.dropWhile p=[]↔s.all p=true
 |[]=>by simp
 |x::r=>by
  rw[List.dropWhile_cons];cases h:p x
  ·simp[h]
  ·simp[h,wJ]
theorem TI(s:List Nat):kD (iH s)=[]↔s.all cm=true:=by
 rw[kD,wJ,iH];constructor
 ·intro h
  by_cases a:s.reverse.dropWhile cm=[]
  ·rw[wJ,fb]at a;exact a
  ·have b:=List.head_dropWhile_not cm a;rw[fb,fK]at h;rw[h _ (List.head_mem a)]at b;cases b
 ·intro h;have:s.reverse.dropWhile cm=[]:=by rw[wJ,fb];exact h
  rw[this];rfl
end Go.al
namespace Go.Proofs
open Go.Shelf
def Tryz.SP:db:=⟨fun|103=>270|210=>315|206=>318|n=>n,fun|9=>9|4=>4|24=>324|3=>3|n=>n,fun|n=>n⟩
theorem Tryz.azJ:c6 prog SP:={
 mixed:=by kernel_rfl
 f103:=func270.trans (congrArg some (by kernel_rfl))
 f206:=func318.trans (congrArg some (by kernel_rfl))
 f210:=func315.trans (congrArg some (by kernel_rfl))
 t3:=underlying3
 a3:=isAgg3
 z3:=sizeOf3
 v3:=zeroValue3
 t4:=underlying4
 a4:=isAgg4
 z4:=sizeOf4
 v4:=zeroValue4
 t9:=underlying9
 a9:=isAgg9
 z9:=sizeOf9
 v9:=zeroValue9
 t24:=underlying324
 a24:=isAgg324
 z24:=sizeOf324
 v24:=zeroValue324}
open Go.RowKit in
theorem Tryz.strings_CutPrefix(s p:ByteArray)(w:a7):
 a8 prog 270 #[.string s,.string p] w fun e w'=>e=.returned (.tuple #[.string ⟨(bv s.data.toList p.data.toList).toArray⟩,.bool (b0 s.data.toList p.data.toList)])/\w'=w:=Any.strings_CutPrefix azJ s p w
def Tryz.SK:db:=⟨fun|283=>323|n=>n,fun|3=>3|9=>9|4=>4|n=>n,fun|n=>n⟩
theorem Tryz.azV:cv prog SK:={
 mixed:=by kernel_rfl
 f283:=func323.trans (congrArg some (by kernel_rfl))
 t3:=underlying3
 a3:=isAgg3
 z3:=sizeOf3
 v3:=zeroValue3
 t4:=underlying4
 a4:=isAgg4
 z4:=sizeOf4
 v4:=zeroValue4
 t9:=underlying9
 a9:=isAgg9
 z9:=sizeOf9
 v9:=zeroValue9}
open Go.Lib in
theorem Tryz.internal_strconv_small(i:Nat)(h:i<100)(w:a7):
 a8 prog 323 #[.int .i64 i] w fun e w'=>e=.returned (.string ⟨(be i).toArray⟩)/\w'=w:=Any.internal_strconv_small azV i h w
def Tryz.R7:db:=⟨fun|284=>324|129=>305|317=>362|318=>363|n=>n,fun|53=>308|3=>3|212=>396|0=>0|4=>4|46=>322|5=>5|9=>9|n=>n,fun|17=>1|n=>n⟩
theorem Tryz.VU:Go.Proofs.LaysM.n284 prog R7:={
 mixed:=by kernel_rfl
 f129:=func305.trans (congrArg some (by kernel_rfl))
 f284:=func324.trans (congrArg some (by kernel_rfl))
 f317:=func362.trans (congrArg some (by kernel_rfl))
 f318:=func363.trans (congrArg some (by kernel_rfl))
 t0:=underlying0
 a0:=isAgg0
 z0:=sizeOf0
 v0:=zeroValue0
 t3:=underlying3
 a3:=isAgg3
 z3:=sizeOf3
 v3:=zeroValue3
 t4:=underlying4
 a4:=isAgg4
 z4:=sizeOf4
 v4:=zeroValue4
 t5:=underlying5
 a5:=isAgg5
 z5:=sizeOf5
 v5:=zeroValue5
 t9:=underlying9
 a9:=isAgg9
 z9:=sizeOf9
 v9:=zeroValue9
 t46:=underlying322
 a46:=isAgg322
 z46:=sizeOf322
 v46:=zeroValue322
 t53:=underlying308
 a53:=isAgg308
 z53:=sizeOf308
 v53:=zeroValue308
 t212:=underlying396
 a212:=isAgg396
 z212:=sizeOf396
 v212:=zeroValue396
 g17:=by kernel_rfl
 i0:=by kernel_rfl
 i3:=by kernel_rfl
 i4:=by kernel_rfl
 i5:=by kernel_rfl
 i9:=by kernel_rfl
 i46:=by kernel_rfl
 i53:=by kernel_rfl
 i212:=by kernel_rfl
 m17:=by kernel_rfl}
open Go.Lib in
theorem Tryz.internal_strconv_numDigits(u:Nat)(h1:1<=u)(h2:u<18446744073709551616)(w:a7)(htab:b2 prog w "internal/strconv.uint64pow10" .u64 b1):
 a8 prog 324 #[.int .u64 u] w fun e w'=>e=.returned (.int .i64 (bi u))/\w'=w:=Any.internal_strconv_numDigits VU u h1 h2 w htab
def Tryz.SJ:db:=⟨fun|285=>325|n=>n,fun|37=>225|53=>308|3=>3|4=>4|51=>354|9=>9|5=>5|0=>0|n=>n,fun|n=>n⟩
theorem Tryz.azW:ck prog SJ:={
 mixed:=by kernel_rfl
 f285:=func325.trans (congrArg some (by kernel_rfl))
 t0:=underlying0
 a0:=isAgg0
 z0:=sizeOf0
 v0:=zeroValue0
 t3:=underlying3
 a3:=isAgg3
 z3:=sizeOf3
 v3:=zeroValue3
 t4:=underlying4
 a4:=isAgg4
 z4:=sizeOf4
 v4:=zeroValue4
 t5:=underlying5
 a5:=isAgg5
 z5:=sizeOf5
 v5:=zeroValue5
 t9:=underlying9
 a9:=isAgg9
 z9:=sizeOf9
 v9:=zeroValue9
 t37:=underlying225
 a37:=isAgg225
 z37:=sizeOf225
 v37:=zeroValue225
 t51:=underlying354
 a51:=isAgg354
 z51:=sizeOf354
 v51:=zeroValue354
 t53:=underlying308
 a53:=isAgg308
 z53:=sizeOf308
 v53:=zeroValue308}
open Go.RowKit Go.Sort Go.Lib in
theorem Tryz.internal_strconv_formatBase10(ak off cap:Nat)(u:Nat)(d:Array UInt8)(w:a7)(hH:Holds (fun(b:UInt8)=>dl .u8 (b.toNat:Int)) w ak off d)(hu:u<10^d.size)(hu64:u<18446744073709551616)(hsz:d.size<4611686018427387904):
 a8 prog 325 #[.slice (some ⟨ak,off,none⟩) d.size cap,.int .u64 u] w fun e w'=>
  e=.returned (.tuple #[])/\∃(n v':Nat)(dk:Array UInt8),w'=(putRow (fun(b:UInt8)=>dl .u8 (b.toNat:Int)) w ak off dk).drewN n/\FmtInv d.size u 0 v' dk:=Any.internal_strconv_formatBase10 azW ak off cap u d w hH hu hu64 hsz
def Tryz.RQ:db:=⟨fun|171=>152|243=>228|246=>281|283=>323|284=>324|285=>325|286=>326|129=>305|317=>362|318=>363|319=>364|320=>365|337=>380|338=>381|n=>n,fun|3=>3|9=>9|2=>2|4=>4|171=>362|0=>0|53=>308|37=>225|5=>5|173=>364|212=>396|51=>354|20=>20|213=>397|46=>322|232=>420|233=>421|n=>n,fun|17=>1|18=>6|19=>7|n=>n⟩
theorem Tryz.VV:Go.Proofs.LaysM.n171 prog RQ:={
 mixed:=by kernel_rfl
 f129:=func305.trans (congrArg some (by kernel_rfl))
 f171:=func152.trans (congrArg some (by kernel_rfl))
 f243:=func228.trans (congrArg some (by kernel_rfl))
 f246:=func281.trans (congrArg some (by kernel_rfl))
 f283:=func323.trans (congrArg some (by kernel_rfl))
 f284:=func324.trans (congrArg some (by kernel_rfl))
 f285:=func325.trans (congrArg some (by kernel_rfl))
 f286:=func326.trans (congrArg some (by kernel_rfl))
 f317:=func362.trans (congrArg some (by kernel_rfl))
 f318:=func363.trans (congrArg some (by kernel_rfl))
 f319:=func364.trans (congrArg some (by kernel_rfl))
 f320:=func365.trans (congrArg some (by kernel_rfl))
 f337:=func380.trans (congrArg some (by kernel_rfl))
 f338:=func381.trans (congrArg some (by kernel_rfl))
 t0:=underlying0
 a0:=isAgg0
 z0:=sizeOf0
 v0:=zeroValue0
 t2:=underlying2
 a2:=isAgg2
 z2:=sizeOf2
 v2:=zeroValue2
 t3:=underlying3
 a3:=isAgg3
 z3:=sizeOf3
 v3:=zeroValue3
 t4:=underlying4
 a4:=isAgg4
 z4:=sizeOf4
 v4:=zeroValue4
 t5:=underlying5
 a5:=isAgg5
 z5:=sizeOf5
 v5:=zeroValue5
 t9:=underlying9
 a9:=isAgg9
 z9:=sizeOf9
 v9:=zeroValue9
 t20:=underlying20
 a20:=isAgg20
 z20:=sizeOf20
 v20:=zeroValue20
 t37:=underlying225
 a37:=isAgg225
 z37:=sizeOf225
 v37:=zeroValue225
 t46:=underlying322
 a46:=isAgg322
 z46:=sizeOf322
 v46:=zeroValue322
 t51:=underlying354
 a51:=isAgg354
 z51:=sizeOf354
 v51:=zeroValue354
 t53:=underlying308
 a53:=isAgg308
 z53:=sizeOf308
 v53:=zeroValue308
 t171:=underlying362
 a171:=isAgg362
 z171:=sizeOf362
 v171:=zeroValue362
 t173:=underlying364
 a173:=isAgg364
 z173:=sizeOf364
 v173:=zeroValue364
 t212:=underlying396
 a212:=isAgg396
 z212:=sizeOf396
 v212:=zeroValue396
 t213:=underlying397
 a213:=isAgg397
 z213:=sizeOf397
 t232:=underlying420
 a232:=isAgg420
 z232:=sizeOf420
 v232:=zeroValue420
 t233:=underlying421
 a233:=isAgg421
 z233:=sizeOf421
 v233:=zeroValue421
 g17:=by kernel_rfl
 g18:=by kernel_rfl
 g19:=by kernel_rfl
 i0:=by kernel_rfl
 i2:=by kernel_rfl
 i3:=by kernel_rfl
 i4:=by kernel_rfl
 i5:=by kernel_rfl
 i9:=by kernel_rfl
 i20:=by kernel_rfl
 i37:=by kernel_rfl
 i46:=by kernel_rfl
 i51:=by kernel_rfl
 i53:=by kernel_rfl
 i171:=by kernel_rfl
 i173:=by kernel_rfl
 i212:=by kernel_rfl
 i232:=by kernel_rfl
 i233:=by kernel_rfl
 m17:=by kernel_rfl
 m18:=by kernel_rfl
 m19:=by kernel_rfl}
open Go.RowKit Go.Sort Go.Lib in
theorem Tryz.strconv_Itoa(n:Int)(h0: -9223372036854775808<=n)(h1:n<=9223372036854775807)(w:a7)(htab:b2 prog w "internal/strconv.uint64pow10" .u64 b1):
 a8 prog 152 #[.int .i64 n] w fun e w'=>e=.returned (.string ⟨(b5 n).toArray⟩)/\∃k os,w'=grow (w.drewN k) os:=Any.strconv_Itoa VV n h0 h1 w htab
def Tryz.RR:db:=⟨fun|172=>277|244=>320|245=>321|247=>356|279=>357|280=>358|281=>359|282=>360|287=>377|316=>378|171=>152|205=>379|321=>385|322=>386|243=>228|246=>281|283=>323|284=>324|285=>325|286=>326|129=>305|317=>362|318=>363|319=>364|320=>365|337=>380|338=>381|n=>n,fun|9=>9|3=>3|75=>229|76=>230|4=>4|5=>5|167=>388|37=>225|0=>0|85=>389|2=>2|168=>391|53=>308|175=>409|46=>322|210=>413|127=>330|145=>419|143=>417|21=>21|171=>362|173=>364|212=>396|51=>354|20=>20|213=>397|232=>420|233=>421|80=>288|n=>n,fun|15=>4|16=>5|17=>1|18=>6|19=>7|n=>n⟩
theorem Tryz.VW:Go.Proofs.LaysC.n172 prog RR:={
 mixed:=by kernel_rfl
 f129:=func305.trans (congrArg some (by kernel_rfl))
 f171:=func152.trans (congrArg some (by kernel_rfl))
 f172:=func277.trans (congrArg some (by kernel_rfl))
 f205:=func379.trans (congrArg some (by kernel_rfl))
 f243:=func228.trans (congrArg some (by kernel_rfl))
 f244:=func320.trans (congrArg some (by kernel_rfl))
 f245:=func321.trans (congrArg some (by kernel_rfl))
 f246:=func281.trans (congrArg some (by kernel_rfl))
 f247:=func356.trans (congrArg some (by kernel_rfl))
 f279:=func357.trans (congrArg some (by kernel_rfl))
 f280:=func358.trans (congrArg some (by kernel_rfl))
 f281:=func359.trans (congrArg some (by kernel_rfl))
 f282:=func360.trans (congrArg some (by kernel_rfl))
 f283:=func323.trans (congrArg some (by kernel_rfl))
 f284:=func324.trans (congrArg some (by kernel_rfl))
 f285:=func325.trans (congrArg some (by kernel_rfl))
 f286:=func326.trans (congrArg some (by kernel_rfl))
 f287:=func377.trans (congrArg some (by kernel_rfl))
 f316:=func378.trans (congrArg some (by kernel_rfl))
 f317:=func362.trans (congrArg some (by kernel_rfl))
 f318:=func363.trans (congrArg some (by kernel_rfl))
 f319:=func364.trans (congrArg some (by kernel_rfl))
 f320:=func365.trans (congrArg some (by kernel_rfl))
 f321:=func385.trans (congrArg some (by kernel_rfl))
 f322:=func386.trans (congrArg some (by kernel_rfl))
 f337:=func380.trans (congrArg some (by kernel_rfl))
 f338:=func381.trans (congrArg some (by kernel_rfl))
 t0:=underlying0
 a0:=isAgg0
 z0:=sizeOf0
 v0:=zeroValue0
 t2:=underlying2
 a2:=isAgg2
 z2:=sizeOf2
 v2:=zeroValue2
 t3:=underlying3
 a3:=isAgg3
 z3:=sizeOf3
 v3:=zeroValue3
 t4:=underlying4
 a4:=isAgg4
 z4:=sizeOf4
 v4:=zeroValue4
 t5:=underlying5
 a5:=isAgg5
 z5:=sizeOf5
 v5:=zeroValue5
 t9:=underlying9
 a9:=isAgg9
 z9:=sizeOf9
 v9:=zeroValue9
 t20:=underlying20
 a20:=isAgg20
 z20:=sizeOf20
 v20:=zeroValue20
 t21:=underlying21
 a21:=isAgg21
 z21:=sizeOf21
 v21:=zeroValue21
 t37:=underlying225
 a37:=isAgg225
 z37:=sizeOf225
 v37:=zeroValue225
 t46:=underlying322
 a46:=isAgg322
 z46:=sizeOf322
 v46:=zeroValue322
 t51:=underlying354
 a51:=isAgg354
 z51:=sizeOf354
 v51:=zeroValue354
 t53:=underlying308
 a53:=isAgg308
 z53:=sizeOf308
 v53:=zeroValue308
 t75:=underlying229
 a75:=isAgg229
 z75:=sizeOf229
 v75:=zeroValue229
 t76:=underlying230
 a76:=isAgg230
 z76:=sizeOf230
 v76:=zeroValue230
 t85:=underlying389
 a85:=isAgg389
 z85:=sizeOf389
 v85:=zeroValue389
 t127:=underlying330
 a127:=isAgg330
 z127:=sizeOf330
 v127:=zeroValue330
 t143:=underlying417
 a143:=isAgg417
 z143:=sizeOf417
 v143:=zeroValue417
 t145:=underlying419
 a145:=isAgg419
 z145:=sizeOf419
 v145:=zeroValue419
 t167:=underlying388
 a167:=isAgg388
 z167:=sizeOf388
 v167:=zeroValue388
 t168:=underlying391
 a168:=isAgg391
 z168:=sizeOf391
 v168:=zeroValue391
 t171:=underlying362
 a171:=isAgg362
 z171:=sizeOf362
 v171:=zeroValue362
 t173:=underlying364
 a173:=isAgg364
 z173:=sizeOf364
 v173:=zeroValue364
 t175:=underlying409
 a175:=isAgg409
 z175:=sizeOf409
 v175:=zeroValue409
 t210:=underlying413
 a210:=isAgg413
 z210:=sizeOf413
 v210:=zeroValue413
 t212:=underlying396
 a212:=isAgg396
 z212:=sizeOf396
 v212:=zeroValue396
 t213:=underlying397
 a213:=isAgg397
 z213:=sizeOf397
 t232:=underlying420
 a232:=isAgg420
 z232:=sizeOf420
 v232:=zeroValue420
 t233:=underlying421
 a233:=isAgg421
 z233:=sizeOf421
 v233:=zeroValue421
 g15:=by kernel_rfl
 g16:=by kernel_rfl
 g17:=by kernel_rfl
 g18:=by kernel_rfl
 g19:=by kernel_rfl
 t80:=underlying288
 a80:=isAgg288
 z80:=sizeOf288
 v80:=zeroValue288
 i0:=by kernel_rfl
 i2:=by kernel_rfl
 i3:=by kernel_rfl
 i4:=by kernel_rfl
 i5:=by kernel_rfl
 i9:=by kernel_rfl
 i20:=by kernel_rfl
 i21:=by kernel_rfl
 i37:=by kernel_rfl
 i46:=by kernel_rfl
 i51:=by kernel_rfl
 i53:=by kernel_rfl
 i75:=by kernel_rfl
 i76:=by kernel_rfl
 i80:=by kernel_rfl
 i85:=by kernel_rfl
 i127:=by kernel_rfl
 i143:=by kernel_rfl
 i145:=by kernel_rfl
 i167:=by kernel_rfl
 i168:=by kernel_rfl
 i171:=by kernel_rfl
 i173:=by kernel_rfl
 i175:=by kernel_rfl
 i210:=by kernel_rfl
 i212:=by kernel_rfl
 i232:=by kernel_rfl
 i233:=by kernel_rfl
 m15:=by kernel_rfl
 m16:=by kernel_rfl
 m17:=by kernel_rfl
 m18:=by kernel_rfl
 m19:=by kernel_rfl
 c0:=by kernel_rfl
 c2:=by kernel_rfl
 c3:=by kernel_rfl
 c4:=by kernel_rfl
 c5:=by kernel_rfl
 c9:=by kernel_rfl
 c20:=by kernel_rfl
 c21:=by kernel_rfl
 c37:=by kernel_rfl
 c46:=by kernel_rfl
 c51:=by kernel_rfl
 c53:=by kernel_rfl
 c75:=by kernel_rfl
 c76:=by kernel_rfl
 c80:=by kernel_rfl
 c85:=by kernel_rfl
 c127:=by kernel_rfl
 c143:=by kernel_rfl
 c145:=by kernel_rfl
 c167:=by kernel_rfl
 c168:=by kernel_rfl
 c171:=by kernel_rfl
 c173:=by kernel_rfl
 c175:=by kernel_rfl
 c210:=by kernel_rfl
 c212:=by kernel_rfl
 c213:=by kernel_rfl
 c232:=by kernel_rfl
 c233:=by kernel_rfl}
open Go.RowKit in
theorem Tryz.strconv_Atoi_ok(s:ByteArray)(hmax:s.size<=9223372036854775806)(v:Int)(h:cb s.data.toList= .ok v)(w:a7):
 a8 prog 277 #[.string s] w fun e w'=>e=.returned (.tuple #[.int .i64 v,.nilIface])/\(w'=w\/∃t,w'=Lib.bytesWorld w 5 t):=Any.strconv_Atoi_ok VW s hmax v h w
def Tryz.SM:db:=⟨fun|219=>317|217=>352|225=>353|224=>354|267=>355|266=>375|314=>376|n=>n,fun|9=>9|3=>3|4=>4|5=>5|46=>322|146=>400|51=>354|n=>n,fun|1=>0|n=>n⟩
theorem Tryz.azQ:cx prog SM:={
 mixed:=by kernel_rfl
 f217:=func352.trans (congrArg some (by kernel_rfl))
 f219:=func317.trans (congrArg some (by kernel_rfl))
 f224:=func354.trans (congrArg some (by kernel_rfl))
 f225:=func353.trans (congrArg some (by kernel_rfl))
 f266:=func375.trans (congrArg some (by kernel_rfl))
 f267:=func355.trans (congrArg some (by kernel_rfl))
 f314:=func376.trans (congrArg some (by kernel_rfl))
 t3:=underlying3
 a3:=isAgg3
 z3:=sizeOf3
 v3:=zeroValue3
 t4:=underlying4
 a4:=isAgg4
 z4:=sizeOf4
 v4:=zeroValue4
 t5:=underlying5
 a5:=isAgg5
 z5:=sizeOf5
 v5:=zeroValue5
 t9:=underlying9
 a9:=isAgg9
 z9:=sizeOf9
 v9:=zeroValue9
 t46:=underlying322
 a46:=isAgg322
 z46:=sizeOf322
 v46:=zeroValue322
 t51:=underlying354
 a51:=isAgg354
 z51:=sizeOf354
 v51:=zeroValue354
 t146:=underlying400
 a146:=isAgg400
 z146:=sizeOf400
 v146:=zeroValue400
 g1:=by kernel_rfl}
open Go.RowKit Go.Lib in
theorem Tryz.stringslite_Index_one(s:ByteArray)(c:UInt8)(w:a7):
 a8 prog 317 #[.string s,.string ⟨#[c]⟩] w fun e w'=>e=.returned (.int .i64 (bk s.data.toList c))/\w'=w:=Any.stringslite_Index_one azQ s c w
def Tryz.Ty:db:=⟨fun|99=>275|206=>318|n=>n,fun|9=>9|4=>4|3=>3|n=>n,fun|n=>n⟩
theorem Tryz.azX:ce prog Ty:={
 mixed:=by kernel_rfl
 f99:=func275.trans (congrArg some (by kernel_rfl))
 f206:=func318.trans (congrArg some (by kernel_rfl))
 t3:=underlying3
 a3:=isAgg3
 z3:=sizeOf3
 v3:=zeroValue3
 t4:=underlying4
 a4:=isAgg4
 z4:=sizeOf4
 v4:=zeroValue4
 t9:=underlying9
 a9:=isAgg9
 z9:=sizeOf9
 v9:=zeroValue9}
open Go.RowKit Go.Lib in
theorem Tryz.strings_HasPrefix(s p:ByteArray)(w:a7):
 a8 prog 275 #[.string s,.string p] w fun e w'=>e=.returned (.bool (b0 s.data.toList p.data.toList))/\w'=w:=Any.strings_HasPrefix azX s p w
def Tryz.SQ:db:=⟨fun|101=>276|208=>319|206=>318|n=>n,fun|9=>9|4=>4|3=>3|n=>n,fun|n=>n⟩
theorem Tryz.azI:da prog SQ:={
 mixed:=by kernel_rfl
 f101:=func276.trans (congrArg some (by kernel_rfl))
 f206:=func318.trans (congrArg some (by kernel_rfl))
 f208:=func319.trans (congrArg some (by kernel_rfl))
 t3:=underlying3
 a3:=isAgg3
 z3:=sizeOf3
 v3:=zeroValue3
 t4:=underlying4
 a4:=isAgg4
 z4:=sizeOf4
 v4:=zeroValue4
 t9:=underlying9
 a9:=isAgg9
 z9:=sizeOf9
 v9:=zeroValue9}
open Go.RowKit Go.Lib in
theorem Tryz.strings_TrimPrefix(s p:ByteArray)(w:a7):
 a8 prog 276 #[.string s,.string p] w fun e w'=>e=.returned (.string ⟨(bv s.data.toList p.data.toList).toArray⟩)/\w'=w:=Any.strings_TrimPrefix azI s p w
def Tryz.GK:db:=⟨fun|105=>289|212=>335|99=>275|165=>280|166=>150|170=>229|169=>230|263=>369|264=>255|206=>318|240=>226|241=>322|276=>279|277=>361|n=>n,fun|9=>9|3=>3|4=>4|20=>20|0=>0|46=>322|109=>369|5=>5|72=>227|76=>230|51=>354|146=>400|53=>308|148=>309|70=>224|37=>225|75=>229|127=>330|164=>326|80=>288|n=>n,fun|n=>n⟩
theorem Tryz.azK:cy prog GK:={
 mixed:=by kernel_rfl
 f99:=func275.trans (congrArg some (by kernel_rfl))
 f105:=func289.trans (congrArg some (by kernel_rfl))
 f165:=func280.trans (congrArg some (by kernel_rfl))
 f166:=func150.trans (congrArg some (by kernel_rfl))
 f169:=func230.trans (congrArg some (by kernel_rfl))
 f170:=func229.trans (congrArg some (by kernel_rfl))
 f206:=func318.trans (congrArg some (by kernel_rfl))
 f212:=func335.trans (congrArg some (by kernel_rfl))
 f240:=func226.trans (congrArg some (by kernel_rfl))
 f241:=func322.trans (congrArg some (by kernel_rfl))
 f263:=func369.trans (congrArg some (by kernel_rfl))
 f264:=func255.trans (congrArg some (by kernel_rfl))
 f276:=func279.trans (congrArg some (by kernel_rfl))
 f277:=func361.trans (congrArg some (by kernel_rfl))
 t0:=underlying0
 a0:=isAgg0
 z0:=sizeOf0
 v0:=zeroValue0
 t3:=underlying3
 a3:=isAgg3
 z3:=sizeOf3
 v3:=zeroValue3
 t4:=underlying4
 a4:=isAgg4
 z4:=sizeOf4
 v4:=zeroValue4
 t5:=underlying5
 a5:=isAgg5
 z5:=sizeOf5
 v5:=zeroValue5
 t9:=underlying9
 a9:=isAgg9
 z9:=sizeOf9
 v9:=zeroValue9
 t20:=underlying20
 a20:=isAgg20
 z20:=sizeOf20
 v20:=zeroValue20
 t37:=underlying225
 a37:=isAgg225
 z37:=sizeOf225
 v37:=zeroValue225
 t46:=underlying322
 a46:=isAgg322
 z46:=sizeOf322
 v46:=zeroValue322
 t51:=underlying354
 a51:=isAgg354
 z51:=sizeOf354
 v51:=zeroValue354
 t53:=underlying308
 a53:=isAgg308
 z53:=sizeOf308
 v53:=zeroValue308
 t70:=underlying224
 a70:=isAgg224
 z70:=sizeOf224
 v70:=zeroValue224
 t72:=underlying227
 a72:=isAgg227
 z72:=sizeOf227
 v72:=zeroValue227
 t75:=underlying229
 a75:=isAgg229
 z75:=sizeOf229
 v75:=zeroValue229
 t76:=underlying230
 a76:=isAgg230
 z76:=sizeOf230
 v76:=zeroValue230
 t109:=underlying369
 a109:=isAgg369
 z109:=sizeOf369
 v109:=zeroValue369
 t127:=underlying330
 a127:=isAgg330
 z127:=sizeOf330
 v127:=zeroValue330
 t146:=underlying400
 a146:=isAgg400
 z146:=sizeOf400
 v146:=zeroValue400
 t148:=underlying309
 a148:=isAgg309
 z148:=sizeOf309
 v148:=zeroValue309
 t164:=underlying326
 a164:=isAgg326
 z164:=sizeOf326
 v164:=zeroValue326}
theorem Tryz.Rm:Builder.Extra prog GK:={
 sizeBuilder:=by kernel_rfl
 liesBuilder:=by kernel_rfl
 t5:=underlying5
 a5:=isAgg5
 z5:=sizeOf5
 v5:=zeroValue5
 infoByte:=by kernel_rfl
 cellsByte:=by kernel_rfl
 sizeByte:=by kernel_rfl
 neB5:=by decide}
open Go.RowKit Go.Lib in
theorem Tryz.strings_Repeat(s:ByteArray)(c:Nat)(w:a7)(hc:c<=9223372036854775807)(hlen:s.size*c<=140737488355328):
 a8 prog 289 #[.string s,.int .i64 c] w fun e w'=>e=.returned (.string ⟨(b3 s.data.toList c).toArray⟩)/\Below w.heap.size w w':=Any.strings_Repeat azK Rm s c w hc hlen
end Go.Proofs
namespace Go.Proofs
open Go.Shelf Go.RowKit Go.Sort Go.Lib
set_option maxHeartbeats 6400000 in
set_option maxRecDepth 100000 in
theorem Tryz.Rk(u:Nat)(hu64:u<18446744073709551616)(w:a7)
 (htab:b2 prog w "internal/strconv.uint64pow10" .u64 b1):
 a8 prog 334 #[.int .u64 u,.int .i64 10] w fun e w'=>e=.returned (.string ⟨(be u).toArray⟩)/\∃k os,w'=grow (w.drewN k) os:=by
 have e323:∀args w,(callFunc 323 args).run prog w=.ok (.enter 323 args) w:=enters_of func323 (by kernel_rfl) rfl;have e324:∀args w,(callFunc 324 args).run prog w=.ok (.enter 324 args) w:=enters_of func324 (by kernel_rfl) rfl;have e325:∀args w,(callFunc 325 args).run prog w=.ok (.enter 325 args) w:=enters_of func325 (by kernel_rfl) rfl
 by_cases hs:u<100
 ·go_enter func334,ntmps334
  go_wp2_with (go_at_fn 323;refine(internal_strconv_small u hs _).mono ?_;rintro e w' ⟨rfl,rfl⟩)
  go_ret
  exact⟨rfl,0,#[],by simp[World.drewN_zero]⟩
 ·have hu1:1<=u:=by omega
  have hnd20:bi u<=20:=by have:=Lib.numDigits_eq u hu1 hu64;split at this<;>omega
  have hb3:bi u<=24:=by omega
  have hal:prog.arrayLen 362=24:=by kernel_rfl
  have hsl1:∀W,(Instr.sliceAt 362 (.pointer (some ⟨w.heap.size,0,none⟩)) none (some (.int .i64 (bi u:Int))) none).run prog W=.ok (.slice (some ⟨w.heap.size,0,none⟩) (bi u) 24) W:=fun W=>by
   rw[run_sliceAt_array_h W 362 ⟨w.heap.size,0,none⟩ (by kernel_rfl) .i64 (bi u:Int) (by omega) (by rw[hal];omega)]
   go_simp
  have hH0:=Lib.holds_zero0 w 362 (bi u) hb3;have hfmt:=internal_strconv_formatBase10 w.heap.size 0 24 u (Array.replicate (bi u) 0) (w.alloc (.cells bo 362)) hH0 (by rw[ao];exact Lib.lt_pow_nDigits u) hu64 (by rw[ao];omega);rw[ao]at hfmt;have HH0:=Lib.hid hH0;clear hH0 hal
  go_enter func334,ntmps334
  go_wp2_with (first
   |(go_at_fn 324;refine(internal_strconv_numDigits u hu1 hu64 _ (Lib.tabIs_alloc htab _)).mono ?_;rintro e w' ⟨rfl,rfl⟩))
  go_at_fn 325
  refine hfmt.mono ?_;rintro e w' ⟨rfl,k,v',dk,rfl,hF⟩;have hcv:(convert 225 9 (.slice (some ⟨w.heap.size,0,none⟩) (bi u) 24)).run prog ((putRow (fun(b:UInt8)=>dl .u8 (b.toNat:Int)) (w.alloc (.cells bo 362)) w.heap.size 0 dk).drewN k)=.ok (.string ⟨(be u).toArray⟩) ((putRow (fun(b:UInt8)=>dl .u8 (b.toNat:Int)) (w.alloc (.cells bo 362)) w.heap.size 0 dk).drewN k):=by
   have h:=run_convert_bytes_back (P:=prog) ((putRow (fun(b:UInt8)=>dl .u8 (b.toNat:Int)) (w.alloc (.cells bo 362)) w.heap.size 0 dk).drewN k) 225 9 5 ⟨w.heap.size,0,none⟩ 24 (be u) (by kernel_rfl) (by kernel_rfl) (by kernel_rfl) (fun j hj=>by
    rw[Lib.row_is_numeral hF j hj,Lib.add_plain,World.cell?_drewN];exact cell?_putRow (fun(b:UInt8)=>dl .u8 (b.toNat:Int)) _ w.heap.size 0 _ dk HH0.out (by rw[hF.size,ao]) j (by rw[hF.size];rw[b4]at hj;exact hj))
   rw[b4]at h;exact h
  go_wp2
  go_ret
  obtain⟨os,eo⟩:=Lib.fin_at w (.cells bo 362) dk k 0;exact⟨rfl,k,os,eo⟩
end Go.Proofs
namespace Go.al
open Go.Proofs
theorem sy{P:Program}{w:a7}{aa:Nat->Prop}(l:List UInt8):aA P w aa (.str (cT l)) (.string ⟨l.toArray⟩):=by
 simp only[aA];exact⟨_,rfl,by simp[cT]⟩
theorem mg{P:Program}{w:a7}{aa:Nat->Prop}{s:List Nat}{v:Value}(h:aA P w aa (.str s) v):∃bs:ByteArray,v=.string bs/\s=cT bs.data.toList:=by
 simp only[aA]at h;obtain⟨bs,rfl,rfl⟩:=h;exact⟨bs,rfl,rfl⟩
theorem one_byte{w:a7}{aa:Nat->Prop}{c:Nat}{v:Value}(h:aA prog w aa (.str [c]) v):∃b:UInt8,v=.string ⟨#[b]⟩/\c=b.toNat:=by
 obtain⟨bs,rfl,f⟩:=mg h;clear h;have h:=f;clear f
 match e:bs.data.toList with
 |[]=>rw[e]at h;simp[cT]at h
 |[b]=>
  rw[e]at h;simp[cT]at h;refine⟨b,?_,h⟩;congr 1;cases bs with
  |mk d=>simp at e⊢;exact Array.ext' (by simpa using e)
 |a::b::r=>rw[e]at h;simp[cT]at h
theorem CG{w:a7}{aa:Nat->Prop}{v:Value}(h:aA prog w aa (.str [45]) v):v=.string ⟨#[45]⟩:=by
 obtain⟨b,rfl,a⟩:=one_byte h;have:b=45:=hO.1 a.symm;rw[this]
theorem Fz(s:List Nat)(c:Nat):az prog 317 [.str s,.str [c]] (.int .i64 (mB c s 0)):=by
 refine jr (iD func317 (by kernel_rfl)) fun w aa g _ _ f=>?_;obtain⟨x,y,rfl,a,d⟩:=lZ f;obtain⟨b,rfl,rfl⟩:=one_byte d;obtain⟨bs,rfl,rfl⟩:=mg a;refine(stringslite_Index_one bs b w).mono ?_;rintro e w' ⟨rfl,rfl⟩;refine⟨_,rfl,⟨gt _,fun _ _=>rfl,rfl,rfl⟩,fun w aa=>?_⟩;have e1:=Kb b bs.data.toList 0;simp only[aA]at e1⊢;rw[e1]
 by_cases h:bk bs.data.toList b= -1<;>simp[h]
theorem Xd(s:List Nat)(c:Nat)(h:s.length<=1048576):az prog 274 [.str s,.str [c]] (.aD [.str (b8 c s).1,.str (b8 c s).2.1,.bool (b8 c s).2.2]):=by
 refine aM nf Fl mix (by simp[f274]) ?_;simp[f274];refine c2 (Fz s c) ?_;rcases Kc c s 0 with⟨_,a,b⟩|⟨i,d,a,b⟩
 ·simp[a,b]
 ·rw[hD]at a;have w:=bY (i:=i) (by omega);have e1:((i:Int)+1).toNat=i+1:=by omega
  simp[a,b,w,e1];omega
theorem Nk(s:List Nat)(c:Nat)(h:s.length<=1048576):az prog 223 [.str s,.str [c]] (.aD [.str (b8 c s).1,.str (b8 c s).2.1,.bool (b8 c s).2.2]):=by
 refine aM nf FG mix (by simp[f223]) ?_;simp[f223];refine c2 (Xd s c h) ?_;simp
theorem WT(s:List Nat):az prog 275 [.str s,.str [45]] (.bool (bZ s)):=by
 refine jr (iD func275 (by kernel_rfl)) fun w aa d _ _ c=>?_;obtain⟨x,y,rfl,a,b⟩:=lZ c;obtain rfl:=CG b;obtain⟨bs,rfl,rfl⟩:=mg a;refine(strings_HasPrefix bs _ w).mono ?_;rintro e w' ⟨rfl,rfl⟩;exact⟨_,rfl,⟨gt _,fun _ _=>rfl,rfl,rfl⟩,fun w aa=>by rw[<-AL];simp only[aA]⟩
theorem IH(s:List Nat):az prog 276 [.str s,.str [45]] (.str (cS s)):=by
 refine jr (iD func276 (by kernel_rfl)) fun w aa d _ _ c=>?_;obtain⟨x,y,rfl,a,b⟩:=lZ c;obtain rfl:=CG b;obtain⟨bs,rfl,rfl⟩:=mg a;refine(strings_TrimPrefix bs _ w).mono ?_;rintro e w' ⟨rfl,rfl⟩;exact⟨_,rfl,⟨gt _,fun _ _=>rfl,rfl,rfl⟩,fun w aa=>by rw[<-GY];exact sy _⟩
theorem Wr(s:List Nat):az prog 270 [.str s,.str [45]] (.aD [.str (cS s),.bool (bZ s)]):=by
 refine jr (iD func270 (by kernel_rfl)) fun w aa d _ _ c=>?_;obtain⟨x,y,rfl,a,b⟩:=lZ c;obtain rfl:=CG b;obtain⟨bs,rfl,rfl⟩:=mg a;refine(strings_CutPrefix bs _ w).mono ?_;rintro e w' ⟨rfl,rfl⟩;refine⟨_,rfl,⟨gt _,fun _ _=>rfl,rfl,rfl⟩,fun w aa=>?_⟩;rw[<-GY,<-AL];simp only[aA,bn];refine⟨[_,_],⟨_,_,rfl,?_,_,_,rfl,rfl,rfl⟩,rfl⟩;exact⟨_,rfl,by simp[cT]⟩
theorem LD{w:a7}{aa:Nat->Prop}(b:mb prog w aa):b2 prog w "internal/strconv.uint64pow10" .u64 b1:=by
 obtain⟨_,T,a⟩:=b.raw 1 _ rfl;have c:prog.globalNamed "internal/strconv.uint64pow10" =some 1:=by kernel_rfl
 simp only[b2,World.var?,c,Option.bind_some,a];rfl
theorem Fy(n:Int)(b:-9223372036854775808<=n)(c:n<=9223372036854775807):az prog 152 [.int .i64 n] (.str (cR n)):=by
 refine jr (iD func152 (by kernel_rfl)) fun w aa g _ f d=>?_;obtain⟨x,rfl,a⟩:=xJ d;simp only[aA]at a;subst a;refine(strconv_Itoa n b c w (LD f)).mono ?_;rintro e w' ⟨rfl,k,os,rfl⟩;refine⟨_,rfl,⟨?_,fun k hk=>?_,rfl,rfl⟩,fun w aa=>?_⟩
 ·simp[dg,World.drewN]
 ·simp only[dg];exact ap hk
 ·rw[<-ayV];exact sy _
theorem Xf(u:Nat)(f:u<18446744073709551616):az prog 334 [.int .u64 u,.int .i64 10] (.str (bt u)):=by
 refine jr (iD func334 (by kernel_rfl)) fun w aa g _ d c=>?_;obtain⟨x,y,rfl,a,b⟩:=lZ c;simp only[aA]at a b;subst a b;refine(Rk u f w (LD d)).mono ?_;rintro e w' ⟨rfl,k,os,rfl⟩;refine⟨_,rfl,⟨?_,fun k hk=>?_,rfl,rfl⟩,fun w aa=>?_⟩
 ·simp[dg,World.drewN]
 ·simp only[dg];exact ap hk
 ·rw[<-CE];exact sy _
theorem Nl(u:Nat)(a:u<18446744073709551616):az prog 288 [.int .u64 u,.int .i64 10] (.str (bt u)):=by
 refine aM nf Fi mix (by simp[f288]) ?_;simp[f288];refine c2 (Xf u a) ?_;simp
theorem Nn(s:List Nat)(c:Nat)(hc:c<=9223372036854775807)(g:s.length*c<=140737488355328):az prog 289 [.str s,.int .i64 c] (.str (qV s c)):=by
 refine jr (iD func289 (by kernel_rfl)) fun w aa h _ i f=>?_;obtain⟨x,y,rfl,d,b⟩:=lZ f;obtain⟨bs,rfl,rfl⟩:=mg d;simp only[aA]at b;subst b;refine(strings_Repeat bs c w hc (by simpa[cT]using g)).mono ?_;rintro e w' ⟨rfl,a⟩;exact⟨_,rfl,⟨a.size,a.block,a.os,a.output⟩,fun w aa=>by
  rw[Jr];exact sy _⟩
theorem FA(s:List Nat)(v:Int)(h:cb (s.map hP)=.ok v)(d:s.length<=9223372036854775806):az prog 277 [.str s] (.aD [.int .i64 v,.fG]):=by
 refine jr (iD func277 (by kernel_rfl)) fun w aa g _ i c=>?_;obtain⟨x,rfl,b⟩:=xJ c;obtain⟨bs,rfl,rfl⟩:=mg b;rw[S4]at h;refine(strconv_Atoi_ok bs (by simpa[cT]using d) v h w).mono ?_;rintro e w' ⟨rfl,f⟩;refine⟨_,rfl,?_,fun w aa=>by simp[aA,bn]⟩;rcases f with rfl|⟨t,rfl⟩
 ·exact⟨gt _,fun _ _=>rfl,rfl,rfl⟩
 ·have a:=Lib.bytesWorld_below w 5 t;exact⟨a.size,a.block,a.os,a.output⟩
def tB:Nat:=1000000000000000000
theorem Cm:tB=10^18:=by decide
theorem J1:∀i,low i 0=fl i 48
 |0=>rfl
 |i+1=>by rw[rQ,Nat.zero_div,J1 i,List.replicate_succ']
theorem Pf{r:Nat}(h:r<tB):fl (18-(bt r).length) 48++bt r=low 18 r:=by
 rw[rU,bt];have c:nd r<=18:=qC (by rw[<-Cm];exact h);obtain⟨k,hk⟩:∃k,k=max 1 (nd r):=⟨_,rfl⟩
 have d:k<=18:=by omega
 have b:r<10^k:=gm (H3 r) (gj (by decide) (by omega));rw[<-hk];have:=pT (18-k) r (a:=k);have e:low 18 r=low (18-k) (r/10^k)++low k r:=by
  have:=pT k r (18-k);rw[show 18-k+k=18 by omega]at this;exact this
 rw[e,hB b,J1]
theorem B3{r:Nat}(h:r<tB):(bt r).length<=18:=by
 rw[rU];have a:nd r<=18:=qC (by rw[<-Cm];exact h);omega
theorem Vk{m:Nat}(h:tB<=m):bt m=bt (m/tB)++low 18 (m% tB):=by
 rw[Cm]at h⊢;have e:=Cy (n:=m) (k:=18) h;have a:0<nd (m/10^18):=yB (hv h (gy (by decide)));rw[bt,bt,show max 1 (nd m)=max 1 (nd (m/10^18))+18 by omega,pT,BS m 18 18 (gt _)]
def jk(m:Nat)(a:List (List Nat)):List Nat:=(if m=0 then[]else bt m)++a.reverse.flatten
def ek(m:Nat):List Nat:=if m/tB=0 then bt m else low 18 (m% tB)
theorem Jg{m:Nat}(h:m≠0)(c:List (List Nat)):jk (m/tB) (c++[ek m])=jk m c:=by
 rw[jk,jk,if_neg h,ek,List.reverse_append]
 by_cases a:m/tB=0
 ·rw[if_pos a,if_pos a];simp
 ·rw[if_neg a,if_neg a];have:tB<=m:=by
   rcases g9 m tB with b|b
   ·exact(a (hB b)).elim
   ·exact b
  rw[Vk this];simp
theorem Vm(a:List (List Nat)):jk 0 a=a.reverse.flatten:=by rw[jk,if_pos rfl];rfl
theorem xQ(n:Nat):0<(bt n).length:=by rw[rU];omega
theorem Ie(m:Nat):ek m≠[]:=by
 intro h;have:(ek m).length=0:=by rw[h];rfl
 rw[ek]at this
 split at this
 ·have:=xQ m;omega
 ·rw[pS]at this;omega
theorem Ig(m:Nat):(ek m).length<=18:=by
 rw[ek]
 split
 ·rename_i h;have b:m<tB:=by
   rcases g9 m tB with a|a
   ·exact a
   ·have:=hv a (show 0<tB by decide);omega
  exact B3 b
 ·rw[pS];exact gt _
theorem J9{c:Nat}(h:cm c=true):c<256:=by
 simp only[cm,av,decide_eq_true_eq]at h;omega
end Go.al
namespace Go.Proofs
open Go.al
theorem Tryz.zX:prog.underlying 224=some (.pointer 227):=by kernel_rfl
theorem Tryz.Fo:prog.underlying 326=some .unsafePointer:=by kernel_rfl
theorem Tryz.E4:(prog.info? 227).map (·.size)=some 2:=by kernel_rfl
theorem Tryz.azY:liesAt prog prog.depth 227 (2/prog.cellsOf 227) 0 227 1=true:=by kernel_rfl
set_option maxHeartbeats 1000000 in
set_option maxRecDepth 100000 in
theorem Tryz.Rt(b:Nat)(w:a7)(h0:w.cell? ⟨b,0,none⟩=some (.pointer (some ⟨b,0,none⟩))):
 a8 prog 226 #[.pointer (some ⟨b,0,none⟩)] w fun e w'=>e=.returned (.tuple #[])/\w'=w:=by
 obtain⟨j,hj,_⟩:=Option.map_eq_some_iff.1 E4
 go_enter func226,ntmps226
 go_wp2
 rw[Lib.run_neq_ptr_same w _ zX hj]
 go_wp2
 go_end0
 exact⟨rfl,rfl⟩
set_option maxHeartbeats 1000000 in
set_option maxRecDepth 100000 in
theorem Tryz.Ru(b:Nat)(w:a7)(h0:w.cell? ⟨b,0,none⟩=some (.pointer none))(hsh:w.shape? b=some (227,2))(hfz:w.frozen? ⟨b,0,none⟩=false):
 a8 prog 226 #[.pointer (some ⟨b,0,none⟩)] w fun e w'=>e=.returned (.tuple #[])/\w'=w.setCell ⟨b,0,none⟩ (.pointer (some ⟨b,0,none⟩)):=by
 obtain⟨j,hj,hjs⟩:=Option.map_eq_some_iff.1 E4
 go_enter func226,ntmps226
 go_wp2
 rw[Lib.run_to_unsafe w ⟨b,0,none⟩ zX Fo hj (by rw[hjs];decide) hsh (Nat.zero_lt_succ 1)];simp only[Result.andThen];rw[cc]
 go_wp2
 rw[run_callFunc_extern func279 (by kernel_rfl) (by kernel_rfl) (by kernel_rfl) (e:=Extern.AbiNoEscape.same) (by kernel_rfl)];rw[Lib.run_noEscape];simp only[Result.andThen];rw[cc]
 go_wp2
 rw[Lib.run_from_unsafe w ⟨b,0,none⟩ Fo zX hj hsh azY];simp only[Result.andThen];rw[cc]
 go_wp2
 go_end0
 exact⟨rfl,rfl⟩
end Go.Proofs
