import Derived.Test.YtenbmieafgdjaaaGreatDoorPF
import Derived.Lib.ItoaNum
import Derived.Lib.Strings
import Derived.Lib.Repeat
import Derived.Lib.Bytealg
import Derived.Test.YtenbmieafgdjaaaGreatDoorThA
import Derived.Test.YtenbmieafgdjaaaGreatDoorPE
import Derived.Shelf.Strings.Builder1
import Derived.Shelf.Strings.Builder2
import Derived.Shelf.Strings.OnBuilder
import Derived.Shelf.Strings.Trim
import Derived.Shelf.Small.Utf8
import Derived.Shelf.Small.Bits
import Derived.Shelf.Small.Strs
import Derived.Shelf.Small.Wraps
import Derived.Shelf.Strings.BuilderF
import Derived.Shelf.Strconv.Atoi
import Derived.Shelf.Strconv.Itoa0
import Derived.Shelf.Strconv.Itoa1
import Derived.Shelf.LaysM
import Derived.Shelf.Strconv.Itoa2
import Derived.Shelf.Strconv.Itoa3
import Derived.Shelf.Strconv.AtoiErrFast
import Derived.Shelf.Strconv.ParseIntEmpty
import Derived.Shelf.Strconv.AtoiFail
import Derived.Shelf.Strconv.Clone
import Derived.Shelf.Strconv.SyntaxError
import Derived.Shelf.LaysC
import Derived.Shelf.Strconv.ToError
import Derived.Shelf.Strconv.Lower
import Derived.Shelf.Strconv.ParseUint10
import Derived.Shelf.Strconv.ParseUint10Empty
import Derived.Shelf.Strconv.ParseUint10Any
import Derived.Shelf.Strconv.ParseInt10
import Derived.Shelf.Strconv.AtoiLong
import Derived.Shelf.Strconv.AtoiInnerAll
import Derived.Shelf.Strconv.RangeError
import Derived.Shelf.Strconv.ToErrorRange
import Derived.Shelf.Strconv.AtoiAll
import Derived.Shelf.Strings.Search1
import Derived.Shelf.Strings.Search2
import Derived.Shelf.Strings.Search3
import Derived.Shelf.Strings.Cut
import Derived.Shelf.Strings.Count
import Derived.Shelf.Strings.Shaped
import Derived.Shelf.Strings.Prefix
import Derived.Shelf.Strings.Split
import Derived.Shelf.Strings.Runes
import Derived.Shelf.Strings.AsciiSet
import Derived.Shelf.Bits.Mul64
import Derived.Shelf.Strings.Repeat
import Derived.Shelf.Unicode.DecodeSlow
import Derived.Test.YtenbmieafgdjaaaGreatDoorProg
import Derived.Lib.Walk
import Derived.Lib.ItoaMem
import Derived.WalkKit
import Derived.BigCall
import Derived.BigGuard
import Derived.Lib.AppendIntMem
import Derived.Lib.Builder
import Derived.Laws.Externs
import Derived.Shelf.RegionOpenPlain
/- Parts of a proof. -/
set_option linter.unusedSimpArgs false
set_option linter.unusedVariables false
set_option linter.unusedSectionVars false
open Go.Proofs.Tryz
open Array renaming size_replicate->an, getElem?_append_left->ao
open Bool renaming and_eq_true->ap, or_eq_true->ar, not_eq_true'->av, and_true->ax, and_eq_false_iff->ay, false_and->aT, and_false->a1, true_and->a6
open Go renaming World->a7, Calls->a8
open Go.IntKind renaming i64->bb
open Go.Lib renaming decDigits->be, nDigits->bi, indexByte->bk, bitLen->bl, zeros24->bo, trimPrefix->bv, hasPrefix->b0, pow10Tab->b1, TabIs->b2, repeatL->b3, decDigits_length->b4, itoa->b5, atoiAll->cb
open Go.Oper renaming upon_value->cc
open Go.Proofs.Lays renaming n99->ce, n285->ck, n283->cv, n219->cx, n105->cy, n103->cA, n101->cB
open Go.Shelf renaming Ren->cC
open Go.Sort renaming grow->cN
open Go.Value renaming int->c6
open Int renaming ediv_emod_unique->da, natAbs_mul->db, emod_lt_of_pos->dg, emod_nonneg->dl, ediv_lt_of_lt_mul->dp, tmod_lt_of_pos->dq, natAbs_natCast->dz, lt_tmod_of_pos->ea, mul_ne_zero->eb, natAbs_neg->ec, mul_le_mul->ed, ediv_one->ee, mul_sub->ei, mul_neg->ej
open List renaming append_nil->em, all_cons->en, length_eq_zero_iff->eq, mem_cons->ew, cons_append->e6, all_reverse->e7, all_eq_true->e8, head?_cons->e9, dropLast_concat_getLast->fb, replicate->fd, map_cons->fl, length_cons->fm, foldl_cons->fv, all_append->fN, all_nil->gb
open Nat renaming pow_le_pow_right->gc, lt_of_lt_of_le->ge, le_refl->gg, lt_of_le_of_lt->gi, pow_pos->gj, eq_zero_or_pos->gl, pow_succ->gm, mod_eq_of_lt->gt, mul_comm->gx, add_sub_cancel->gy, pow_add->gA, lt_or_ge->g0, le_trans->g5, div_lt_iff_lt_mul->g6, pow_zero->g7, pow_one->g8, pow_mul->g9, div_pos->ha, gcd->hb, le_of_eq->hd, le_mul_of_pos_left->hg, beq->hh, le_div_iff_mul_le->hl, eq_of_beq_eq_true->hm, mul_le_mul_right->hn, mul_le_mul_left->ho, mod_lt->hp, gcd_one_right->hr, div_eq_of_lt->ht, mul_assoc->hv, zero_add->hy, gcd_comm->hz, pow_two->hA
open Rat renaming divInt->hB, num_eq_zero->hC, not_lt->hD, lt_iff->hE
open UInt8 renaming toNat_inj->hG, ofNat->hK, toNat_ofNat'->hL
namespace Go.au
open Go.Proofs
set_option maxHeartbeats 4000000
set_option maxRecDepth 100000
theorem ni{a b:NI}(h:a.v=b.v)(d:a.v= -9223372036854775808->a.m=b.m):eI a=eI b:=by
 by_cases c:a.v= -9223372036854775808
 ·have:=d c;cases a;cases b;dsimp only at h this;subst h this;rfl
 ·have e:a.sm=b.sm:=by
   simp only[NI.sm,h];rw[h]at c;simp[c]
  rw[jk,jk,e,h]
theorem YO{a b:Int}(c:0<b):(a.tdiv b=a/b/\a.tmod b=a% b/\¬a.tmod b<0)\/(a.tdiv b-1=a/b/\a.tmod b+b=a% b/\a.tmod b<0/\a/b<0):=by
 have f:=Int.tmod_add_mul_tdiv a b;have g:=ea a c;have i:=dq a c
 by_cases h:a.tmod b<0
 ·right;have e:=(da (a:=a) (r:=a.tmod b+b) (q:=a.tdiv b-1) c).2 ⟨by rw[ei];omega,by omega,by omega⟩;have j:a<0:=by
   rcases Int.lt_or_le a 0 with d|d
   ·exact d
   ·have:=Int.tmod_nonneg b d;omega
  have d:a/b<0:=dp c (by omega);omega
 ·left;have e:=(da (a:=a) (r:=a.tmod b) (q:=a.tdiv b) c).2 ⟨by omega,by omega,by omega⟩;omega
theorem ak3{a b:Int}(c:0<b):((if a<0 then -((a.natAbs% b.natAbs:Nat):Int)else(a.natAbs% b.natAbs:Nat))<0/\a/b=(if a<0 then -((a.natAbs/b.natAbs:Nat):Int)else(a.natAbs/b.natAbs:Nat))-1/\a% b=(if a<0 then -((a.natAbs% b.natAbs:Nat):Int)else(a.natAbs% b.natAbs:Nat))+b)\/
 (¬(if a<0 then -((a.natAbs% b.natAbs:Nat):Int)else(a.natAbs% b.natAbs:Nat))<0/\a/b=(if a<0 then -((a.natAbs/b.natAbs:Nat):Int)else(a.natAbs/b.natAbs:Nat))/\a% b=(if a<0 then -((a.natAbs% b.natAbs:Nat):Int)else(a.natAbs% b.natAbs:Nat))):=by
 have e:((b.natAbs:Nat):Int)=b:=by omega
 have f:=Nat.mod_add_div a.natAbs b.natAbs;have g:=hp a.natAbs (show 0<b.natAbs by omega);have i:((a.natAbs% b.natAbs:Nat):Int)+b*(a.natAbs/b.natAbs:Nat)=(a.natAbs:Nat):=by
  rw[<-e,<-Int.natCast_mul,<-Int.natCast_add,e,f]
 generalize a.natAbs% b.natAbs=r at*;generalize a.natAbs/b.natAbs=q at*
 by_cases h:a<0
 ·simp only[if_pos h]
  by_cases j:r=0
  ·right;have d:=(da (a:=a) (r:=0) (q:=-(q:Int)) c).2 ⟨by rw[ej];omega,by omega,by omega⟩;omega
  ·left;have d:=(da (a:=a) (r:=-(r:Int)+b) (q:=-(q:Int)-1) c).2 ⟨by rw[ei,ej];omega,by omega,by omega⟩;omega
 ·simp only[if_neg h];right;have d:=(da (a:=a) (r:=(r:Int)) (q:=(q:Int)) c).2 ⟨by omega,by omega,by omega⟩;omega
theorem LR(a b:NI)(i:0<b.v)(M:okW a.v)(z:okW b.v):aC prog 294 [eI a,eI b] (.aG [eI (a.div b),eI (a.mod b)]):=by
 have V:=nV (eI a) a.v (mq a);have hq:=nV (eI b) b.v (mq b);have af:=nT M;have ag:=nT z;have O:=CY a.v.natAbs b.v.natAbs (by omega) (by omega) (by omega);refine aM nf OH mix (by simp[f294]) ?_;simp[f294,-bA];rw[bA];simp[-bA];refine join (fun s=>aN s.env 2=.ptr 0 []/\aN s.env 3=.ptr 1 []/\aN s.env 4=.ptr 2 []/\aN s.env 5=.ptr 3 []/\s.heap=[.box false (.p (eI a)),.box false (.p (eI b)),.box false (.p (.st 129 [.int .i64 0,.aP])),.box false (.p (.st 129 [.int .i64 0,.aP]))]) ?_ ?_
 ·rcases hs:a.sm with _|_
  ·obtain⟨c,cs,l⟩:=oc hs;simp[ad,l,dD,cX]
  ·have l:=mi hs;rcases n:b.sm with _|_
   ·obtain⟨c,cs,m⟩:=oc n;simp[ad,l,m,dD,cX]
   ·have m:=mi n;have u:=mZ hs;have w:=mZ n;have al:=NI.pR hs;have am:=NI.pR n
    by_cases t:a.v= -9223372036854775808
    ·simp[ad,l,m,u,w,t,dD,cX]
    ·have r:¬b.v=0:=by omega
     have E:-9223372036854775808<a.v/b.v:=by
      have:=Int.le_ediv_of_mul_le (a:=-9223372036854775807) (b:=a.v) i (by omega);omega
     have F:a.v/b.v<9223372036854775808:=dp i (by omega);have G:=dg a.v i;have H:=dl a.v r;have J:eI (a.div b)=fq (a.v/b.v):=by rw[jk,if_pos (NI.Ah E F)];rfl
     have f2:eI (a.mod b)=fq (a.v% b.v):=ot (by omega) (by omega);rw[J,f2];have aj:=ea a.v i;have ai:=dq a.v i;rcases YO (a:=a.v) i with⟨d1,d2,d3⟩|⟨d1,d2,d3,d4⟩
     ·have q1:bb.wrap (a.v.tdiv b.v)=a.v/b.v:=by rw[d1];exact aO _ (by omega) (by omega)
      simp[ad,l,m,u,w,t,r,dD,cX,fq,d3,q1];exact d2.symm
     ·have q1:bb.wrap (bb.wrap (a.v.tdiv b.v)-1)=a.v/b.v:=by rw[aO (a.v.tdiv b.v) (by omega) (by omega),d1];exact aO _ (by omega) (by omega)
      have Z:bb.wrap (a.v.tmod b.v+b.v)=a.v% b.v:=by rw[d2];exact aO _ (by omega) (by omega)
      simp[ad,l,m,u,w,t,r,dD,cX,fq,d3,q1,Z]
 ·rintro⟨aa,ah⟩ ⟨d,e,f,g,A⟩;dsimp only at d e f g A;subst A;have S:(az wB (a.v.natAbs/b.v.natAbs)).length<=900000:=by
   have:=dT bp _ _ (gi (Nat.div_le_self a.v.natAbs b.v.natAbs) (cm bp a.v.natAbs));omega
  have T:(az wB (a.v.natAbs% b.v.natAbs)).length<=900000:=by
   have:=dT bp _ _ (gi (Nat.mod_le a.v.natAbs b.v.natAbs) (cm bp a.v.natAbs));omega
  have C:=wY (decide (a.v<0)) (a.v.natAbs/b.v.natAbs) (by omega);have D:=wY (decide (a.v<0)) (a.v.natAbs% b.v.natAbs) (by omega);have P:=ak3 (a:=a.v) i;simp only[decide_eq_true_eq]at C D;have ak:=hp a.v.natAbs (show 0<b.v.natAbs by omega);generalize a.v.natAbs/b.v.natAbs=k at*;generalize a.v.natAbs% b.v.natAbs=j at*;have ae:-b.v<(if a.v<0 then -(j:Int)else(j:Int)):=by split<;>omega
  have L:a.v<0->(if a.v<0 then -(j:Int)else(j:Int))<=0:=fun h=>by rw[if_pos h];omega
  have X:okW (if a.v<0 then -(k:Int)else(k:Int)):=by rw[okW];split<;>simpa using S
  have Y:okW (if a.v<0 then -(j:Int)else(j:Int)):=by rw[okW];split<;>simpa using T
  have W:(if a.v<0 then -(k:Int)else(k:Int))= -9223372036854775808->a.v<0:=by split<;>omega
  generalize (if a.v<0 then -(k:Int)else(k:Int))=Q at*;generalize (if a.v<0 then -(j:Int)else(j:Int))=R at*;have y:=uj (.mk' R);simp only[NI.iH]at y;have G:=dg a.v i;have H:=dl a.v (show b.v≠0 by omega);simp[d,e,f,g];refine c1 V ?_;simp[d,e,f,g];refine c1 hq ?_;simp[d,e,f,g];refine c2 O ?_;simp;refine c2 C ?_;simp;refine c2 D ?_;simp[d,e,f,g,ad];refine c1 y ?_;rcases P with⟨d1,d2,d3⟩|⟨d1,d2,d3⟩
  ·have B:=Et (.mk' Q) (.of 1) X (by rw[okW];decide);have N:=xn (.mk' R) b Y z;rw[uC (by decide) (by decide)]at B;have o:eI (a.div b)=eI ((NI.mk' Q).sub (.of 1)):=by
    refine ni (by rw[NI.RV];exact d2) (fun h=>?_);have I:Q= -9223372036854775807:=by have:a.v/b.v= -9223372036854775808:=h;omega
    have U:¬a.v% b.v=0:=by omega
    subst I;show decide (a.v% b.v≠0)=_;simp[U];rfl
   have q:eI (a.mod b)=eI ((NI.mk' R).add b):=ni (by rw[NI.rW];exact d3) (fun h=>by have:a.v% b.v= -9223372036854775808:=h;omega);rw[o,q];simp[d,e,f,g,ad,d1];refine e1 (sj 1) ?_;simp[d,e,f,g,ad];refine e2 B ?_;simp[d,e,f,g,ad];refine e2 N ?_;simp[d,e,f,g,ad];exact⟨rfl,rfl⟩
  ·have o:eI (a.div b)=eI (.mk' Q):=by
    refine ni d2 (fun h=>?_);have ab:a.v/b.v= -9223372036854775808:=h;have ac:=L (W (by omega));have K:a.v% b.v=0:=by omega
    show decide (a.v% b.v≠0)=false;simp[K]
   have q:eI (a.mod b)=eI (.mk' R):=ni d3 (fun h=>by have:a.v% b.v= -9223372036854775808:=h;omega);rw[o,q]
   by_cases x:R=0
   ·simp[d,e,f,g,ad,x]
   ·simp[d,e,f,g,ad,d1,x]
theorem re{a b:Int}(h:okW b)(c:a.natAbs<=b.natAbs):okW a:=by
 have:=dT bp _ _ (gi c (cm bp b.natAbs));have:=nT h;rw[okW];omega
theorem PT(a b:NI)(e:0<b.v)(d:okW a.v)(f:okW b.v):aC prog 254 [eI a,eI b] (eI (a.div b)):=by
 have c:=uj b;rw[if_neg (by omega),if_neg (by omega)]at c;refine aM nf Oz mix (by simp[f254]) ?_;simp[f254];refine c1 c ?_;simp;refine c2 (LR a b e d f) ?_;simp[ad]
 done
theorem NI.zA(a:NI):a.abs.v.natAbs=a.v.natAbs:=by
 rw[NI.abs];split
 ·rw[NI.iH,ec]
 ·rfl
theorem NI.PJ(a:NI):0<=a.abs.v:=by
 rw[NI.abs];split
 ·rw[NI.iH];omega
 ·omega
def eP(a b:Int):Int:=(hb a.natAbs b.natAbs:Nat)
theorem PQ(a b:NI)(j:okW a.v)(k:okW b.v):aC prog 253 [eI a,eI b] (eI (.mk' (eP a.v b.v))):=by
 refine aM nf OA mix (by simp[f253]) ?_;simp[f253];refine e1 (PN a j) ?_;simp;refine e1 (PN b k) ?_;simp[ad];refine⟨⟨rfl,rfl⟩,?_⟩;have n:eP a.abs.v b.abs.v=eP a.v b.v:=by rw[eP,eP,NI.zA,NI.zA]
 refine lp (α:=NI×NI) (fun x=>⟨[(4,.ptr 2 []),(3,.ptr 1 []),(2,.ptr 0 [])],[.box false (.p (eI x.1)),.box false (.p (eI x.2)),.box false (.p (.st 129 [.int .i64 0,.aP]))]⟩)
  (fun x=>0<=x.1.v/\0<=x.2.v/\okW x.1.v/\okW x.2.v/\eP x.1.v x.2.v=eP a.v b.v) (fun x=>x.2.v.toNat) (a.abs,b.abs) ⟨NI.PJ a,NI.PJ b,re j (hd (NI.zA a)),re k (hd (NI.zA b)),n⟩ ?_
 rintro⟨x,y⟩ ⟨l,g,i,c,f⟩;dsimp only at l g i c f;have d:=uj y
 by_cases e:y.v=0
 ·rw[if_neg (by omega),if_pos e]at d;have hx:eI (.mk' (eP a.v b.v))=eI x:=by
   refine ni ?_ (fun h=>?_)
   ·rw[NI.iH,<-f,e,eP];simp;omega
   ·rw[NI.iH,eP]at h;omega
  rw[hx];simp;refine c1 d ?_;simp[ad]
 ·rw[if_neg (by omega),if_neg e]at d;have q:=dg x.v (show 0<y.v by omega);have o:=dl x.v e;have m:(x.v% y.v).natAbs=x.v.natAbs% y.v.natAbs:=by
   have e1:(x.v.natAbs:Int)=x.v:=by omega
   have e2:(y.v.natAbs:Int)=y.v:=by omega
   have e3:((x.v.natAbs% y.v.natAbs:Nat):Int)=x.v% y.v:=by rw[Int.natCast_emod,e1,e2]
   omega
  simp;refine c1 d ?_;simp[ad];refine c2 (LR x y (by omega) i c) ?_;simp[ad];refine⟨rfl,?_⟩;refine rd (y,x.mod y) ⟨g,o,c,re c (by show(x.v% y.v).natAbs<=_;omega),?_⟩ (by show(x.v% y.v).toNat<y.v.toNat;omega);show eP y.v (x.v% y.v)=_;rw[<-f,eP,eP,m,hz y.v.natAbs,<-Nat.gcd_rec,hz]
theorem aJj{o x k A:Nat}(hx:1<=x)(d:1<=o)(h:o*x^k=A)(hk:1<=k):o*x<=A/\(2<=k->x*x<=A):=by
 have a:x<=x^k:=by
  calc x=x^1:=(g8 x).symm
   _<=x^k:=gc hx hk
 refine⟨by rw[<-h];exact ho _ a,fun b=>?_⟩;have c:x*x<=x^k:=by
  calc x*x=x^2:=by rw[hA]
   _<=x^k:=gc hx b
 rw[<-h];exact g5 c (hg _ d)
theorem Zm(a:NI)(n A:Nat)(E:1<=a.v)(q:A=a.v.natAbs^n)(J:(az wB A).length<=400000)(F:(az wB a.v.natAbs).length<=400000)(K:n<=1000000):aC prog 278 [eI a,.int .i64 n] (eI (.mk' A)):=by
 refine aM nf Gv mix (by simp[f278]) ?_;simp[f278];refine c1 (sj 1) ?_;rw[show fq 1=eI (.of 1)from(uC (by decide) (by decide)).symm];simp[ad];refine lp (α:=Nat×NI×NI) (fun s=>⟨[(1,.p (.int .i64 s.1)),(5,.ptr 2 []),(4,.ptr 1 []),(2,.ptr 0 [])],[.box false (.p (eI s.2.1)),.box false (.p (.st 129 [.int .i64 0,.aP])),.box false (.p (eI s.2.2))]⟩)
  (fun s=>s.1<=n/\1<=s.2.1.v/\1<=s.2.2.v/\(0<s.1->s.2.2.v.natAbs*s.2.1.v.natAbs^s.1=A)/\(s.1=0->s.2.2.v.natAbs=A)/\(az wB s.2.1.v.natAbs).length<=400000) (fun s=>s.1) (n,a,.of 1) ⟨gg _,E,(by decide:(1:Int)<=1),fun _=>by rw[q];show(1:Int).natAbs*_=_;simp,fun h=>by have h:n=0:=h;rw[q,h,g7];rfl,F⟩ ?_
 rintro⟨k,x,o⟩ ⟨C,c,i,b,l,m⟩;dsimp only at C c i b l m
 by_cases k0:k=0
 ·subst k0;have e:eI (.mk' A)=eI o:=by
   refine ni ?_ (fun h=>?_)
   ·rw[NI.iH,<-l rfl];omega
   ·rw[NI.iH]at h;omega
  rw[e];simp[ad]
 have b:=b (by omega);have r:=aJj (o:=o.v.natAbs) (x:=x.v.natAbs) (by omega) (by omega) b (by omega);have d:bb.wrap (k% 2^bb.bits&&&1% 2^bb.bits:Nat)=(k% 2:Nat):=by
  rw[show(2^bb.bits:Nat)=18446744073709551616 from rfl,gt (show k<18446744073709551616 by omega),show 1% 18446744073709551616=2^1-1 from rfl,Nat.and_two_pow_sub_one_eq_mod];exact aO _ (by omega) (by omega)
 have hs:(k:Int).fdiv (2^min 1 bb.bits)=(k/2:Nat):=by
  rw[show((2:Int)^min 1 bb.bits)=2 from rfl,Int.fdiv_eq_ediv_of_nonneg _ (by decide)];omega
 have j:0<k:=by omega
 have L:(az wB o.v.natAbs).length<=400000:=by
  have D:o.v.natAbs<=A:=g5 (Nat.le_mul_of_pos_right _ (show 0<x.v.natAbs by omega)) r.1;have:=dT bp _ _ (gi D (cm bp A));omega
 have z:2<=k->(az wB (x.v*x.v).natAbs).length<=400000:=fun h=>by
  have:=dT bp _ _ (gi (r.2 h) (cm bp A));rw[db];omega
 have y:(1:Int)<=o.v*x.v:=by
  have:=ed i c (by decide) (by omega);omega
 have B:(1:Int)<=x.v*x.v:=by
  have:=ed c c (by decide) (by omega);omega
 have u:=Aq o x (by omega);have w:=Aq x x (by omega);have g:x.v.natAbs^k=(x.v*x.v).natAbs^(k/2)*x.v.natAbs^(k% 2):=by
  rw[db,<-hA,<-g9,<-gA,Nat.div_add_mod]
 by_cases H:k% 2=1
 ·rw[H,g8]at g;have t:((k% 2:Nat):Int)=1:=by omega
  rw[t]at d
  by_cases k1:1<k
  ·have f:(1:Int)<k:=by omega
   simp[j,d];refine c2 u ?_;simp[ad,f];refine c2 w ?_;simp[ad,hs];refine rd (k/2,x.mul x,o.mul x) ⟨by omega,B,y,fun _=>?_,fun h=>by dsimp only at h;omega,z k1⟩ (by dsimp only;omega);rw[g]at b;show(o.v*x.v).natAbs*(x.v*x.v).natAbs^(k/2)=A;rw[<-b,db o.v,gx ((x.v*x.v).natAbs^(k/2)),hv]
  ·have f:¬(1:Int)<k:=by omega
   have G:k=1:=by omega
   simp[j,d];refine c2 u ?_;simp[ad,f,hs];refine rd (k/2,x,o.mul x) ⟨by omega,c,y,fun h=>by dsimp only at h;omega,fun _=>?_,m⟩ (by dsimp only;omega);subst G;rw[g8]at b;show(o.v*x.v).natAbs=A;rw[<-b,db]
 ·have I:k% 2=0:=by omega
  rw[I,g7,Nat.mul_one]at g;have t:¬((k% 2:Nat):Int)=1:=by omega
  rw[show((k% 2:Nat):Int)=0 by omega]at d;have f:(1:Int)<k:=by omega
  simp[j,d,f];refine c2 w ?_;simp[ad,hs];refine rd (k/2,x.mul x,o) ⟨by omega,B,i,fun _=>?_,fun h=>by dsimp only at h;omega,z (by omega)⟩ (by dsimp only;omega);show o.v.natAbs*(x.v*x.v).natAbs^(k/2)=A;rw[<-g,b]
theorem Zx(x:Nat)(hx:x<18446744073709551616):aC prog 305 [.int .u64 x] (.int .i64 (bl x:Nat)):=by
 refine jN (iX func305 (by kernel_rfl)) fun w aa d _ _ c=>?_;obtain⟨a,rfl,b⟩:=zg c;simp only[aD]at b;subst b;refine(bits_Len64 x w (by omega) (by omega)).mono ?_;rintro e w' ⟨rfl,rfl⟩;refine⟨_,rfl,⟨gg _,fun _ _=>rfl,rfl,rfl⟩,fun w aa=>?_⟩;simp only[aD];rfl
def ou(n:Nat):Nat:=if n=0 then 0 else 64*((az wB n).length-1)+bl (ae wB n ((az wB n).length-1))
theorem tA{n:Nat}:az wB n=[]↔n=0:=by
 constructor
 ·intro h;have:=cm bp n;rw[h,List.length_nil,g7]at this;omega
 ·rintro rfl;exact lG
theorem LX(n:Nat):n<2^ou n:=by
 by_cases b:n=0
 ·subst b;exact gj (by decide)
 ·rw[ou,if_neg b];have e:=cm bp n;have j:0<(az wB n).length:=by
   rcases gl (az wB n).length with h|h
   ·exact(b (tA.1 (eq.1 h))).elim
   ·exact h
  obtain⟨m,i⟩:∃m,(az wB n).length=m+1:=⟨(az wB n).length-1,by omega⟩
  rw[i]at e⊢;rw[gy];have d:n/wB^m<wB:=by
   rw[g6 (gj (by decide)),gx,<-gm];exact e
  have f:ae wB n m=n/wB^m:=by rw[ae,gt d]
  have g:0<n/wB^m:=by
   rcases gl (n/wB^m)with h|h
   ·have c:n<wB^m:=by
     rcases g0 n (wB^m)with a|a
     ·exact a
     ·have:=ha a (gj (show 0<wB by decide));omega
    have:=dT bp m n c;omega
   ·exact h
  have c:=yN (n/wB^m) (n/wB^m) (gg _) g d;rw[f,gA,g9];show n<wB^m*_;have a:n<(n/wB^m+1)*wB^m:=by
   rw[<-g6 (gj (by decide))];omega
  rw[gx]at a;exact ge a (ho _ c.2.2)
theorem Zh(a:NI)(l:okW a.v):aC prog 286 [eI a] (.int .i64 (ou a.v.natAbs:Nat)):=by
 have b:=nV (eI a) a.v (mq a);refine aM nf HQ mix (by simp[f286]) ?_;have o:=nT l;have q:∀i(h:i<(az wB a.v.natAbs).length),(az wB a.v.natAbs)[i]=ae wB a.v.natAbs i:=fun i h=>eH bp h;have f:=ct (B:=wB) bp a.v.natAbs ((az wB a.v.natAbs).length-1);have j:=Zx _ f;have A:=LX a.v.natAbs;have s:=tA (n:=a.v.natAbs)
 by_cases e:a.v.natAbs=0
 ·rw[e]at b⊢;simp only[eN,lG]at b;simp[f286];refine c1 b ?_;simp[ou]
 ·have k:=mt s.1 e;rw[ou,if_neg e];have p:bl (ae wB a.v.natAbs ((az wB a.v.natAbs).length-1))<=64:=by
   rcases gl (ae wB a.v.natAbs ((az wB a.v.natAbs).length-1))with h|h
   ·rw[h];decide
   ·exact PM h f
  simp only[eN]at b;generalize az wB a.v.natAbs=x at*;obtain⟨m,d⟩:∃m,x.length=m+1:=⟨x.length-1,by cases x with|nil=>exact(k rfl).elim|cons c cs=>simp⟩
  rw[d,gy]at j p f;rw[d,gy];rw[d]at o;have hx:=q m (by omega);have t:x[m]?=some (ae wB a.v.natAbs m):=by rw[List.getElem?_eq_getElem (by omega),hx]
  have u:bb.wrap (m:Int)=m:=aO _ (by omega) (by omega);have w:bb.wrap (64*(m:Int))=64*m:=aO _ (by omega) (by omega);have y:bb.wrap (64*(m:Int)+(bl (ae wB a.v.natAbs m):Nat))=(64*m+bl (ae wB a.v.natAbs m):Nat):=by rw[aO _ (by omega) (by omega)];push_cast;rfl
  generalize bl (ae wB a.v.natAbs m)=g at*;have z:bb.wrap (64*(m:Int)+g)=64*m+g:=by rw[y];push_cast;rfl
  simp[f286];refine c1 b ?_;have r:¬((m:Int)+1=0):=by omega
  simp[k,d,u,w,t,hx,r];refine c1 j ?_;simp[z]
noncomputable def eF(a:NF):PV:=.st 131 [eI a.num,eI a.den]
@[simp] theorem aMN(a:NF):aL (eF a)=.agg 131:=rfl
@[simp] theorem aLG(a:NF):cM (eF a)=[eI a.num,eI a.den]:=rfl
@[simp] theorem aM4(n:Int):aL (fq n)=.agg 129:=rfl
@[simp] theorem aK5:prog.cellsOf 129=2:=by kernel_rfl
@[simp] theorem aK6:prog.cellsOf 131=4:=by kernel_rfl
theorem MX:fq 1=eI (.mk' 1):=(ot (by decide) (by decide)).symm
def kB:Nat:=100000
theorem qu:kB<=3*kB:=hg _ (by decide)
theorem y5{n k:Nat}(h:n<2^k):(az wB n).length<=k/64+1:=by
 refine dT bp _ _ (ge h ?_);rw[show wB=2^64 from rfl,<-g9];exact gc (by decide) (by omega)
theorem il{z:Int}{k:Nat}(h:z.natAbs<2^k)(hk:k<=3*kB):okW z:=by
 have:=y5 h;have a:kB=100000:=rfl;rw[okW];omega
def NF.make(n d:NI):NF:=⟨hB n.v d.v,n.m&&decide (d.v=1)⟩
theorem CD(a:NF):aC prog 187 [eF a] (.bool a.fE):=by
 refine aM nf GQ mix (by simp[f187]) ?_;have f:a.den.v=a.q.den:=rfl;have h:=a.q.den_pos;rcases hs:a.den.sm with _|_
 ·obtain⟨c,cs,d⟩:=oc hs;have g:=NI.zV (a:=a.den) (by rw[hs];decide);have b:a.fE=false:=by rw[NF.fE,decide_eq_false_iff_not];omega
  simp[f187,ad,d,dD,cX,b]
 ·have d:=mi hs;have e:=mZ hs;rw[f]at e;have b:a.fE=decide ((a.q.den:Int)=1):=by rw[NF.fE,decide_eq_decide];omega
  simp[f187,ad,d,e,dD,cX,b];rfl
theorem DJ(a:NI):aC prog 170 [eI a] (eF (.whole a)):=by
 refine aM nf PD mix (by simp[f170]) ?_;simp[f170];refine e1 (sj 1) ?_;have b:(NF.whole a).num=a:=by cases a;rfl
 have c:(NF.whole a).den=.mk' 1:=rfl;simp[ad,eF,b,c,MX]
theorem sf(n:Int)(h:-9223372036854775808<=n)(b:n<=9223372036854775807):aC prog 74 [.int .i64 n] (eF (.int n)):=by
 have a:=DJ (.of n);rw[uC h b]at a;refine aM nf QT mix (by simp[f74]) ?_;simp[f74];refine c1 (sj n) ?_;simp;refine c1 a ?_;simp[ad];exact Wk.refl _
theorem D1(q:Rat):(if q<0 then(-1:Int)else if q=0 then 0 else 1)=if q.num<0 then -1 else if q.num=0 then 0 else 1:=by
 have a:q<0↔q.num<0:=by rw[<-Rat.not_le,<-Rat.num_nonneg];omega
 have b:q=0↔q.num=0:=hC.symm;simp only[a,b]
theorem DH(a:NF):aC prog 146 [eF a] (.int .i64 (if a.q<0 then -1 else if a.q=0 then 0 else 1)):=by
 have b:=uj a.num;refine aM nf Pe mix (by simp[f146]) ?_;simp[f146,ad];refine c1 b ?_;simp;exact D1 a.q
theorem Mh(a:NF)(h:bK kB a.q):aC prog 174 [eF a] (eF a.neg):=by
 have d:=ux a.num (il h.1 qu);refine aM nf Pz mix (by simp[f174]) ?_;simp[f174,ad];refine e1 d ?_;have b:a.neg.num=a.num.neg:=by show(⟨(-a.q).num,false⟩:NI)=⟨-a.q.num,false⟩;rw[Rat.neg_num]
 have c:a.neg.den=a.den:=by show(⟨((-a.q).den:Int),false⟩:NI)=⟨a.q.den,false⟩;rw[Rat.neg_den]
 simp[ad,eF,b,c]
theorem VO{n d:NI}(j:0<d.v):(NI.mk' (eP n.v d.v)).v≠0/\0<eP n.v d.v/\(¬d.v=1->eI (n.div (.mk' (eP n.v d.v)))=eI (NF.make n d).num)/\eI (d.div (.mk' (eP n.v d.v)))=eI (NF.make n d).den:=by
 obtain⟨dn,e⟩:∃dn:Nat,d.v=dn:=⟨d.v.toNat,by omega⟩
 have f:dn≠0:=by omega
 obtain⟨e1,e2⟩:=lX (n:=n.v) f;have c:eP n.v d.v=(hb n.v.natAbs dn:Nat):=by rw[eP,e];rfl
 have k:0<hb n.v.natAbs dn:=Nat.gcd_pos_of_pos_right _ (by omega);have i:(hb n.v.natAbs dn:Int)∣n.v:=Int.ofNat_dvd_left.2 (Nat.gcd_dvd_left _ _);refine⟨by rw[NI.iH,c];omega,by rw[c];omega,fun g=>?_,?_⟩
 ·refine ni ?_ (fun _=>?_)
  ·show n.v/eP n.v d.v=(hB n.v d.v).num;rw[c,e,e1]
  ·show decide (n.v% eP n.v d.v≠0)=(n.m&&decide (d.v=1))
   rw[c,Int.emod_eq_zero_of_dvd i];simp[g]
 ·refine ni ?_ (fun h=>?_)
  ·show d.v/eP n.v d.v=((hB n.v d.v).den:Int)
   rw[c,e,e2];exact(Int.natCast_ediv _ _).symm
  ·have:d.v/eP n.v d.v= -9223372036854775808:=h;have:=Int.ediv_nonneg (a:=d.v) (b:=eP n.v d.v) (by omega) (by rw[c];omega);omega
theorem X7{n d:NI}(a:d.v<0):NF.make n.neg d.neg=NF.make n d:=by
 rw[NF.make,NF.make];have e1:hB n.neg.v d.neg.v=hB n.v d.v:=Rat.neg_divInt_neg _ _;have e2:(n.neg.m&&decide (d.neg.v=1))=(n.m&&decide (d.v=1)):=by
  rw[show n.neg.m=false from rfl,aT,decide_eq_false (by omega),a1]
 rw[e1,e2]
theorem JH(n:Int):(hB n 1).num=n/\(hB n 1).den=1:=by
 obtain⟨e1,e2⟩:=lX (n:=n) (show 1≠0 by decide);rw[hr]at e1 e2;refine⟨?_,?_⟩
 ·exact e1.trans (ee n)
 ·exact e2
theorem Ek(n d:NI)(A:d.v≠0)(q:okW n.v)(o:okW d.v):aC prog 189 [eI n,eI d] (eF (.make n d)):=by
 have i:=uj d;refine aM nf GP mix (by simp[f189]) ?_;simp[f189,-bA];rw[bA];simp[-bA];refine join (fun s=>∃a d':NI,0<d'.v/\okW a.v/\okW d'.v/\NF.make a d'=NF.make n d/\aN s.env 2=.ptr 0 []/\aN s.env 3=.ptr 1 []/\aN s.env 4=.ptr 2 []/\s.heap=[.box false (.p (eI a)),.box false (.p (eI d')),.box false (.p (.st 131 [.st 129 [.int .i64 0,.aP],.st 129 [.int .i64 0,.aP]]))]) ?_ ?_
 ·by_cases l:d.v<0
  ·rw[if_pos l]at i;simp;refine c1 i ?_;simp;refine e1 (ux n q) ?_;simp;refine e1 (ux d o) ?_;simp[ad];exact⟨⟨rfl,rfl⟩,n.neg,d.neg,by rw[NI.Fl];omega,re q (by rw[NI.Fl];omega),re o (by rw[NI.Fl];omega),X7 l,rfl,rfl⟩
  ·rw[if_neg l,if_neg A]at i;simp;refine c1 i ?_;simp;exact⟨n,d,by omega,q,o,rfl,rfl,rfl⟩
 ·rintro⟨G,H⟩ ⟨a,d',F,y,r,z,b,e,f,u⟩;dsimp only at b e f u;subst u;rw[<-z];clear z i;have t:=PQ a d' y r;obtain⟨g1,g2,g3,g4⟩:=VO (n:=a) F;have og:okW (eP a.v d'.v):=by
   refine re r ?_;rw[eP];exact g5 (hd (dz _)) (Nat.gcd_le_right _ (by omega))
  have w:=PT a (.mk' (eP a.v d'.v)) g2 y og;have x:=PT d' (.mk' (eP a.v d'.v)) g2 r og
  by_cases hs:d'.v=1
  ·have g:d'.sm=true:=NI.Ah (by omega) (by omega);have j:=mi g;have k:=mZ g;rw[hs]at k;have C:eF (.make a d')=.st 131 [eI a,eI d']:=by
    rw[eF];have D:(NF.make a d').num=a:=by
     show(⟨(hB a.v d'.v).num,a.m&&decide (d'.v=1)⟩:NI)=a;rw[hs,(JH _).1];simp
    have E:eI (NF.make a d').den=eI d':=by
     refine ni ?_ (fun h=>?_)
     ·show((hB a.v d'.v).den:Int)=d'.v;rw[hs,(JH _).2];rfl
     ·have:((hB a.v d'.v).den:Int)= -9223372036854775808:=h;omega
    rw[D,E]
   rw[C];simp[b,e,f,ad,j,k,dD,cX]
   done
  ·rw[eF,<-g3 hs,<-g4];have B:(wI d'=.aP/\¬sI d'=1)\/∃c cs,wI d'=.seq (c::cs):=by
    rcases g:d'.sm with _|_
    ·exact .inr (oc g)
    ·exact .inl ⟨mi g,by rw[mZ g];exact hs⟩
   rcases B with⟨j,k⟩|⟨c,cs,j⟩
   ·simp[b,e,f,ad,j,k,dD,cX];refine c2 t ?_;simp[b,e,f,ad];refine e2 w ?_;simp[b,e,f,ad];refine e2 x ?_;simp[b,e,f,ad]
    done
   ·simp[b,e,f,ad,j,dD,cX];refine c2 t ?_;simp[b,e,f,ad];refine e2 w ?_;simp[b,e,f,ad];refine e2 x ?_;simp[b,e,f,ad]
    done
theorem lF(a:NF):a.num.v=a.q.num:=rfl
theorem jB(a:NF):a.den.v=a.q.den:=rfl
theorem kf(a:NF):a.den.v.natAbs=a.q.den:=by rw[jB,dz]
theorem rS{x y:NI}{k l:Nat}(hx:x.v.natAbs<2^k)(a:y.v.natAbs<2^l)(h:k+l<=4*kB):aC prog 190 [eI x,eI y] (eI (x.mul y)):=by
 have b:=y5 hx;have c:=y5 a;have d:kB=100000:=rfl;exact Aq x y (by omega)
theorem po{x y:Int}{k l:Nat}(hx:x.natAbs<2^k)(a:y.natAbs<2^l):(x*y).natAbs<2^(k+l):=by
 rw[db,gA];exact Nat.mul_lt_mul'' hx a
theorem Dm{n d:NI}{q:Rat}(m:Bool)(hq:hB n.v d.v=q)(a:(n.m&&decide (d.v=1))=m):NF.make n d=⟨q,m⟩:=by rw[NF.make,hq,a]
theorem X5(a b:NF):NF.make (a.num.mul b.num) (a.den.mul b.den)=a.mul b:=by
 refine Dm _ ?_ rfl;rw[NI.mh,NI.mh,lF,lF,jB,jB,Rat.mul_def,Rat.normalize_eq_mkRat];rfl
theorem tY(a b:NF)(c:bK kB a.q)(d:bK kB b.q):aC prog 172 [eF a,eF b] (eF (a.mul b)):=by
 have f:=rS (x:=a.num) (y:=b.num) c.1 d.1 (by omega);have g:=rS (x:=a.den) (y:=b.den) (by rw[kf];exact c.2) (by rw[kf];exact d.2) (by omega);have e:=Ek (a.num.mul b.num) (a.den.mul b.den) (by rw[NI.mh,jB,jB];have:=a.q.den_nz;have:=b.q.den_nz;exact eb (by omega) (by omega)) (il (po c.1 d.1) (by omega)) (il (po (x:=a.den.v) (y:=b.den.v) (by rw[kf];exact c.2) (by rw[kf];exact d.2)) (by omega));rw[X5]at e;refine aM nf PB mix (by simp[f172]) ?_;simp[f172,ad];refine e2 f ?_;simp[ad];refine e2 g ?_;simp[ad];refine e2 e ?_;simp[ad]
theorem Yg(a:NF)(h:a.q≠0):NF.make a.den a.num=a.inv:=by
 refine Dm _ ?_ rfl;rw[lF,jB];show hB a.q.den a.q.num=a.q⁻¹;rw[Rat.inv_def]
theorem Mi(a:NF)(c:bK kB a.q)(b:a.q≠0):aC prog 173 [eF a] (eF a.inv):=by
 have d:=Ek a.den a.num (by rw[lF];exact mt hC.1 b) (il (by rw[kf];exact c.2) qu) (il c.1 qu);rw[Yg a b]at d;refine aM nf PA mix (by simp[f173]) ?_;simp[f173,ad];refine c2 d ?_;simp[ad]
theorem PI(a b:NF)(g:bK kB a.q)(c:bK kB b.q)(f:b.q≠0):aC prog 75 [eF a,eF b] (eF (a.div b)):=by
 have h:=Mi b c f;have d:=tY a b.inv g (IP c);have e:a.mul b.inv=a.div b:=by
  rw[NF.mul,NF.div,NF.inv,Rat.div_def]
 rw[e]at d;refine aM nf QU mix (by simp[f75]) ?_;simp[f75,ad];refine e1 h ?_;simp[ad];refine e2 d ?_;simp[ad]
theorem YM(a b:NF)(h:¬(a.fE=true/\b.fE=true)):NF.make ((a.num.mul b.den).add (b.num.mul a.den)) (a.den.mul b.den)=a.add b:=by
 have g:(a.fE&&b.fE)=false:=by simpa using h
 refine Dm _ ?_ ?_
 ·rw[NI.rW,NI.mh,NI.mh,NI.mh,lF,lF,jB,jB,Rat.add_def'];rfl
 ·rw[g,aT];have:¬(a.den.mul b.den).v=1:=by
   intro c;rw[NI.mh,jB,jB]at c;have d:a.q.den*b.q.den=1:=by exact_mod_cast c
   have e:=Nat.eq_one_of_mul_eq_one_right d;have f:=Nat.eq_one_of_mul_eq_one_left d;exact h ⟨by rw[NF.fE];simp[e,f],by rw[NF.fE];simp[e,f]⟩
  rw[decide_eq_false this,a1]
theorem MZ{q:Rat}(h:q.den=1):(q.num:Rat)=q:=by
 apply Rat.ext
 ·rw[Rat.num_intCast]
 ·rw[Rat.den_intCast,h]
theorem uI(a b:NF)(j:bK kB a.q)(k:bK kB b.q):aC prog 89 [eF a,eF b] (eF (a.add b)):=by
 have d:=CD a;have n:=CD b;refine aM nf Q6 mix (by simp[f89]) ?_
 by_cases hw:a.fE=true/\b.fE=true
 ·rw[hw.1]at d;rw[hw.2]at n;have l:=xn a.num b.num (il j.1 qu) (il k.1 qu);have g:=DJ (a.num.add b.num);have c:a.q.den=1:=by simpa[NF.fE]using hw.1
  have f:b.q.den=1:=by simpa[NF.fE]using hw.2
  have e:NF.whole (a.num.add b.num)=a.add b:=by
   rw[NF.whole,NF.add];have e1:(((a.num.add b.num).v:Int):Rat)=a.q+b.q:=by
    rw[NI.rW,lF,lF,Rat.intCast_add,MZ c,MZ f]
   have e2:(a.num.add b.num).m=(a.fE&&b.fE&&(a.num.sm&&b.num.sm)):=by rw[hw.1,hw.2];rfl
   rw[e1,e2]
  rw[e]at g;simp[f89,ad];refine c1 d ?_;simp[ad];refine c1 n ?_;simp[ad];refine c2 l ?_;simp[ad];refine c1 g ?_;simp[ad]
 ·have h:a.den.v.natAbs<2^kB:=by rw[kf];exact j.2
  have i:b.den.v.natAbs<2^kB:=by rw[kf];exact k.2
  have l:=rS (x:=a.num) (y:=b.den) j.1 i (by omega);have g:=rS (x:=b.num) (y:=a.den) k.1 h (by omega);have s:(a.num.mul b.den).v.natAbs<2^(kB+kB):=po j.1 i;have t:(b.num.mul a.den).v.natAbs<2^(kB+kB):=po k.1 h;have p:=xn _ _ (il s (by omega)) (il t (by omega));have r:=rS (x:=a.den) (y:=b.den) h i (by omega);have u:((a.num.mul b.den).add (b.num.mul a.den)).v.natAbs<2^(kB+kB+1):=by
   rw[NI.rW,gm];exact gi (Int.natAbs_add_le _ _) (by omega)
  have w:kB=100000:=rfl;have o:=Ek ((a.num.mul b.den).add (b.num.mul a.den)) (a.den.mul b.den) (by rw[NI.mh,jB,jB];have:=a.q.den_nz;have:=b.q.den_nz;exact eb (by omega) (by omega)) (il u (by omega)) (il (po (x:=a.den.v) (y:=b.den.v) h i) (by omega));rw[YM a b hw]at o;have hc:a.fE=false\/(a.fE=true/\b.fE=false):=by
   rcases c:a.fE with _|_
   ·exact .inl rfl
   ·exact .inr ⟨rfl,by rcases f:b.fE with _|_;rfl;exact(hw ⟨c,f⟩).elim⟩
  rcases hc with c|⟨c,f⟩
  ·rw[c]at d;simp[f89,ad];refine c1 d ?_;simp[ad];refine e2 l ?_;simp[ad];refine e2 g ?_;simp[ad];refine e2 p ?_;simp[ad];refine e2 r ?_;simp[ad];refine e2 o ?_;simp[ad]
  ·rw[c]at d;rw[f]at n;simp[f89,ad];refine c1 d ?_;simp[ad];refine c1 n ?_;simp[ad];refine e2 l ?_;simp[ad];refine e2 g ?_;simp[ad];refine e2 p ?_;simp[ad];refine e2 r ?_;simp[ad];refine e2 o ?_;simp[ad]
theorem zK(a b:NF)(d:bK kB a.q)(c:bK kB b.q):aC prog 191 [eF a,eF b] (eF (a.sub b)):=by
 have e:=Mh b c;have f:=uI a b.neg d (Cv c);refine aM nf GO mix (by simp[f191]) ?_;simp[f191,ad];refine e1 e ?_;simp[ad];refine e2 f ?_;simp[ad];exact Wk.refl _
def fc(x y:Rat):Int:=if x<y then -1 else if x=y then 0 else 1
theorem aIZ(a b:Rat):jV (a.num*b.den) (b.num*a.den)=fc a b:=by
 have c:a<b↔a.num*b.den<b.num*a.den:=hE _ _;have f:a=b↔a.num*b.den=b.num*a.den:=by
  constructor
  ·rintro rfl;rfl
  ·intro h
   by_cases d:a<b
   ·rw[c]at d;omega
   ·by_cases e:b<a
    ·have g:=(hE b a).1 e;omega
    ·exact Rat.le_antisymm (hD.1 e) (hD.1 d)
 simp only[jV,fc,c,f]
theorem uH(a b:NF)(c:bK kB a.q)(d:bK kB b.q):aC prog 136 [eF a,eF b] (.int .i64 (fc a.q b.q)):=by
 have e:a.den.v.natAbs<2^kB:=by rw[kf];exact c.2
 have f:b.den.v.natAbs<2^kB:=by rw[kf];exact d.2
 have j:=rS (x:=a.num) (y:=b.den) c.1 f (by omega);have k:=rS (x:=b.num) (y:=a.den) d.1 e (by omega);have h:(a.num.mul b.den).v.natAbs<2^(kB+kB):=po c.1 f;have i:(b.num.mul a.den).v.natAbs<2^(kB+kB):=po d.1 e;have g:=PO _ _ (il h (by omega)) (il i (by omega));rw[NI.mh,NI.mh,lF,lF,jB,jB,aIZ]at g;refine aM nf Ia mix (by simp[f136]) ?_;simp[f136,ad];refine e2 j ?_;simp[ad];refine e2 k ?_;simp[ad];refine e2 g ?_;simp[ad]
def low:Nat->Nat->List Nat
 |0,_=>[]
 |i+1,n=>(48+n/10^i% 10)::low i n
def nd(n:Nat):Nat:=if h:n=0 then 0 else nd (n/10)+1
 decreasing_by omega
theorem nq:∀(i n:Nat),i<nd n↔10^i<=n
 |0,n=>by
  rw[nd];split
  ·subst n;simp
  ·simp;omega
 |i+1,n=>by
  rw[nd];split
  ·rename_i h;subst h;have:=gj (n:=i+1) (show 0<10 by omega);constructor
   ·intro h;omega
   ·intro h;omega
  ·have:=nq i (n/10);rw[hl (by omega),<-gm]at this;rw[<-this];omega
theorem rp(b n:Nat):∀a,low (a+b) n=low a (n/10^b)++low b n
 |0=>by simp[low]
 |a+1=>by
  rw[show a+1+b=(a+b)+1 by omega,low,low,rp b n a,Nat.div_div_eq_div_mul,<-gA,Nat.add_comm b a];rfl
theorem Dn(n k:Nat):∀b,b<=k->low b (n% 10^k)=low b n
 |0,_=>rfl
 |b+1,h=>by
  have e:k=b+(k-b-1+1):=by omega
  have a:n% 10^k/10^b=n/10^b% 10^(k-b-1+1):=by
   conv=>lhs;rw[e,gA]
   rw[Nat.mod_mul_right_div_self]
  rw[low,low,Dn n k b (by omega),a,Nat.mod_mod_of_dvd _ (Nat.pow_dvd_pow 10 (show 1<=k-b-1+1 by omega)|>fun h=>by simpa using h)]
theorem aGK{n m:Nat}(h:∀i,i<nd n↔i<m):nd n=m:=by
 have a:=h m;have b:=h (nd n);omega
theorem D3{n k:Nat}(h:10^k<=n):nd n=nd (n/10^k)+k:=by
 refine aGK fun i=>?_;rw[nq]
 by_cases hi:i<k
 ·have:=gc (show 0<10 by omega) (Nat.le_of_lt hi);constructor
  ·intro _;omega
  ·intro _;omega
 ·obtain⟨j,rfl⟩:∃j,i=j+k:=⟨i-k,by omega⟩
  rw[gA,<-hl (gj (by omega)),<-nq];omega
theorem rU{n k:Nat}(h:n<10^k):nd n<=k:=by
 rcases g0 k (nd n)with a|a
 ·rw[nq]at a;omega
 ·exact a
theorem xe{n:Nat}(h:0<n):0<nd n:=by rw[nq,g7];exact h
theorem X8{M:Nat}(h:10^9<=M):low (nd M) M=low (nd (M/10^9)) (M/10^9)++low 9 (M% 10^9):=by
 rw[D3 h,rp,Dn _ _ _ (gg 9)]
theorem rl(n:Nat):∀i,(low i n).length=i
 |0=>rfl
 |i+1=>by simp[low,rl n i]
def aZ(n:Nat):List Nat:=low (max 1 (nd n)) n
def bL(z:Int):List Nat:=if z<0 then 45::aZ z.natAbs else aZ z.natAbs
def bc(q:Rat):List Nat:=if q.den=1 then bL q.num else bL q.num++47::aZ q.den
def aX(s:List Nat):Nat:=s.foldl (fun n c=>n*10+(c-48)) 0
def cj(c:Nat):Bool:=decide (48<=c)&&decide (c<=57)
theorem yQ(s:List Nat)(c:Nat):aX (s++[c])=aX s*10+(c-48):=by simp[aX]
theorem tM(i n:Nat):low (i+1) n=low i (n/10)++[48+n% 10]:=by
 have:=rp 1 n i;rw[this];simp[low]
theorem Rj:∀(i n:Nat),(low i n).all cj=true
 |0,n=>rfl
 |i+1,n=>by
  rw[low,en,Rj i n];have:=hp (n/10^i) (show 0<10 by omega);simp[cj];omega
theorem Lv:∀(i n:Nat),aX (low i n)=n% 10^i
 |0,n=>by simp[low,aX,Nat.mod_one]
 |i+1,n=>by
  rw[tM,yQ,Lv i,gm,gx (10^i),Nat.mod_mul];omega
theorem C3(n:Nat):n<10^nd n:=by
 rcases g0 n (10^nd n)with h|h
 ·exact h
 ·have:=(nq (nd n) n).2 h;omega
theorem pW(n:Nat):aX (aZ n)=n:=by
 rw[aZ,Lv];refine gt (ge (C3 n) (gc (by omega) (by omega)))
theorem Bl{a b:Nat}(h:aZ a=aZ b):a=b:=by rw[<-pW a,h,pW]
theorem rh(n:Nat):(aZ n).length=max 1 (nd n):=rl _ _
theorem ov(n:Nat):(aZ n).all cj=true:=Rj _ _
theorem mP:aZ 0=[48]:=by
 have:nd 0=0:=by rw[nd,dif_pos rfl]
 rw[aZ,this];rfl
theorem So{n:Nat}(h:0<n):(aZ n).head?=some (48+n/10^(nd n-1))/\0<n/10^(nd n-1)/\n/10^(nd n-1)<10:=by
 have d:=xe h;obtain⟨k,hk⟩:∃k,nd n=k+1:=⟨nd n-1,by omega⟩
 have e:max 1 (nd n)=k+1:=by omega
 have c:=(nq k n).1 (by omega);have a:=C3 n;rw[hk]at a;have b:n/10^k<10:=by rw[g6 (gj (by omega)),gx,<-gm];exact a
 rw[aZ,e,hk,gy];exact⟨by rw[low,e9,gt b],ha c (gj (by omega)),b⟩
def dI(s:List Nat):Bool:=!s.isEmpty&&s.all cj&&(decide (s.head?≠some 48)||decide (s=[48]))
theorem F1(n:Nat):dI (aZ n)=true:=by
 rcases gl n with rfl|h
 ·rw[mP];rfl
 ·obtain⟨b,f,g⟩:=So h;have d:(aZ n).isEmpty=false:=by
   have:=rh n;cases he:aZ n with
   |nil=>rw[he]at this;simp at this;omega
   |cons a l=>rfl
  have c:¬(some (48+n/10^(nd n-1))=some 48):=by intro e;injection e with e;omega
  simp only[dI,d,ov,b,Bool.not_false,a6,ne_eq,c,not_false_eq_true,decide_true,Bool.true_or]
theorem ju:∀(k:Nat)(s:List Nat),s.length=k->s.all cj=true->aX s<10^k
 |0,s,h,_=>by
            have:s=[]:=eq.1 h
            subst this;simp[aX]
 |n+1,s,h,a=>by
  have b:s≠[]:=by intro e;subst e;simp at h
  obtain⟨t,c,rfl⟩:∃t c,s=t++[c]:=⟨s.dropLast,s.getLast b,(fb b).symm⟩
  simp only[fN,en,gb,ax,ap]at a;have d:=ju n t (by simpa using h) a.1;have hc:=a.2;simp only[cj,ap,decide_eq_true_eq]at hc;rw[yQ,gm];omega
theorem Mr:∀(k:Nat)(s:List Nat),s.length=k->s.all cj=true->low k (aX s)=s
 |0,s,h,_=>by
            have:s=[]:=eq.1 h
            subst this;rfl
 |n+1,s,h,a=>by
  have b:s≠[]:=by intro e;subst e;simp at h
  obtain⟨t,c,rfl⟩:∃t c,s=t++[c]:=⟨s.dropLast,s.getLast b,(fb b).symm⟩
  simp only[fN,en,gb,ax,ap]at a;have d:=Mr n t (by simpa using h) a.1;have hc:=a.2;simp only[cj,ap,decide_eq_true_eq]at hc;rw[tM,yQ];have e1:(aX t*10+(c-48))/10=aX t:=by omega
  have e2:(aX t*10+(c-48))% 10=c-48:=by omega
  rw[e1,e2,d];congr 2;omega
theorem T9(c:Nat)(s:List Nat)(h:49<=c):10^s.length<=aX (c::s):=by
 have key:∀(s:List Nat)(a:Nat),a*10^s.length<=s.foldl (fun n c=>n*10+(c-48)) a:=by
  intro s
  induction s with
  |nil=>intro a;simp
  |cons x r b=>
   intro a;rw[fv,fm];refine g5 ?_ (b _);rw[gm,gx (10^r.length),<-hv];exact hn _ (by omega)
 have:=key s (c-48);rw[aX,fv,Nat.zero_mul,hy];refine g5 ?_ this;have:1*10^s.length<=(c-48)*10^s.length:=hn _ (by omega);omega
theorem wR{s:List Nat}(h:dI s=true):aZ (aX s)=s:=by
 simp only[dI,ap,ar,decide_eq_true_eq,av]at h;obtain⟨⟨f,a⟩,b⟩:=h;rcases b with b|rfl
 ·cases s with
  |nil=>simp at f
  |cons c r=>
   have hc:cj c=true:=by simpa using(en.symm.trans a|>fun h=>by simpa using h:cj c=true/\r.all cj=true).1
   simp only[cj,ap,decide_eq_true_eq]at hc;have i:49<=c:=by
    have:c≠48:=fun e=>b (by rw[e];rfl);omega
   have g:=ju _ _ rfl a;have j:=T9 c r i;have k:nd (aX (c::r))=r.length+1:=by
    have l:=(nq r.length _).2 j;have d:=rU g;rw[fm]at d;omega
   rw[aZ,k,show max 1 (r.length+1)=r.length+1 by omega];exact Mr _ _ rfl a
 ·have:aX [48]=0:=rfl;rw[this,mP]
def b7(c:Nat):List Nat->List Nat×List Nat×Bool
 |[]=>([],[],false)
 |x::r=>if x=c then([],r,true)else(x::(b7 c r).1,(b7 c r).2.1,(b7 c r).2.2)
theorem CV(c:Nat):∀(a b:List Nat),c∉a->b7 c (a++c::b)=(a,b,true)
 |[],b,_=>by simp[b7]
 |x::a,b,h=>by
  simp only[ew,not_or]at h;rw[e6,b7,if_neg (fun e=>h.1 e.symm),CV c a b h.2]
theorem CC(c:Nat):∀(a:List Nat),c∉a->b7 c a=(a,[],false)
 |[],_=>rfl
 |x::a,h=>by
  simp only[ew,not_or]at h;rw[b7,if_neg (fun e=>h.1 e.symm),CC c a h.2]
theorem pM(c:Nat):∀(s:List Nat),((b7 c s).2.2=true/\s=(b7 c s).1++c::(b7 c s).2.1)\/((b7 c s).2.2=false/\(b7 c s).1=s/\(b7 c s).2.1=[])
 |[]=>by simp[b7]
 |x::s=>by
  rw[b7]
  by_cases h:x=c
  ·subst h;simp
  ·rw[if_neg h];rcases pM c s with⟨a,b⟩|⟨a,b,d⟩
   ·left;exact⟨a,by dsimp only;rw[e6,<-b]⟩
   ·right;exact⟨a,by dsimp only;rw[b],d⟩
def bZ(s:List Nat):Bool:=decide (s.head?=some 45)
def cW(s:List Nat):List Nat:=if bZ s=true then s.tail else s
def bH(s:List Nat):List Nat:=(b7 47 (cW s)).1
def bQ(s:List Nat):List Nat:=(b7 47 (cW s)).2.1
def ek(s:List Nat):Bool:=(b7 47 (cW s)).2.2
def jR(s:List Nat):Bool:=dI (bH s)&&!(bZ s&&decide (bH s=[48]))&&(!ek s||(dI (bQ s)&&decide (bQ s≠[48])&&decide (bQ s≠[49])))
def bX(s:List Nat):Int:=
 if jR s=false then 1
 else if 600<(bH s).length\/600<(bQ s).length then 4
 else if ek s=true/\hb (aX (bH s)) (aX (bQ s))≠1 then 1 else 0
def bh(s:List Nat):Rat:=hB (if bZ s=true then -(aX (bH s):Int)else aX (bH s)) (if ek s=true then aX (bQ s)else 1:Nat)
theorem Bh{s:List Nat}(h:s.all cj=true){c:Nat}(hc:cj c=false):c∉s:=by
 intro a;rw[e8]at h;rw[h c a]at hc;cases hc
theorem jm{s:List Nat}(h:dI s=true):s.all cj=true:=by
 simp only[dI,ap]at h;exact h.1.2
theorem vJ(n:Nat):bL (n:Int)=aZ n:=by
 rw[bL,if_neg (by omega)];rfl
theorem aKc{n:Nat}(h:0<n):bL (-(n:Int))=45::aZ n:=by
 rw[bL,if_pos (by omega)];congr 1;rw[ec];rfl
theorem y7{s:List Nat}(h:dI s=true)(a:s≠[48]):0<aX s:=by
 rcases gl (aX s)with e|e
 ·have:=wR h;rw[e,mP]at this;exact(a this.symm).elim
 ·exact e
theorem jA{s:List Nat}(h:bX s=0):bc (bh s)=s/\(bh s).num=(if bZ s=true then -(aX (bH s):Int)else aX (bH s))/\(bh s).den=(if ek s=true then aX (bQ s)else 1:Nat):=by
 unfold bX at h
 split at h
 ·cases h
 rename_i b
 split at h
 ·cases h
 split at h
 ·cases h
 rename_i g;have b:jR s=true:=by simpa using b
 simp only[jR,ap,av,ay,decide_eq_false_iff_not,ar,decide_eq_true_eq]at b;obtain⟨⟨d,a2⟩,a3⟩:=b;have hs:s=(if bZ s=true then[45]else[])++cW s:=by
  rw[cW]
  by_cases a:bZ s=true
  ·rw[if_pos a,if_pos a];simp only[bZ,decide_eq_true_eq]at a;cases s with
   |nil=>simp at a
   |cons c r=>simp at a;subst a;rfl
  ·rw[if_neg a,if_neg a];rfl
 have i:(if ek s=true then aX (bQ s)else 1:Nat)≠0:=by
  split
  ·rename_i hf;rcases a3 with a3|a3
   ·rw[hf]at a3;cases a3
   ·have:=y7 a3.1.1 a3.1.2;omega
  ·omega
 have j:hb (if bZ s=true then -(aX (bH s):Int)else aX (bH s)).natAbs (if ek s=true then aX (bQ s)else 1:Nat)=1:=by
  have e:(if bZ s=true then -(aX (bH s):Int)else aX (bH s)).natAbs=aX (bH s):=by split<;>omega
  rw[e]
  by_cases hf:ek s=true
  ·rw[if_pos hf];exact Decidable.not_not.1 fun e=>g ⟨hf,e⟩
  ·rw[if_neg hf,hr]
 obtain⟨e1,e2⟩:=lX (n:=if bZ s=true then -(aX (bH s):Int)else aX (bH s)) i;rw[j]at e1 e2;simp only[Nat.div_one]at e2;have e1:(bh s).num=(if bZ s=true then -(aX (bH s):Int)else aX (bH s)):=by rw[bh,e1];exact ee _
 have e2:(bh s).den=(if ek s=true then aX (bQ s)else 1:Nat):=e2;refine⟨?_,e1,e2⟩;have hI:bL (bh s).num=(if bZ s=true then[45]else[])++bH s:=by
  rw[e1]
  by_cases a:bZ s=true
  ·rw[if_pos a,if_pos a,aKc,wR d];·rfl
   refine y7 d ?_;rcases a2 with a2|a2
   ·rw[a]at a2;cases a2
   ·exact a2
  ·rw[if_neg a,if_neg a,vJ,wR d];rfl
 rw[bc,hI,e2]
 by_cases hf:ek s=true
 ·have f:dI (bQ s)=true/\bQ s≠[48]/\bQ s≠[49]:=by
   rcases a3 with a3|a3
   ·rw[hf]at a3;cases a3
   ·exact⟨a3.1.1,a3.1.2,a3.2⟩
  have k:aX (bQ s)≠1:=by
   intro e;have:=wR f.1;rw[e]at this;have b:nd 1=1:=by rw[nd,dif_neg (by omega),nd,dif_pos (by omega)]
   have:aZ 1=[49]:=by rw[aZ,b];rfl
   exact f.2.2 (by rw[<-this];assumption|>Eq.symm)
  rw[if_pos hf,if_neg k,wR f.1]
  conv=>rhs;rw[hs]
  rw[List.append_assoc];congr 1;rcases pM 47 (cW s)with⟨g1,g2⟩|⟨g1,_⟩
  ·exact g2.symm
  ·rw[ek,g1]at hf;cases hf
 ·rw[if_neg hf,if_pos rfl]
  conv=>rhs;rw[hs]
  congr 1;rcases pM 47 (cW s)with⟨g1,g2⟩|⟨g1,g2,_⟩
  ·exact(hf g1).elim
  ·exact g2
theorem yR(z:Int)(r:List Nat):bZ (bL z++r)=decide (z<0)/\cW (bL z++r)=aZ z.natAbs++r:=by
 by_cases h:z<0
 ·have:bL z=45::aZ z.natAbs:=by rw[bL,if_pos h]
  rw[this];simp[bZ,cW,h]
 ·have e:bL z=aZ z.natAbs:=by rw[bL,if_neg h]
  have a:=ov z.natAbs;have b:=rh z.natAbs;rw[e];have d:bZ (aZ z.natAbs++r)=false:=by
   cases f:aZ z.natAbs with
   |nil=>rw[f]at b;simp at b;omega
   |cons c t=>
    rw[f]at a;simp only[en,ap]at a;have hc:=a.1;simp only[cj,ap,decide_eq_true_eq]at hc;have:¬(some c=some 45):=by intro e;injection e with e;omega
    simp only[bZ,e6,e9,this,decide_false]
  exact⟨by rw[d];simp[h],by rw[cW,d];simp⟩
theorem tV(q:Rat):bZ (bc q)=decide (q.num<0)/\bH (bc q)=aZ q.num.natAbs/\ek (bc q)=decide (q.den≠1)/\bQ (bc q)=if q.den=1 then[]else aZ q.den:=by
 have d:47∉aZ q.num.natAbs:=Bh (ov _) rfl
 by_cases h:q.den=1
 ·have e:bc q=bL q.num++[]:=by rw[bc,if_pos h,em]
  obtain⟨c,b⟩:=yR q.num [];rw[em,em]at b;have a:=CC 47 _ d;rw[<-b]at a;rw[e];refine⟨c,?_,?_,?_⟩
  ·rw[em,bH,a,b]
  ·rw[em,ek,a,h];rfl
  ·rw[em,bQ,a,if_pos h]
 ·have e:bc q=bL q.num++47::aZ q.den:=by rw[bc,if_neg h]
  obtain⟨c,b⟩:=yR q.num (47::aZ q.den);have a:=CV 47 _ (aZ q.den) d;rw[<-b]at a;rw[e];refine⟨c,?_,?_,?_⟩
  ·rw[bH,a]
  ·rw[ek,a];simp[h]
  ·rw[bQ,a,if_neg h]
theorem DC(q:Rat):bh (bc q)=q:=by
 obtain⟨a,b,c,d⟩:=tV q;have e1:(if bZ (bc q)=true then -(aX (bH (bc q)):Int)else aX (bH (bc q)))=q.num:=by
  rw[a,b,pW]
  by_cases h:q.num<0
  ·simp[h];omega
  ·simp[h];omega
 have e2:(if ek (bc q)=true then aX (bQ (bc q))else 1:Nat)=q.den:=by
  rw[c,d]
  by_cases h:q.den=1
  ·simp[h]
  ·simp[h,pW]
 rw[bh,e1,e2,Rat.num_divInt_den]
theorem Bk{a b:Rat}(h:bc a=bc b):a=b:=by rw[<-DC a,h,DC]
theorem F0:aZ 1=[49]:=by
 have a:nd 1=1:=by rw[nd,dif_neg (by omega),nd,dif_pos (by omega)]
 rw[aZ,a];rfl
theorem ZY{q:Rat}(g:(aZ q.num.natAbs).length<=600)(i:(aZ q.den).length<=600):bX (bc q)=0:=by
 obtain⟨g1,g2,g3,g4⟩:=tV q;have hf:jR (bc q)=true:=by
  simp only[jR,g1,g2,g3,g4,F1,a6,ap,ar,av,ay,decide_eq_false_iff_not,decide_eq_true_eq];refine⟨?_,?_⟩
  ·by_cases h:q.num<0
   ·right;intro e;have:=Bl (b:=0) (e.trans mP.symm);omega
   ·exact .inl h
  ·by_cases h:q.den=1
   ·left;simp[h]
   ·right;rw[if_neg h];have f:=q.den_nz;refine⟨⟨F1 _,fun e=>?_⟩,fun e=>?_⟩
    ·exact f (Bl (e.trans mP.symm))
    ·exact h (Bl (e.trans F0.symm))
 rw[bX,hf,if_neg (by simp),g2,g3,g4];rw[if_neg (by
  intro h;rcases h with h|h
  ·omega
  ·split at h
   ·simp at h
   ·omega)]
 rw[if_neg];rintro⟨c,a⟩;have d:¬q.den=1:=by simpa using c
 rw[if_neg d,pW,pW]at a;exact a q.reduced
theorem vI{n k:Nat}(h:n<10^k)(hk:1<=k):(aZ n).length<=k:=by
 rw[rh];have:=rU h;omega
theorem Dk(z:Int):(bL z).length<=(aZ z.natAbs).length+1:=by
 rw[bL];split<;>simp
theorem FZ(q:Rat):(bc q).length<=(aZ q.num.natAbs).length+(aZ q.den).length+2:=by
 have:=Dk q.num;rw[bc];split<;>simp<;>omega
theorem Sp(q:Rat):∀c∈bc q,c<58:=by
 have a:∀n,∀c∈aZ n,c<58:=fun n c hc=>by
  have:=e8.1 (ov n) c hc;simp only[cj,ap,decide_eq_true_eq]at this;omega
 have hI:∀z,∀c∈bL z,c<58:=fun z c hc=>by
  rw[bL]at hc
  split at hc
  ·rcases ew.1 hc with rfl|hc
   ·omega
   ·exact a _ c hc
  ·exact a _ c hc
 intro c hc;rw[bc]at hc
 split at hc
 ·exact hI _ c hc
 ·rcases List.mem_append.1 hc with hc|hc
  ·exact hI _ c hc
  ·rcases ew.1 hc with rfl|hc
   ·omega
   ·exact a _ c hc
theorem Vn(k:Nat):2^(3*k)<=10^k:=by
 rw[g9];exact Nat.pow_le_pow_left (by omega) k
theorem J3{n k:Nat}(h:n<2^(3*k))(hk:1<=k):(aZ n).length<=k:=vI (ge h (Vn k)) hk
theorem se{n k K:Nat}(h:n<2^K)(a:K<=3*k)(hk:1<=k):(aZ n).length<=k:=J3 (ge h (gc (by decide) a)) hk
def mD:Nat:=600
theorem GJ{s:List Nat}(h:bX s=0):(bh s).num.natAbs<10^mD/\(bh s).den<10^mD:=by
 obtain⟨k,f,g⟩:=jA h;unfold bX at h
 split at h
 ·cases h
 rename_i a
 split at h
 ·cases h
 rename_i l;have a:jR s=true:=by simpa using a
 simp only[jR,ap,ar,decide_eq_true_eq]at a;obtain⟨⟨b,_⟩,a3⟩:=a;have c:=ju _ _ rfl (jm b);have i:10^(bH s).length<=10^mD:=gc (by omega) (by rw[mD];omega);refine⟨?_,?_⟩
 ·rw[f];have e:(if bZ s=true then -(aX (bH s):Int)else aX (bH s)).natAbs=aX (bH s):=by split<;>omega
  rw[e];exact ge c i
 ·rw[g]
  by_cases hf:ek s=true
  ·rw[if_pos hf];rcases a3 with a3|a3
   ·rw[hf]at a3;cases a3
   ·have d:=ju _ _ rfl (jm a3.1.1);have j:10^(bQ s).length<=10^mD:=gc (by omega) (by rw[mD];omega);exact ge d j
  ·rw[if_neg hf];exact Nat.one_lt_pow (by decide) (by omega)
open Go
def c7(l:List UInt8):List Nat:=l.map (·.toNat)
theorem Vt(l:List UInt8):(c7 l).map hK=l:=by
 induction l with
 |nil=>rfl
 |cons a r b=>simp only[c7,fl]at b⊢;rw[b];simp
def nw(c:Nat):List Nat->Nat->Int
 |[],_=>-1
 |x::r,i=>bif hh x c then(i:Int)else nw c r (i+1)
theorem MA(c:UInt8):∀(l:List UInt8)(i:Nat),nw c.toNat (c7 l) i=if bk l c= -1 then -1 else bk l c+i
 |[],i=>by simp[nw,c7,bk]
 |x::r,i=>by
  have b:=MA c r (i+1);simp only[c7]at b;simp only[c7,fl,nw,bk]
  by_cases hx:x=c
  ·subst hx;simp
  ·have e:hh x.toNat c.toNat=false:=by
    cases d:hh x.toNat c.toNat
    ·rfl
    ·exact(hx (hG.1 (hm d))).elim
   have f:=Lib.indexByte_ge r c;simp only[e,cond_false,b,beq_iff_eq,hx,if_false]
   by_cases a:bk r c= -1
   ·simp[a]
   ·rw[if_neg a,if_neg a];rw[if_neg (by omega)];omega
theorem MB(c:Nat):∀(s:List Nat)(k:Nat),((b7 c s).2.2=false/\nw c s k= -1/\b7 c s=(s,[],false))\/
 ∃i,i<s.length/\nw c s k=((k+i:Nat):Int)/\b7 c s=(s.take i,s.drop (i+1),true)
 |[],k=>by simp[b7,nw]
 |x::r,k=>by
  rw[b7,nw]
  by_cases h:x=c
  ·subst h;right;refine⟨0,by simp,?_,?_⟩
   ·simp
   ·simp
  ·have d:hh x c=false:=by
    cases d:hh x c
    ·rfl
    ·exact(h (hm d)).elim
   rw[d,if_neg h,cond_false];rcases MB c r (k+1)with⟨e,a,b⟩|⟨i,e,a,b⟩
   ·left;exact⟨e,a,by rw[b]⟩
   ·right;refine⟨i+1,by simp;omega,?_,?_⟩
    ·rw[a];congr 1;omega
    ·rw[b];simp
theorem D9(n:Nat):c7 (be n)=aZ n:=by
 induction n using Nat.strongRecOn with
 |ind n a=>
  rw[be]
  by_cases h:n<10
  ·rw[dif_pos h,aZ];have c:nd n<=1:=rU (by omega);rw[show max 1 (nd n)=1 by omega];rw[show(1:Nat)=0+1 from rfl,tM,low,List.nil_append,gt h];simp[c7,hL];omega
  ·rw[dif_neg h];have b:=a (n/10) (by omega);have e:nd n=nd (n/10)+1:=by
    have:=D3 (n:=n) (k:=1) (by omega);rw[g8]at this;exact this
   have d:0<nd (n/10):=xe (by omega);rw[aZ,e,show max 1 (nd (n/10)+1)=max 1 (nd (n/10))+1 by omega,tM];have:c7 (be (n/10)++[hK (48+n% 10)])=c7 (be (n/10))++[48+n% 10]:=by
    simp[c7,hL];omega
   rw[this,b,aZ]
theorem aD8(z:Int):c7 (b5 z)=bL z:=by
 rw[b5,bL]
 by_cases h:z<0
 ·rw[if_pos h,if_pos h];show 45::c7 _=_;rw[D9]
 ·rw[if_neg h,if_neg h,D9];congr 1;omega
def sL(s:List Nat):Nat->List Nat
 |0=>[]
 |n+1=>s++sL s n
theorem LL(s:List UInt8):∀n,sL (c7 s) n=c7 (b3 s n)
 |0=>by simp[sL,b3,c7]
 |n+1=>by
  have a:=LL s n;simp only[c7]at a;simp[sL,b3,c7,a]
theorem CN(c:Nat):∀n,sL [c] n=fd n c
 |0=>rfl
 |n+1=>by rw[sL,CN c n];rfl
theorem Cl(l:List UInt8):b0 l [45]=bZ (c7 l):=by
 cases l with
 |nil=>rfl
 |cons c r=>
  rw[b0,bZ];simp only[c7,fl,List.isPrefixOf,e9,ax,Option.some.injEq]
  by_cases h:c=45
  ·subst h;rfl
  ·have a:¬c.toNat=45:=fun e=>h (hG.1 e);have b:((45:UInt8)==c)=false:=by simpa using fun e=>h e.symm
   rw[b];simp[a]
theorem Ju(l:List UInt8):c7 (bv l [45])=cW (c7 l):=by
 rw[bv,Cl,cW];cases h:bZ (c7 l)
 ·simp
 ·cases l with
  |nil=>simp[c7,bZ]at h
  |cons c r=>simp[c7]
def lE(s:List Nat):List Nat:=s.dropWhile cj
def jb(s:List Nat):List Nat:=(s.reverse.dropWhile cj).reverse
theorem yo{p:Nat->Bool}:∀{s:List Nat},s.dropWhile p=[]↔s.all p=true
 |[]=>by simp
 |x::r=>by
  rw[List.dropWhile_cons];cases h:p x
  ·simp[h]
  ·simp[h,yo]
theorem VZ(s:List Nat):lE (jb s)=[]↔s.all cj=true:=by
 rw[lE,yo,jb];constructor
 ·intro h
  by_cases a:s.reverse.dropWhile cj=[]
  ·rw[yo,e7]at a;exact a
  ·have b:=List.head_dropWhile_not cj a;rw[e7,e8]at h;rw[h _ (List.head_mem a)]at b;cases b
 ·intro h;have:s.reverse.dropWhile cj=[]:=by rw[yo,e7];exact h
  rw[this];rfl
end Go.au
namespace Go.Proofs
open Go.Shelf
def Tryz.Vi:cC:=⟨fun|103=>270|210=>315|206=>318|n=>n,fun|9=>9|4=>4|24=>324|3=>3|n=>n,fun|n=>n⟩
theorem Tryz.aFb:cA prog Vi:={
 mixed:=by kernel_rfl
 f103:=func270.trans (congrArg some (by kernel_rfl))
 f206:=func318.trans (congrArg some (by kernel_rfl))
 f210:=func315.trans (congrArg some (by kernel_rfl))
 t3:=underlying3
 a3:=isAgg3
 z3:=sizeOf3
 v3:=zeroValue3
 t4:=underlying4
 a4:=isAgg4
 z4:=sizeOf4
 v4:=zeroValue4
 t9:=underlying9
 a9:=isAgg9
 z9:=sizeOf9
 v9:=zeroValue9
 t24:=underlying324
 a24:=isAgg324
 z24:=sizeOf324
 v24:=zeroValue324}
open Go.RowKit in
theorem Tryz.strings_CutPrefix(s p:ByteArray)(w:a7):
 a8 prog 270 #[.string s,.string p] w fun e w'=>e=.returned (.tuple #[.string ⟨(bv s.data.toList p.data.toList).toArray⟩,.bool (b0 s.data.toList p.data.toList)])/\w'=w:=Any.strings_CutPrefix aFb s p w
def Tryz.Vd:cC:=⟨fun|283=>323|n=>n,fun|3=>3|9=>9|4=>4|n=>n,fun|n=>n⟩
theorem Tryz.aGb:cv prog Vd:={
 mixed:=by kernel_rfl
 f283:=func323.trans (congrArg some (by kernel_rfl))
 t3:=underlying3
 a3:=isAgg3
 z3:=sizeOf3
 v3:=zeroValue3
 t4:=underlying4
 a4:=isAgg4
 z4:=sizeOf4
 v4:=zeroValue4
 t9:=underlying9
 a9:=isAgg9
 z9:=sizeOf9
 v9:=zeroValue9}
open Go.Lib in
theorem Tryz.internal_strconv_small(i:Nat)(h:i<100)(w:a7):
 a8 prog 323 #[.int .i64 i] w fun e w'=>e=.returned (.string ⟨(be i).toArray⟩)/\w'=w:=Any.internal_strconv_small aGb i h w
def Tryz.UB:cC:=⟨fun|284=>324|129=>305|317=>362|318=>363|n=>n,fun|53=>308|3=>3|212=>396|0=>0|4=>4|46=>322|5=>5|9=>9|n=>n,fun|17=>1|n=>n⟩
theorem Tryz.Yb:Go.Proofs.LaysM.n284 prog UB:={
 mixed:=by kernel_rfl
 f129:=func305.trans (congrArg some (by kernel_rfl))
 f284:=func324.trans (congrArg some (by kernel_rfl))
 f317:=func362.trans (congrArg some (by kernel_rfl))
 f318:=func363.trans (congrArg some (by kernel_rfl))
 t0:=underlying0
 a0:=isAgg0
 z0:=sizeOf0
 v0:=zeroValue0
 t3:=underlying3
 a3:=isAgg3
 z3:=sizeOf3
 v3:=zeroValue3
 t4:=underlying4
 a4:=isAgg4
 z4:=sizeOf4
 v4:=zeroValue4
 t5:=underlying5
 a5:=isAgg5
 z5:=sizeOf5
 v5:=zeroValue5
 t9:=underlying9
 a9:=isAgg9
 z9:=sizeOf9
 v9:=zeroValue9
 t46:=underlying322
 a46:=isAgg322
 z46:=sizeOf322
 v46:=zeroValue322
 t53:=underlying308
 a53:=isAgg308
 z53:=sizeOf308
 v53:=zeroValue308
 t212:=underlying396
 a212:=isAgg396
 z212:=sizeOf396
 v212:=zeroValue396
 g17:=by kernel_rfl
 i0:=by kernel_rfl
 i3:=by kernel_rfl
 i4:=by kernel_rfl
 i5:=by kernel_rfl
 i9:=by kernel_rfl
 i46:=by kernel_rfl
 i53:=by kernel_rfl
 i212:=by kernel_rfl
 m17:=by kernel_rfl}
open Go.Lib in
theorem Tryz.internal_strconv_numDigits(u:Nat)(h1:1<=u)(h2:u<18446744073709551616)(w:a7)(htab:b2 prog w "internal/strconv.uint64pow10" .u64 b1):
 a8 prog 324 #[.int .u64 u] w fun e w'=>e=.returned (.int .i64 (bi u))/\w'=w:=Any.internal_strconv_numDigits Yb u h1 h2 w htab
def Tryz.Vc:cC:=⟨fun|285=>325|n=>n,fun|37=>225|53=>308|3=>3|4=>4|51=>354|9=>9|5=>5|0=>0|n=>n,fun|n=>n⟩
theorem Tryz.aGc:ck prog Vc:={
 mixed:=by kernel_rfl
 f285:=func325.trans (congrArg some (by kernel_rfl))
 t0:=underlying0
 a0:=isAgg0
 z0:=sizeOf0
 v0:=zeroValue0
 t3:=underlying3
 a3:=isAgg3
 z3:=sizeOf3
 v3:=zeroValue3
 t4:=underlying4
 a4:=isAgg4
 z4:=sizeOf4
 v4:=zeroValue4
 t5:=underlying5
 a5:=isAgg5
 z5:=sizeOf5
 v5:=zeroValue5
 t9:=underlying9
 a9:=isAgg9
 z9:=sizeOf9
 v9:=zeroValue9
 t37:=underlying225
 a37:=isAgg225
 z37:=sizeOf225
 v37:=zeroValue225
 t51:=underlying354
 a51:=isAgg354
 z51:=sizeOf354
 v51:=zeroValue354
 t53:=underlying308
 a53:=isAgg308
 z53:=sizeOf308
 v53:=zeroValue308}
open Go.RowKit Go.Sort Go.Lib in
theorem Tryz.internal_strconv_formatBase10(al off cap:Nat)(u:Nat)(d:Array UInt8)(w:a7)(hH:Holds (fun(b:UInt8)=>c6 .u8 (b.toNat:Int)) w al off d)(hu:u<10^d.size)(hu64:u<18446744073709551616)(hsz:d.size<4611686018427387904):
 a8 prog 325 #[.slice (some ⟨al,off,none⟩) d.size cap,.int .u64 u] w fun e w'=>
  e=.returned (.tuple #[])/\∃(n v':Nat)(dk:Array UInt8),w'=(putRow (fun(b:UInt8)=>c6 .u8 (b.toNat:Int)) w al off dk).drewN n/\FmtInv d.size u 0 v' dk:=Any.internal_strconv_formatBase10 aGc al off cap u d w hH hu hu64 hsz
def Tryz.Uo:cC:=⟨fun|171=>152|243=>228|246=>281|283=>323|284=>324|285=>325|286=>326|129=>305|317=>362|318=>363|319=>364|320=>365|337=>380|338=>381|n=>n,fun|3=>3|9=>9|2=>2|4=>4|171=>362|0=>0|53=>308|37=>225|5=>5|173=>364|212=>396|51=>354|20=>20|213=>397|46=>322|232=>420|233=>421|n=>n,fun|17=>1|18=>6|19=>7|n=>n⟩
theorem Tryz.Yc:Go.Proofs.LaysM.n171 prog Uo:={
 mixed:=by kernel_rfl
 f129:=func305.trans (congrArg some (by kernel_rfl))
 f171:=func152.trans (congrArg some (by kernel_rfl))
 f243:=func228.trans (congrArg some (by kernel_rfl))
 f246:=func281.trans (congrArg some (by kernel_rfl))
 f283:=func323.trans (congrArg some (by kernel_rfl))
 f284:=func324.trans (congrArg some (by kernel_rfl))
 f285:=func325.trans (congrArg some (by kernel_rfl))
 f286:=func326.trans (congrArg some (by kernel_rfl))
 f317:=func362.trans (congrArg some (by kernel_rfl))
 f318:=func363.trans (congrArg some (by kernel_rfl))
 f319:=func364.trans (congrArg some (by kernel_rfl))
 f320:=func365.trans (congrArg some (by kernel_rfl))
 f337:=func380.trans (congrArg some (by kernel_rfl))
 f338:=func381.trans (congrArg some (by kernel_rfl))
 t0:=underlying0
 a0:=isAgg0
 z0:=sizeOf0
 v0:=zeroValue0
 t2:=underlying2
 a2:=isAgg2
 z2:=sizeOf2
 v2:=zeroValue2
 t3:=underlying3
 a3:=isAgg3
 z3:=sizeOf3
 v3:=zeroValue3
 t4:=underlying4
 a4:=isAgg4
 z4:=sizeOf4
 v4:=zeroValue4
 t5:=underlying5
 a5:=isAgg5
 z5:=sizeOf5
 v5:=zeroValue5
 t9:=underlying9
 a9:=isAgg9
 z9:=sizeOf9
 v9:=zeroValue9
 t20:=underlying20
 a20:=isAgg20
 z20:=sizeOf20
 v20:=zeroValue20
 t37:=underlying225
 a37:=isAgg225
 z37:=sizeOf225
 v37:=zeroValue225
 t46:=underlying322
 a46:=isAgg322
 z46:=sizeOf322
 v46:=zeroValue322
 t51:=underlying354
 a51:=isAgg354
 z51:=sizeOf354
 v51:=zeroValue354
 t53:=underlying308
 a53:=isAgg308
 z53:=sizeOf308
 v53:=zeroValue308
 t171:=underlying362
 a171:=isAgg362
 z171:=sizeOf362
 v171:=zeroValue362
 t173:=underlying364
 a173:=isAgg364
 z173:=sizeOf364
 v173:=zeroValue364
 t212:=underlying396
 a212:=isAgg396
 z212:=sizeOf396
 v212:=zeroValue396
 t213:=underlying397
 a213:=isAgg397
 z213:=sizeOf397
 t232:=underlying420
 a232:=isAgg420
 z232:=sizeOf420
 v232:=zeroValue420
 t233:=underlying421
 a233:=isAgg421
 z233:=sizeOf421
 v233:=zeroValue421
 g17:=by kernel_rfl
 g18:=by kernel_rfl
 g19:=by kernel_rfl
 i0:=by kernel_rfl
 i2:=by kernel_rfl
 i3:=by kernel_rfl
 i4:=by kernel_rfl
 i5:=by kernel_rfl
 i9:=by kernel_rfl
 i20:=by kernel_rfl
 i37:=by kernel_rfl
 i46:=by kernel_rfl
 i51:=by kernel_rfl
 i53:=by kernel_rfl
 i171:=by kernel_rfl
 i173:=by kernel_rfl
 i212:=by kernel_rfl
 i232:=by kernel_rfl
 i233:=by kernel_rfl
 m17:=by kernel_rfl
 m18:=by kernel_rfl
 m19:=by kernel_rfl}
open Go.RowKit Go.Sort Go.Lib in
theorem Tryz.strconv_Itoa(n:Int)(h0: -9223372036854775808<=n)(h1:n<=9223372036854775807)(w:a7)(htab:b2 prog w "internal/strconv.uint64pow10" .u64 b1):
 a8 prog 152 #[.int .i64 n] w fun e w'=>e=.returned (.string ⟨(b5 n).toArray⟩)/\∃k os,w'=grow (w.drewN k) os:=Any.strconv_Itoa Yc n h0 h1 w htab
def Tryz.Up:cC:=⟨fun|172=>277|244=>320|245=>321|247=>356|279=>357|280=>358|281=>359|282=>360|287=>377|316=>378|171=>152|205=>379|321=>385|322=>386|243=>228|246=>281|283=>323|284=>324|285=>325|286=>326|129=>305|317=>362|318=>363|319=>364|320=>365|337=>380|338=>381|n=>n,fun|9=>9|3=>3|75=>229|76=>230|4=>4|5=>5|167=>388|37=>225|0=>0|85=>389|2=>2|168=>391|53=>308|175=>409|46=>322|210=>413|127=>330|145=>419|143=>417|21=>21|171=>362|173=>364|212=>396|51=>354|20=>20|213=>397|232=>420|233=>421|80=>288|n=>n,fun|15=>4|16=>5|17=>1|18=>6|19=>7|n=>n⟩
theorem Tryz.Yd:Go.Proofs.LaysC.n172 prog Up:={
 mixed:=by kernel_rfl
 f129:=func305.trans (congrArg some (by kernel_rfl))
 f171:=func152.trans (congrArg some (by kernel_rfl))
 f172:=func277.trans (congrArg some (by kernel_rfl))
 f205:=func379.trans (congrArg some (by kernel_rfl))
 f243:=func228.trans (congrArg some (by kernel_rfl))
 f244:=func320.trans (congrArg some (by kernel_rfl))
 f245:=func321.trans (congrArg some (by kernel_rfl))
 f246:=func281.trans (congrArg some (by kernel_rfl))
 f247:=func356.trans (congrArg some (by kernel_rfl))
 f279:=func357.trans (congrArg some (by kernel_rfl))
 f280:=func358.trans (congrArg some (by kernel_rfl))
 f281:=func359.trans (congrArg some (by kernel_rfl))
 f282:=func360.trans (congrArg some (by kernel_rfl))
 f283:=func323.trans (congrArg some (by kernel_rfl))
 f284:=func324.trans (congrArg some (by kernel_rfl))
 f285:=func325.trans (congrArg some (by kernel_rfl))
 f286:=func326.trans (congrArg some (by kernel_rfl))
 f287:=func377.trans (congrArg some (by kernel_rfl))
 f316:=func378.trans (congrArg some (by kernel_rfl))
 f317:=func362.trans (congrArg some (by kernel_rfl))
 f318:=func363.trans (congrArg some (by kernel_rfl))
 f319:=func364.trans (congrArg some (by kernel_rfl))
 f320:=func365.trans (congrArg some (by kernel_rfl))
 f321:=func385.trans (congrArg some (by kernel_rfl))
 f322:=func386.trans (congrArg some (by kernel_rfl))
 f337:=func380.trans (congrArg some (by kernel_rfl))
 f338:=func381.trans (congrArg some (by kernel_rfl))
 t0:=underlying0
 a0:=isAgg0
 z0:=sizeOf0
 v0:=zeroValue0
 t2:=underlying2
 a2:=isAgg2
 z2:=sizeOf2
 v2:=zeroValue2
 t3:=underlying3
 a3:=isAgg3
 z3:=sizeOf3
 v3:=zeroValue3
 t4:=underlying4
 a4:=isAgg4
 z4:=sizeOf4
 v4:=zeroValue4
 t5:=underlying5
 a5:=isAgg5
 z5:=sizeOf5
 v5:=zeroValue5
 t9:=underlying9
 a9:=isAgg9
 z9:=sizeOf9
 v9:=zeroValue9
 t20:=underlying20
 a20:=isAgg20
 z20:=sizeOf20
 v20:=zeroValue20
 t21:=underlying21
 a21:=isAgg21
 z21:=sizeOf21
 v21:=zeroValue21
 t37:=underlying225
 a37:=isAgg225
 z37:=sizeOf225
 v37:=zeroValue225
 t46:=underlying322
 a46:=isAgg322
 z46:=sizeOf322
 v46:=zeroValue322
 t51:=underlying354
 a51:=isAgg354
 z51:=sizeOf354
 v51:=zeroValue354
 t53:=underlying308
 a53:=isAgg308
 z53:=sizeOf308
 v53:=zeroValue308
 t75:=underlying229
 a75:=isAgg229
 z75:=sizeOf229
 v75:=zeroValue229
 t76:=underlying230
 a76:=isAgg230
 z76:=sizeOf230
 v76:=zeroValue230
 t85:=underlying389
 a85:=isAgg389
 z85:=sizeOf389
 v85:=zeroValue389
 t127:=underlying330
 a127:=isAgg330
 z127:=sizeOf330
 v127:=zeroValue330
 t143:=underlying417
 a143:=isAgg417
 z143:=sizeOf417
 v143:=zeroValue417
 t145:=underlying419
 a145:=isAgg419
 z145:=sizeOf419
 v145:=zeroValue419
 t167:=underlying388
 a167:=isAgg388
 z167:=sizeOf388
 v167:=zeroValue388
 t168:=underlying391
 a168:=isAgg391
 z168:=sizeOf391
 v168:=zeroValue391
 t171:=underlying362
 a171:=isAgg362
 z171:=sizeOf362
 v171:=zeroValue362
 t173:=underlying364
 a173:=isAgg364
 z173:=sizeOf364
 v173:=zeroValue364
 t175:=underlying409
 a175:=isAgg409
 z175:=sizeOf409
 v175:=zeroValue409
 t210:=underlying413
 a210:=isAgg413
 z210:=sizeOf413
 v210:=zeroValue413
 t212:=underlying396
 a212:=isAgg396
 z212:=sizeOf396
 v212:=zeroValue396
 t213:=underlying397
 a213:=isAgg397
 z213:=sizeOf397
 t232:=underlying420
 a232:=isAgg420
 z232:=sizeOf420
 v232:=zeroValue420
 t233:=underlying421
 a233:=isAgg421
 z233:=sizeOf421
 v233:=zeroValue421
 g15:=by kernel_rfl
 g16:=by kernel_rfl
 g17:=by kernel_rfl
 g18:=by kernel_rfl
 g19:=by kernel_rfl
 t80:=underlying288
 a80:=isAgg288
 z80:=sizeOf288
 v80:=zeroValue288
 i0:=by kernel_rfl
 i2:=by kernel_rfl
 i3:=by kernel_rfl
 i4:=by kernel_rfl
 i5:=by kernel_rfl
 i9:=by kernel_rfl
 i20:=by kernel_rfl
 i21:=by kernel_rfl
 i37:=by kernel_rfl
 i46:=by kernel_rfl
 i51:=by kernel_rfl
 i53:=by kernel_rfl
 i75:=by kernel_rfl
 i76:=by kernel_rfl
 i80:=by kernel_rfl
 i85:=by kernel_rfl
 i127:=by kernel_rfl
 i143:=by kernel_rfl
 i145:=by kernel_rfl
 i167:=by kernel_rfl
 i168:=by kernel_rfl
 i171:=by kernel_rfl
 i173:=by kernel_rfl
 i175:=by kernel_rfl
 i210:=by kernel_rfl
 i212:=by kernel_rfl
 i232:=by kernel_rfl
 i233:=by kernel_rfl
 m15:=by kernel_rfl
 m16:=by kernel_rfl
 m17:=by kernel_rfl
 m18:=by kernel_rfl
 m19:=by kernel_rfl
 c0:=by kernel_rfl
 c2:=by kernel_rfl
 c3:=by kernel_rfl
 c4:=by kernel_rfl
 c5:=by kernel_rfl
 c9:=by kernel_rfl
 c20:=by kernel_rfl
 c21:=by kernel_rfl
 c37:=by kernel_rfl
 c46:=by kernel_rfl
 c51:=by kernel_rfl
 c53:=by kernel_rfl
 c75:=by kernel_rfl
 c76:=by kernel_rfl
 c80:=by kernel_rfl
 c85:=by kernel_rfl
 c127:=by kernel_rfl
 c143:=by kernel_rfl
 c145:=by kernel_rfl
 c167:=by kernel_rfl
 c168:=by kernel_rfl
 c171:=by kernel_rfl
 c173:=by kernel_rfl
 c175:=by kernel_rfl
 c210:=by kernel_rfl
 c212:=by kernel_rfl
 c213:=by kernel_rfl
 c232:=by kernel_rfl
 c233:=by kernel_rfl}
open Go.RowKit in
theorem Tryz.strconv_Atoi_ok(s:ByteArray)(hmax:s.size<=9223372036854775806)(v:Int)(h:cb s.data.toList= .ok v)(w:a7):
 a8 prog 277 #[.string s] w fun e w'=>e=.returned (.tuple #[.int .i64 v,.nilIface])/\(w'=w\/∃t,w'=Lib.bytesWorld w 5 t):=Any.strconv_Atoi_ok Yd s hmax v h w
def Tryz.Vf:cC:=⟨fun|219=>317|217=>352|225=>353|224=>354|267=>355|266=>375|314=>376|n=>n,fun|9=>9|3=>3|4=>4|5=>5|46=>322|146=>400|51=>354|n=>n,fun|1=>0|n=>n⟩
theorem Tryz.aFU:cx prog Vf:={
 mixed:=by kernel_rfl
 f217:=func352.trans (congrArg some (by kernel_rfl))
 f219:=func317.trans (congrArg some (by kernel_rfl))
 f224:=func354.trans (congrArg some (by kernel_rfl))
 f225:=func353.trans (congrArg some (by kernel_rfl))
 f266:=func375.trans (congrArg some (by kernel_rfl))
 f267:=func355.trans (congrArg some (by kernel_rfl))
 f314:=func376.trans (congrArg some (by kernel_rfl))
 t3:=underlying3
 a3:=isAgg3
 z3:=sizeOf3
 v3:=zeroValue3
 t4:=underlying4
 a4:=isAgg4
 z4:=sizeOf4
 v4:=zeroValue4
 t5:=underlying5
 a5:=isAgg5
 z5:=sizeOf5
 v5:=zeroValue5
 t9:=underlying9
 a9:=isAgg9
 z9:=sizeOf9
 v9:=zeroValue9
 t46:=underlying322
 a46:=isAgg322
 z46:=sizeOf322
 v46:=zeroValue322
 t51:=underlying354
 a51:=isAgg354
 z51:=sizeOf354
 v51:=zeroValue354
 t146:=underlying400
 a146:=isAgg400
 z146:=sizeOf400
 v146:=zeroValue400
 g1:=by kernel_rfl}
open Go.RowKit Go.Lib in
theorem Tryz.stringslite_Index_one(s:ByteArray)(c:UInt8)(w:a7):
 a8 prog 317 #[.string s,.string ⟨#[c]⟩] w fun e w'=>e=.returned (.int .i64 (bk s.data.toList c))/\w'=w:=Any.stringslite_Index_one aFU s c w
def Tryz.VS:cC:=⟨fun|99=>275|206=>318|n=>n,fun|9=>9|4=>4|3=>3|n=>n,fun|n=>n⟩
theorem Tryz.aGn:ce prog VS:={
 mixed:=by kernel_rfl
 f99:=func275.trans (congrArg some (by kernel_rfl))
 f206:=func318.trans (congrArg some (by kernel_rfl))
 t3:=underlying3
 a3:=isAgg3
 z3:=sizeOf3
 v3:=zeroValue3
 t4:=underlying4
 a4:=isAgg4
 z4:=sizeOf4
 v4:=zeroValue4
 t9:=underlying9
 a9:=isAgg9
 z9:=sizeOf9
 v9:=zeroValue9}
open Go.RowKit Go.Lib in
theorem Tryz.strings_HasPrefix(s p:ByteArray)(w:a7):
 a8 prog 275 #[.string s,.string p] w fun e w'=>e=.returned (.bool (b0 s.data.toList p.data.toList))/\w'=w:=Any.strings_HasPrefix aGn s p w
def Tryz.Vj:cC:=⟨fun|101=>276|208=>319|206=>318|n=>n,fun|9=>9|4=>4|3=>3|n=>n,fun|n=>n⟩
theorem Tryz.aE6:cB prog Vj:={
 mixed:=by kernel_rfl
 f101:=func276.trans (congrArg some (by kernel_rfl))
 f206:=func318.trans (congrArg some (by kernel_rfl))
 f208:=func319.trans (congrArg some (by kernel_rfl))
 t3:=underlying3
 a3:=isAgg3
 z3:=sizeOf3
 v3:=zeroValue3
 t4:=underlying4
 a4:=isAgg4
 z4:=sizeOf4
 v4:=zeroValue4
 t9:=underlying9
 a9:=isAgg9
 z9:=sizeOf9
 v9:=zeroValue9}
open Go.RowKit Go.Lib in
theorem Tryz.strings_TrimPrefix(s p:ByteArray)(w:a7):
 a8 prog 276 #[.string s,.string p] w fun e w'=>e=.returned (.string ⟨(bv s.data.toList p.data.toList).toArray⟩)/\w'=w:=Any.strings_TrimPrefix aE6 s p w
def Tryz.Jg:cC:=⟨fun|105=>289|212=>335|99=>275|165=>280|166=>150|170=>229|169=>230|263=>369|264=>255|206=>318|240=>226|241=>322|276=>279|277=>361|n=>n,fun|9=>9|3=>3|4=>4|20=>20|0=>0|46=>322|109=>369|5=>5|72=>227|76=>230|51=>354|146=>400|53=>308|148=>309|70=>224|37=>225|75=>229|127=>330|164=>326|80=>288|n=>n,fun|n=>n⟩
theorem Tryz.aFh:cy prog Jg:={
 mixed:=by kernel_rfl
 f99:=func275.trans (congrArg some (by kernel_rfl))
 f105:=func289.trans (congrArg some (by kernel_rfl))
 f165:=func280.trans (congrArg some (by kernel_rfl))
 f166:=func150.trans (congrArg some (by kernel_rfl))
 f169:=func230.trans (congrArg some (by kernel_rfl))
 f170:=func229.trans (congrArg some (by kernel_rfl))
 f206:=func318.trans (congrArg some (by kernel_rfl))
 f212:=func335.trans (congrArg some (by kernel_rfl))
 f240:=func226.trans (congrArg some (by kernel_rfl))
 f241:=func322.trans (congrArg some (by kernel_rfl))
 f263:=func369.trans (congrArg some (by kernel_rfl))
 f264:=func255.trans (congrArg some (by kernel_rfl))
 f276:=func279.trans (congrArg some (by kernel_rfl))
 f277:=func361.trans (congrArg some (by kernel_rfl))
 t0:=underlying0
 a0:=isAgg0
 z0:=sizeOf0
 v0:=zeroValue0
 t3:=underlying3
 a3:=isAgg3
 z3:=sizeOf3
 v3:=zeroValue3
 t4:=underlying4
 a4:=isAgg4
 z4:=sizeOf4
 v4:=zeroValue4
 t5:=underlying5
 a5:=isAgg5
 z5:=sizeOf5
 v5:=zeroValue5
 t9:=underlying9
 a9:=isAgg9
 z9:=sizeOf9
 v9:=zeroValue9
 t20:=underlying20
 a20:=isAgg20
 z20:=sizeOf20
 v20:=zeroValue20
 t37:=underlying225
 a37:=isAgg225
 z37:=sizeOf225
 v37:=zeroValue225
 t46:=underlying322
 a46:=isAgg322
 z46:=sizeOf322
 v46:=zeroValue322
 t51:=underlying354
 a51:=isAgg354
 z51:=sizeOf354
 v51:=zeroValue354
 t53:=underlying308
 a53:=isAgg308
 z53:=sizeOf308
 v53:=zeroValue308
 t70:=underlying224
 a70:=isAgg224
 z70:=sizeOf224
 v70:=zeroValue224
 t72:=underlying227
 a72:=isAgg227
 z72:=sizeOf227
 v72:=zeroValue227
 t75:=underlying229
 a75:=isAgg229
 z75:=sizeOf229
 v75:=zeroValue229
 t76:=underlying230
 a76:=isAgg230
 z76:=sizeOf230
 v76:=zeroValue230
 t109:=underlying369
 a109:=isAgg369
 z109:=sizeOf369
 v109:=zeroValue369
 t127:=underlying330
 a127:=isAgg330
 z127:=sizeOf330
 v127:=zeroValue330
 t146:=underlying400
 a146:=isAgg400
 z146:=sizeOf400
 v146:=zeroValue400
 t148:=underlying309
 a148:=isAgg309
 z148:=sizeOf309
 v148:=zeroValue309
 t164:=underlying326
 a164:=isAgg326
 z164:=sizeOf326
 v164:=zeroValue326}
theorem Tryz.TV:Builder.Extra prog Jg:={
 sizeBuilder:=by kernel_rfl
 liesBuilder:=by kernel_rfl
 t5:=underlying5
 a5:=isAgg5
 z5:=sizeOf5
 v5:=zeroValue5
 infoByte:=by kernel_rfl
 cellsByte:=by kernel_rfl
 sizeByte:=by kernel_rfl
 neB5:=by decide}
open Go.RowKit Go.Lib in
theorem Tryz.strings_Repeat(s:ByteArray)(c:Nat)(w:a7)(hc:c<=9223372036854775807)(hlen:s.size*c<=140737488355328):
 a8 prog 289 #[.string s,.int .i64 c] w fun e w'=>e=.returned (.string ⟨(b3 s.data.toList c).toArray⟩)/\Below w.heap.size w w':=Any.strings_Repeat aFh TV s c w hc hlen
end Go.Proofs
namespace Go.Proofs
open Go.Shelf Go.RowKit Go.Sort Go.Lib
set_option maxHeartbeats 6400000 in
set_option maxRecDepth 100000 in
theorem Tryz.TT(u:Nat)(hu64:u<18446744073709551616)(w:a7)
 (htab:b2 prog w "internal/strconv.uint64pow10" .u64 b1):
 a8 prog 334 #[.int .u64 u,.int .i64 10] w fun e w'=>e=.returned (.string ⟨(be u).toArray⟩)/\∃k os,w'=grow (w.drewN k) os:=by
 have e323:∀args w,(callFunc 323 args).run prog w=.ok (.enter 323 args) w:=enters_of func323 (by kernel_rfl) rfl;have e324:∀args w,(callFunc 324 args).run prog w=.ok (.enter 324 args) w:=enters_of func324 (by kernel_rfl) rfl;have e325:∀args w,(callFunc 325 args).run prog w=.ok (.enter 325 args) w:=enters_of func325 (by kernel_rfl) rfl
 by_cases hs:u<100
 ·go_enter func334,ntmps334
  go_wp2_with (go_at_fn 323;refine(internal_strconv_small u hs _).mono ?_;rintro e w' ⟨rfl,rfl⟩)
  go_ret
  exact⟨rfl,0,#[],by simp[World.drewN_zero]⟩
 ·have hu1:1<=u:=by omega
  have hnd20:bi u<=20:=by have:=Lib.numDigits_eq u hu1 hu64;split at this<;>omega
  have hb3:bi u<=24:=by omega
  have hal:prog.arrayLen 362=24:=by kernel_rfl
  have hsl1:∀W,(Instr.sliceAt 362 (.pointer (some ⟨w.heap.size,0,none⟩)) none (some (.int .i64 (bi u:Int))) none).run prog W=.ok (.slice (some ⟨w.heap.size,0,none⟩) (bi u) 24) W:=fun W=>by
   rw[run_sliceAt_array_h W 362 ⟨w.heap.size,0,none⟩ (by kernel_rfl) .i64 (bi u:Int) (by omega) (by rw[hal];omega)]
   go_simp
  have hH0:=Lib.holds_zero0 w 362 (bi u) hb3;have hfmt:=internal_strconv_formatBase10 w.heap.size 0 24 u (Array.replicate (bi u) 0) (w.alloc (.cells bo 362)) hH0 (by rw[an];exact Lib.lt_pow_nDigits u) hu64 (by rw[an];omega);rw[an]at hfmt;have HH0:=Lib.hid hH0;clear hH0 hal
  go_enter func334,ntmps334
  go_wp2_with (first
   |(go_at_fn 324;refine(internal_strconv_numDigits u hu1 hu64 _ (Lib.tabIs_alloc htab _)).mono ?_;rintro e w' ⟨rfl,rfl⟩))
  go_at_fn 325
  refine hfmt.mono ?_;rintro e w' ⟨rfl,k,v',dk,rfl,hF⟩;have hcv:(convert 225 9 (.slice (some ⟨w.heap.size,0,none⟩) (bi u) 24)).run prog ((putRow (fun(b:UInt8)=>c6 .u8 (b.toNat:Int)) (w.alloc (.cells bo 362)) w.heap.size 0 dk).drewN k)=.ok (.string ⟨(be u).toArray⟩) ((putRow (fun(b:UInt8)=>c6 .u8 (b.toNat:Int)) (w.alloc (.cells bo 362)) w.heap.size 0 dk).drewN k):=by
   have h:=run_convert_bytes_back (P:=prog) ((putRow (fun(b:UInt8)=>c6 .u8 (b.toNat:Int)) (w.alloc (.cells bo 362)) w.heap.size 0 dk).drewN k) 225 9 5 ⟨w.heap.size,0,none⟩ 24 (be u) (by kernel_rfl) (by kernel_rfl) (by kernel_rfl) (fun j hj=>by
    rw[Lib.row_is_numeral hF j hj,Lib.add_plain,World.cell?_drewN];exact cell?_putRow (fun(b:UInt8)=>c6 .u8 (b.toNat:Int)) _ w.heap.size 0 _ dk HH0.out (by rw[hF.size,an]) j (by rw[hF.size];rw[b4]at hj;exact hj))
   rw[b4]at h;exact h
  go_wp2
  go_ret
  obtain⟨os,eo⟩:=Lib.fin_at w (.cells bo 362) dk k 0;exact⟨rfl,k,os,eo⟩
end Go.Proofs
namespace Go.au
open Go.Proofs
theorem uh{P:Program}{w:a7}{aa:Nat->Prop}(l:List UInt8):aD P w aa (.str (c7 l)) (.string ⟨l.toArray⟩):=by
 simp only[aD];exact⟨_,rfl,by simp[c7]⟩
theorem mY{P:Program}{w:a7}{aa:Nat->Prop}{s:List Nat}{v:Value}(h:aD P w aa (.str s) v):∃bs:ByteArray,v=.string bs/\s=c7 bs.data.toList:=by
 simp only[aD]at h;obtain⟨bs,rfl,rfl⟩:=h;exact⟨bs,rfl,rfl⟩
theorem one_byte{w:a7}{aa:Nat->Prop}{c:Nat}{v:Value}(h:aD prog w aa (.str [c]) v):∃b:UInt8,v=.string ⟨#[b]⟩/\c=b.toNat:=by
 obtain⟨bs,rfl,f⟩:=mY h;clear h;have h:=f;clear f
 match e:bs.data.toList with
 |[]=>rw[e]at h;simp[c7]at h
 |[b]=>
  rw[e]at h;simp[c7]at h;refine⟨b,?_,h⟩;congr 1;cases bs with
  |mk d=>simp at e⊢;exact Array.ext' (by simpa using e)
 |a::b::r=>rw[e]at h;simp[c7]at h
theorem Eb{w:a7}{aa:Nat->Prop}{v:Value}(h:aD prog w aa (.str [45]) v):v=.string ⟨#[45]⟩:=by
 obtain⟨b,rfl,a⟩:=one_byte h;have:b=45:=hG.1 a.symm;rw[this]
theorem Ig(s:List Nat)(c:Nat):aC prog 317 [.str s,.str [c]] (.int .i64 (nw c s 0)):=by
 refine jN (iX func317 (by kernel_rfl)) fun w aa g _ _ f=>?_;obtain⟨x,y,rfl,a,d⟩:=mN f;obtain⟨b,rfl,rfl⟩:=one_byte d;obtain⟨bs,rfl,rfl⟩:=mY a;refine(stringslite_Index_one bs b w).mono ?_;rintro e w' ⟨rfl,rfl⟩;refine⟨_,rfl,⟨gg _,fun _ _=>rfl,rfl,rfl⟩,fun w aa=>?_⟩;have e1:=MA b bs.data.toList 0;simp only[aD]at e1⊢;rw[e1]
 by_cases h:bk bs.data.toList b= -1<;>simp[h]
theorem Zs(s:List Nat)(c:Nat)(h:s.length<=1048576):aC prog 274 [.str s,.str [c]] (.aG [.str (b7 c s).1,.str (b7 c s).2.1,.bool (b7 c s).2.2]):=by
 refine aM nf HR mix (by simp[f274]) ?_;simp[f274];refine c2 (Ig s c) ?_;rcases MB c s 0 with⟨_,a,b⟩|⟨i,d,a,b⟩
 ·simp[a,b]
 ·rw[hy]at a;have w:=cr (i:=i) (by omega);have e1:((i:Int)+1).toNat=i+1:=by omega
  simp[a,b,w,e1];omega
theorem PU(s:List Nat)(c:Nat)(h:s.length<=1048576):aC prog 223 [.str s,.str [c]] (.aG [.str (b7 c s).1,.str (b7 c s).2.1,.bool (b7 c s).2.2]):=by
 refine aM nf Ir mix (by simp[f223]) ?_;simp[f223];refine c2 (Zs s c h) ?_;simp
theorem Y5(s:List Nat):aC prog 275 [.str s,.str [45]] (.bool (bZ s)):=by
 refine jN (iX func275 (by kernel_rfl)) fun w aa d _ _ c=>?_;obtain⟨x,y,rfl,a,b⟩:=mN c;obtain rfl:=Eb b;obtain⟨bs,rfl,rfl⟩:=mY a;refine(strings_HasPrefix bs _ w).mono ?_;rintro e w' ⟨rfl,rfl⟩;exact⟨_,rfl,⟨gg _,fun _ _=>rfl,rfl,rfl⟩,fun w aa=>by rw[<-Cl];simp only[aD]⟩
theorem K3(s:List Nat):aC prog 276 [.str s,.str [45]] (.str (cW s)):=by
 refine jN (iX func276 (by kernel_rfl)) fun w aa d _ _ c=>?_;obtain⟨x,y,rfl,a,b⟩:=mN c;obtain rfl:=Eb b;obtain⟨bs,rfl,rfl⟩:=mY a;refine(strings_TrimPrefix bs _ w).mono ?_;rintro e w' ⟨rfl,rfl⟩;exact⟨_,rfl,⟨gg _,fun _ _=>rfl,rfl,rfl⟩,fun w aa=>by rw[<-Ju];exact uh _⟩
theorem YG(s:List Nat):aC prog 270 [.str s,.str [45]] (.aG [.str (cW s),.bool (bZ s)]):=by
 refine jN (iX func270 (by kernel_rfl)) fun w aa d _ _ c=>?_;obtain⟨x,y,rfl,a,b⟩:=mN c;obtain rfl:=Eb b;obtain⟨bs,rfl,rfl⟩:=mY a;refine(strings_CutPrefix bs _ w).mono ?_;rintro e w' ⟨rfl,rfl⟩;refine⟨_,rfl,⟨gg _,fun _ _=>rfl,rfl,rfl⟩,fun w aa=>?_⟩;rw[<-Ju,<-Cl];simp only[aD,bt];refine⟨[_,_],⟨_,_,rfl,?_,_,_,rfl,rfl,rfl⟩,rfl⟩;exact⟨_,rfl,by simp[c7]⟩
theorem Oj{w:a7}{aa:Nat->Prop}(b:mU prog w aa):b2 prog w "internal/strconv.uint64pow10" .u64 b1:=by
 obtain⟨_,T,a⟩:=b.raw 1 _ rfl;have c:prog.globalNamed "internal/strconv.uint64pow10" =some 1:=by kernel_rfl
 simp only[b2,World.var?,c,Option.bind_some,a];rfl
theorem Ie(n:Int)(b:-9223372036854775808<=n)(c:n<=9223372036854775807):aC prog 152 [.int .i64 n] (.str (bL n)):=by
 refine jN (iX func152 (by kernel_rfl)) fun w aa g _ f d=>?_;obtain⟨x,rfl,a⟩:=zg d;simp only[aD]at a;subst a;refine(strconv_Itoa n b c w (Oj f)).mono ?_;rintro e w' ⟨rfl,k,os,rfl⟩;refine⟨_,rfl,⟨?_,fun k hk=>?_,rfl,rfl⟩,fun w aa=>?_⟩
 ·simp[cN,World.drewN]
 ·simp only[cN];exact ao hk
 ·rw[<-aD8];exact uh _
theorem Zu(u:Nat)(f:u<18446744073709551616):aC prog 334 [.int .u64 u,.int .i64 10] (.str (aZ u)):=by
 refine jN (iX func334 (by kernel_rfl)) fun w aa g _ d c=>?_;obtain⟨x,y,rfl,a,b⟩:=mN c;simp only[aD]at a b;subst a b;refine(TT u f w (Oj d)).mono ?_;rintro e w' ⟨rfl,k,os,rfl⟩;refine⟨_,rfl,⟨?_,fun k hk=>?_,rfl,rfl⟩,fun w aa=>?_⟩
 ·simp[cN,World.drewN]
 ·simp only[cN];exact ao hk
 ·rw[<-D9];exact uh _
theorem PW(u:Nat)(a:u<18446744073709551616):aC prog 288 [.int .u64 u,.int .i64 10] (.str (aZ u)):=by
 refine aM nf HO mix (by simp[f288]) ?_;simp[f288];refine c2 (Zu u a) ?_;simp
theorem PX(s:List Nat)(c:Nat)(hc:c<=9223372036854775807)(g:s.length*c<=140737488355328):aC prog 289 [.str s,.int .i64 c] (.str (sL s c)):=by
 refine jN (iX func289 (by kernel_rfl)) fun w aa h _ i f=>?_;obtain⟨x,y,rfl,d,b⟩:=mN f;obtain⟨bs,rfl,rfl⟩:=mY d;simp only[aD]at b;subst b;refine(strings_Repeat bs c w hc (by simpa[c7]using g)).mono ?_;rintro e w' ⟨rfl,a⟩;exact⟨_,rfl,⟨a.size,a.block,a.os,a.output⟩,fun w aa=>by
  rw[LL];exact uh _⟩
theorem Ih(s:List Nat)(v:Int)(h:cb (s.map hK)=.ok v)(d:s.length<=9223372036854775806):aC prog 277 [.str s] (.aG [.int .i64 v,.ga]):=by
 refine jN (iX func277 (by kernel_rfl)) fun w aa g _ i c=>?_;obtain⟨x,rfl,b⟩:=zg c;obtain⟨bs,rfl,rfl⟩:=mY b;rw[Vt]at h;refine(strconv_Atoi_ok bs (by simpa[c7]using d) v h w).mono ?_;rintro e w' ⟨rfl,f⟩;refine⟨_,rfl,?_,fun w aa=>by simp[aD,bt]⟩;rcases f with rfl|⟨t,rfl⟩
 ·exact⟨gg _,fun _ _=>rfl,rfl,rfl⟩
 ·have a:=Lib.bytesWorld_below w 5 t;exact⟨a.size,a.block,a.os,a.output⟩
def tB:Nat:=1000000000000000000
theorem DS:tB=10^18:=by decide
theorem Mq:∀i,low i 0=fd i 48
 |0=>rfl
 |i+1=>by rw[tM,Nat.zero_div,Mq i,List.replicate_succ']
theorem RC{r:Nat}(h:r<tB):fd (18-(aZ r).length) 48++aZ r=low 18 r:=by
 rw[rh,aZ];have c:nd r<=18:=rU (by rw[<-DS];exact h);obtain⟨k,hk⟩:∃k,k=max 1 (nd r):=⟨_,rfl⟩
 have d:k<=18:=by omega
 have b:r<10^k:=ge (C3 r) (gc (by decide) (by omega));rw[<-hk];have:=rp (18-k) r (a:=k);have e:low 18 r=low (18-k) (r/10^k)++low k r:=by
  have:=rp k r (18-k);rw[show 18-k+k=18 by omega]at this;exact this
 rw[e,ht b,Mq]
theorem Dx{r:Nat}(h:r<tB):(aZ r).length<=18:=by
 rw[rh];have a:nd r<=18:=rU (by rw[<-DS];exact h);omega
theorem XA{m:Nat}(h:tB<=m):aZ m=aZ (m/tB)++low 18 (m% tB):=by
 rw[DS]at h⊢;have e:=D3 (n:=m) (k:=18) h;have a:0<nd (m/10^18):=xe (ha h (gj (by decide)));rw[aZ,aZ,show max 1 (nd m)=max 1 (nd (m/10^18))+18 by omega,rp,Dn m 18 18 (gg _)]
def jI(m:Nat)(a:List (List Nat)):List Nat:=(if m=0 then[]else aZ m)++a.reverse.flatten
def eK(m:Nat):List Nat:=if m/tB=0 then aZ m else low 18 (m% tB)
theorem Lz{m:Nat}(h:m≠0)(c:List (List Nat)):jI (m/tB) (c++[eK m])=jI m c:=by
 rw[jI,jI,if_neg h,eK,List.reverse_append]
 by_cases a:m/tB=0
 ·rw[if_pos a,if_pos a];simp
 ·rw[if_neg a,if_neg a];have:tB<=m:=by
   rcases g0 m tB with b|b
   ·exact(a (ht b)).elim
   ·exact b
  rw[XA this];simp
theorem XC(a:List (List Nat)):jI 0 a=a.reverse.flatten:=by rw[jI,if_pos rfl];rfl
theorem zt(n:Nat):0<(aZ n).length:=by rw[rh];omega
theorem Kx(m:Nat):eK m≠[]:=by
 intro h;have:(eK m).length=0:=by rw[h];rfl
 rw[eK]at this
 split at this
 ·have:=zt m;omega
 ·rw[rl]at this;omega
theorem Ky(m:Nat):(eK m).length<=18:=by
 rw[eK]
 split
 ·rename_i h;have b:m<tB:=by
   rcases g0 m tB with a|a
   ·exact a
   ·have:=ha a (show 0<tB by decide);omega
  exact Dx b
 ·rw[rl];exact gg _
theorem My{c:Nat}(h:cj c=true):c<256:=by
 simp only[cj,ap,decide_eq_true_eq]at h;omega
end Go.au
namespace Go.Proofs
open Go.au
theorem Tryz.BK:prog.underlying 224=some (.pointer 227):=by kernel_rfl
theorem Tryz.HU:prog.underlying 326=some .unsafePointer:=by kernel_rfl
theorem Tryz.Ho:(prog.info? 227).map (·.size)=some 2:=by kernel_rfl
theorem Tryz.aGt:liesAt prog prog.depth 227 (2/prog.cellsOf 227) 0 227 1=true:=by kernel_rfl
set_option maxHeartbeats 1000000 in
set_option maxRecDepth 100000 in
theorem Tryz.T3(b:Nat)(w:a7)(h0:w.cell? ⟨b,0,none⟩=some (.pointer (some ⟨b,0,none⟩))):
 a8 prog 226 #[.pointer (some ⟨b,0,none⟩)] w fun e w'=>e=.returned (.tuple #[])/\w'=w:=by
 obtain⟨j,hj,_⟩:=Option.map_eq_some_iff.1 Ho
 go_enter func226,ntmps226
 go_wp2
 rw[Lib.run_neq_ptr_same w _ BK hj]
 go_wp2
 go_end0
 exact⟨rfl,rfl⟩
set_option maxHeartbeats 1000000 in
set_option maxRecDepth 100000 in
theorem Tryz.T4(b:Nat)(w:a7)(h0:w.cell? ⟨b,0,none⟩=some (.pointer none))(hsh:w.shape? b=some (227,2))(hfz:w.frozen? ⟨b,0,none⟩=false):
 a8 prog 226 #[.pointer (some ⟨b,0,none⟩)] w fun e w'=>e=.returned (.tuple #[])/\w'=w.setCell ⟨b,0,none⟩ (.pointer (some ⟨b,0,none⟩)):=by
 obtain⟨j,hj,hjs⟩:=Option.map_eq_some_iff.1 Ho
 go_enter func226,ntmps226
 go_wp2
 rw[Lib.run_to_unsafe w ⟨b,0,none⟩ BK HU hj (by rw[hjs];decide) hsh (Nat.zero_lt_succ 1)];simp only[Result.andThen];rw[cc]
 go_wp2
 rw[run_callFunc_extern func279 (by kernel_rfl) (by kernel_rfl) (by kernel_rfl) (e:=Extern.AbiNoEscape.same) (by kernel_rfl)];rw[Lib.run_noEscape];simp only[Result.andThen];rw[cc]
 go_wp2
 rw[Lib.run_from_unsafe w ⟨b,0,none⟩ HU BK hj hsh aGt];simp only[Result.andThen];rw[cc]
 go_wp2
 go_end0
 exact⟨rfl,rfl⟩
end Go.Proofs
