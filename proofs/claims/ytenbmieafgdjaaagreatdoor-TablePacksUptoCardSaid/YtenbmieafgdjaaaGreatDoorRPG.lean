import Derived.Test.YtenbmieafgdjaaaGreatDoorRPF
import Derived.Lib.ItoaNum
import Derived.Lib.Strings
import Derived.Lib.Repeat
import Derived.Lib.Bytealg
import Derived.Test.YtenbmieafgdjaaaGreatDoorRThA
import Derived.Test.YtenbmieafgdjaaaGreatDoorRPE
import Derived.Shelf.Strings.Builder1
import Derived.Shelf.Strings.Builder2
import Derived.Shelf.Strings.OnBuilder
import Derived.Shelf.Strings.Trim
import Derived.Shelf.Small.Utf8
import Derived.Shelf.Small.Bits
import Derived.Shelf.Small.Strs
import Derived.Shelf.Small.Wraps
import Derived.Shelf.Strings.BuilderF
import Derived.Shelf.Strconv.Atoi
import Derived.Shelf.Strconv.Itoa0
import Derived.Shelf.Strconv.Itoa1
import Derived.Shelf.LaysM
import Derived.Shelf.Strconv.Itoa2
import Derived.Shelf.Strconv.Itoa3
import Derived.Shelf.Strconv.AtoiErrFast
import Derived.Shelf.Strconv.ParseIntEmpty
import Derived.Shelf.Strconv.AtoiFail
import Derived.Shelf.Strconv.Clone
import Derived.Shelf.Strconv.SyntaxError
import Derived.Shelf.LaysC
import Derived.Shelf.Strconv.ToError
import Derived.Shelf.Strconv.Lower
import Derived.Shelf.Strconv.ParseUint10
import Derived.Shelf.Strconv.ParseUint10Empty
import Derived.Shelf.Strconv.ParseUint10Any
import Derived.Shelf.Strconv.ParseInt10
import Derived.Shelf.Strconv.AtoiLong
import Derived.Shelf.Strconv.AtoiInnerAll
import Derived.Shelf.Strconv.RangeError
import Derived.Shelf.Strconv.ToErrorRange
import Derived.Shelf.Strconv.AtoiAll
import Derived.Shelf.Strings.Search1
import Derived.Shelf.Strings.Search2
import Derived.Shelf.Strings.Search3
import Derived.Shelf.Strings.Cut
import Derived.Shelf.Strings.Count
import Derived.Shelf.Strings.Shaped
import Derived.Shelf.Strings.Prefix
import Derived.Shelf.Strings.Split
import Derived.Shelf.Strings.Runes
import Derived.Shelf.Strings.AsciiSet
import Derived.Shelf.Bits.Mul64
import Derived.Shelf.Strings.Repeat
import Derived.Shelf.Unicode.DecodeSlow
import Derived.Test.YtenbmieafgdjaaaGreatDoorProg
import Derived.Lib.Walk
import Derived.Lib.ItoaMem
import Derived.WalkKit
import Derived.BigCall
import Derived.BigGuard
import Derived.Lib.AppendIntMem
import Derived.Lib.Builder
import Derived.Laws.Externs
import Derived.Shelf.RegionOpenPlain
/- Parts of a proof. -/
set_option linter.unusedSimpArgs false
set_option linter.unusedVariables false
set_option linter.unusedSectionVars false
open Go.Proofs.Tryz
open Array renaming size_replicate->ao, getElem?_append_left->ap
open Bool renaming and_eq_true->av, or_eq_true->ax, not_eq_true'->ay, and_true->aT, and_eq_false_iff->a1, false_and->a6, and_false->a7, true_and->a8
open Go renaming World->bb, Calls->be
open Go.IntKind renaming i64->bi
open Go.Lib renaming decDigits->bk, nDigits->bl, indexByte->bo, bitLen->bv, zeros24->b0, trimPrefix->b1, hasPrefix->b2, pow10Tab->b3, TabIs->b4, repeatL->b5, decDigits_length->cb, itoa->cc, atoiAll->ce
open Go.Oper renaming upon_value->ck
open Go.Proofs.Lays renaming n99->cv, n285->cx, n283->cy, n219->c6, n105->da, n103->db, n101->dg
open Go.Shelf renaming Ren->dl
open Go.Sort renaming grow->dp
open Go.Value renaming int->dq
open Int renaming ediv_emod_unique->dz, natAbs_mul->ea, emod_lt_of_pos->eb, emod_nonneg->ec, ediv_lt_of_lt_mul->ed, tmod_lt_of_pos->ee, natAbs_natCast->ei, lt_tmod_of_pos->ej, mul_ne_zero->em, natAbs_neg->en, mul_le_mul->eq, ediv_one->ew, mul_sub->ey, mul_neg->e6
open List renaming append_nil->e7, all_cons->e8, length_eq_zero_iff->e9, mem_cons->fb, cons_append->fd, all_reverse->fl, all_eq_true->fm, head?_cons->fv, dropLast_concat_getLast->fV, replicate->gb, map_cons->gc, length_cons->ge, foldl_cons->gg, all_append->gi, all_nil->gj
open Nat renaming pow_le_pow_right->gm, lt_of_lt_of_le->gt, le_refl->gx, lt_of_le_of_lt->gy, pow_pos->gA, eq_zero_or_pos->g0, pow_succ->g5, mod_eq_of_lt->g6, mul_comm->g7, add_sub_cancel->g8, pow_add->g9, lt_or_ge->ha, le_trans->hb, div_lt_iff_lt_mul->hd, pow_zero->hg, pow_one->hh, pow_mul->hl, div_pos->hm, gcd->hn, le_of_eq->ho, le_mul_of_pos_left->hp, beq->hr, le_div_iff_mul_le->ht, eq_of_beq_eq_true->hv, mul_le_mul_right->hy, mul_le_mul_left->hz, mod_lt->hA, gcd_one_right->hB, div_eq_of_lt->hC, mul_assoc->hD, zero_add->hE, gcd_comm->hG, pow_two->hK
open Rat renaming divInt->hL, num_eq_zero->hM, not_lt->hN, lt_iff->hO
open UInt8 renaming toNat_inj->hP, ofNat->hQ, toNat_ofNat'->hR
namespace Go.aj
open Go.Proofs
set_option maxHeartbeats 4000000
set_option maxRecDepth 100000
theorem mP{a b:NI}(h:a.v=b.v)(d:a.v= -9223372036854775808->a.m=b.m):eI a=eI b:=by
 by_cases c:a.v= -9223372036854775808
 ·have:=d c;cases a;cases b;dsimp only at h this;subst h this;rfl
 ·have e:a.sm=b.sm:=by
   simp only[NI.sm,h];rw[h]at c;simp[c]
  rw[jb,jb,e,h]
theorem XF{a b:Int}(c:0<b):(a.tdiv b=a/b/\a.tmod b=a% b/\¬a.tmod b<0)\/(a.tdiv b-1=a/b/\a.tmod b+b=a% b/\a.tmod b<0/\a/b<0):=by
 have f:=Int.tmod_add_mul_tdiv a b;have g:=ej a c;have i:=ee a c
 by_cases h:a.tmod b<0
 ·right;have e:=(dz (a:=a) (r:=a.tmod b+b) (q:=a.tdiv b-1) c).2 ⟨by rw[ey];omega,by omega,by omega⟩;have j:a<0:=by
   rcases Int.lt_or_le a 0 with d|d
   ·exact d
   ·have:=Int.tmod_nonneg b d;omega
  have d:a/b<0:=ed c (by omega);omega
 ·left;have e:=(dz (a:=a) (r:=a.tmod b) (q:=a.tdiv b) c).2 ⟨by omega,by omega,by omega⟩;omega
theorem Zl{a b:Int}(c:0<b):((if a<0 then -((a.natAbs% b.natAbs:Nat):Int)else(a.natAbs% b.natAbs:Nat))<0/\a/b=(if a<0 then -((a.natAbs/b.natAbs:Nat):Int)else(a.natAbs/b.natAbs:Nat))-1/\a% b=(if a<0 then -((a.natAbs% b.natAbs:Nat):Int)else(a.natAbs% b.natAbs:Nat))+b)\/
 (¬(if a<0 then -((a.natAbs% b.natAbs:Nat):Int)else(a.natAbs% b.natAbs:Nat))<0/\a/b=(if a<0 then -((a.natAbs/b.natAbs:Nat):Int)else(a.natAbs/b.natAbs:Nat))/\a% b=(if a<0 then -((a.natAbs% b.natAbs:Nat):Int)else(a.natAbs% b.natAbs:Nat))):=by
 have e:((b.natAbs:Nat):Int)=b:=by omega
 have f:=Nat.mod_add_div a.natAbs b.natAbs;have g:=hA a.natAbs (show 0<b.natAbs by omega);have i:((a.natAbs% b.natAbs:Nat):Int)+b*(a.natAbs/b.natAbs:Nat)=(a.natAbs:Nat):=by
  rw[<-e,<-Int.natCast_mul,<-Int.natCast_add,e,f]
 generalize a.natAbs% b.natAbs=r at*;generalize a.natAbs/b.natAbs=q at*
 by_cases h:a<0
 ·simp only[if_pos h]
  by_cases j:r=0
  ·right;have d:=(dz (a:=a) (r:=0) (q:=-(q:Int)) c).2 ⟨by rw[e6];omega,by omega,by omega⟩;omega
  ·left;have d:=(dz (a:=a) (r:=-(r:Int)+b) (q:=-(q:Int)-1) c).2 ⟨by rw[ey,e6];omega,by omega,by omega⟩;omega
 ·simp only[if_neg h];right;have d:=(dz (a:=a) (r:=(r:Int)) (q:=(q:Int)) c).2 ⟨by omega,by omega,by omega⟩;omega
theorem KM(a b:NI)(i:0<b.v)(M:okW a.v)(z:okW b.v):aw prog 294 [eI a,eI b] (.aE [eI (a.div b),eI (a.mod b)]):=by
 have V:=nH (eI a) a.v (l8 a);have hq:=nH (eI b) b.v (l8 b);have af:=nF M;have ag:=nF z;have O:=Ca a.v.natAbs b.v.natAbs (by omega) (by omega) (by omega);refine aI nf Nu mix (by simp[f294]) ?_;simp[f294,-bh];rw[bh];simp[-bh];refine join (fun s=>aM s.env 2=.ptr 0 []/\aM s.env 3=.ptr 1 []/\aM s.env 4=.ptr 2 []/\aM s.env 5=.ptr 3 []/\s.heap=[.box false (.p (eI a)),.box false (.p (eI b)),.box false (.p (.st 129 [.int .i64 0,.aN])),.box false (.p (.st 129 [.int .i64 0,.aN]))]) ?_ ?_
 ·rcases hs:a.sm with _|_
  ·obtain⟨c,cs,l⟩:=nS hs;simp[aa,l,du,cS]
  ·have l:=lZ hs;rcases n:b.sm with _|_
   ·obtain⟨c,cs,m⟩:=nS n;simp[aa,l,m,du,cS]
   ·have m:=lZ n;have u:=mM hs;have w:=mM n;have al:=NI.pB hs;have am:=NI.pB n
    by_cases t:a.v= -9223372036854775808
    ·simp[aa,l,m,u,w,t,du,cS]
    ·have r:¬b.v=0:=by omega
     have E:-9223372036854775808<a.v/b.v:=by
      have:=Int.le_ediv_of_mul_le (a:=-9223372036854775807) (b:=a.v) i (by omega);omega
     have F:a.v/b.v<9223372036854775808:=ed i (by omega);have G:=eb a.v i;have H:=ec a.v r;have J:eI (a.div b)=eX (a.v/b.v):=by rw[jb,if_pos (NI.zg E F)];rfl
     have f2:eI (a.mod b)=eX (a.v% b.v):=nV (by omega) (by omega);rw[J,f2];have aj:=ej a.v i;have ai:=ee a.v i;rcases XF (a:=a.v) i with⟨d1,d2,d3⟩|⟨d1,d2,d3,d4⟩
     ·have q1:bi.wrap (a.v.tdiv b.v)=a.v/b.v:=by rw[d1];exact aK _ (by omega) (by omega)
      simp[aa,l,m,u,w,t,r,du,cS,eX,d3,q1];exact d2.symm
     ·have q1:bi.wrap (bi.wrap (a.v.tdiv b.v)-1)=a.v/b.v:=by rw[aK (a.v.tdiv b.v) (by omega) (by omega),d1];exact aK _ (by omega) (by omega)
      have Z:bi.wrap (a.v.tmod b.v+b.v)=a.v% b.v:=by rw[d2];exact aK _ (by omega) (by omega)
      simp[aa,l,m,u,w,t,r,du,cS,eX,d3,q1,Z]
 ·rintro⟨ab,ah⟩ ⟨d,e,f,g,A⟩;dsimp only at d e f g A;subst A;have S:(aq wB (a.v.natAbs/b.v.natAbs)).length<=900000:=by
   have:=dK bd _ _ (gy (Nat.div_le_self a.v.natAbs b.v.natAbs) (cj bd a.v.natAbs));omega
  have T:(aq wB (a.v.natAbs% b.v.natAbs)).length<=900000:=by
   have:=dK bd _ _ (gy (Nat.mod_le a.v.natAbs b.v.natAbs) (cj bd a.v.natAbs));omega
  have C:=vQ (decide (a.v<0)) (a.v.natAbs/b.v.natAbs) (by omega);have D:=vQ (decide (a.v<0)) (a.v.natAbs% b.v.natAbs) (by omega);have P:=Zl (a:=a.v) i;simp only[decide_eq_true_eq]at C D;have ak:=hA a.v.natAbs (show 0<b.v.natAbs by omega);generalize a.v.natAbs/b.v.natAbs=k at*;generalize a.v.natAbs% b.v.natAbs=j at*;have ae:-b.v<(if a.v<0 then -(j:Int)else(j:Int)):=by split<;>omega
  have L:a.v<0->(if a.v<0 then -(j:Int)else(j:Int))<=0:=fun h=>by rw[if_pos h];omega
  have X:okW (if a.v<0 then -(k:Int)else(k:Int)):=by rw[okW];split<;>simpa using S
  have Y:okW (if a.v<0 then -(j:Int)else(j:Int)):=by rw[okW];split<;>simpa using T
  have W:(if a.v<0 then -(k:Int)else(k:Int))= -9223372036854775808->a.v<0:=by split<;>omega
  generalize (if a.v<0 then -(k:Int)else(k:Int))=Q at*;generalize (if a.v<0 then -(j:Int)else(j:Int))=R at*;have y:=tz (.mk' R);simp only[NI.iw]at y;have G:=eb a.v i;have H:=ec a.v (show b.v≠0 by omega);simp[d,e,f,g];refine c1 V ?_;simp[d,e,f,g];refine c1 hq ?_;simp[d,e,f,g];refine c2 O ?_;simp;refine c2 C ?_;simp;refine c2 D ?_;simp[d,e,f,g,aa];refine c1 y ?_;rcases P with⟨d1,d2,d3⟩|⟨d1,d2,d3⟩
  ·have B:=DM (.mk' Q) (.of 1) X (by rw[okW];decide);have N:=wx (.mk' R) b Y z;rw[tP (by decide) (by decide)]at B;have o:eI (a.div b)=eI ((NI.mk' Q).sub (.of 1)):=by
    refine mP (by rw[NI.QU];exact d2) (fun h=>?_);have I:Q= -9223372036854775807:=by have:a.v/b.v= -9223372036854775808:=h;omega
    have U:¬a.v% b.v=0:=by omega
    subst I;show decide (a.v% b.v≠0)=_;simp[U];rfl
   have q:eI (a.mod b)=eI ((NI.mk' R).add b):=mP (by rw[NI.rC];exact d3) (fun h=>by have:a.v% b.v= -9223372036854775808:=h;omega);rw[o,q];simp[d,e,f,g,aa,d1];refine e1 (rJ 1) ?_;simp[d,e,f,g,aa];refine e2 B ?_;simp[d,e,f,g,aa];refine e2 N ?_;simp[d,e,f,g,aa];exact⟨rfl,rfl⟩
  ·have o:eI (a.div b)=eI (.mk' Q):=by
    refine mP d2 (fun h=>?_);have ac:a.v/b.v= -9223372036854775808:=h;have ad:=L (W (by omega));have K:a.v% b.v=0:=by omega
    show decide (a.v% b.v≠0)=false;simp[K]
   have q:eI (a.mod b)=eI (.mk' R):=mP d3 (fun h=>by have:a.v% b.v= -9223372036854775808:=h;omega);rw[o,q]
   by_cases x:R=0
   ·simp[d,e,f,g,aa,x]
   ·simp[d,e,f,g,aa,d1,x]
theorem qJ{a b:Int}(h:okW b)(c:a.natAbs<=b.natAbs):okW a:=by
 have:=dK bd _ _ (gy c (cj bd b.natAbs));have:=nF h;rw[okW];omega
theorem OQ(a b:NI)(e:0<b.v)(d:okW a.v)(f:okW b.v):aw prog 254 [eI a,eI b] (eI (a.div b)):=by
 have c:=tz b;rw[if_neg (by omega),if_neg (by omega)]at c;refine aI nf Nl mix (by simp[f254]) ?_;simp[f254];refine c1 c ?_;simp;refine c2 (KM a b e d f) ?_;simp[aa]
 done
theorem NI.yE(a:NI):a.abs.v.natAbs=a.v.natAbs:=by
 rw[NI.abs];split
 ·rw[NI.iw,en]
 ·rfl
theorem NI.OJ(a:NI):0<=a.abs.v:=by
 rw[NI.abs];split
 ·rw[NI.iw];omega
 ·omega
def eB(a b:Int):Int:=(hn a.natAbs b.natAbs:Nat)
theorem OP(a b:NI)(j:okW a.v)(k:okW b.v):aw prog 253 [eI a,eI b] (eI (.mk' (eB a.v b.v))):=by
 refine aI nf Nn mix (by simp[f253]) ?_;simp[f253];refine e1 (ON a j) ?_;simp;refine e1 (ON b k) ?_;simp[aa];refine⟨⟨rfl,rfl⟩,?_⟩;have n:eB a.abs.v b.abs.v=eB a.v b.v:=by rw[eB,eB,NI.yE,NI.yE]
 refine lp (α:=NI×NI) (fun x=>⟨[(4,.ptr 2 []),(3,.ptr 1 []),(2,.ptr 0 [])],[.box false (.p (eI x.1)),.box false (.p (eI x.2)),.box false (.p (.st 129 [.int .i64 0,.aN]))]⟩)
  (fun x=>0<=x.1.v/\0<=x.2.v/\okW x.1.v/\okW x.2.v/\eB x.1.v x.2.v=eB a.v b.v) (fun x=>x.2.v.toNat) (a.abs,b.abs) ⟨NI.OJ a,NI.OJ b,qJ j (ho (NI.yE a)),qJ k (ho (NI.yE b)),n⟩ ?_
 rintro⟨x,y⟩ ⟨l,g,i,c,f⟩;dsimp only at l g i c f;have d:=tz y
 by_cases e:y.v=0
 ·rw[if_neg (by omega),if_pos e]at d;have hx:eI (.mk' (eB a.v b.v))=eI x:=by
   refine mP ?_ (fun h=>?_)
   ·rw[NI.iw,<-f,e,eB];simp;omega
   ·rw[NI.iw,eB]at h;omega
  rw[hx];simp;refine c1 d ?_;simp[aa]
 ·rw[if_neg (by omega),if_neg e]at d;have q:=eb x.v (show 0<y.v by omega);have o:=ec x.v e;have m:(x.v% y.v).natAbs=x.v.natAbs% y.v.natAbs:=by
   have e1:(x.v.natAbs:Int)=x.v:=by omega
   have e2:(y.v.natAbs:Int)=y.v:=by omega
   have e3:((x.v.natAbs% y.v.natAbs:Nat):Int)=x.v% y.v:=by rw[Int.natCast_emod,e1,e2]
   omega
  simp;refine c1 d ?_;simp[aa];refine c2 (KM x y (by omega) i c) ?_;simp[aa];refine⟨rfl,?_⟩;refine rd (y,x.mod y) ⟨g,o,c,qJ c (by show(x.v% y.v).natAbs<=_;omega),?_⟩ (by show(x.v% y.v).toNat<y.v.toNat;omega);show eB y.v (x.v% y.v)=_;rw[<-f,eB,eB,m,hG y.v.natAbs,<-Nat.gcd_rec,hG]
theorem aD2{o x k A:Nat}(hx:1<=x)(d:1<=o)(h:o*x^k=A)(hk:1<=k):o*x<=A/\(2<=k->x*x<=A):=by
 have a:x<=x^k:=by
  calc x=x^1:=(hh x).symm
   _<=x^k:=gm hx hk
 refine⟨by rw[<-h];exact hz _ a,fun b=>?_⟩;have c:x*x<=x^k:=by
  calc x*x=x^2:=by rw[hK]
   _<=x^k:=gm hx b
 rw[<-h];exact hb c (hp _ d)
theorem Yb(a:NI)(n A:Nat)(E:1<=a.v)(q:A=a.v.natAbs^n)(J:(aq wB A).length<=400000)(F:(aq wB a.v.natAbs).length<=400000)(K:n<=1000000):aw prog 278 [eI a,.int .i64 n] (eI (.mk' A)):=by
 refine aI nf FG mix (by simp[f278]) ?_;simp[f278];refine c1 (rJ 1) ?_;rw[show eX 1=eI (.of 1)from(tP (by decide) (by decide)).symm];simp[aa];refine lp (α:=Nat×NI×NI) (fun s=>⟨[(1,.p (.int .i64 s.1)),(5,.ptr 2 []),(4,.ptr 1 []),(2,.ptr 0 [])],[.box false (.p (eI s.2.1)),.box false (.p (.st 129 [.int .i64 0,.aN])),.box false (.p (eI s.2.2))]⟩)
  (fun s=>s.1<=n/\1<=s.2.1.v/\1<=s.2.2.v/\(0<s.1->s.2.2.v.natAbs*s.2.1.v.natAbs^s.1=A)/\(s.1=0->s.2.2.v.natAbs=A)/\(aq wB s.2.1.v.natAbs).length<=400000) (fun s=>s.1) (n,a,.of 1) ⟨gx _,E,(by decide:(1:Int)<=1),fun _=>by rw[q];show(1:Int).natAbs*_=_;simp,fun h=>by have h:n=0:=h;rw[q,h,hg];rfl,F⟩ ?_
 rintro⟨k,x,o⟩ ⟨C,c,i,b,l,m⟩;dsimp only at C c i b l m
 by_cases k0:k=0
 ·subst k0;have e:eI (.mk' A)=eI o:=by
   refine mP ?_ (fun h=>?_)
   ·rw[NI.iw,<-l rfl];omega
   ·rw[NI.iw]at h;omega
  rw[e];simp[aa]
 have b:=b (by omega);have r:=aD2 (o:=o.v.natAbs) (x:=x.v.natAbs) (by omega) (by omega) b (by omega);have d:bi.wrap (k% 2^bi.bits&&&1% 2^bi.bits:Nat)=(k% 2:Nat):=by
  rw[show(2^bi.bits:Nat)=18446744073709551616 from rfl,g6 (show k<18446744073709551616 by omega),show 1% 18446744073709551616=2^1-1 from rfl,Nat.and_two_pow_sub_one_eq_mod];exact aK _ (by omega) (by omega)
 have hs:(k:Int).fdiv (2^min 1 bi.bits)=(k/2:Nat):=by
  rw[show((2:Int)^min 1 bi.bits)=2 from rfl,Int.fdiv_eq_ediv_of_nonneg _ (by decide)];omega
 have j:0<k:=by omega
 have L:(aq wB o.v.natAbs).length<=400000:=by
  have D:o.v.natAbs<=A:=hb (Nat.le_mul_of_pos_right _ (show 0<x.v.natAbs by omega)) r.1;have:=dK bd _ _ (gy D (cj bd A));omega
 have z:2<=k->(aq wB (x.v*x.v).natAbs).length<=400000:=fun h=>by
  have:=dK bd _ _ (gy (r.2 h) (cj bd A));rw[ea];omega
 have y:(1:Int)<=o.v*x.v:=by
  have:=eq i c (by decide) (by omega);omega
 have B:(1:Int)<=x.v*x.v:=by
  have:=eq c c (by decide) (by omega);omega
 have u:=zt o x (by omega);have w:=zt x x (by omega);have g:x.v.natAbs^k=(x.v*x.v).natAbs^(k/2)*x.v.natAbs^(k% 2):=by
  rw[ea,<-hK,<-hl,<-g9,Nat.div_add_mod]
 by_cases H:k% 2=1
 ·rw[H,hh]at g;have t:((k% 2:Nat):Int)=1:=by omega
  rw[t]at d
  by_cases k1:1<k
  ·have f:(1:Int)<k:=by omega
   simp[j,d];refine c2 u ?_;simp[aa,f];refine c2 w ?_;simp[aa,hs];refine rd (k/2,x.mul x,o.mul x) ⟨by omega,B,y,fun _=>?_,fun h=>by dsimp only at h;omega,z k1⟩ (by dsimp only;omega);rw[g]at b;show(o.v*x.v).natAbs*(x.v*x.v).natAbs^(k/2)=A;rw[<-b,ea o.v,g7 ((x.v*x.v).natAbs^(k/2)),hD]
  ·have f:¬(1:Int)<k:=by omega
   have G:k=1:=by omega
   simp[j,d];refine c2 u ?_;simp[aa,f,hs];refine rd (k/2,x,o.mul x) ⟨by omega,c,y,fun h=>by dsimp only at h;omega,fun _=>?_,m⟩ (by dsimp only;omega);subst G;rw[hh]at b;show(o.v*x.v).natAbs=A;rw[<-b,ea]
 ·have I:k% 2=0:=by omega
  rw[I,hg,Nat.mul_one]at g;have t:¬((k% 2:Nat):Int)=1:=by omega
  rw[show((k% 2:Nat):Int)=0 by omega]at d;have f:(1:Int)<k:=by omega
  simp[j,d,f];refine c2 w ?_;simp[aa,hs];refine rd (k/2,x.mul x,o) ⟨by omega,B,i,fun _=>?_,fun h=>by dsimp only at h;omega,z (by omega)⟩ (by dsimp only;omega);show o.v.natAbs*(x.v*x.v).natAbs^(k/2)=A;rw[<-g,b]
theorem Yo(x:Nat)(hx:x<18446744073709551616):aw prog 305 [.int .u64 x] (.int .i64 (bv x:Nat)):=by
 refine jD (iN func305 (by kernel_rfl)) fun w ad d _ _ c=>?_;obtain⟨a,rfl,b⟩:=yp c;simp only[aA]at b;subst b;refine(bits_Len64 x w (by omega) (by omega)).mono ?_;rintro e w' ⟨rfl,rfl⟩;refine⟨_,rfl,⟨gx _,fun _ _=>rfl,rfl,rfl⟩,fun w ad=>?_⟩;simp only[aA];rfl
def nW(n:Nat):Nat:=if n=0 then 0 else 64*((aq wB n).length-1)+bv (ae wB n ((aq wB n).length-1))
theorem sC{n:Nat}:aq wB n=[]↔n=0:=by
 constructor
 ·intro h;have:=cj bd n;rw[h,List.length_nil,hg]at this;omega
 ·rintro rfl;exact ly
theorem KU(n:Nat):n<2^nW n:=by
 by_cases b:n=0
 ·subst b;exact gA (by decide)
 ·rw[nW,if_neg b];have e:=cj bd n;have j:0<(aq wB n).length:=by
   rcases g0 (aq wB n).length with h|h
   ·exact(b (sC.1 (e9.1 h))).elim
   ·exact h
  obtain⟨m,i⟩:∃m,(aq wB n).length=m+1:=⟨(aq wB n).length-1,by omega⟩
  rw[i]at e⊢;rw[g8];have d:n/wB^m<wB:=by
   rw[hd (gA (by decide)),g7,<-g5];exact e
  have f:ae wB n m=n/wB^m:=by rw[ae,g6 d]
  have g:0<n/wB^m:=by
   rcases g0 (n/wB^m)with h|h
   ·have c:n<wB^m:=by
     rcases ha n (wB^m)with a|a
     ·exact a
     ·have:=hm a (gA (show 0<wB by decide));omega
    have:=dK bd m n c;omega
   ·exact h
  have c:=xR (n/wB^m) (n/wB^m) (gx _) g d;rw[f,g9,hl];show n<wB^m*_;have a:n<(n/wB^m+1)*wB^m:=by
   rw[<-hd (gA (by decide))];omega
  rw[g7]at a;exact gt a (hz _ c.2.2)
theorem X6(a:NI)(l:okW a.v):aw prog 286 [eI a] (.int .i64 (nW a.v.natAbs:Nat)):=by
 have b:=nH (eI a) a.v (l8 a);refine aI nf GQ mix (by simp[f286]) ?_;have o:=nF l;have q:∀i(h:i<(aq wB a.v.natAbs).length),(aq wB a.v.natAbs)[i]=ae wB a.v.natAbs i:=fun i h=>ek bd h;have f:=cm (B:=wB) bd a.v.natAbs ((aq wB a.v.natAbs).length-1);have j:=Yo _ f;have A:=KU a.v.natAbs;have s:=sC (n:=a.v.natAbs)
 by_cases e:a.v.natAbs=0
 ·rw[e]at b⊢;simp only[eN,ly]at b;simp[f286];refine c1 b ?_;simp[nW]
 ·have k:=mt s.1 e;rw[nW,if_neg e];have p:bv (ae wB a.v.natAbs ((aq wB a.v.natAbs).length-1))<=64:=by
   rcases g0 (ae wB a.v.natAbs ((aq wB a.v.natAbs).length-1))with h|h
   ·rw[h];decide
   ·exact OM h f
  simp only[eN]at b;generalize aq wB a.v.natAbs=x at*;obtain⟨m,d⟩:∃m,x.length=m+1:=⟨x.length-1,by cases x with|nil=>exact(k rfl).elim|cons c cs=>simp⟩
  rw[d,g8]at j p f;rw[d,g8];rw[d]at o;have hx:=q m (by omega);have t:x[m]?=some (ae wB a.v.natAbs m):=by rw[List.getElem?_eq_getElem (by omega),hx]
  have u:bi.wrap (m:Int)=m:=aK _ (by omega) (by omega);have w:bi.wrap (64*(m:Int))=64*m:=aK _ (by omega) (by omega);have y:bi.wrap (64*(m:Int)+(bv (ae wB a.v.natAbs m):Nat))=(64*m+bv (ae wB a.v.natAbs m):Nat):=by rw[aK _ (by omega) (by omega)];push_cast;rfl
  generalize bv (ae wB a.v.natAbs m)=g at*;have z:bi.wrap (64*(m:Int)+g)=64*m+g:=by rw[y];push_cast;rfl
  simp[f286];refine c1 b ?_;have r:¬((m:Int)+1=0):=by omega
  simp[k,d,u,w,t,hx,r];refine c1 j ?_;simp[z]
noncomputable def eF(a:NF):PV:=.st 131 [eI a.num,eI a.den]
@[simp] theorem aKQ(a:NF):aL (eF a)=.agg 131:=rfl
@[simp] theorem aJE(a:NF):cF (eF a)=[eI a.num,eI a.den]:=rfl
@[simp] theorem aK8(n:Int):aL (eX n)=.agg 129:=rfl
@[simp] theorem aIm:prog.cellsOf 129=2:=by kernel_rfl
@[simp] theorem aIB:prog.cellsOf 131=4:=by kernel_rfl
theorem LU:eX 1=eI (.mk' 1):=(nV (by decide) (by decide)).symm
def kB:Nat:=100000
theorem pU:kB<=3*kB:=hp _ (by decide)
theorem yf{n k:Nat}(h:n<2^k):(aq wB n).length<=k/64+1:=by
 refine dK bd _ _ (gt h ?_);rw[show wB=2^64 from rfl,<-hl];exact gm (by decide) (by omega)
theorem ia{z:Int}{k:Nat}(h:z.natAbs<2^k)(hk:k<=3*kB):okW z:=by
 have:=yf h;have a:kB=100000:=rfl;rw[okW];omega
def NF.make(n d:NI):NF:=⟨hL n.v d.v,n.m&&decide (d.v=1)⟩
theorem BM(a:NF):aw prog 187 [eF a] (.bool a.fu):=by
 refine aI nf F0 mix (by simp[f187]) ?_;have f:a.den.v=a.q.den:=rfl;have h:=a.q.den_pos;rcases hs:a.den.sm with _|_
 ·obtain⟨c,cs,d⟩:=nS hs;have g:=NI.yV (a:=a.den) (by rw[hs];decide);have b:a.fu=false:=by rw[NF.fu,decide_eq_false_iff_not];omega
  simp[f187,aa,d,du,cS,b]
 ·have d:=lZ hs;have e:=mM hs;rw[f]at e;have b:a.fu=decide ((a.q.den:Int)=1):=by rw[NF.fu,decide_eq_decide];omega
  simp[f187,aa,d,e,du,cS,b];rfl
theorem CW(a:NI):aw prog 170 [eI a] (eF (.whole a)):=by
 refine aI nf Oz mix (by simp[f170]) ?_;simp[f170];refine e1 (rJ 1) ?_;have b:(NF.whole a).num=a:=by cases a;rfl
 have c:(NF.whole a).den=.mk' 1:=rfl;simp[aa,eF,b,c,LU]
theorem mU(n:Int)(h:-9223372036854775808<=n)(b:n<=9223372036854775807):aw prog 74 [.int .i64 n] (eF (.int n)):=by
 have a:=CW (.of n);rw[tP h b]at a;refine aI nf PW mix (by simp[f74]) ?_;simp[f74];refine c1 (rJ n) ?_;simp;refine c1 a ?_;simp[aa];exact Wk.refl _
theorem De(q:Rat):(if q<0 then(-1:Int)else if q=0 then 0 else 1)=if q.num<0 then -1 else if q.num=0 then 0 else 1:=by
 have a:q<0↔q.num<0:=by rw[<-Rat.not_le,<-Rat.num_nonneg];omega
 have b:q=0↔q.num=0:=hM.symm;simp only[a,b]
theorem CU(a:NF):aw prog 146 [eF a] (.int .i64 (if a.q<0 then -1 else if a.q=0 then 0 else 1)):=by
 have b:=tz a.num;refine aI nf Ob mix (by simp[f146]) ?_;simp[f146,aa];refine c1 b ?_;simp;exact De a.q
theorem C1(a:NF)(h:bE kB a.q):aw prog 174 [eF a] (eF a.neg):=by
 have d:=tL a.num (ia h.1 pU);refine aI nf Ov mix (by simp[f174]) ?_;simp[f174,aa];refine e1 d ?_;have b:a.neg.num=a.num.neg:=by show(⟨(-a.q).num,false⟩:NI)=⟨-a.q.num,false⟩;rw[Rat.neg_num]
 have c:a.neg.den=a.den:=by show(⟨((-a.q).den:Int),false⟩:NI)=⟨a.q.den,false⟩;rw[Rat.neg_den]
 simp[aa,eF,b,c]
theorem Uz{n d:NI}(j:0<d.v):(NI.mk' (eB n.v d.v)).v≠0/\0<eB n.v d.v/\(¬d.v=1->eI (n.div (.mk' (eB n.v d.v)))=eI (NF.make n d).num)/\eI (d.div (.mk' (eB n.v d.v)))=eI (NF.make n d).den:=by
 obtain⟨dn,e⟩:∃dn:Nat,d.v=dn:=⟨d.v.toNat,by omega⟩
 have f:dn≠0:=by omega
 obtain⟨e1,e2⟩:=lL (n:=n.v) f;have c:eB n.v d.v=(hn n.v.natAbs dn:Nat):=by rw[eB,e];rfl
 have k:0<hn n.v.natAbs dn:=Nat.gcd_pos_of_pos_right _ (by omega);have i:(hn n.v.natAbs dn:Int)∣n.v:=Int.ofNat_dvd_left.2 (Nat.gcd_dvd_left _ _);refine⟨by rw[NI.iw,c];omega,by rw[c];omega,fun g=>?_,?_⟩
 ·refine mP ?_ (fun _=>?_)
  ·show n.v/eB n.v d.v=(hL n.v d.v).num;rw[c,e,e1]
  ·show decide (n.v% eB n.v d.v≠0)=(n.m&&decide (d.v=1))
   rw[c,Int.emod_eq_zero_of_dvd i];simp[g]
 ·refine mP ?_ (fun h=>?_)
  ·show d.v/eB n.v d.v=((hL n.v d.v).den:Int)
   rw[c,e,e2];exact(Int.natCast_ediv _ _).symm
  ·have:d.v/eB n.v d.v= -9223372036854775808:=h;have:=Int.ediv_nonneg (a:=d.v) (b:=eB n.v d.v) (by omega) (by rw[c];omega);omega
theorem WT{n d:NI}(a:d.v<0):NF.make n.neg d.neg=NF.make n d:=by
 rw[NF.make,NF.make];have e1:hL n.neg.v d.neg.v=hL n.v d.v:=Rat.neg_divInt_neg _ _;have e2:(n.neg.m&&decide (d.neg.v=1))=(n.m&&decide (d.v=1)):=by
  rw[show n.neg.m=false from rfl,a6,decide_eq_false (by omega),a7]
 rw[e1,e2]
theorem IB(n:Int):(hL n 1).num=n/\(hL n 1).den=1:=by
 obtain⟨e1,e2⟩:=lL (n:=n) (show 1≠0 by decide);rw[hB]at e1 e2;refine⟨?_,?_⟩
 ·exact e1.trans (ew n)
 ·exact e2
theorem DA(n d:NI)(A:d.v≠0)(q:okW n.v)(o:okW d.v):aw prog 189 [eI n,eI d] (eF (.make n d)):=by
 have i:=tz d;refine aI nf FZ mix (by simp[f189]) ?_;simp[f189,-bh];rw[bh];simp[-bh];refine join (fun s=>∃a d':NI,0<d'.v/\okW a.v/\okW d'.v/\NF.make a d'=NF.make n d/\aM s.env 2=.ptr 0 []/\aM s.env 3=.ptr 1 []/\aM s.env 4=.ptr 2 []/\s.heap=[.box false (.p (eI a)),.box false (.p (eI d')),.box false (.p (.st 131 [.st 129 [.int .i64 0,.aN],.st 129 [.int .i64 0,.aN]]))]) ?_ ?_
 ·by_cases l:d.v<0
  ·rw[if_pos l]at i;simp;refine c1 i ?_;simp;refine e1 (tL n q) ?_;simp;refine e1 (tL d o) ?_;simp[aa];exact⟨⟨rfl,rfl⟩,n.neg,d.neg,by rw[NI.Ew];omega,qJ q (by rw[NI.Ew];omega),qJ o (by rw[NI.Ew];omega),WT l,rfl,rfl⟩
  ·rw[if_neg l,if_neg A]at i;simp;refine c1 i ?_;simp;exact⟨n,d,by omega,q,o,rfl,rfl,rfl⟩
 ·rintro⟨G,H⟩ ⟨a,d',F,y,r,z,b,e,f,u⟩;dsimp only at b e f u;subst u;rw[<-z];clear z i;have t:=OP a d' y r;obtain⟨g1,g2,g3,g4⟩:=Uz (n:=a) F;have og:okW (eB a.v d'.v):=by
   refine qJ r ?_;rw[eB];exact hb (ho (ei _)) (Nat.gcd_le_right _ (by omega))
  have w:=OQ a (.mk' (eB a.v d'.v)) g2 y og;have x:=OQ d' (.mk' (eB a.v d'.v)) g2 r og
  by_cases hs:d'.v=1
  ·have g:d'.sm=true:=NI.zg (by omega) (by omega);have j:=lZ g;have k:=mM g;rw[hs]at k;have C:eF (.make a d')=.st 131 [eI a,eI d']:=by
    rw[eF];have D:(NF.make a d').num=a:=by
     show(⟨(hL a.v d'.v).num,a.m&&decide (d'.v=1)⟩:NI)=a;rw[hs,(IB _).1];simp
    have E:eI (NF.make a d').den=eI d':=by
     refine mP ?_ (fun h=>?_)
     ·show((hL a.v d'.v).den:Int)=d'.v;rw[hs,(IB _).2];rfl
     ·have:((hL a.v d'.v).den:Int)= -9223372036854775808:=h;omega
    rw[D,E]
   rw[C];simp[b,e,f,aa,j,k,du,cS]
   done
  ·rw[eF,<-g3 hs,<-g4];have B:(wI d'=.aN/\¬sI d'=1)\/∃c cs,wI d'=.seq (c::cs):=by
    rcases g:d'.sm with _|_
    ·exact .inr (nS g)
    ·exact .inl ⟨lZ g,by rw[mM g];exact hs⟩
   rcases B with⟨j,k⟩|⟨c,cs,j⟩
   ·simp[b,e,f,aa,j,k,du,cS];refine c2 t ?_;simp[b,e,f,aa];refine e2 w ?_;simp[b,e,f,aa];refine e2 x ?_;simp[b,e,f,aa]
    done
   ·simp[b,e,f,aa,j,du,cS];refine c2 t ?_;simp[b,e,f,aa];refine e2 w ?_;simp[b,e,f,aa];refine e2 x ?_;simp[b,e,f,aa]
    done
theorem lx(a:NF):a.num.v=a.q.num:=rfl
theorem jt(a:NF):a.den.v=a.q.den:=rfl
theorem ka(a:NF):a.den.v.natAbs=a.q.den:=by rw[jt,ei]
theorem ry{x y:NI}{k l:Nat}(hx:x.v.natAbs<2^k)(a:y.v.natAbs<2^l)(h:k+l<=4*kB):aw prog 190 [eI x,eI y] (eI (x.mul y)):=by
 have b:=yf hx;have c:=yf a;have d:kB=100000:=rfl;exact zt x y (by omega)
theorem oQ{x y:Int}{k l:Nat}(hx:x.natAbs<2^k)(a:y.natAbs<2^l):(x*y).natAbs<2^(k+l):=by
 rw[ea,g9];exact Nat.mul_lt_mul'' hx a
theorem CA{n d:NI}{q:Rat}(m:Bool)(hq:hL n.v d.v=q)(a:(n.m&&decide (d.v=1))=m):NF.make n d=⟨q,m⟩:=by rw[NF.make,hq,a]
theorem WR(a b:NF):NF.make (a.num.mul b.num) (a.den.mul b.den)=a.mul b:=by
 refine CA _ ?_ rfl;rw[NI.lY,NI.lY,lx,lx,jt,jt,Rat.mul_def,Rat.normalize_eq_mkRat];rfl
theorem yh(a b:NF)(c:bE kB a.q)(d:bE kB b.q):aw prog 172 [eF a,eF b] (eF (a.mul b)):=by
 have f:=ry (x:=a.num) (y:=b.num) c.1 d.1 (by omega);have g:=ry (x:=a.den) (y:=b.den) (by rw[ka];exact c.2) (by rw[ka];exact d.2) (by omega);have e:=DA (a.num.mul b.num) (a.den.mul b.den) (by rw[NI.lY,jt,jt];have:=a.q.den_nz;have:=b.q.den_nz;exact em (by omega) (by omega)) (ia (oQ c.1 d.1) (by omega)) (ia (oQ (x:=a.den.v) (y:=b.den.v) (by rw[ka];exact c.2) (by rw[ka];exact d.2)) (by omega));rw[WR]at e;refine aI nf Ox mix (by simp[f172]) ?_;simp[f172,aa];refine e2 f ?_;simp[aa];refine e2 g ?_;simp[aa];refine e2 e ?_;simp[aa]
theorem W8(a:NF)(h:a.q≠0):NF.make a.den a.num=a.inv:=by
 refine CA _ ?_ rfl;rw[lx,jt];show hL a.q.den a.q.num=a.q⁻¹;rw[Rat.inv_def]
theorem Lc(a:NF)(c:bE kB a.q)(b:a.q≠0):aw prog 173 [eF a] (eF a.inv):=by
 have d:=DA a.den a.num (by rw[lx];exact mt hM.1 b) (ia (by rw[ka];exact c.2) pU) (ia c.1 pU);rw[W8 a b]at d;refine aI nf Ow mix (by simp[f173]) ?_;simp[f173,aa];refine c2 d ?_;simp[aa]
theorem DH(a b:NF)(g:bE kB a.q)(c:bE kB b.q)(f:b.q≠0):aw prog 75 [eF a,eF b] (eF (a.div b)):=by
 have h:=Lc b c f;have d:=yh a b.inv g (HJ c);have e:a.mul b.inv=a.div b:=by
  rw[NF.mul,NF.div,NF.inv,Rat.div_def]
 rw[e]at d;refine aI nf PX mix (by simp[f75]) ?_;simp[f75,aa];refine e1 h ?_;simp[aa];refine e2 d ?_;simp[aa]
theorem XD(a b:NF)(h:¬(a.fu=true/\b.fu=true)):NF.make ((a.num.mul b.den).add (b.num.mul a.den)) (a.den.mul b.den)=a.add b:=by
 have g:(a.fu&&b.fu)=false:=by simpa using h
 refine CA _ ?_ ?_
 ·rw[NI.rC,NI.lY,NI.lY,NI.lY,lx,lx,jt,jt,Rat.add_def'];rfl
 ·rw[g,a6];have:¬(a.den.mul b.den).v=1:=by
   intro c;rw[NI.lY,jt,jt]at c;have d:a.q.den*b.q.den=1:=by exact_mod_cast c
   have e:=Nat.eq_one_of_mul_eq_one_right d;have f:=Nat.eq_one_of_mul_eq_one_left d;exact h ⟨by rw[NF.fu];simp[e,f],by rw[NF.fu];simp[e,f]⟩
  rw[decide_eq_false this,a7]
theorem LW{q:Rat}(h:q.den=1):(q.num:Rat)=q:=by
 apply Rat.ext
 ·rw[Rat.num_intCast]
 ·rw[Rat.den_intCast,h]
theorem zi(a b:NF)(j:bE kB a.q)(k:bE kB b.q):aw prog 89 [eF a,eF b] (eF (a.add b)):=by
 have d:=BM a;have n:=BM b;refine aI nf Qc mix (by simp[f89]) ?_
 by_cases hw:a.fu=true/\b.fu=true
 ·rw[hw.1]at d;rw[hw.2]at n;have l:=wx a.num b.num (ia j.1 pU) (ia k.1 pU);have g:=CW (a.num.add b.num);have c:a.q.den=1:=by simpa[NF.fu]using hw.1
  have f:b.q.den=1:=by simpa[NF.fu]using hw.2
  have e:NF.whole (a.num.add b.num)=a.add b:=by
   rw[NF.whole,NF.add];have e1:(((a.num.add b.num).v:Int):Rat)=a.q+b.q:=by
    rw[NI.rC,lx,lx,Rat.intCast_add,LW c,LW f]
   have e2:(a.num.add b.num).m=(a.fu&&b.fu&&(a.num.sm&&b.num.sm)):=by rw[hw.1,hw.2];rfl
   rw[e1,e2]
  rw[e]at g;simp[f89,aa];refine c1 d ?_;simp[aa];refine c1 n ?_;simp[aa];refine c2 l ?_;simp[aa];refine c1 g ?_;simp[aa]
 ·have h:a.den.v.natAbs<2^kB:=by rw[ka];exact j.2
  have i:b.den.v.natAbs<2^kB:=by rw[ka];exact k.2
  have l:=ry (x:=a.num) (y:=b.den) j.1 i (by omega);have g:=ry (x:=b.num) (y:=a.den) k.1 h (by omega);have s:(a.num.mul b.den).v.natAbs<2^(kB+kB):=oQ j.1 i;have t:(b.num.mul a.den).v.natAbs<2^(kB+kB):=oQ k.1 h;have p:=wx _ _ (ia s (by omega)) (ia t (by omega));have r:=ry (x:=a.den) (y:=b.den) h i (by omega);have u:((a.num.mul b.den).add (b.num.mul a.den)).v.natAbs<2^(kB+kB+1):=by
   rw[NI.rC,g5];exact gy (Int.natAbs_add_le _ _) (by omega)
  have w:kB=100000:=rfl;have o:=DA ((a.num.mul b.den).add (b.num.mul a.den)) (a.den.mul b.den) (by rw[NI.lY,jt,jt];have:=a.q.den_nz;have:=b.q.den_nz;exact em (by omega) (by omega)) (ia u (by omega)) (ia (oQ (x:=a.den.v) (y:=b.den.v) h i) (by omega));rw[XD a b hw]at o;have hc:a.fu=false\/(a.fu=true/\b.fu=false):=by
   rcases c:a.fu with _|_
   ·exact .inl rfl
   ·exact .inr ⟨rfl,by rcases f:b.fu with _|_;rfl;exact(hw ⟨c,f⟩).elim⟩
  rcases hc with c|⟨c,f⟩
  ·rw[c]at d;simp[f89,aa];refine c1 d ?_;simp[aa];refine e2 l ?_;simp[aa];refine e2 g ?_;simp[aa];refine e2 p ?_;simp[aa];refine e2 r ?_;simp[aa];refine e2 o ?_;simp[aa]
  ·rw[c]at d;rw[f]at n;simp[f89,aa];refine c1 d ?_;simp[aa];refine c1 n ?_;simp[aa];refine e2 l ?_;simp[aa];refine e2 g ?_;simp[aa];refine e2 p ?_;simp[aa];refine e2 r ?_;simp[aa];refine e2 o ?_;simp[aa]
theorem yM(a b:NF)(d:bE kB a.q)(c:bE kB b.q):aw prog 191 [eF a,eF b] (eF (a.sub b)):=by
 have e:=C1 b c;have f:=zi a b.neg d (vr c);refine aI nf FY mix (by simp[f191]) ?_;simp[f191,aa];refine e1 e ?_;simp[aa];refine e2 f ?_;simp[aa];exact Wk.refl _
def eS(x y:Rat):Int:=if x<y then -1 else if x=y then 0 else 1
theorem aDv(a b:Rat):jN (a.num*b.den) (b.num*a.den)=eS a b:=by
 have c:a<b↔a.num*b.den<b.num*a.den:=hO _ _;have f:a=b↔a.num*b.den=b.num*a.den:=by
  constructor
  ·rintro rfl;rfl
  ·intro h
   by_cases d:a<b
   ·rw[c]at d;omega
   ·by_cases e:b<a
    ·have g:=(hO b a).1 e;omega
    ·exact Rat.le_antisymm (hN.1 e) (hN.1 d)
 simp only[jN,eS,c,f]
theorem wy(a b:NF)(c:bE kB a.q)(d:bE kB b.q):aw prog 136 [eF a,eF b] (.int .i64 (eS a.q b.q)):=by
 have e:a.den.v.natAbs<2^kB:=by rw[ka];exact c.2
 have f:b.den.v.natAbs<2^kB:=by rw[ka];exact d.2
 have j:=ry (x:=a.num) (y:=b.den) c.1 f (by omega);have k:=ry (x:=b.num) (y:=a.den) d.1 e (by omega);have h:(a.num.mul b.den).v.natAbs<2^(kB+kB):=oQ c.1 f;have i:(b.num.mul a.den).v.natAbs<2^(kB+kB):=oQ d.1 e;have g:=OO _ _ (ia h (by omega)) (ia i (by omega));rw[NI.lY,NI.lY,lx,lx,jt,jt,aDv]at g;refine aI nf G4 mix (by simp[f136]) ?_;simp[f136,aa];refine e2 j ?_;simp[aa];refine e2 k ?_;simp[aa];refine e2 g ?_;simp[aa]
def low:Nat->Nat->List Nat
 |0,_=>[]
 |i+1,n=>(48+n/10^i% 10)::low i n
def nd(n:Nat):Nat:=if h:n=0 then 0 else nd (n/10)+1
 decreasing_by omega
theorem mR:∀(i n:Nat),i<nd n↔10^i<=n
 |0,n=>by
  rw[nd];split
  ·subst n;simp
  ·simp;omega
 |i+1,n=>by
  rw[nd];split
  ·rename_i h;subst h;have:=gA (n:=i+1) (show 0<10 by omega);constructor
   ·intro h;omega
   ·intro h;omega
  ·have:=mR i (n/10);rw[ht (by omega),<-g5]at this;rw[<-this];omega
theorem qN(b n:Nat):∀a,low (a+b) n=low a (n/10^b)++low b n
 |0=>by simp[low]
 |a+1=>by
  rw[show a+1+b=(a+b)+1 by omega,low,low,qN b n a,Nat.div_div_eq_div_mul,<-g9,Nat.add_comm b a];rfl
theorem CB(n k:Nat):∀b,b<=k->low b (n% 10^k)=low b n
 |0,_=>rfl
 |b+1,h=>by
  have e:k=b+(k-b-1+1):=by omega
  have a:n% 10^k/10^b=n/10^b% 10^(k-b-1+1):=by
   conv=>lhs;rw[e,g9]
   rw[Nat.mod_mul_right_div_self]
  rw[low,low,CB n k b (by omega),a,Nat.mod_mod_of_dvd _ (Nat.pow_dvd_pow 10 (show 1<=k-b-1+1 by omega)|>fun h=>by simpa using h)]
theorem aCG{n m:Nat}(h:∀i,i<nd n↔i<m):nd n=m:=by
 have a:=h m;have b:=h (nd n);omega
theorem Dg{n k:Nat}(h:10^k<=n):nd n=nd (n/10^k)+k:=by
 refine aCG fun i=>?_;rw[mR]
 by_cases hi:i<k
 ·have:=gm (show 0<10 by omega) (Nat.le_of_lt hi);constructor
  ·intro _;omega
  ·intro _;omega
 ·obtain⟨j,rfl⟩:∃j,i=j+k:=⟨i-k,by omega⟩
  rw[g9,<-ht (gA (by omega)),<-mR];omega
theorem rA{n k:Nat}(h:n<10^k):nd n<=k:=by
 rcases ha k (nd n)with a|a
 ·rw[mR]at a;omega
 ·exact a
theorem vX{n:Nat}(h:0<n):0<nd n:=by rw[mR,hg];exact h
theorem WU{M:Nat}(h:10^9<=M):low (nd M) M=low (nd (M/10^9)) (M/10^9)++low 9 (M% 10^9):=by
 rw[Dg h,qN,CB _ _ _ (gx 9)]
theorem qM(n:Nat):∀i,(low i n).length=i
 |0=>rfl
 |i+1=>by simp[low,qM n i]
def aV(n:Nat):List Nat:=low (max 1 (nd n)) n
def bI(z:Int):List Nat:=if z<0 then 45::aV z.natAbs else aV z.natAbs
def aX(q:Rat):List Nat:=if q.den=1 then bI q.num else bI q.num++47::aV q.den
def aU(s:List Nat):Nat:=s.foldl (fun n c=>n*10+(c-48)) 0
def cd(c:Nat):Bool:=decide (48<=c)&&decide (c<=57)
theorem xU(s:List Nat)(c:Nat):aU (s++[c])=aU s*10+(c-48):=by simp[aU]
theorem sP(i n:Nat):low (i+1) n=low i (n/10)++[48+n% 10]:=by
 have:=qN 1 n i;rw[this];simp[low]
theorem Qo:∀(i n:Nat),(low i n).all cd=true
 |0,n=>rfl
 |i+1,n=>by
  rw[low,e8,Qo i n];have:=hA (n/10^i) (show 0<10 by omega);simp[cd];omega
theorem Kq:∀(i n:Nat),aU (low i n)=n% 10^i
 |0,n=>by simp[low,aU,Nat.mod_one]
 |i+1,n=>by
  rw[sP,xU,Kq i,g5,g7 (10^i),Nat.mod_mul];omega
theorem Cg(n:Nat):n<10^nd n:=by
 rcases ha n (10^nd n)with h|h
 ·exact h
 ·have:=(mR (nd n) n).2 h;omega
theorem pG(n:Nat):aU (aV n)=n:=by
 rw[aV,Kq];refine g6 (gt (Cg n) (gm (by omega) (by omega)))
theorem Ap{a b:Nat}(h:aV a=aV b):a=b:=by rw[<-pG a,h,pG]
theorem qK(n:Nat):(aV n).length=max 1 (nd n):=qM _ _
theorem nX(n:Nat):(aV n).all cd=true:=Qo _ _
theorem mC:aV 0=[48]:=by
 have:nd 0=0:=by rw[nd,dif_pos rfl]
 rw[aV,this];rfl
theorem Rm{n:Nat}(h:0<n):(aV n).head?=some (48+n/10^(nd n-1))/\0<n/10^(nd n-1)/\n/10^(nd n-1)<10:=by
 have d:=vX h;obtain⟨k,hk⟩:∃k,nd n=k+1:=⟨nd n-1,by omega⟩
 have e:max 1 (nd n)=k+1:=by omega
 have c:=(mR k n).1 (by omega);have a:=Cg n;rw[hk]at a;have b:n/10^k<10:=by rw[hd (gA (by omega)),g7,<-g5];exact a
 rw[aV,e,hk,g8];exact⟨by rw[low,fv,g6 b],hm c (gA (by omega)),b⟩
def dy(s:List Nat):Bool:=!s.isEmpty&&s.all cd&&(decide (s.head?≠some 48)||decide (s=[48]))
theorem Fa(n:Nat):dy (aV n)=true:=by
 rcases g0 n with rfl|h
 ·rw[mC];rfl
 ·obtain⟨b,f,g⟩:=Rm h;have d:(aV n).isEmpty=false:=by
   have:=qK n;cases he:aV n with
   |nil=>rw[he]at this;simp at this;omega
   |cons a l=>rfl
  have c:¬(some (48+n/10^(nd n-1))=some 48):=by intro e;injection e with e;omega
  simp only[dy,d,nX,b,Bool.not_false,a8,ne_eq,c,not_false_eq_true,decide_true,Bool.true_or]
theorem jl:∀(k:Nat)(s:List Nat),s.length=k->s.all cd=true->aU s<10^k
 |0,s,h,_=>by
            have:s=[]:=e9.1 h
            subst this;simp[aU]
 |n+1,s,h,a=>by
  have b:s≠[]:=by intro e;subst e;simp at h
  obtain⟨t,c,rfl⟩:∃t c,s=t++[c]:=⟨s.dropLast,s.getLast b,(fV b).symm⟩
  simp only[gi,e8,gj,aT,av]at a;have d:=jl n t (by simpa using h) a.1;have hc:=a.2;simp only[cd,av,decide_eq_true_eq]at hc;rw[xU,g5];omega
theorem Lm:∀(k:Nat)(s:List Nat),s.length=k->s.all cd=true->low k (aU s)=s
 |0,s,h,_=>by
            have:s=[]:=e9.1 h
            subst this;rfl
 |n+1,s,h,a=>by
  have b:s≠[]:=by intro e;subst e;simp at h
  obtain⟨t,c,rfl⟩:∃t c,s=t++[c]:=⟨s.dropLast,s.getLast b,(fV b).symm⟩
  simp only[gi,e8,gj,aT,av]at a;have d:=Lm n t (by simpa using h) a.1;have hc:=a.2;simp only[cd,av,decide_eq_true_eq]at hc;rw[sP,xU];have e1:(aU t*10+(c-48))/10=aU t:=by omega
  have e2:(aU t*10+(c-48))% 10=c-48:=by omega
  rw[e1,e2,d];congr 2;omega
theorem SM(c:Nat)(s:List Nat)(h:49<=c):10^s.length<=aU (c::s):=by
 have key:∀(s:List Nat)(a:Nat),a*10^s.length<=s.foldl (fun n c=>n*10+(c-48)) a:=by
  intro s
  induction s with
  |nil=>intro a;simp
  |cons x r b=>
   intro a;rw[gg,ge];refine hb ?_ (b _);rw[g5,g7 (10^r.length),<-hD];exact hy _ (by omega)
 have:=key s (c-48);rw[aU,gg,Nat.zero_mul,hE];refine hb ?_ this;have:1*10^s.length<=(c-48)*10^s.length:=hy _ (by omega);omega
theorem vI{s:List Nat}(h:dy s=true):aV (aU s)=s:=by
 simp only[dy,av,ax,decide_eq_true_eq,ay]at h;obtain⟨⟨f,a⟩,b⟩:=h;rcases b with b|rfl
 ·cases s with
  |nil=>simp at f
  |cons c r=>
   have hc:cd c=true:=by simpa using(e8.symm.trans a|>fun h=>by simpa using h:cd c=true/\r.all cd=true).1
   simp only[cd,av,decide_eq_true_eq]at hc;have i:49<=c:=by
    have:c≠48:=fun e=>b (by rw[e];rfl);omega
   have g:=jl _ _ rfl a;have j:=SM c r i;have k:nd (aU (c::r))=r.length+1:=by
    have l:=(mR r.length _).2 j;have d:=rA g;rw[ge]at d;omega
   rw[aV,k,show max 1 (r.length+1)=r.length+1 by omega];exact Lm _ _ rfl a
 ·have:aU [48]=0:=rfl;rw[this,mC]
def bZ(c:Nat):List Nat->List Nat×List Nat×Bool
 |[]=>([],[],false)
 |x::r=>if x=c then([],r,true)else(x::(bZ c r).1,(bZ c r).2.1,(bZ c r).2.2)
theorem B7(c:Nat):∀(a b:List Nat),c∉a->bZ c (a++c::b)=(a,b,true)
 |[],b,_=>by simp[bZ]
 |x::a,b,h=>by
  simp only[fb,not_or]at h;rw[fd,bZ,if_neg (fun e=>h.1 e.symm),B7 c a b h.2]
theorem BL(c:Nat):∀(a:List Nat),c∉a->bZ c a=(a,[],false)
 |[],_=>rfl
 |x::a,h=>by
  simp only[fb,not_or]at h;rw[bZ,if_neg (fun e=>h.1 e.symm),BL c a h.2]
theorem po(c:Nat):∀(s:List Nat),((bZ c s).2.2=true/\s=(bZ c s).1++c::(bZ c s).2.1)\/((bZ c s).2.2=false/\(bZ c s).1=s/\(bZ c s).2.1=[])
 |[]=>by simp[bZ]
 |x::s=>by
  rw[bZ]
  by_cases h:x=c
  ·subst h;simp
  ·rw[if_neg h];rcases po c s with⟨a,b⟩|⟨a,b,d⟩
   ·left;exact⟨a,by dsimp only;rw[fd,<-b]⟩
   ·right;exact⟨a,by dsimp only;rw[b],d⟩
def bS(s:List Nat):Bool:=decide (s.head?=some 45)
def cR(s:List Nat):List Nat:=if bS s=true then s.tail else s
def bC(s:List Nat):List Nat:=(bZ 47 (cR s)).1
def bN(s:List Nat):List Nat:=(bZ 47 (cR s)).2.1
def dW(s:List Nat):Bool:=(bZ 47 (cR s)).2.2
def jH(s:List Nat):Bool:=dy (bC s)&&!(bS s&&decide (bC s=[48]))&&(!dW s||(dy (bN s)&&decide (bN s≠[48])&&decide (bN s≠[49])))
def bU(s:List Nat):Int:=
 if jH s=false then 1
 else if 600<(bC s).length\/600<(bN s).length then 4
 else if dW s=true/\hn (aU (bC s)) (aU (bN s))≠1 then 1 else 0
def aZ(s:List Nat):Rat:=hL (if bS s=true then -(aU (bC s):Int)else aU (bC s)) (if dW s=true then aU (bN s)else 1:Nat)
theorem Aj{s:List Nat}(h:s.all cd=true){c:Nat}(hc:cd c=false):c∉s:=by
 intro a;rw[fm]at h;rw[h c a]at hc;cases hc
theorem je{s:List Nat}(h:dy s=true):s.all cd=true:=by
 simp only[dy,av]at h;exact h.1.2
theorem uS(n:Nat):bI (n:Int)=aV n:=by
 rw[bI,if_neg (by omega)];rfl
theorem aGF{n:Nat}(h:0<n):bI (-(n:Int))=45::aV n:=by
 rw[bI,if_pos (by omega)];congr 1;rw[en];rfl
theorem yi{s:List Nat}(h:dy s=true)(a:s≠[48]):0<aU s:=by
 rcases g0 (aU s)with e|e
 ·have:=vI h;rw[e,mC]at this;exact(a this.symm).elim
 ·exact e
theorem jr{s:List Nat}(h:bU s=0):aX (aZ s)=s/\(aZ s).num=(if bS s=true then -(aU (bC s):Int)else aU (bC s))/\(aZ s).den=(if dW s=true then aU (bN s)else 1:Nat):=by
 unfold bU at h
 split at h
 ·cases h
 rename_i b
 split at h
 ·cases h
 split at h
 ·cases h
 rename_i g;have b:jH s=true:=by simpa using b
 simp only[jH,av,ay,a1,decide_eq_false_iff_not,ax,decide_eq_true_eq]at b;obtain⟨⟨d,a2⟩,a3⟩:=b;have hs:s=(if bS s=true then[45]else[])++cR s:=by
  rw[cR]
  by_cases a:bS s=true
  ·rw[if_pos a,if_pos a];simp only[bS,decide_eq_true_eq]at a;cases s with
   |nil=>simp at a
   |cons c r=>simp at a;subst a;rfl
  ·rw[if_neg a,if_neg a];rfl
 have i:(if dW s=true then aU (bN s)else 1:Nat)≠0:=by
  split
  ·rename_i hf;rcases a3 with a3|a3
   ·rw[hf]at a3;cases a3
   ·have:=yi a3.1.1 a3.1.2;omega
  ·omega
 have j:hn (if bS s=true then -(aU (bC s):Int)else aU (bC s)).natAbs (if dW s=true then aU (bN s)else 1:Nat)=1:=by
  have e:(if bS s=true then -(aU (bC s):Int)else aU (bC s)).natAbs=aU (bC s):=by split<;>omega
  rw[e]
  by_cases hf:dW s=true
  ·rw[if_pos hf];exact Decidable.not_not.1 fun e=>g ⟨hf,e⟩
  ·rw[if_neg hf,hB]
 obtain⟨e1,e2⟩:=lL (n:=if bS s=true then -(aU (bC s):Int)else aU (bC s)) i;rw[j]at e1 e2;simp only[Nat.div_one]at e2;have e1:(aZ s).num=(if bS s=true then -(aU (bC s):Int)else aU (bC s)):=by rw[aZ,e1];exact ew _
 have e2:(aZ s).den=(if dW s=true then aU (bN s)else 1:Nat):=e2;refine⟨?_,e1,e2⟩;have hI:bI (aZ s).num=(if bS s=true then[45]else[])++bC s:=by
  rw[e1]
  by_cases a:bS s=true
  ·rw[if_pos a,if_pos a,aGF,vI d];·rfl
   refine yi d ?_;rcases a2 with a2|a2
   ·rw[a]at a2;cases a2
   ·exact a2
  ·rw[if_neg a,if_neg a,uS,vI d];rfl
 rw[aX,hI,e2]
 by_cases hf:dW s=true
 ·have f:dy (bN s)=true/\bN s≠[48]/\bN s≠[49]:=by
   rcases a3 with a3|a3
   ·rw[hf]at a3;cases a3
   ·exact⟨a3.1.1,a3.1.2,a3.2⟩
  have k:aU (bN s)≠1:=by
   intro e;have:=vI f.1;rw[e]at this;have b:nd 1=1:=by rw[nd,dif_neg (by omega),nd,dif_pos (by omega)]
   have:aV 1=[49]:=by rw[aV,b];rfl
   exact f.2.2 (by rw[<-this];assumption|>Eq.symm)
  rw[if_pos hf,if_neg k,vI f.1]
  conv=>rhs;rw[hs]
  rw[List.append_assoc];congr 1;rcases po 47 (cR s)with⟨g1,g2⟩|⟨g1,_⟩
  ·exact g2.symm
  ·rw[dW,g1]at hf;cases hf
 ·rw[if_neg hf,if_pos rfl]
  conv=>rhs;rw[hs]
  congr 1;rcases po 47 (cR s)with⟨g1,g2⟩|⟨g1,g2,_⟩
  ·exact(hf g1).elim
  ·exact g2
theorem xV(z:Int)(r:List Nat):bS (bI z++r)=decide (z<0)/\cR (bI z++r)=aV z.natAbs++r:=by
 by_cases h:z<0
 ·have:bI z=45::aV z.natAbs:=by rw[bI,if_pos h]
  rw[this];simp[bS,cR,h]
 ·have e:bI z=aV z.natAbs:=by rw[bI,if_neg h]
  have a:=nX z.natAbs;have b:=qK z.natAbs;rw[e];have d:bS (aV z.natAbs++r)=false:=by
   cases f:aV z.natAbs with
   |nil=>rw[f]at b;simp at b;omega
   |cons c t=>
    rw[f]at a;simp only[e8,av]at a;have hc:=a.1;simp only[cd,av,decide_eq_true_eq]at hc;have:¬(some c=some 45):=by intro e;injection e with e;omega
    simp only[bS,fd,fv,this,decide_false]
  exact⟨by rw[d];simp[h],by rw[cR,d];simp⟩
theorem sZ(q:Rat):bS (aX q)=decide (q.num<0)/\bC (aX q)=aV q.num.natAbs/\dW (aX q)=decide (q.den≠1)/\bN (aX q)=if q.den=1 then[]else aV q.den:=by
 have d:47∉aV q.num.natAbs:=Aj (nX _) rfl
 by_cases h:q.den=1
 ·have e:aX q=bI q.num++[]:=by rw[aX,if_pos h,e7]
  obtain⟨c,b⟩:=xV q.num [];rw[e7,e7]at b;have a:=BL 47 _ d;rw[<-b]at a;rw[e];refine⟨c,?_,?_,?_⟩
  ·rw[e7,bC,a,b]
  ·rw[e7,dW,a,h];rfl
  ·rw[e7,bN,a,if_pos h]
 ·have e:aX q=bI q.num++47::aV q.den:=by rw[aX,if_neg h]
  obtain⟨c,b⟩:=xV q.num (47::aV q.den);have a:=B7 47 _ (aV q.den) d;rw[<-b]at a;rw[e];refine⟨c,?_,?_,?_⟩
  ·rw[bC,a]
  ·rw[dW,a];simp[h]
  ·rw[bN,a,if_neg h]
theorem CP(q:Rat):aZ (aX q)=q:=by
 obtain⟨a,b,c,d⟩:=sZ q;have e1:(if bS (aX q)=true then -(aU (bC (aX q)):Int)else aU (bC (aX q)))=q.num:=by
  rw[a,b,pG]
  by_cases h:q.num<0
  ·simp[h];omega
  ·simp[h];omega
 have e2:(if dW (aX q)=true then aU (bN (aX q))else 1:Nat)=q.den:=by
  rw[c,d]
  by_cases h:q.den=1
  ·simp[h]
  ·simp[h,pG]
 rw[aZ,e1,e2,Rat.num_divInt_den]
theorem Ao{a b:Rat}(h:aX a=aX b):a=b:=by rw[<-CP a,h,CP]
theorem E9:aV 1=[49]:=by
 have a:nd 1=1:=by rw[nd,dif_neg (by omega),nd,dif_pos (by omega)]
 rw[aV,a];rfl
theorem YM{q:Rat}(g:(aV q.num.natAbs).length<=600)(i:(aV q.den).length<=600):bU (aX q)=0:=by
 obtain⟨g1,g2,g3,g4⟩:=sZ q;have hf:jH (aX q)=true:=by
  simp only[jH,g1,g2,g3,g4,Fa,a8,av,ax,ay,a1,decide_eq_false_iff_not,decide_eq_true_eq];refine⟨?_,?_⟩
  ·by_cases h:q.num<0
   ·right;intro e;have:=Ap (b:=0) (e.trans mC.symm);omega
   ·exact .inl h
  ·by_cases h:q.den=1
   ·left;simp[h]
   ·right;rw[if_neg h];have f:=q.den_nz;refine⟨⟨Fa _,fun e=>?_⟩,fun e=>?_⟩
    ·exact f (Ap (e.trans mC.symm))
    ·exact h (Ap (e.trans E9.symm))
 rw[bU,hf,if_neg (by simp),g2,g3,g4];rw[if_neg (by
  intro h;rcases h with h|h
  ·omega
  ·split at h
   ·simp at h
   ·omega)]
 rw[if_neg];rintro⟨c,a⟩;have d:¬q.den=1:=by simpa using c
 rw[if_neg d,pG,pG]at a;exact a q.reduced
theorem uR{n k:Nat}(h:n<10^k)(hk:1<=k):(aV n).length<=k:=by
 rw[qK];have:=rA h;omega
theorem Cy(z:Int):(bI z).length<=(aV z.natAbs).length+1:=by
 rw[bI];split<;>simp
theorem E8(q:Rat):(aX q).length<=(aV q.num.natAbs).length+(aV q.den).length+2:=by
 have:=Cy q.num;rw[aX];split<;>simp<;>omega
theorem Ro(q:Rat):∀c∈aX q,c<58:=by
 have a:∀n,∀c∈aV n,c<58:=fun n c hc=>by
  have:=fm.1 (nX n) c hc;simp only[cd,av,decide_eq_true_eq]at this;omega
 have hI:∀z,∀c∈bI z,c<58:=fun z c hc=>by
  rw[bI]at hc
  split at hc
  ·rcases fb.1 hc with rfl|hc
   ·omega
   ·exact a _ c hc
  ·exact a _ c hc
 intro c hc;rw[aX]at hc
 split at hc
 ·exact hI _ c hc
 ·rcases List.mem_append.1 hc with hc|hc
  ·exact hI _ c hc
  ·rcases fb.1 hc with rfl|hc
   ·omega
   ·exact a _ c hc
theorem T8(k:Nat):2^(3*k)<=10^k:=by
 rw[hl];exact Nat.pow_le_pow_left (by omega) k
theorem I2{n k:Nat}(h:n<2^(3*k))(hk:1<=k):(aV n).length<=k:=uR (gt h (T8 k)) hk
theorem rI{n k K:Nat}(h:n<2^K)(a:K<=3*k)(hk:1<=k):(aV n).length<=k:=I2 (gt h (gm (by decide) a)) hk
def mD:Nat:=600
theorem FT{s:List Nat}(h:bU s=0):(aZ s).num.natAbs<10^mD/\(aZ s).den<10^mD:=by
 obtain⟨k,f,g⟩:=jr h;unfold bU at h
 split at h
 ·cases h
 rename_i a
 split at h
 ·cases h
 rename_i l;have a:jH s=true:=by simpa using a
 simp only[jH,av,ax,decide_eq_true_eq]at a;obtain⟨⟨b,_⟩,a3⟩:=a;have c:=jl _ _ rfl (je b);have i:10^(bC s).length<=10^mD:=gm (by omega) (by rw[mD];omega);refine⟨?_,?_⟩
 ·rw[f];have e:(if bS s=true then -(aU (bC s):Int)else aU (bC s)).natAbs=aU (bC s):=by split<;>omega
  rw[e];exact gt c i
 ·rw[g]
  by_cases hf:dW s=true
  ·rw[if_pos hf];rcases a3 with a3|a3
   ·rw[hf]at a3;cases a3
   ·have d:=jl _ _ rfl (je a3.1.1);have j:10^(bN s).length<=10^mD:=gm (by omega) (by rw[mD];omega);exact gt d j
  ·rw[if_neg hf];exact Nat.one_lt_pow (by decide) (by omega)
open Go
def cT(l:List UInt8):List Nat:=l.map (·.toNat)
theorem Ue(l:List UInt8):(cT l).map hQ=l:=by
 induction l with
 |nil=>rfl
 |cons a r b=>simp only[cT,gc]at b⊢;rw[b];simp
def mX(c:Nat):List Nat->Nat->Int
 |[],_=>-1
 |x::r,i=>bif hr x c then(i:Int)else mX c r (i+1)
theorem Lv(c:UInt8):∀(l:List UInt8)(i:Nat),mX c.toNat (cT l) i=if bo l c= -1 then -1 else bo l c+i
 |[],i=>by simp[mX,cT,bo]
 |x::r,i=>by
  have b:=Lv c r (i+1);simp only[cT]at b;simp only[cT,gc,mX,bo]
  by_cases hx:x=c
  ·subst hx;simp
  ·have e:hr x.toNat c.toNat=false:=by
    cases d:hr x.toNat c.toNat
    ·rfl
    ·exact(hx (hP.1 (hv d))).elim
   have f:=Lib.indexByte_ge r c;simp only[e,cond_false,b,beq_iff_eq,hx,if_false]
   by_cases a:bo r c= -1
   ·simp[a]
   ·rw[if_neg a,if_neg a];rw[if_neg (by omega)];omega
theorem Lw(c:Nat):∀(s:List Nat)(k:Nat),((bZ c s).2.2=false/\mX c s k= -1/\bZ c s=(s,[],false))\/
 ∃i,i<s.length/\mX c s k=((k+i:Nat):Int)/\bZ c s=(s.take i,s.drop (i+1),true)
 |[],k=>by simp[bZ,mX]
 |x::r,k=>by
  rw[bZ,mX]
  by_cases h:x=c
  ·subst h;right;refine⟨0,by simp,?_,?_⟩
   ·simp
   ·simp
  ·have d:hr x c=false:=by
    cases d:hr x c
    ·rfl
    ·exact(h (hv d)).elim
   rw[d,if_neg h,cond_false];rcases Lw c r (k+1)with⟨e,a,b⟩|⟨i,e,a,b⟩
   ·left;exact⟨e,a,by rw[b]⟩
   ·right;refine⟨i+1,by simp;omega,?_,?_⟩
    ·rw[a];congr 1;omega
    ·rw[b];simp
theorem Dm(n:Nat):cT (bk n)=aV n:=by
 induction n using Nat.strongRecOn with
 |ind n a=>
  rw[bk]
  by_cases h:n<10
  ·rw[dif_pos h,aV];have c:nd n<=1:=rA (by omega);rw[show max 1 (nd n)=1 by omega];rw[show(1:Nat)=0+1 from rfl,sP,low,List.nil_append,g6 h];simp[cT,hR];omega
  ·rw[dif_neg h];have b:=a (n/10) (by omega);have e:nd n=nd (n/10)+1:=by
    have:=Dg (n:=n) (k:=1) (by omega);rw[hh]at this;exact this
   have d:0<nd (n/10):=vX (by omega);rw[aV,e,show max 1 (nd (n/10)+1)=max 1 (nd (n/10))+1 by omega,sP];have:cT (bk (n/10)++[hQ (48+n% 10)])=cT (bk (n/10))++[48+n% 10]:=by
    simp[cT,hR];omega
   rw[this,b,aV]
theorem aBF(z:Int):cT (cc z)=bI z:=by
 rw[cc,bI]
 by_cases h:z<0
 ·rw[if_pos h,if_pos h];show 45::cT _=_;rw[Dm]
 ·rw[if_neg h,if_neg h,Dm];congr 1;omega
def rU(s:List Nat):Nat->List Nat
 |0=>[]
 |n+1=>s++rU s n
theorem KF(s:List UInt8):∀n,rU (cT s) n=cT (b5 s n)
 |0=>by simp[rU,b5,cT]
 |n+1=>by
  have a:=KF s n;simp only[cT]at a;simp[rU,b5,cT,a]
theorem BW(c:Nat):∀n,rU [c] n=gb n c
 |0=>rfl
 |n+1=>by rw[rU,BW c n];rfl
theorem Bu(l:List UInt8):b2 l [45]=bS (cT l):=by
 cases l with
 |nil=>rfl
 |cons c r=>
  rw[b2,bS];simp only[cT,gc,List.isPrefixOf,fv,aT,Option.some.injEq]
  by_cases h:c=45
  ·subst h;rfl
  ·have a:¬c.toNat=45:=fun e=>h (hP.1 e);have b:((45:UInt8)==c)=false:=by simpa using fun e=>h e.symm
   rw[b];simp[a]
theorem Im(l:List UInt8):cT (b1 l [45])=cR (cT l):=by
 rw[b1,Bu,cR];cases h:bS (cT l)
 ·simp
 ·cases l with
  |nil=>simp[cT,bS]at h
  |cons c r=>simp[cT]
def lr(s:List Nat):List Nat:=s.dropWhile cd
def iS(s:List Nat):List Nat:=(s.reverse.dropWhile cd).reverse
theorem xp{p:Nat->Bool}:∀{s:List Nat},s.dropWhile p=[]↔s.all p=true
 |[]=>by simp
 |x::r=>by
  rw[List.dropWhile_cons];cases h:p x
  ·simp[h]
  ·simp[h,xp]
theorem UK(s:List Nat):lr (iS s)=[]↔s.all cd=true:=by
 rw[lr,xp,iS];constructor
 ·intro h
  by_cases a:s.reverse.dropWhile cd=[]
  ·rw[xp,fl]at a;exact a
  ·have b:=List.head_dropWhile_not cd a;rw[fl,fm]at h;rw[h _ (List.head_mem a)]at b;cases b
 ·intro h;have:s.reverse.dropWhile cd=[]:=by rw[xp,fl];exact h
  rw[this];rfl
end Go.aj
namespace Go.Proofs
open Go.Shelf
def Tryz.T3:dl:=⟨fun|103=>270|210=>315|206=>318|n=>n,fun|9=>9|4=>4|24=>324|3=>3|n=>n,fun|n=>n⟩
theorem Tryz.aBY:db prog T3:={
 mixed:=by kernel_rfl
 f103:=func270.trans (congrArg some (by kernel_rfl))
 f206:=func318.trans (congrArg some (by kernel_rfl))
 f210:=func315.trans (congrArg some (by kernel_rfl))
 t3:=underlying3
 a3:=isAgg3
 z3:=sizeOf3
 v3:=zeroValue3
 t4:=underlying4
 a4:=isAgg4
 z4:=sizeOf4
 v4:=zeroValue4
 t9:=underlying9
 a9:=isAgg9
 z9:=sizeOf9
 v9:=zeroValue9
 t24:=underlying324
 a24:=isAgg324
 z24:=sizeOf324
 v24:=zeroValue324}
open Go.RowKit in
theorem Tryz.strings_CutPrefix(s p:ByteArray)(w:bb):
 be prog 270 #[.string s,.string p] w fun e w'=>e=.returned (.tuple #[.string ⟨(b1 s.data.toList p.data.toList).toArray⟩,.bool (b2 s.data.toList p.data.toList)])/\w'=w:=Any.strings_CutPrefix aBY s p w
def Tryz.TW:dl:=⟨fun|283=>323|n=>n,fun|3=>3|9=>9|4=>4|n=>n,fun|n=>n⟩
theorem Tryz.aCq:cy prog TW:={
 mixed:=by kernel_rfl
 f283:=func323.trans (congrArg some (by kernel_rfl))
 t3:=underlying3
 a3:=isAgg3
 z3:=sizeOf3
 v3:=zeroValue3
 t4:=underlying4
 a4:=isAgg4
 z4:=sizeOf4
 v4:=zeroValue4
 t9:=underlying9
 a9:=isAgg9
 z9:=sizeOf9
 v9:=zeroValue9}
open Go.Lib in
theorem Tryz.internal_strconv_small(i:Nat)(h:i<100)(w:bb):
 be prog 323 #[.int .i64 i] w fun e w'=>e=.returned (.string ⟨(bk i).toArray⟩)/\w'=w:=Any.internal_strconv_small aCq i h w
def Tryz.Ti:dl:=⟨fun|284=>324|129=>305|317=>362|318=>363|n=>n,fun|53=>308|3=>3|212=>396|0=>0|4=>4|46=>322|5=>5|9=>9|n=>n,fun|17=>1|n=>n⟩
theorem Tryz.WX:Go.Proofs.LaysM.n284 prog Ti:={
 mixed:=by kernel_rfl
 f129:=func305.trans (congrArg some (by kernel_rfl))
 f284:=func324.trans (congrArg some (by kernel_rfl))
 f317:=func362.trans (congrArg some (by kernel_rfl))
 f318:=func363.trans (congrArg some (by kernel_rfl))
 t0:=underlying0
 a0:=isAgg0
 z0:=sizeOf0
 v0:=zeroValue0
 t3:=underlying3
 a3:=isAgg3
 z3:=sizeOf3
 v3:=zeroValue3
 t4:=underlying4
 a4:=isAgg4
 z4:=sizeOf4
 v4:=zeroValue4
 t5:=underlying5
 a5:=isAgg5
 z5:=sizeOf5
 v5:=zeroValue5
 t9:=underlying9
 a9:=isAgg9
 z9:=sizeOf9
 v9:=zeroValue9
 t46:=underlying322
 a46:=isAgg322
 z46:=sizeOf322
 v46:=zeroValue322
 t53:=underlying308
 a53:=isAgg308
 z53:=sizeOf308
 v53:=zeroValue308
 t212:=underlying396
 a212:=isAgg396
 z212:=sizeOf396
 v212:=zeroValue396
 g17:=by kernel_rfl
 i0:=by kernel_rfl
 i3:=by kernel_rfl
 i4:=by kernel_rfl
 i5:=by kernel_rfl
 i9:=by kernel_rfl
 i46:=by kernel_rfl
 i53:=by kernel_rfl
 i212:=by kernel_rfl
 m17:=by kernel_rfl}
open Go.Lib in
theorem Tryz.internal_strconv_numDigits(u:Nat)(h1:1<=u)(h2:u<18446744073709551616)(w:bb)(htab:b4 prog w "internal/strconv.uint64pow10" .u64 b3):
 be prog 324 #[.int .u64 u] w fun e w'=>e=.returned (.int .i64 (bl u))/\w'=w:=Any.internal_strconv_numDigits WX u h1 h2 w htab
def Tryz.TV:dl:=⟨fun|285=>325|n=>n,fun|37=>225|53=>308|3=>3|4=>4|51=>354|9=>9|5=>5|0=>0|n=>n,fun|n=>n⟩
theorem Tryz.aCr:cx prog TV:={
 mixed:=by kernel_rfl
 f285:=func325.trans (congrArg some (by kernel_rfl))
 t0:=underlying0
 a0:=isAgg0
 z0:=sizeOf0
 v0:=zeroValue0
 t3:=underlying3
 a3:=isAgg3
 z3:=sizeOf3
 v3:=zeroValue3
 t4:=underlying4
 a4:=isAgg4
 z4:=sizeOf4
 v4:=zeroValue4
 t5:=underlying5
 a5:=isAgg5
 z5:=sizeOf5
 v5:=zeroValue5
 t9:=underlying9
 a9:=isAgg9
 z9:=sizeOf9
 v9:=zeroValue9
 t37:=underlying225
 a37:=isAgg225
 z37:=sizeOf225
 v37:=zeroValue225
 t51:=underlying354
 a51:=isAgg354
 z51:=sizeOf354
 v51:=zeroValue354
 t53:=underlying308
 a53:=isAgg308
 z53:=sizeOf308
 v53:=zeroValue308}
open Go.RowKit Go.Sort Go.Lib in
theorem Tryz.internal_strconv_formatBase10(al off cap:Nat)(u:Nat)(d:Array UInt8)(w:bb)(hH:Holds (fun(b:UInt8)=>dq .u8 (b.toNat:Int)) w al off d)(hu:u<10^d.size)(hu64:u<18446744073709551616)(hsz:d.size<4611686018427387904):
 be prog 325 #[.slice (some ⟨al,off,none⟩) d.size cap,.int .u64 u] w fun e w'=>
  e=.returned (.tuple #[])/\∃(n v':Nat)(dk:Array UInt8),w'=(putRow (fun(b:UInt8)=>dq .u8 (b.toNat:Int)) w al off dk).drewN n/\FmtInv d.size u 0 v' dk:=Any.internal_strconv_formatBase10 aCr al off cap u d w hH hu hu64 hsz
def Tryz.S4:dl:=⟨fun|171=>152|243=>228|246=>281|283=>323|284=>324|285=>325|286=>326|129=>305|317=>362|318=>363|319=>364|320=>365|337=>380|338=>381|n=>n,fun|3=>3|9=>9|2=>2|4=>4|171=>362|0=>0|53=>308|37=>225|5=>5|173=>364|212=>396|51=>354|20=>20|213=>397|46=>322|232=>420|233=>421|n=>n,fun|17=>1|18=>6|19=>7|n=>n⟩
theorem Tryz.WY:Go.Proofs.LaysM.n171 prog S4:={
 mixed:=by kernel_rfl
 f129:=func305.trans (congrArg some (by kernel_rfl))
 f171:=func152.trans (congrArg some (by kernel_rfl))
 f243:=func228.trans (congrArg some (by kernel_rfl))
 f246:=func281.trans (congrArg some (by kernel_rfl))
 f283:=func323.trans (congrArg some (by kernel_rfl))
 f284:=func324.trans (congrArg some (by kernel_rfl))
 f285:=func325.trans (congrArg some (by kernel_rfl))
 f286:=func326.trans (congrArg some (by kernel_rfl))
 f317:=func362.trans (congrArg some (by kernel_rfl))
 f318:=func363.trans (congrArg some (by kernel_rfl))
 f319:=func364.trans (congrArg some (by kernel_rfl))
 f320:=func365.trans (congrArg some (by kernel_rfl))
 f337:=func380.trans (congrArg some (by kernel_rfl))
 f338:=func381.trans (congrArg some (by kernel_rfl))
 t0:=underlying0
 a0:=isAgg0
 z0:=sizeOf0
 v0:=zeroValue0
 t2:=underlying2
 a2:=isAgg2
 z2:=sizeOf2
 v2:=zeroValue2
 t3:=underlying3
 a3:=isAgg3
 z3:=sizeOf3
 v3:=zeroValue3
 t4:=underlying4
 a4:=isAgg4
 z4:=sizeOf4
 v4:=zeroValue4
 t5:=underlying5
 a5:=isAgg5
 z5:=sizeOf5
 v5:=zeroValue5
 t9:=underlying9
 a9:=isAgg9
 z9:=sizeOf9
 v9:=zeroValue9
 t20:=underlying20
 a20:=isAgg20
 z20:=sizeOf20
 v20:=zeroValue20
 t37:=underlying225
 a37:=isAgg225
 z37:=sizeOf225
 v37:=zeroValue225
 t46:=underlying322
 a46:=isAgg322
 z46:=sizeOf322
 v46:=zeroValue322
 t51:=underlying354
 a51:=isAgg354
 z51:=sizeOf354
 v51:=zeroValue354
 t53:=underlying308
 a53:=isAgg308
 z53:=sizeOf308
 v53:=zeroValue308
 t171:=underlying362
 a171:=isAgg362
 z171:=sizeOf362
 v171:=zeroValue362
 t173:=underlying364
 a173:=isAgg364
 z173:=sizeOf364
 v173:=zeroValue364
 t212:=underlying396
 a212:=isAgg396
 z212:=sizeOf396
 v212:=zeroValue396
 t213:=underlying397
 a213:=isAgg397
 z213:=sizeOf397
 t232:=underlying420
 a232:=isAgg420
 z232:=sizeOf420
 v232:=zeroValue420
 t233:=underlying421
 a233:=isAgg421
 z233:=sizeOf421
 v233:=zeroValue421
 g17:=by kernel_rfl
 g18:=by kernel_rfl
 g19:=by kernel_rfl
 i0:=by kernel_rfl
 i2:=by kernel_rfl
 i3:=by kernel_rfl
 i4:=by kernel_rfl
 i5:=by kernel_rfl
 i9:=by kernel_rfl
 i20:=by kernel_rfl
 i37:=by kernel_rfl
 i46:=by kernel_rfl
 i51:=by kernel_rfl
 i53:=by kernel_rfl
 i171:=by kernel_rfl
 i173:=by kernel_rfl
 i212:=by kernel_rfl
 i232:=by kernel_rfl
 i233:=by kernel_rfl
 m17:=by kernel_rfl
 m18:=by kernel_rfl
 m19:=by kernel_rfl}
open Go.RowKit Go.Sort Go.Lib in
theorem Tryz.strconv_Itoa(n:Int)(h0: -9223372036854775808<=n)(h1:n<=9223372036854775807)(w:bb)(htab:b4 prog w "internal/strconv.uint64pow10" .u64 b3):
 be prog 152 #[.int .i64 n] w fun e w'=>e=.returned (.string ⟨(cc n).toArray⟩)/\∃k os,w'=grow (w.drewN k) os:=Any.strconv_Itoa WY n h0 h1 w htab
def Tryz.S5:dl:=⟨fun|172=>277|244=>320|245=>321|247=>356|279=>357|280=>358|281=>359|282=>360|287=>377|316=>378|171=>152|205=>379|321=>385|322=>386|243=>228|246=>281|283=>323|284=>324|285=>325|286=>326|129=>305|317=>362|318=>363|319=>364|320=>365|337=>380|338=>381|n=>n,fun|9=>9|3=>3|75=>229|76=>230|4=>4|5=>5|167=>388|37=>225|0=>0|85=>389|2=>2|168=>391|53=>308|175=>409|46=>322|210=>413|127=>330|145=>419|143=>417|21=>21|171=>362|173=>364|212=>396|51=>354|20=>20|213=>397|232=>420|233=>421|80=>288|n=>n,fun|15=>4|16=>5|17=>1|18=>6|19=>7|n=>n⟩
theorem Tryz.WZ:Go.Proofs.LaysC.n172 prog S5:={
 mixed:=by kernel_rfl
 f129:=func305.trans (congrArg some (by kernel_rfl))
 f171:=func152.trans (congrArg some (by kernel_rfl))
 f172:=func277.trans (congrArg some (by kernel_rfl))
 f205:=func379.trans (congrArg some (by kernel_rfl))
 f243:=func228.trans (congrArg some (by kernel_rfl))
 f244:=func320.trans (congrArg some (by kernel_rfl))
 f245:=func321.trans (congrArg some (by kernel_rfl))
 f246:=func281.trans (congrArg some (by kernel_rfl))
 f247:=func356.trans (congrArg some (by kernel_rfl))
 f279:=func357.trans (congrArg some (by kernel_rfl))
 f280:=func358.trans (congrArg some (by kernel_rfl))
 f281:=func359.trans (congrArg some (by kernel_rfl))
 f282:=func360.trans (congrArg some (by kernel_rfl))
 f283:=func323.trans (congrArg some (by kernel_rfl))
 f284:=func324.trans (congrArg some (by kernel_rfl))
 f285:=func325.trans (congrArg some (by kernel_rfl))
 f286:=func326.trans (congrArg some (by kernel_rfl))
 f287:=func377.trans (congrArg some (by kernel_rfl))
 f316:=func378.trans (congrArg some (by kernel_rfl))
 f317:=func362.trans (congrArg some (by kernel_rfl))
 f318:=func363.trans (congrArg some (by kernel_rfl))
 f319:=func364.trans (congrArg some (by kernel_rfl))
 f320:=func365.trans (congrArg some (by kernel_rfl))
 f321:=func385.trans (congrArg some (by kernel_rfl))
 f322:=func386.trans (congrArg some (by kernel_rfl))
 f337:=func380.trans (congrArg some (by kernel_rfl))
 f338:=func381.trans (congrArg some (by kernel_rfl))
 t0:=underlying0
 a0:=isAgg0
 z0:=sizeOf0
 v0:=zeroValue0
 t2:=underlying2
 a2:=isAgg2
 z2:=sizeOf2
 v2:=zeroValue2
 t3:=underlying3
 a3:=isAgg3
 z3:=sizeOf3
 v3:=zeroValue3
 t4:=underlying4
 a4:=isAgg4
 z4:=sizeOf4
 v4:=zeroValue4
 t5:=underlying5
 a5:=isAgg5
 z5:=sizeOf5
 v5:=zeroValue5
 t9:=underlying9
 a9:=isAgg9
 z9:=sizeOf9
 v9:=zeroValue9
 t20:=underlying20
 a20:=isAgg20
 z20:=sizeOf20
 v20:=zeroValue20
 t21:=underlying21
 a21:=isAgg21
 z21:=sizeOf21
 v21:=zeroValue21
 t37:=underlying225
 a37:=isAgg225
 z37:=sizeOf225
 v37:=zeroValue225
 t46:=underlying322
 a46:=isAgg322
 z46:=sizeOf322
 v46:=zeroValue322
 t51:=underlying354
 a51:=isAgg354
 z51:=sizeOf354
 v51:=zeroValue354
 t53:=underlying308
 a53:=isAgg308
 z53:=sizeOf308
 v53:=zeroValue308
 t75:=underlying229
 a75:=isAgg229
 z75:=sizeOf229
 v75:=zeroValue229
 t76:=underlying230
 a76:=isAgg230
 z76:=sizeOf230
 v76:=zeroValue230
 t85:=underlying389
 a85:=isAgg389
 z85:=sizeOf389
 v85:=zeroValue389
 t127:=underlying330
 a127:=isAgg330
 z127:=sizeOf330
 v127:=zeroValue330
 t143:=underlying417
 a143:=isAgg417
 z143:=sizeOf417
 v143:=zeroValue417
 t145:=underlying419
 a145:=isAgg419
 z145:=sizeOf419
 v145:=zeroValue419
 t167:=underlying388
 a167:=isAgg388
 z167:=sizeOf388
 v167:=zeroValue388
 t168:=underlying391
 a168:=isAgg391
 z168:=sizeOf391
 v168:=zeroValue391
 t171:=underlying362
 a171:=isAgg362
 z171:=sizeOf362
 v171:=zeroValue362
 t173:=underlying364
 a173:=isAgg364
 z173:=sizeOf364
 v173:=zeroValue364
 t175:=underlying409
 a175:=isAgg409
 z175:=sizeOf409
 v175:=zeroValue409
 t210:=underlying413
 a210:=isAgg413
 z210:=sizeOf413
 v210:=zeroValue413
 t212:=underlying396
 a212:=isAgg396
 z212:=sizeOf396
 v212:=zeroValue396
 t213:=underlying397
 a213:=isAgg397
 z213:=sizeOf397
 t232:=underlying420
 a232:=isAgg420
 z232:=sizeOf420
 v232:=zeroValue420
 t233:=underlying421
 a233:=isAgg421
 z233:=sizeOf421
 v233:=zeroValue421
 g15:=by kernel_rfl
 g16:=by kernel_rfl
 g17:=by kernel_rfl
 g18:=by kernel_rfl
 g19:=by kernel_rfl
 t80:=underlying288
 a80:=isAgg288
 z80:=sizeOf288
 v80:=zeroValue288
 i0:=by kernel_rfl
 i2:=by kernel_rfl
 i3:=by kernel_rfl
 i4:=by kernel_rfl
 i5:=by kernel_rfl
 i9:=by kernel_rfl
 i20:=by kernel_rfl
 i21:=by kernel_rfl
 i37:=by kernel_rfl
 i46:=by kernel_rfl
 i51:=by kernel_rfl
 i53:=by kernel_rfl
 i75:=by kernel_rfl
 i76:=by kernel_rfl
 i80:=by kernel_rfl
 i85:=by kernel_rfl
 i127:=by kernel_rfl
 i143:=by kernel_rfl
 i145:=by kernel_rfl
 i167:=by kernel_rfl
 i168:=by kernel_rfl
 i171:=by kernel_rfl
 i173:=by kernel_rfl
 i175:=by kernel_rfl
 i210:=by kernel_rfl
 i212:=by kernel_rfl
 i232:=by kernel_rfl
 i233:=by kernel_rfl
 m15:=by kernel_rfl
 m16:=by kernel_rfl
 m17:=by kernel_rfl
 m18:=by kernel_rfl
 m19:=by kernel_rfl
 c0:=by kernel_rfl
 c2:=by kernel_rfl
 c3:=by kernel_rfl
 c4:=by kernel_rfl
 c5:=by kernel_rfl
 c9:=by kernel_rfl
 c20:=by kernel_rfl
 c21:=by kernel_rfl
 c37:=by kernel_rfl
 c46:=by kernel_rfl
 c51:=by kernel_rfl
 c53:=by kernel_rfl
 c75:=by kernel_rfl
 c76:=by kernel_rfl
 c80:=by kernel_rfl
 c85:=by kernel_rfl
 c127:=by kernel_rfl
 c143:=by kernel_rfl
 c145:=by kernel_rfl
 c167:=by kernel_rfl
 c168:=by kernel_rfl
 c171:=by kernel_rfl
 c173:=by kernel_rfl
 c175:=by kernel_rfl
 c210:=by kernel_rfl
 c212:=by kernel_rfl
 c213:=by kernel_rfl
 c232:=by kernel_rfl
 c233:=by kernel_rfl}
open Go.RowKit in
theorem Tryz.strconv_Atoi_ok(s:ByteArray)(hmax:s.size<=9223372036854775806)(v:Int)(h:ce s.data.toList= .ok v)(w:bb):
 be prog 277 #[.string s] w fun e w'=>e=.returned (.tuple #[.int .i64 v,.nilIface])/\(w'=w\/∃t,w'=Lib.bytesWorld w 5 t):=Any.strconv_Atoi_ok WZ s hmax v h w
def Tryz.TY:dl:=⟨fun|219=>317|217=>352|225=>353|224=>354|267=>355|266=>375|314=>376|n=>n,fun|9=>9|3=>3|4=>4|5=>5|46=>322|146=>400|51=>354|n=>n,fun|1=>0|n=>n⟩
theorem Tryz.aCn:c6 prog TY:={
 mixed:=by kernel_rfl
 f217:=func352.trans (congrArg some (by kernel_rfl))
 f219:=func317.trans (congrArg some (by kernel_rfl))
 f224:=func354.trans (congrArg some (by kernel_rfl))
 f225:=func353.trans (congrArg some (by kernel_rfl))
 f266:=func375.trans (congrArg some (by kernel_rfl))
 f267:=func355.trans (congrArg some (by kernel_rfl))
 f314:=func376.trans (congrArg some (by kernel_rfl))
 t3:=underlying3
 a3:=isAgg3
 z3:=sizeOf3
 v3:=zeroValue3
 t4:=underlying4
 a4:=isAgg4
 z4:=sizeOf4
 v4:=zeroValue4
 t5:=underlying5
 a5:=isAgg5
 z5:=sizeOf5
 v5:=zeroValue5
 t9:=underlying9
 a9:=isAgg9
 z9:=sizeOf9
 v9:=zeroValue9
 t46:=underlying322
 a46:=isAgg322
 z46:=sizeOf322
 v46:=zeroValue322
 t51:=underlying354
 a51:=isAgg354
 z51:=sizeOf354
 v51:=zeroValue354
 t146:=underlying400
 a146:=isAgg400
 z146:=sizeOf400
 v146:=zeroValue400
 g1:=by kernel_rfl}
open Go.RowKit Go.Lib in
theorem Tryz.stringslite_Index_one(s:ByteArray)(c:UInt8)(w:bb):
 be prog 317 #[.string s,.string ⟨#[c]⟩] w fun e w'=>e=.returned (.int .i64 (bo s.data.toList c))/\w'=w:=Any.stringslite_Index_one aCn s c w
def Tryz.UD:dl:=⟨fun|99=>275|206=>318|n=>n,fun|9=>9|4=>4|3=>3|n=>n,fun|n=>n⟩
theorem Tryz.aCs:cv prog UD:={
 mixed:=by kernel_rfl
 f99:=func275.trans (congrArg some (by kernel_rfl))
 f206:=func318.trans (congrArg some (by kernel_rfl))
 t3:=underlying3
 a3:=isAgg3
 z3:=sizeOf3
 v3:=zeroValue3
 t4:=underlying4
 a4:=isAgg4
 z4:=sizeOf4
 v4:=zeroValue4
 t9:=underlying9
 a9:=isAgg9
 z9:=sizeOf9
 v9:=zeroValue9}
open Go.RowKit Go.Lib in
theorem Tryz.strings_HasPrefix(s p:ByteArray)(w:bb):
 be prog 275 #[.string s,.string p] w fun e w'=>e=.returned (.bool (b2 s.data.toList p.data.toList))/\w'=w:=Any.strings_HasPrefix aCs s p w
def Tryz.T4:dl:=⟨fun|101=>276|208=>319|206=>318|n=>n,fun|9=>9|4=>4|3=>3|n=>n,fun|n=>n⟩
theorem Tryz.aBX:dg prog T4:={
 mixed:=by kernel_rfl
 f101:=func276.trans (congrArg some (by kernel_rfl))
 f206:=func318.trans (congrArg some (by kernel_rfl))
 f208:=func319.trans (congrArg some (by kernel_rfl))
 t3:=underlying3
 a3:=isAgg3
 z3:=sizeOf3
 v3:=zeroValue3
 t4:=underlying4
 a4:=isAgg4
 z4:=sizeOf4
 v4:=zeroValue4
 t9:=underlying9
 a9:=isAgg9
 z9:=sizeOf9
 v9:=zeroValue9}
open Go.RowKit Go.Lib in
theorem Tryz.strings_TrimPrefix(s p:ByteArray)(w:bb):
 be prog 276 #[.string s,.string p] w fun e w'=>e=.returned (.string ⟨(b1 s.data.toList p.data.toList).toArray⟩)/\w'=w:=Any.strings_TrimPrefix aBX s p w
def Tryz.H6:dl:=⟨fun|105=>289|212=>335|99=>275|165=>280|166=>150|170=>229|169=>230|263=>369|264=>255|206=>318|240=>226|241=>322|276=>279|277=>361|n=>n,fun|9=>9|3=>3|4=>4|20=>20|0=>0|46=>322|109=>369|5=>5|72=>227|76=>230|51=>354|146=>400|53=>308|148=>309|70=>224|37=>225|75=>229|127=>330|164=>326|80=>288|n=>n,fun|n=>n⟩
theorem Tryz.aB7:da prog H6:={
 mixed:=by kernel_rfl
 f99:=func275.trans (congrArg some (by kernel_rfl))
 f105:=func289.trans (congrArg some (by kernel_rfl))
 f165:=func280.trans (congrArg some (by kernel_rfl))
 f166:=func150.trans (congrArg some (by kernel_rfl))
 f169:=func230.trans (congrArg some (by kernel_rfl))
 f170:=func229.trans (congrArg some (by kernel_rfl))
 f206:=func318.trans (congrArg some (by kernel_rfl))
 f212:=func335.trans (congrArg some (by kernel_rfl))
 f240:=func226.trans (congrArg some (by kernel_rfl))
 f241:=func322.trans (congrArg some (by kernel_rfl))
 f263:=func369.trans (congrArg some (by kernel_rfl))
 f264:=func255.trans (congrArg some (by kernel_rfl))
 f276:=func279.trans (congrArg some (by kernel_rfl))
 f277:=func361.trans (congrArg some (by kernel_rfl))
 t0:=underlying0
 a0:=isAgg0
 z0:=sizeOf0
 v0:=zeroValue0
 t3:=underlying3
 a3:=isAgg3
 z3:=sizeOf3
 v3:=zeroValue3
 t4:=underlying4
 a4:=isAgg4
 z4:=sizeOf4
 v4:=zeroValue4
 t5:=underlying5
 a5:=isAgg5
 z5:=sizeOf5
 v5:=zeroValue5
 t9:=underlying9
 a9:=isAgg9
 z9:=sizeOf9
 v9:=zeroValue9
 t20:=underlying20
 a20:=isAgg20
 z20:=sizeOf20
 v20:=zeroValue20
 t37:=underlying225
 a37:=isAgg225
 z37:=sizeOf225
 v37:=zeroValue225
 t46:=underlying322
 a46:=isAgg322
 z46:=sizeOf322
 v46:=zeroValue322
 t51:=underlying354
 a51:=isAgg354
 z51:=sizeOf354
 v51:=zeroValue354
 t53:=underlying308
 a53:=isAgg308
 z53:=sizeOf308
 v53:=zeroValue308
 t70:=underlying224
 a70:=isAgg224
 z70:=sizeOf224
 v70:=zeroValue224
 t72:=underlying227
 a72:=isAgg227
 z72:=sizeOf227
 v72:=zeroValue227
 t75:=underlying229
 a75:=isAgg229
 z75:=sizeOf229
 v75:=zeroValue229
 t76:=underlying230
 a76:=isAgg230
 z76:=sizeOf230
 v76:=zeroValue230
 t109:=underlying369
 a109:=isAgg369
 z109:=sizeOf369
 v109:=zeroValue369
 t127:=underlying330
 a127:=isAgg330
 z127:=sizeOf330
 v127:=zeroValue330
 t146:=underlying400
 a146:=isAgg400
 z146:=sizeOf400
 v146:=zeroValue400
 t148:=underlying309
 a148:=isAgg309
 z148:=sizeOf309
 v148:=zeroValue309
 t164:=underlying326
 a164:=isAgg326
 z164:=sizeOf326
 v164:=zeroValue326}
theorem Tryz.SA:Builder.Extra prog H6:={
 sizeBuilder:=by kernel_rfl
 liesBuilder:=by kernel_rfl
 t5:=underlying5
 a5:=isAgg5
 z5:=sizeOf5
 v5:=zeroValue5
 infoByte:=by kernel_rfl
 cellsByte:=by kernel_rfl
 sizeByte:=by kernel_rfl
 neB5:=by decide}
open Go.RowKit Go.Lib in
theorem Tryz.strings_Repeat(s:ByteArray)(c:Nat)(w:bb)(hc:c<=9223372036854775807)(hlen:s.size*c<=140737488355328):
 be prog 289 #[.string s,.int .i64 c] w fun e w'=>e=.returned (.string ⟨(b5 s.data.toList c).toArray⟩)/\Below w.heap.size w w':=Any.strings_Repeat aB7 SA s c w hc hlen
end Go.Proofs
namespace Go.Proofs
open Go.Shelf Go.RowKit Go.Sort Go.Lib
set_option maxHeartbeats 6400000 in
set_option maxRecDepth 100000 in
theorem Tryz.Sy(u:Nat)(hu64:u<18446744073709551616)(w:bb)
 (htab:b4 prog w "internal/strconv.uint64pow10" .u64 b3):
 be prog 334 #[.int .u64 u,.int .i64 10] w fun e w'=>e=.returned (.string ⟨(bk u).toArray⟩)/\∃k os,w'=grow (w.drewN k) os:=by
 have e323:∀args w,(callFunc 323 args).run prog w=.ok (.enter 323 args) w:=enters_of func323 (by kernel_rfl) rfl;have e324:∀args w,(callFunc 324 args).run prog w=.ok (.enter 324 args) w:=enters_of func324 (by kernel_rfl) rfl;have e325:∀args w,(callFunc 325 args).run prog w=.ok (.enter 325 args) w:=enters_of func325 (by kernel_rfl) rfl
 by_cases hs:u<100
 ·go_enter func334,ntmps334
  go_wp2_with (go_at_fn 323;refine(internal_strconv_small u hs _).mono ?_;rintro e w' ⟨rfl,rfl⟩)
  go_ret
  exact⟨rfl,0,#[],by simp[World.drewN_zero]⟩
 ·have hu1:1<=u:=by omega
  have hnd20:bl u<=20:=by have:=Lib.numDigits_eq u hu1 hu64;split at this<;>omega
  have hb3:bl u<=24:=by omega
  have hal:prog.arrayLen 362=24:=by kernel_rfl
  have hsl1:∀W,(Instr.sliceAt 362 (.pointer (some ⟨w.heap.size,0,none⟩)) none (some (.int .i64 (bl u:Int))) none).run prog W=.ok (.slice (some ⟨w.heap.size,0,none⟩) (bl u) 24) W:=fun W=>by
   rw[run_sliceAt_array_h W 362 ⟨w.heap.size,0,none⟩ (by kernel_rfl) .i64 (bl u:Int) (by omega) (by rw[hal];omega)]
   go_simp
  have hH0:=Lib.holds_zero0 w 362 (bl u) hb3;have hfmt:=internal_strconv_formatBase10 w.heap.size 0 24 u (Array.replicate (bl u) 0) (w.alloc (.cells b0 362)) hH0 (by rw[ao];exact Lib.lt_pow_nDigits u) hu64 (by rw[ao];omega);rw[ao]at hfmt;have HH0:=Lib.hid hH0;clear hH0 hal
  go_enter func334,ntmps334
  go_wp2_with (first
   |(go_at_fn 324;refine(internal_strconv_numDigits u hu1 hu64 _ (Lib.tabIs_alloc htab _)).mono ?_;rintro e w' ⟨rfl,rfl⟩))
  go_at_fn 325
  refine hfmt.mono ?_;rintro e w' ⟨rfl,k,v',dk,rfl,hF⟩;have hcv:(convert 225 9 (.slice (some ⟨w.heap.size,0,none⟩) (bl u) 24)).run prog ((putRow (fun(b:UInt8)=>dq .u8 (b.toNat:Int)) (w.alloc (.cells b0 362)) w.heap.size 0 dk).drewN k)=.ok (.string ⟨(bk u).toArray⟩) ((putRow (fun(b:UInt8)=>dq .u8 (b.toNat:Int)) (w.alloc (.cells b0 362)) w.heap.size 0 dk).drewN k):=by
   have h:=run_convert_bytes_back (P:=prog) ((putRow (fun(b:UInt8)=>dq .u8 (b.toNat:Int)) (w.alloc (.cells b0 362)) w.heap.size 0 dk).drewN k) 225 9 5 ⟨w.heap.size,0,none⟩ 24 (bk u) (by kernel_rfl) (by kernel_rfl) (by kernel_rfl) (fun j hj=>by
    rw[Lib.row_is_numeral hF j hj,Lib.add_plain,World.cell?_drewN];exact cell?_putRow (fun(b:UInt8)=>dq .u8 (b.toNat:Int)) _ w.heap.size 0 _ dk HH0.out (by rw[hF.size,ao]) j (by rw[hF.size];rw[cb]at hj;exact hj))
   rw[cb]at h;exact h
  go_wp2
  go_ret
  obtain⟨os,eo⟩:=Lib.fin_at w (.cells b0 362) dk k 0;exact⟨rfl,k,os,eo⟩
end Go.Proofs
namespace Go.aj
open Go.Proofs
theorem tv{P:Program}{w:bb}{ad:Nat->Prop}(l:List UInt8):aA P w ad (.str (cT l)) (.string ⟨l.toArray⟩):=by
 simp only[aA];exact⟨_,rfl,by simp[cT]⟩
theorem mL{P:Program}{w:bb}{ad:Nat->Prop}{s:List Nat}{v:Value}(h:aA P w ad (.str s) v):∃bs:ByteArray,v=.string bs/\s=cT bs.data.toList:=by
 simp only[aA]at h;obtain⟨bs,rfl,rfl⟩:=h;exact⟨bs,rfl,rfl⟩
theorem one_byte{w:bb}{ad:Nat->Prop}{c:Nat}{v:Value}(h:aA prog w ad (.str [c]) v):∃b:UInt8,v=.string ⟨#[b]⟩/\c=b.toNat:=by
 obtain⟨bs,rfl,f⟩:=mL h;clear h;have h:=f;clear f
 match e:bs.data.toList with
 |[]=>rw[e]at h;simp[cT]at h
 |[b]=>
  rw[e]at h;simp[cT]at h;refine⟨b,?_,h⟩;congr 1;cases bs with
  |mk d=>simp at e⊢;exact Array.ext' (by simpa using e)
 |a::b::r=>rw[e]at h;simp[cT]at h
theorem Dp{w:bb}{ad:Nat->Prop}{v:Value}(h:aA prog w ad (.str [45]) v):v=.string ⟨#[45]⟩:=by
 obtain⟨b,rfl,a⟩:=one_byte h;have:b=45:=hP.1 a.symm;rw[this]
theorem G7(s:List Nat)(c:Nat):aw prog 317 [.str s,.str [c]] (.int .i64 (mX c s 0)):=by
 refine jD (iN func317 (by kernel_rfl)) fun w ad g _ _ f=>?_;obtain⟨x,y,rfl,a,d⟩:=mA f;obtain⟨b,rfl,rfl⟩:=one_byte d;obtain⟨bs,rfl,rfl⟩:=mL a;refine(stringslite_Index_one bs b w).mono ?_;rintro e w' ⟨rfl,rfl⟩;refine⟨_,rfl,⟨gx _,fun _ _=>rfl,rfl,rfl⟩,fun w ad=>?_⟩;have e1:=Lv b bs.data.toList 0;simp only[aA]at e1⊢;rw[e1]
 by_cases h:bo bs.data.toList b= -1<;>simp[h]
theorem Yh(s:List Nat)(c:Nat)(h:s.length<=1048576):aw prog 274 [.str s,.str [c]] (.aE [.str (bZ c s).1,.str (bZ c s).2.1,.bool (bZ c s).2.2]):=by
 refine aI nf GR mix (by simp[f274]) ?_;simp[f274];refine c2 (G7 s c) ?_;rcases Lw c s 0 with⟨_,a,b⟩|⟨i,d,a,b⟩
 ·simp[a,b]
 ·rw[hE]at a;have w:=bX (i:=i) (by omega);have e1:((i:Int)+1).toNat=i+1:=by omega
  simp[a,b,w,e1];omega
theorem OR(s:List Nat)(c:Nat)(h:s.length<=1048576):aw prog 223 [.str s,.str [c]] (.aE [.str (bZ c s).1,.str (bZ c s).2.1,.bool (bZ c s).2.2]):=by
 refine aI nf Hm mix (by simp[f223]) ?_;simp[f223];refine c2 (Yh s c h) ?_;simp
theorem XW(s:List Nat):aw prog 275 [.str s,.str [45]] (.bool (bS s)):=by
 refine jD (iN func275 (by kernel_rfl)) fun w ad d _ _ c=>?_;obtain⟨x,y,rfl,a,b⟩:=mA c;obtain rfl:=Dp b;obtain⟨bs,rfl,rfl⟩:=mL a;refine(strings_HasPrefix bs _ w).mono ?_;rintro e w' ⟨rfl,rfl⟩;exact⟨_,rfl,⟨gx _,fun _ _=>rfl,rfl,rfl⟩,fun w ad=>by rw[<-Bu];simp only[aA]⟩
theorem JY(s:List Nat):aw prog 276 [.str s,.str [45]] (.str (cR s)):=by
 refine jD (iN func276 (by kernel_rfl)) fun w ad d _ _ c=>?_;obtain⟨x,y,rfl,a,b⟩:=mA c;obtain rfl:=Dp b;obtain⟨bs,rfl,rfl⟩:=mL a;refine(strings_TrimPrefix bs _ w).mono ?_;rintro e w' ⟨rfl,rfl⟩;exact⟨_,rfl,⟨gx _,fun _ _=>rfl,rfl,rfl⟩,fun w ad=>by rw[<-Im];exact tv _⟩
theorem Xx(s:List Nat):aw prog 270 [.str s,.str [45]] (.aE [.str (cR s),.bool (bS s)]):=by
 refine jD (iN func270 (by kernel_rfl)) fun w ad d _ _ c=>?_;obtain⟨x,y,rfl,a,b⟩:=mA c;obtain rfl:=Dp b;obtain⟨bs,rfl,rfl⟩:=mL a;refine(strings_CutPrefix bs _ w).mono ?_;rintro e w' ⟨rfl,rfl⟩;refine⟨_,rfl,⟨gx _,fun _ _=>rfl,rfl,rfl⟩,fun w ad=>?_⟩;rw[<-Im,<-Bu];simp only[aA,bn];refine⟨[_,_],⟨_,_,rfl,?_,_,_,rfl,rfl,rfl⟩,rfl⟩;exact⟨_,rfl,by simp[cT]⟩
theorem M7{w:bb}{ad:Nat->Prop}(b:mI prog w ad):b4 prog w "internal/strconv.uint64pow10" .u64 b3:=by
 obtain⟨_,T,a⟩:=b.raw 1 _ rfl;have c:prog.globalNamed "internal/strconv.uint64pow10" =some 1:=by kernel_rfl
 simp only[b4,World.var?,c,Option.bind_some,a];rfl
theorem G6(n:Int)(b:-9223372036854775808<=n)(c:n<=9223372036854775807):aw prog 152 [.int .i64 n] (.str (bI n)):=by
 refine jD (iN func152 (by kernel_rfl)) fun w ad g _ f d=>?_;obtain⟨x,rfl,a⟩:=yp d;simp only[aA]at a;subst a;refine(strconv_Itoa n b c w (M7 f)).mono ?_;rintro e w' ⟨rfl,k,os,rfl⟩;refine⟨_,rfl,⟨?_,fun k hk=>?_,rfl,rfl⟩,fun w ad=>?_⟩
 ·simp[dp,World.drewN]
 ·simp only[dp];exact ap hk
 ·rw[<-aBF];exact tv _
theorem Yj(u:Nat)(f:u<18446744073709551616):aw prog 334 [.int .u64 u,.int .i64 10] (.str (aV u)):=by
 refine jD (iN func334 (by kernel_rfl)) fun w ad g _ d c=>?_;obtain⟨x,y,rfl,a,b⟩:=mA c;simp only[aA]at a b;subst a b;refine(Sy u f w (M7 d)).mono ?_;rintro e w' ⟨rfl,k,os,rfl⟩;refine⟨_,rfl,⟨?_,fun k hk=>?_,rfl,rfl⟩,fun w ad=>?_⟩
 ·simp[dp,World.drewN]
 ·simp only[dp];exact ap hk
 ·rw[<-Dm];exact tv _
theorem OS(u:Nat)(a:u<18446744073709551616):aw prog 288 [.int .u64 u,.int .i64 10] (.str (aV u)):=by
 refine aI nf GO mix (by simp[f288]) ?_;simp[f288];refine c2 (Yj u a) ?_;simp
theorem OT(s:List Nat)(c:Nat)(hc:c<=9223372036854775807)(g:s.length*c<=140737488355328):aw prog 289 [.str s,.int .i64 c] (.str (rU s c)):=by
 refine jD (iN func289 (by kernel_rfl)) fun w ad h _ i f=>?_;obtain⟨x,y,rfl,d,b⟩:=mA f;obtain⟨bs,rfl,rfl⟩:=mL d;simp only[aA]at b;subst b;refine(strings_Repeat bs c w hc (by simpa[cT]using g)).mono ?_;rintro e w' ⟨rfl,a⟩;exact⟨_,rfl,⟨a.size,a.block,a.os,a.output⟩,fun w ad=>by
  rw[KF];exact tv _⟩
theorem G8(s:List Nat)(v:Int)(h:ce (s.map hQ)=.ok v)(d:s.length<=9223372036854775806):aw prog 277 [.str s] (.aE [.int .i64 v,.fS]):=by
 refine jD (iN func277 (by kernel_rfl)) fun w ad g _ i c=>?_;obtain⟨x,rfl,b⟩:=yp c;obtain⟨bs,rfl,rfl⟩:=mL b;rw[Ue]at h;refine(strconv_Atoi_ok bs (by simpa[cT]using d) v h w).mono ?_;rintro e w' ⟨rfl,f⟩;refine⟨_,rfl,?_,fun w ad=>by simp[aA,bn]⟩;rcases f with rfl|⟨t,rfl⟩
 ·exact⟨gx _,fun _ _=>rfl,rfl,rfl⟩
 ·have a:=Lib.bytesWorld_below w 5 t;exact⟨a.size,a.block,a.os,a.output⟩
def tB:Nat:=1000000000000000000
theorem C5:tB=10^18:=by decide
theorem Ll:∀i,low i 0=gb i 48
 |0=>rfl
 |i+1=>by rw[sP,Nat.zero_div,Ll i,List.replicate_succ']
theorem QG{r:Nat}(h:r<tB):gb (18-(aV r).length) 48++aV r=low 18 r:=by
 rw[qK,aV];have c:nd r<=18:=rA (by rw[<-C5];exact h);obtain⟨k,hk⟩:∃k,k=max 1 (nd r):=⟨_,rfl⟩
 have d:k<=18:=by omega
 have b:r<10^k:=gt (Cg r) (gm (by decide) (by omega));rw[<-hk];have:=qN (18-k) r (a:=k);have e:low 18 r=low (18-k) (r/10^k)++low k r:=by
  have:=qN k r (18-k);rw[show 18-k+k=18 by omega]at this;exact this
 rw[e,hC b,Ll]
theorem CK{r:Nat}(h:r<tB):(aV r).length<=18:=by
 rw[qK];have a:nd r<=18:=rA (by rw[<-C5];exact h);omega
theorem Wj{m:Nat}(h:tB<=m):aV m=aV (m/tB)++low 18 (m% tB):=by
 rw[C5]at h⊢;have e:=Dg (n:=m) (k:=18) h;have a:0<nd (m/10^18):=vX (hm h (gA (by decide)));rw[aV,aV,show max 1 (nd m)=max 1 (nd (m/10^18))+18 by omega,qN,CB m 18 18 (gx _)]
def jy(m:Nat)(a:List (List Nat)):List Nat:=(if m=0 then[]else aV m)++a.reverse.flatten
def ez(m:Nat):List Nat:=if m/tB=0 then aV m else low 18 (m% tB)
theorem Ku{m:Nat}(h:m≠0)(c:List (List Nat)):jy (m/tB) (c++[ez m])=jy m c:=by
 rw[jy,jy,if_neg h,ez,List.reverse_append]
 by_cases a:m/tB=0
 ·rw[if_pos a,if_pos a];simp
 ·rw[if_neg a,if_neg a];have:tB<=m:=by
   rcases ha m tB with b|b
   ·exact(a (hC b)).elim
   ·exact b
  rw[Wj this];simp
theorem Wm(a:List (List Nat)):jy 0 a=a.reverse.flatten:=by rw[jy,if_pos rfl];rfl
theorem yy(n:Nat):0<(aV n).length:=by rw[qK];omega
theorem Jx(m:Nat):ez m≠[]:=by
 intro h;have:(ez m).length=0:=by rw[h];rfl
 rw[ez]at this
 split at this
 ·have:=yy m;omega
 ·rw[qM]at this;omega
theorem Jy(m:Nat):(ez m).length<=18:=by
 rw[ez]
 split
 ·rename_i h;have b:m<tB:=by
   rcases ha m tB with a|a
   ·exact a
   ·have:=hm a (show 0<tB by decide);omega
  exact CK b
 ·rw[qM];exact gx _
theorem Lt{c:Nat}(h:cd c=true):c<256:=by
 simp only[cd,av,decide_eq_true_eq]at h;omega
end Go.aj
namespace Go.Proofs
open Go.aj
theorem Tryz.AM:prog.underlying 224=some (.pointer 227):=by kernel_rfl
theorem Tryz.GU:prog.underlying 326=some .unsafePointer:=by kernel_rfl
theorem Tryz.Gv:(prog.info? 227).map (·.size)=some 2:=by kernel_rfl
theorem Tryz.aCu:liesAt prog prog.depth 227 (2/prog.cellsOf 227) 0 227 1=true:=by kernel_rfl
set_option maxHeartbeats 1000000 in
set_option maxRecDepth 100000 in
theorem Tryz.SG(b:Nat)(w:bb)(h0:w.cell? ⟨b,0,none⟩=some (.pointer (some ⟨b,0,none⟩))):
 be prog 226 #[.pointer (some ⟨b,0,none⟩)] w fun e w'=>e=.returned (.tuple #[])/\w'=w:=by
 obtain⟨j,hj,_⟩:=Option.map_eq_some_iff.1 Gv
 go_enter func226,ntmps226
 go_wp2
 rw[Lib.run_neq_ptr_same w _ AM hj]
 go_wp2
 go_end0
 exact⟨rfl,rfl⟩
set_option maxHeartbeats 1000000 in
set_option maxRecDepth 100000 in
theorem Tryz.SH(b:Nat)(w:bb)(h0:w.cell? ⟨b,0,none⟩=some (.pointer none))(hsh:w.shape? b=some (227,2))(hfz:w.frozen? ⟨b,0,none⟩=false):
 be prog 226 #[.pointer (some ⟨b,0,none⟩)] w fun e w'=>e=.returned (.tuple #[])/\w'=w.setCell ⟨b,0,none⟩ (.pointer (some ⟨b,0,none⟩)):=by
 obtain⟨j,hj,hjs⟩:=Option.map_eq_some_iff.1 Gv
 go_enter func226,ntmps226
 go_wp2
 rw[Lib.run_to_unsafe w ⟨b,0,none⟩ AM GU hj (by rw[hjs];decide) hsh (Nat.zero_lt_succ 1)];simp only[Result.andThen];rw[ck]
 go_wp2
 rw[run_callFunc_extern func279 (by kernel_rfl) (by kernel_rfl) (by kernel_rfl) (e:=Extern.AbiNoEscape.same) (by kernel_rfl)];rw[Lib.run_noEscape];simp only[Result.andThen];rw[ck]
 go_wp2
 rw[Lib.run_from_unsafe w ⟨b,0,none⟩ GU AM hj hsh aCu];simp only[Result.andThen];rw[ck]
 go_wp2
 go_end0
 exact⟨rfl,rfl⟩
end Go.Proofs
