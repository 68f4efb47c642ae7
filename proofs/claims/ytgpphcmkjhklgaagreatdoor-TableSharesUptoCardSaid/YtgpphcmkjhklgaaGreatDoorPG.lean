import Derived.Test.YtgpphcmkjhklgaaGreatDoorPF
import Derived.Lib.ItoaNum
import Derived.Lib.Strings
import Derived.Lib.Repeat
import Derived.Lib.Bytealg
import Derived.Test.YtgpphcmkjhklgaaGreatDoorThA
import Derived.Test.YtgpphcmkjhklgaaGreatDoorPE
import Derived.Shelf.Strings.Builder1
import Derived.Shelf.Strings.Builder2
import Derived.Shelf.Strings.Trim
import Derived.Shelf.Small.Utf8
import Derived.Shelf.Small.Bits
import Derived.Shelf.Small.Strs
import Derived.Shelf.Small.Wraps
import Derived.Shelf.Strings.BuilderF
import Derived.Shelf.Strings.Builder2Cap
import Derived.Shelf.Strconv.Atoi
import Derived.Shelf.Strconv.Itoa0
import Derived.Shelf.Strconv.Itoa1
import Derived.Shelf.LaysM
import Derived.Shelf.Strconv.Itoa2
import Derived.Shelf.Strconv.Itoa3
import Derived.Shelf.Strconv.AtoiErrFast
import Derived.Shelf.Strconv.ParseIntEmpty
import Derived.Shelf.Strconv.AtoiFail
import Derived.Shelf.Strconv.Clone
import Derived.Shelf.Strconv.SyntaxError
import Derived.Shelf.LaysC
import Derived.Shelf.Strconv.ToError
import Derived.Shelf.Strconv.Lower
import Derived.Shelf.Strconv.ParseUint10
import Derived.Shelf.Strconv.ParseUint10Empty
import Derived.Shelf.Strconv.ParseUint10Any
import Derived.Shelf.Strconv.ParseInt10
import Derived.Shelf.Strconv.AtoiLong
import Derived.Shelf.Strconv.AtoiInnerAll
import Derived.Shelf.Strconv.RangeError
import Derived.Shelf.Strconv.ToErrorRange
import Derived.Shelf.Strconv.AtoiAll
import Derived.Shelf.Strconv.ParseUintEmpty
import Derived.Shelf.Strings.Search1
import Derived.Shelf.Strings.Search2
import Derived.Shelf.Strings.Search3
import Derived.Shelf.Strings.Cut
import Derived.Shelf.Strings.Count
import Derived.Shelf.Strings.Shaped
import Derived.Shelf.Strings.Prefix
import Derived.Shelf.Unicode.Decode
import Derived.Shelf.Strings.Runes
import Derived.Shelf.Strings.AsciiSet
import Derived.Shelf.Bits.Mul64
import Derived.Shelf.Strings.Repeat
import Derived.Shelf.Unicode.DecodeSlow
import Derived.Shelf.Unicode.DecodeAny
import Derived.Shelf.Unicode.DecodeLast
import Derived.Shelf.Slices.Turned
import Derived.Test.YtgpphcmkjhklgaaGreatDoorProg
import Derived.Lib.Walk
import Derived.Lib.ItoaMem
import Derived.WalkKit
import Derived.BigCall
import Derived.BigGuard
import Derived.Lib.AppendIntMem
import Derived.Lib.Builder
import Derived.Laws.Externs
import Derived.Shelf.RegionOpenPlain
/- Parts of a proof. -/
set_option linter.unusedSimpArgs false
set_option linter.unusedVariables false
set_option linter.unusedSectionVars false
open Go.Proofs.Tryz
open Array renaming size_replicate->ao, getElem?_append_left->ap
open Bool renaming and_eq_true->av, or_eq_true->ax, not_eq_true'->ay, and_true->aT, and_eq_false_iff->a1, false_and->a6, and_false->a7, true_and->a8
open Go renaming World->bb, Calls->be
open Go.IntKind renaming i64->bi
open Go.Lib renaming decDigits->bk, nDigits->bl, indexByte->bo, bitLen->bv, zeros24->b0, trimPrefix->b1, hasPrefix->b2, pow10Tab->b3, TabIs->b4, repeatL->b5, decDigits_length->cb, itoa->cc, atoiAll->ce
open Go.Oper renaming upon_value->ck
open Go.Proofs.Lays renaming n99->cv, n285->cx, n283->cy, n219->c6, n105->da, n103->db, n101->dg
open Go.Shelf renaming Ren->dl
open Go.Sort renaming grow->dp
open Go.Value renaming int->dq
open Int renaming ediv_emod_unique->dz, natAbs_mul->ea, emod_lt_of_pos->eb, emod_nonneg->ec, ediv_lt_of_lt_mul->ed, tmod_lt_of_pos->ee, natAbs_natCast->ei, lt_tmod_of_pos->ej, mul_ne_zero->em, natAbs_neg->en, mul_le_mul->eq, ediv_one->ew, mul_sub->ey, mul_neg->e6
open List renaming append_nil->e7, all_cons->e8, length_eq_zero_iff->e9, mem_cons->fb, cons_append->fd, all_reverse->fl, all_eq_true->fm, head?_cons->fv, dropLast_concat_getLast->fJ, replicate->gb, map_cons->gc, length_cons->ge, foldl_cons->gg, all_append->gi, all_nil->gj
open Nat renaming pow_le_pow_right->gm, lt_of_lt_of_le->gt, le_refl->gx, lt_of_le_of_lt->gy, pow_pos->g0, eq_zero_or_pos->g5, pow_succ->g6, mod_eq_of_lt->g7, mul_comm->g8, add_sub_cancel->g9, pow_add->ha, lt_or_ge->hb, le_trans->hd, div_lt_iff_lt_mul->hg, pow_zero->hh, pow_one->hl, pow_mul->hm, div_pos->hn, gcd->ho, le_of_eq->hp, le_mul_of_pos_left->hr, beq->ht, le_div_iff_mul_le->hv, eq_of_beq_eq_true->hy, mul_le_mul_right->hz, mul_le_mul_left->hA, mod_lt->hB, gcd_one_right->hC, div_eq_of_lt->hD, mul_assoc->hE, zero_add->hG, gcd_comm->hK, pow_two->hL
open Rat renaming divInt->hM, num_eq_zero->hN, not_lt->hO, lt_iff->hP
open UInt8 renaming toNat_inj->hQ, ofNat->hR, toNat_ofNat'->hS
namespace Go.al
open Go.Proofs
set_option maxHeartbeats 4000000
set_option maxRecDepth 100000
theorem mg{a b:NI}(h:a.v=b.v)(d:a.v= -9223372036854775808->a.m=b.m):eI a=eI b:=by
 by_cases c:a.v= -9223372036854775808
 ·have:=d c;cases a;cases b;dsimp only at h this;subst h this;rfl
 ·have e:a.sm=b.sm:=by
   simp only[NI.sm,h];rw[h]at c;simp[c]
  rw[iF,iF,e,h]
theorem VU{a b:Int}(c:0<b):(a.tdiv b=a/b/\a.tmod b=a% b/\¬a.tmod b<0)\/(a.tdiv b-1=a/b/\a.tmod b+b=a% b/\a.tmod b<0/\a/b<0):=by
 have f:=Int.tmod_add_mul_tdiv a b;have g:=ej a c;have i:=ee a c
 by_cases h:a.tmod b<0
 ·right;have e:=(dz (a:=a) (r:=a.tmod b+b) (q:=a.tdiv b-1) c).2 ⟨by rw[ey];omega,by omega,by omega⟩;have j:a<0:=by
   rcases Int.lt_or_le a 0 with d|d
   ·exact d
   ·have:=Int.tmod_nonneg b d;omega
  have d:a/b<0:=ed c (by omega);omega
 ·left;have e:=(dz (a:=a) (r:=a.tmod b) (q:=a.tdiv b) c).2 ⟨by omega,by omega,by omega⟩;omega
theorem XG{a b:Int}(c:0<b):((if a<0 then -((a.natAbs% b.natAbs:Nat):Int)else(a.natAbs% b.natAbs:Nat))<0/\a/b=(if a<0 then -((a.natAbs/b.natAbs:Nat):Int)else(a.natAbs/b.natAbs:Nat))-1/\a% b=(if a<0 then -((a.natAbs% b.natAbs:Nat):Int)else(a.natAbs% b.natAbs:Nat))+b)\/
 (¬(if a<0 then -((a.natAbs% b.natAbs:Nat):Int)else(a.natAbs% b.natAbs:Nat))<0/\a/b=(if a<0 then -((a.natAbs/b.natAbs:Nat):Int)else(a.natAbs/b.natAbs:Nat))/\a% b=(if a<0 then -((a.natAbs% b.natAbs:Nat):Int)else(a.natAbs% b.natAbs:Nat))):=by
 have e:((b.natAbs:Nat):Int)=b:=by omega
 have f:=Nat.mod_add_div a.natAbs b.natAbs;have g:=hB a.natAbs (show 0<b.natAbs by omega);have i:((a.natAbs% b.natAbs:Nat):Int)+b*(a.natAbs/b.natAbs:Nat)=(a.natAbs:Nat):=by
  rw[<-e,<-Int.natCast_mul,<-Int.natCast_add,e,f]
 generalize a.natAbs% b.natAbs=r at*;generalize a.natAbs/b.natAbs=q at*
 by_cases h:a<0
 ·simp only[if_pos h]
  by_cases j:r=0
  ·right;have d:=(dz (a:=a) (r:=0) (q:=-(q:Int)) c).2 ⟨by rw[e6];omega,by omega,by omega⟩;omega
  ·left;have d:=(dz (a:=a) (r:=-(r:Int)+b) (q:=-(q:Int)-1) c).2 ⟨by rw[ey,e6];omega,by omega,by omega⟩;omega
 ·simp only[if_neg h];right;have d:=(dz (a:=a) (r:=(r:Int)) (q:=(q:Int)) c).2 ⟨by omega,by omega,by omega⟩;omega
theorem Ji(a b:NI)(i:0<b.v)(M:okW a.v)(z:okW b.v):az prog 289 [eI a,eI b] (.aE [eI (a.div b),eI (a.mod b)]):=by
 have V:=mS (eI a) a.v (lB a);have hq:=mS (eI b) b.v (lB b);have af:=mQ M;have ag:=mQ z;have O:=Bh a.v.natAbs b.v.natAbs (by omega) (by omega) (by omega);refine aM nf Fk mix (by simp[f289]) ?_;simp[f289,-bh];rw[bh];simp[-bh];refine join (fun s=>aK s.env 2=.ptr 0 []/\aK s.env 3=.ptr 1 []/\aK s.env 4=.ptr 2 []/\aK s.env 5=.ptr 3 []/\s.heap=[.box false (.p (eI a)),.box false (.p (eI b)),.box false (.p (.st 130 [.int .i64 0,.aR])),.box false (.p (.st 130 [.int .i64 0,.aR]))]) ?_ ?_
 ·rcases hs:a.sm with _|_
  ·obtain⟨c,cs,l⟩:=ni hs;simp[ad,l,df,cG]
  ·have l:=ln hs;rcases n:b.sm with _|_
   ·obtain⟨c,cs,m⟩:=ni n;simp[ad,l,m,df,cG]
   ·have m:=ln n;have u:=mc hs;have w:=mc n;have al:=NI.ow hs;have am:=NI.ow n
    by_cases t:a.v= -9223372036854775808
    ·simp[ad,l,m,u,w,t,df,cG]
    ·have r:¬b.v=0:=by omega
     have E:-9223372036854775808<a.v/b.v:=by
      have:=Int.le_ediv_of_mul_le (a:=-9223372036854775807) (b:=a.v) i (by omega);omega
     have F:a.v/b.v<9223372036854775808:=ed i (by omega);have G:=eb a.v i;have H:=ec a.v r;have J:eI (a.div b)=eO (a.v/b.v):=by rw[iF,if_pos (NI.yA E F)];rfl
     have f2:eI (a.mod b)=eO (a.v% b.v):=nq (by omega) (by omega);rw[J,f2];have aj:=ej a.v i;have ai:=ee a.v i;rcases VU (a:=a.v) i with⟨d1,d2,d3⟩|⟨d1,d2,d3,d4⟩
     ·have q1:bi.wrap (a.v.tdiv b.v)=a.v/b.v:=by rw[d1];exact aN _ (by omega) (by omega)
      simp[ad,l,m,u,w,t,r,df,cG,eO,d3,q1];exact d2.symm
     ·have q1:bi.wrap (bi.wrap (a.v.tdiv b.v)-1)=a.v/b.v:=by rw[aN (a.v.tdiv b.v) (by omega) (by omega),d1];exact aN _ (by omega) (by omega)
      have Z:bi.wrap (a.v.tmod b.v+b.v)=a.v% b.v:=by rw[d2];exact aN _ (by omega) (by omega)
      simp[ad,l,m,u,w,t,r,df,cG,eO,d3,q1,Z]
 ·rintro⟨aa,ah⟩ ⟨d,e,f,g,A⟩;dsimp only at d e f g A;subst A;have S:(aq wB (a.v.natAbs/b.v.natAbs)).length<=900000:=by
   have:=dE bc _ _ (gy (Nat.div_le_self a.v.natAbs b.v.natAbs) (bY bc a.v.natAbs));omega
  have T:(aq wB (a.v.natAbs% b.v.natAbs)).length<=900000:=by
   have:=dE bc _ _ (gy (Nat.mod_le a.v.natAbs b.v.natAbs) (bY bc a.v.natAbs));omega
  have C:=u3 (decide (a.v<0)) (a.v.natAbs/b.v.natAbs) (by omega);have D:=u3 (decide (a.v<0)) (a.v.natAbs% b.v.natAbs) (by omega);have P:=XG (a:=a.v) i;simp only[decide_eq_true_eq]at C D;have ak:=hB a.v.natAbs (show 0<b.v.natAbs by omega);generalize a.v.natAbs/b.v.natAbs=k at*;generalize a.v.natAbs% b.v.natAbs=j at*;have ae:-b.v<(if a.v<0 then -(j:Int)else(j:Int)):=by split<;>omega
  have L:a.v<0->(if a.v<0 then -(j:Int)else(j:Int))<=0:=fun h=>by rw[if_pos h];omega
  have X:okW (if a.v<0 then -(k:Int)else(k:Int)):=by rw[okW];split<;>simpa using S
  have Y:okW (if a.v<0 then -(j:Int)else(j:Int)):=by rw[okW];split<;>simpa using T
  have W:(if a.v<0 then -(k:Int)else(k:Int))= -9223372036854775808->a.v<0:=by split<;>omega
  generalize (if a.v<0 then -(k:Int)else(k:Int))=Q at*;generalize (if a.v<0 then -(j:Int)else(j:Int))=R at*;have y:=sA (.mk' R);simp only[NI.gY]at y;have G:=eb a.v i;have H:=ec a.v (show b.v≠0 by omega);simp[d,e,f,g];refine c1 V ?_;simp[d,e,f,g];refine c1 hq ?_;simp[d,e,f,g];refine c2 O ?_;simp;refine c2 C ?_;simp;refine c2 D ?_;simp[d,e,f,g,ad];refine c1 y ?_;rcases P with⟨d1,d2,d3⟩|⟨d1,d2,d3⟩
  ·have B:=CN (.mk' Q) (.of 1) X (by rw[okW];decide);have N:=vu (.mk' R) b Y z;rw[sO (by decide) (by decide)]at B;have o:eI (a.div b)=eI ((NI.mk' Q).sub (.of 1)):=by
    refine mg (by rw[NI.Pa];exact d2) (fun h=>?_);have I:Q= -9223372036854775807:=by have:a.v/b.v= -9223372036854775808:=h;omega
    have U:¬a.v% b.v=0:=by omega
    subst I;show decide (a.v% b.v≠0)=_;simp[U];rfl
   have q:eI (a.mod b)=eI ((NI.mk' R).add b):=mg (by rw[NI.qD];exact d3) (fun h=>by have:a.v% b.v= -9223372036854775808:=h;omega);rw[o,q];simp[d,e,f,g,ad,d1];refine e1 (qM 1) ?_;simp[d,e,f,g,ad];refine e2 B ?_;simp[d,e,f,g,ad];refine e2 N ?_;simp[d,e,f,g,ad];exact⟨rfl,rfl⟩
  ·have o:eI (a.div b)=eI (.mk' Q):=by
    refine mg d2 (fun h=>?_);have ab:a.v/b.v= -9223372036854775808:=h;have ac:=L (W (by omega));have K:a.v% b.v=0:=by omega
    show decide (a.v% b.v≠0)=false;simp[K]
   have q:eI (a.mod b)=eI (.mk' R):=mg d3 (fun h=>by have:a.v% b.v= -9223372036854775808:=h;omega);rw[o,q]
   by_cases x:R=0
   ·simp[d,e,f,g,ad,x]
   ·simp[d,e,f,g,ad,d1,x]
theorem pM{a b:Int}(h:okW b)(c:a.natAbs<=b.natAbs):okW a:=by
 have:=dE bc _ _ (gy c (bY bc b.natAbs));have:=mQ h;rw[okW];omega
theorem MY(a b:NI)(e:0<b.v)(d:okW a.v)(f:okW b.v):az prog 245 [eI a,eI b] (eI (a.div b)):=by
 have c:=sA b;rw[if_neg (by omega),if_neg (by omega)]at c;refine aM nf LH mix (by simp[f245]) ?_;simp[f245];refine c1 c ?_;simp;refine c2 (Ji a b e d f) ?_;simp[ad]
 done
theorem NI.xR(a:NI):a.abs.v.natAbs=a.v.natAbs:=by
 rw[NI.abs];split
 ·rw[NI.gY,en]
 ·rfl
theorem NI.MP(a:NI):0<=a.abs.v:=by
 rw[NI.abs];split
 ·rw[NI.gY];omega
 ·omega
def eh(a b:Int):Int:=(ho a.natAbs b.natAbs:Nat)
theorem MV(a b:NI)(j:okW a.v)(k:okW b.v):az prog 244 [eI a,eI b] (eI (.mk' (eh a.v b.v))):=by
 refine aM nf E9 mix (by simp[f244]) ?_;simp[f244];refine e1 (MT a j) ?_;simp;refine e1 (MT b k) ?_;simp[ad];refine⟨⟨rfl,rfl⟩,?_⟩;have n:eh a.abs.v b.abs.v=eh a.v b.v:=by rw[eh,eh,NI.xR,NI.xR]
 refine lp (α:=NI×NI) (fun x=>⟨[(4,.ptr 2 []),(3,.ptr 1 []),(2,.ptr 0 [])],[.box false (.p (eI x.1)),.box false (.p (eI x.2)),.box false (.p (.st 130 [.int .i64 0,.aR]))]⟩)
  (fun x=>0<=x.1.v/\0<=x.2.v/\okW x.1.v/\okW x.2.v/\eh x.1.v x.2.v=eh a.v b.v) (fun x=>x.2.v.toNat) (a.abs,b.abs) ⟨NI.MP a,NI.MP b,pM j (hp (NI.xR a)),pM k (hp (NI.xR b)),n⟩ ?_
 rintro⟨x,y⟩ ⟨l,g,i,c,f⟩;dsimp only at l g i c f;have d:=sA y
 by_cases e:y.v=0
 ·rw[if_neg (by omega),if_pos e]at d;have hx:eI (.mk' (eh a.v b.v))=eI x:=by
   refine mg ?_ (fun h=>?_)
   ·rw[NI.gY,<-f,e,eh];simp;omega
   ·rw[NI.gY,eh]at h;omega
  rw[hx];simp;refine c1 d ?_;simp[ad]
 ·rw[if_neg (by omega),if_neg e]at d;have q:=eb x.v (show 0<y.v by omega);have o:=ec x.v e;have m:(x.v% y.v).natAbs=x.v.natAbs% y.v.natAbs:=by
   have e1:(x.v.natAbs:Int)=x.v:=by omega
   have e2:(y.v.natAbs:Int)=y.v:=by omega
   have e3:((x.v.natAbs% y.v.natAbs:Nat):Int)=x.v% y.v:=by rw[Int.natCast_emod,e1,e2]
   omega
  simp;refine c1 d ?_;simp[ad];refine c2 (Ji x y (by omega) i c) ?_;simp[ad];refine⟨rfl,?_⟩;refine rd (y,x.mod y) ⟨g,o,c,pM c (by show(x.v% y.v).natAbs<=_;omega),?_⟩ (by show(x.v% y.v).toNat<y.v.toNat;omega);show eh y.v (x.v% y.v)=_;rw[<-f,eh,eh,m,hK y.v.natAbs,<-Nat.gcd_rec,hK]
theorem aAP{o x k A:Nat}(hx:1<=x)(d:1<=o)(h:o*x^k=A)(hk:1<=k):o*x<=A/\(2<=k->x*x<=A):=by
 have a:x<=x^k:=by
  calc x=x^1:=(hl x).symm
   _<=x^k:=gm hx hk
 refine⟨by rw[<-h];exact hA _ a,fun b=>?_⟩;have c:x*x<=x^k:=by
  calc x*x=x^2:=by rw[hL]
   _<=x^k:=gm hx b
 rw[<-h];exact hd c (hr _ d)
theorem Wv(a:NI)(n A:Nat)(E:1<=a.v)(q:A=a.v.natAbs^n)(J:(aq wB A).length<=400000)(F:(aq wB a.v.natAbs).length<=400000)(K:n<=1000000):az prog 261 [eI a,.int .i64 n] (eI (.mk' A)):=by
 refine aM nf D0 mix (by simp[f261]) ?_;simp[f261];refine c1 (qM 1) ?_;rw[show eO 1=eI (.of 1)from(sO (by decide) (by decide)).symm];simp[ad];refine lp (α:=Nat×NI×NI) (fun s=>⟨[(1,.p (.int .i64 s.1)),(5,.ptr 2 []),(4,.ptr 1 []),(2,.ptr 0 [])],[.box false (.p (eI s.2.1)),.box false (.p (.st 130 [.int .i64 0,.aR])),.box false (.p (eI s.2.2))]⟩)
  (fun s=>s.1<=n/\1<=s.2.1.v/\1<=s.2.2.v/\(0<s.1->s.2.2.v.natAbs*s.2.1.v.natAbs^s.1=A)/\(s.1=0->s.2.2.v.natAbs=A)/\(aq wB s.2.1.v.natAbs).length<=400000) (fun s=>s.1) (n,a,.of 1) ⟨gx _,E,(by decide:(1:Int)<=1),fun _=>by rw[q];show(1:Int).natAbs*_=_;simp,fun h=>by have h:n=0:=h;rw[q,h,hh];rfl,F⟩ ?_
 rintro⟨k,x,o⟩ ⟨C,c,i,b,l,m⟩;dsimp only at C c i b l m
 by_cases k0:k=0
 ·subst k0;have e:eI (.mk' A)=eI o:=by
   refine mg ?_ (fun h=>?_)
   ·rw[NI.gY,<-l rfl];omega
   ·rw[NI.gY]at h;omega
  rw[e];simp[ad]
 have b:=b (by omega);have r:=aAP (o:=o.v.natAbs) (x:=x.v.natAbs) (by omega) (by omega) b (by omega);have d:bi.wrap (k% 2^bi.bits&&&1% 2^bi.bits:Nat)=(k% 2:Nat):=by
  rw[show(2^bi.bits:Nat)=18446744073709551616 from rfl,g7 (show k<18446744073709551616 by omega),show 1% 18446744073709551616=2^1-1 from rfl,Nat.and_two_pow_sub_one_eq_mod];exact aN _ (by omega) (by omega)
 have hs:(k:Int).fdiv (2^min 1 bi.bits)=(k/2:Nat):=by
  rw[show((2:Int)^min 1 bi.bits)=2 from rfl,Int.fdiv_eq_ediv_of_nonneg _ (by decide)];omega
 have j:0<k:=by omega
 have L:(aq wB o.v.natAbs).length<=400000:=by
  have D:o.v.natAbs<=A:=hd (Nat.le_mul_of_pos_right _ (show 0<x.v.natAbs by omega)) r.1;have:=dE bc _ _ (gy D (bY bc A));omega
 have z:2<=k->(aq wB (x.v*x.v).natAbs).length<=400000:=fun h=>by
  have:=dE bc _ _ (gy (r.2 h) (bY bc A));rw[ea];omega
 have y:(1:Int)<=o.v*x.v:=by
  have:=eq i c (by decide) (by omega);omega
 have B:(1:Int)<=x.v*x.v:=by
  have:=eq c c (by decide) (by omega);omega
 have u:=yG o x (by omega);have w:=yG x x (by omega);have g:x.v.natAbs^k=(x.v*x.v).natAbs^(k/2)*x.v.natAbs^(k% 2):=by
  rw[ea,<-hL,<-hm,<-ha,Nat.div_add_mod]
 by_cases H:k% 2=1
 ·rw[H,hl]at g;have t:((k% 2:Nat):Int)=1:=by omega
  rw[t]at d
  by_cases k1:1<k
  ·have f:(1:Int)<k:=by omega
   simp[j,d];refine c2 u ?_;simp[ad,f];refine c2 w ?_;simp[ad,hs];refine rd (k/2,x.mul x,o.mul x) ⟨by omega,B,y,fun _=>?_,fun h=>by dsimp only at h;omega,z k1⟩ (by dsimp only;omega);rw[g]at b;show(o.v*x.v).natAbs*(x.v*x.v).natAbs^(k/2)=A;rw[<-b,ea o.v,g8 ((x.v*x.v).natAbs^(k/2)),hE]
  ·have f:¬(1:Int)<k:=by omega
   have G:k=1:=by omega
   simp[j,d];refine c2 u ?_;simp[ad,f,hs];refine rd (k/2,x,o.mul x) ⟨by omega,c,y,fun h=>by dsimp only at h;omega,fun _=>?_,m⟩ (by dsimp only;omega);subst G;rw[hl]at b;show(o.v*x.v).natAbs=A;rw[<-b,ea]
 ·have I:k% 2=0:=by omega
  rw[I,hh,Nat.mul_one]at g;have t:¬((k% 2:Nat):Int)=1:=by omega
  rw[show((k% 2:Nat):Int)=0 by omega]at d;have f:(1:Int)<k:=by omega
  simp[j,d,f];refine c2 w ?_;simp[ad,hs];refine rd (k/2,x.mul x,o) ⟨by omega,B,i,fun _=>?_,fun h=>by dsimp only at h;omega,z (by omega)⟩ (by dsimp only;omega);show o.v.natAbs*(x.v*x.v).natAbs^(k/2)=A;rw[<-g,b]
theorem WH(x:Nat)(hx:x<18446744073709551616):az prog 312 [.int .u64 x] (.int .i64 (bv x:Nat)):=by
 refine jg (il func312 (by kernel_rfl)) fun w aa d _ _ c=>?_;obtain⟨a,rfl,b⟩:=xE c;simp only[aA]at b;subst b;refine(bits_Len64 x w (by omega) (by omega)).mono ?_;rintro e w' ⟨rfl,rfl⟩;refine⟨_,rfl,⟨gx _,fun _ _=>rfl,rfl,rfl⟩,fun w aa=>?_⟩;simp only[aA];rfl
def nr(n:Nat):Nat:=if n=0 then 0 else 64*((aq wB n).length-1)+bv (ae wB n ((aq wB n).length-1))
theorem rH{n:Nat}:aq wB n=[]↔n=0:=by
 constructor
 ·intro h;have:=bY bc n;rw[h,List.length_nil,hh]at this;omega
 ·rintro rfl;exact ku
theorem Jn(n:Nat):n<2^nr n:=by
 by_cases b:n=0
 ·subst b;exact g0 (by decide)
 ·rw[nr,if_neg b];have e:=bY bc n;have j:0<(aq wB n).length:=by
   rcases g5 (aq wB n).length with h|h
   ·exact(b (rH.1 (e9.1 h))).elim
   ·exact h
  obtain⟨m,i⟩:∃m,(aq wB n).length=m+1:=⟨(aq wB n).length-1,by omega⟩
  rw[i]at e⊢;rw[g9];have d:n/wB^m<wB:=by
   rw[hg (g0 (by decide)),g8,<-g6];exact e
  have f:ae wB n m=n/wB^m:=by rw[ae,g7 d]
  have g:0<n/wB^m:=by
   rcases g5 (n/wB^m)with h|h
   ·have c:n<wB^m:=by
     rcases hb n (wB^m)with a|a
     ·exact a
     ·have:=hn a (g0 (show 0<wB by decide));omega
    have:=dE bc m n c;omega
   ·exact h
  have c:=xb (n/wB^m) (n/wB^m) (gx _) g d;rw[f,ha,hm];show n<wB^m*_;have a:n<(n/wB^m+1)*wB^m:=by
   rw[<-hg (g0 (by decide))];omega
  rw[g8]at a;exact gt a (hA _ c.2.2)
theorem Wq(a:NI)(l:okW a.v):az prog 290 [eI a] (.int .i64 (nr a.v.natAbs:Nat)):=by
 have b:=mS (eI a) a.v (lB a);refine aM nf Fj mix (by simp[f290]) ?_;have o:=mQ l;have q:∀i(h:i<(aq wB a.v.natAbs).length),(aq wB a.v.natAbs)[i]=ae wB a.v.natAbs i:=fun i h=>dX bc h;have f:=bZ (B:=wB) bc a.v.natAbs ((aq wB a.v.natAbs).length-1);have j:=WH _ f;have A:=Jn a.v.natAbs;have s:=rH (n:=a.v.natAbs)
 by_cases e:a.v.natAbs=0
 ·rw[e]at b⊢;simp only[eN,ku]at b;simp[f290];refine c1 b ?_;simp[nr]
 ·have k:=mt s.1 e;rw[nr,if_neg e];have p:bv (ae wB a.v.natAbs ((aq wB a.v.natAbs).length-1))<=64:=by
   rcases g5 (ae wB a.v.natAbs ((aq wB a.v.natAbs).length-1))with h|h
   ·rw[h];decide
   ·exact MS h f
  simp only[eN]at b;generalize aq wB a.v.natAbs=x at*;obtain⟨m,d⟩:∃m,x.length=m+1:=⟨x.length-1,by cases x with|nil=>exact(k rfl).elim|cons c cs=>simp⟩
  rw[d,g9]at j p f;rw[d,g9];rw[d]at o;have hx:=q m (by omega);have t:x[m]?=some (ae wB a.v.natAbs m):=by rw[List.getElem?_eq_getElem (by omega),hx]
  have u:bi.wrap (m:Int)=m:=aN _ (by omega) (by omega);have w:bi.wrap (64*(m:Int))=64*m:=aN _ (by omega) (by omega);have y:bi.wrap (64*(m:Int)+(bv (ae wB a.v.natAbs m):Nat))=(64*m+bv (ae wB a.v.natAbs m):Nat):=by rw[aN _ (by omega) (by omega)];push_cast;rfl
  generalize bv (ae wB a.v.natAbs m)=g at*;have z:bi.wrap (64*(m:Int)+g)=64*m+g:=by rw[y];push_cast;rfl
  simp[f290];refine c1 b ?_;have r:¬((m:Int)+1=0):=by omega
  simp[k,d,u,w,t,hx,r];refine c1 j ?_;simp[z]
noncomputable def eF(a:NF):PV:=.st 132 [eI a.num,eI a.den]
@[simp] theorem aHm(a:NF):aJ (eF a)=.agg 132:=rfl
@[simp] theorem aFS(a:NF):cj (eF a)=[eI a.num,eI a.den]:=rfl
@[simp] theorem aIy(n:Int):aJ (eO n)=.agg 130:=rfl
@[simp] theorem aFj:prog.cellsOf 130=2:=by kernel_rfl
@[simp] theorem aFk:prog.cellsOf 132=4:=by kernel_rfl
theorem Kh:eO 1=eI (.mk' 1):=(nq (by decide) (by decide)).symm
def kB:Nat:=100000
theorem oV:kB<=3*kB:=hr _ (by decide)
theorem xt{n k:Nat}(h:n<2^k):(aq wB n).length<=k/64+1:=by
 refine dE bc _ _ (gt h ?_);rw[show wB=2^64 from rfl,<-hm];exact gm (by decide) (by omega)
theorem gK{z:Int}{k:Nat}(h:z.natAbs<2^k)(hk:k<=3*kB):okW z:=by
 have:=xt h;have a:kB=100000:=rfl;rw[okW];omega
def NF.make(n d:NI):NF:=⟨hM n.v d.v,n.m&&decide (d.v=1)⟩
theorem AR(a:NF):az prog 161 [eF a] (.bool a.fg):=by
 refine aM nf E3 mix (by simp[f161]) ?_;have f:a.den.v=a.q.den:=rfl;have h:=a.q.den_pos;rcases hs:a.den.sm with _|_
 ·obtain⟨c,cs,d⟩:=ni hs;have g:=NI.yi (a:=a.den) (by rw[hs];decide);have b:a.fg=false:=by rw[NF.fg,decide_eq_false_iff_not];omega
  simp[f161,ad,d,df,cG,b]
 ·have d:=ln hs;have e:=mc hs;rw[f]at e;have b:a.fg=decide ((a.q.den:Int)=1):=by rw[NF.fg,decide_eq_decide];omega
  simp[f161,ad,d,e,df,cG,b];rfl
theorem B5(a:NI):az prog 158 [eI a] (eF (.whole a)):=by
 refine aM nf E6 mix (by simp[f158]) ?_;simp[f158];refine e1 (qM 1) ?_;have b:(NF.whole a).num=a:=by cases a;rfl
 have c:(NF.whole a).den=.mk' 1:=rfl;simp[ad,eF,b,c,Kh]
theorem vA(n:Int)(h:-9223372036854775808<=n)(b:n<=9223372036854775807):az prog 68 [.int .i64 n] (eF (.int n)):=by
 have a:=B5 (.of n);rw[sO h b]at a;refine aM nf N6 mix (by simp[f68]) ?_;simp[f68];refine c1 (qM n) ?_;simp;refine c1 a ?_;simp[ad];exact Wk.refl _
theorem Cm(q:Rat):(if q<0 then(-1:Int)else if q=0 then 0 else 1)=if q.num<0 then -1 else if q.num=0 then 0 else 1:=by
 have a:q<0↔q.num<0:=by rw[<-Rat.not_le,<-Rat.num_nonneg];omega
 have b:q=0↔q.num=0:=hN.symm;simp only[a,b]
theorem vc(a:NF):az prog 109 [eF a] (.int .i64 (if a.q<0 then -1 else if a.q=0 then 0 else 1)):=by
 have b:=sA a.num;refine aM nf EY mix (by simp[f109]) ?_;simp[f109,ad];refine c1 b ?_;simp;exact Cm a.q
theorem JE(a:NF)(h:bE kB a.q):az prog 206 [eF a] (eF a.neg):=by
 have d:=sL a.num (gK h.1 oV);refine aM nf Ff mix (by simp[f206]) ?_;simp[f206,ad];refine e1 d ?_;have b:a.neg.num=a.num.neg:=by show(⟨(-a.q).num,false⟩:NI)=⟨-a.q.num,false⟩;rw[Rat.neg_num]
 have c:a.neg.den=a.den:=by show(⟨((-a.q).den:Int),false⟩:NI)=⟨a.q.den,false⟩;rw[Rat.neg_den]
 simp[ad,eF,b,c]
theorem SJ{n d:NI}(j:0<d.v):(NI.mk' (eh n.v d.v)).v≠0/\0<eh n.v d.v/\(¬d.v=1->eI (n.div (.mk' (eh n.v d.v)))=eI (NF.make n d).num)/\eI (d.div (.mk' (eh n.v d.v)))=eI (NF.make n d).den:=by
 obtain⟨dn,e⟩:∃dn:Nat,d.v=dn:=⟨d.v.toNat,by omega⟩
 have f:dn≠0:=by omega
 obtain⟨e1,e2⟩:=kN (n:=n.v) f;have c:eh n.v d.v=(ho n.v.natAbs dn:Nat):=by rw[eh,e];rfl
 have k:0<ho n.v.natAbs dn:=Nat.gcd_pos_of_pos_right _ (by omega);have i:(ho n.v.natAbs dn:Int)∣n.v:=Int.ofNat_dvd_left.2 (Nat.gcd_dvd_left _ _);refine⟨by rw[NI.gY,c];omega,by rw[c];omega,fun g=>?_,?_⟩
 ·refine mg ?_ (fun _=>?_)
  ·show n.v/eh n.v d.v=(hM n.v d.v).num;rw[c,e,e1]
  ·show decide (n.v% eh n.v d.v≠0)=(n.m&&decide (d.v=1))
   rw[c,Int.emod_eq_zero_of_dvd i];simp[g]
 ·refine mg ?_ (fun h=>?_)
  ·show d.v/eh n.v d.v=((hM n.v d.v).den:Int)
   rw[c,e,e2];exact(Int.natCast_ediv _ _).symm
  ·have:d.v/eh n.v d.v= -9223372036854775808:=h;have:=Int.ediv_nonneg (a:=d.v) (b:=eh n.v d.v) (by omega) (by rw[c];omega);omega
theorem Vd{n d:NI}(a:d.v<0):NF.make n.neg d.neg=NF.make n d:=by
 rw[NF.make,NF.make];have e1:hM n.neg.v d.neg.v=hM n.v d.v:=Rat.neg_divInt_neg _ _;have e2:(n.neg.m&&decide (d.neg.v=1))=(n.m&&decide (d.v=1)):=by
  rw[show n.neg.m=false from rfl,a6,decide_eq_false (by omega),a7]
 rw[e1,e2]
theorem GX(n:Int):(hM n 1).num=n/\(hM n 1).den=1:=by
 obtain⟨e1,e2⟩:=kN (n:=n) (show 1≠0 by decide);rw[hC]at e1 e2;refine⟨?_,?_⟩
 ·exact e1.trans (ew n)
 ·exact e2
theorem CF(n d:NI)(A:d.v≠0)(q:okW n.v)(o:okW d.v):az prog 163 [eI n,eI d] (eF (.make n d)):=by
 have i:=sA d;refine aM nf MJ mix (by simp[f163]) ?_;simp[f163,-bh];rw[bh];simp[-bh];refine join (fun s=>∃a d':NI,0<d'.v/\okW a.v/\okW d'.v/\NF.make a d'=NF.make n d/\aK s.env 2=.ptr 0 []/\aK s.env 3=.ptr 1 []/\aK s.env 4=.ptr 2 []/\s.heap=[.box false (.p (eI a)),.box false (.p (eI d')),.box false (.p (.st 132 [.st 130 [.int .i64 0,.aR],.st 130 [.int .i64 0,.aR]]))]) ?_ ?_
 ·by_cases l:d.v<0
  ·rw[if_pos l]at i;simp;refine c1 i ?_;simp;refine e1 (sL n q) ?_;simp;refine e1 (sL d o) ?_;simp[ad];exact⟨⟨rfl,rfl⟩,n.neg,d.neg,by rw[NI.Dg];omega,pM q (by rw[NI.Dg];omega),pM o (by rw[NI.Dg];omega),Vd l,rfl,rfl⟩
  ·rw[if_neg l,if_neg A]at i;simp;refine c1 i ?_;simp;exact⟨n,d,by omega,q,o,rfl,rfl,rfl⟩
 ·rintro⟨G,H⟩ ⟨a,d',F,y,r,z,b,e,f,u⟩;dsimp only at b e f u;subst u;rw[<-z];clear z i;have t:=MV a d' y r;obtain⟨g1,g2,g3,g4⟩:=SJ (n:=a) F;have og:okW (eh a.v d'.v):=by
   refine pM r ?_;rw[eh];exact hd (hp (ei _)) (Nat.gcd_le_right _ (by omega))
  have w:=MY a (.mk' (eh a.v d'.v)) g2 y og;have x:=MY d' (.mk' (eh a.v d'.v)) g2 r og
  by_cases hs:d'.v=1
  ·have g:d'.sm=true:=NI.yA (by omega) (by omega);have j:=ln g;have k:=mc g;rw[hs]at k;have C:eF (.make a d')=.st 132 [eI a,eI d']:=by
    rw[eF];have D:(NF.make a d').num=a:=by
     show(⟨(hM a.v d'.v).num,a.m&&decide (d'.v=1)⟩:NI)=a;rw[hs,(GX _).1];simp
    have E:eI (NF.make a d').den=eI d':=by
     refine mg ?_ (fun h=>?_)
     ·show((hM a.v d'.v).den:Int)=d'.v;rw[hs,(GX _).2];rfl
     ·have:((hM a.v d'.v).den:Int)= -9223372036854775808:=h;omega
    rw[D,E]
   rw[C];simp[b,e,f,ad,j,k,df,cG]
   done
  ·rw[eF,<-g3 hs,<-g4];have B:(wI d'=.aR/\¬sI d'=1)\/∃c cs,wI d'=.seq (c::cs):=by
    rcases g:d'.sm with _|_
    ·exact .inr (ni g)
    ·exact .inl ⟨ln g,by rw[mc g];exact hs⟩
   rcases B with⟨j,k⟩|⟨c,cs,j⟩
   ·simp[b,e,f,ad,j,k,df,cG];refine c2 t ?_;simp[b,e,f,ad];refine e2 w ?_;simp[b,e,f,ad];refine e2 x ?_;simp[b,e,f,ad]
    done
   ·simp[b,e,f,ad,j,df,cG];refine c2 t ?_;simp[b,e,f,ad];refine e2 w ?_;simp[b,e,f,ad];refine e2 x ?_;simp[b,e,f,ad]
    done
theorem kt(a:NF):a.num.v=a.q.num:=rfl
theorem iX(a:NF):a.den.v=a.q.den:=rfl
theorem jD(a:NF):a.den.v.natAbs=a.q.den:=by rw[iX,ei]
theorem qz{x y:NI}{k l:Nat}(hx:x.v.natAbs<2^k)(a:y.v.natAbs<2^l)(h:k+l<=4*kB):az prog 164 [eI x,eI y] (eI (x.mul y)):=by
 have b:=xt hx;have c:=xt a;have d:kB=100000:=rfl;exact yG x y (by omega)
theorem nR{x y:Int}{k l:Nat}(hx:x.natAbs<2^k)(a:y.natAbs<2^l):(x*y).natAbs<2^(k+l):=by
 rw[ea,ha];exact Nat.mul_lt_mul'' hx a
theorem BI{n d:NI}{q:Rat}(m:Bool)(hq:hM n.v d.v=q)(a:(n.m&&decide (d.v=1))=m):NF.make n d=⟨q,m⟩:=by rw[NF.make,hq,a]
theorem Vb(a b:NF):NF.make (a.num.mul b.num) (a.den.mul b.den)=a.mul b:=by
 refine BI _ ?_ rfl;rw[NI.lj,NI.lj,kt,kt,iX,iX,Rat.mul_def,Rat.normalize_eq_mkRat];rfl
theorem oC(a b:NF)(c:bE kB a.q)(d:bE kB b.q):az prog 165 [eF a,eF b] (eF (a.mul b)):=by
 have f:=qz (x:=a.num) (y:=b.num) c.1 d.1 (by omega);have g:=qz (x:=a.den) (y:=b.den) (by rw[jD];exact c.2) (by rw[jD];exact d.2) (by omega);have e:=CF (a.num.mul b.num) (a.den.mul b.den) (by rw[NI.lj,iX,iX];have:=a.q.den_nz;have:=b.q.den_nz;exact em (by omega) (by omega)) (gK (nR c.1 d.1) (by omega)) (gK (nR (x:=a.den.v) (y:=b.den.v) (by rw[jD];exact c.2) (by rw[jD];exact d.2)) (by omega));rw[Vb]at e;refine aM nf MH mix (by simp[f165]) ?_;simp[f165,ad];refine e2 f ?_;simp[ad];refine e2 g ?_;simp[ad];refine e2 e ?_;simp[ad]
theorem Vn(a:NF)(h:a.q≠0):NF.make a.den a.num=a.inv:=by
 refine BI _ ?_ rfl;rw[kt,iX];show hM a.q.den a.q.num=a.q⁻¹;rw[Rat.inv_def]
theorem JF(a:NF)(c:bE kB a.q)(b:a.q≠0):az prog 169 [eF a] (eF a.inv):=by
 have d:=CF a.den a.num (by rw[kt];exact mt hN.1 b) (gK (by rw[jD];exact c.2) oV) (gK c.1 oV);rw[Vn a b]at d;refine aM nf MD mix (by simp[f169]) ?_;simp[f169,ad];refine c2 d ?_;simp[ad]
theorem MN(a b:NF)(g:bE kB a.q)(c:bE kB b.q)(f:b.q≠0):az prog 73 [eF a,eF b] (eF (a.div b)):=by
 have h:=JF b c f;have d:=oC a b.inv g (F7 c);have e:a.mul b.inv=a.div b:=by
  rw[NF.mul,NF.div,NF.inv,Rat.div_def]
 rw[e]at d;refine aM nf Ob mix (by simp[f73]) ?_;simp[f73,ad];refine e1 h ?_;simp[ad];refine e2 d ?_;simp[ad]
theorem VS(a b:NF)(h:¬(a.fg=true/\b.fg=true)):NF.make ((a.num.mul b.den).add (b.num.mul a.den)) (a.den.mul b.den)=a.add b:=by
 have g:(a.fg&&b.fg)=false:=by simpa using h
 refine BI _ ?_ ?_
 ·rw[NI.qD,NI.lj,NI.lj,NI.lj,kt,kt,iX,iX,Rat.add_def'];rfl
 ·rw[g,a6];have:¬(a.den.mul b.den).v=1:=by
   intro c;rw[NI.lj,iX,iX]at c;have d:a.q.den*b.q.den=1:=by exact_mod_cast c
   have e:=Nat.eq_one_of_mul_eq_one_right d;have f:=Nat.eq_one_of_mul_eq_one_left d;exact h ⟨by rw[NF.fg];simp[e,f],by rw[NF.fg];simp[e,f]⟩
  rw[decide_eq_false this,a7]
theorem Kj{q:Rat}(h:q.den=1):(q.num:Rat)=q:=by
 apply Rat.ext
 ·rw[Rat.num_intCast]
 ·rw[Rat.den_intCast,h]
theorem vw(a b:NF)(j:bE kB a.q)(k:bE kB b.q):az prog 70 [eF a,eF b] (eF (a.add b)):=by
 have d:=AR a;have n:=AR b;refine aM nf N8 mix (by simp[f70]) ?_
 by_cases hw:a.fg=true/\b.fg=true
 ·rw[hw.1]at d;rw[hw.2]at n;have l:=vu a.num b.num (gK j.1 oV) (gK k.1 oV);have g:=B5 (a.num.add b.num);have c:a.q.den=1:=by simpa[NF.fg]using hw.1
  have f:b.q.den=1:=by simpa[NF.fg]using hw.2
  have e:NF.whole (a.num.add b.num)=a.add b:=by
   rw[NF.whole,NF.add];have e1:(((a.num.add b.num).v:Int):Rat)=a.q+b.q:=by
    rw[NI.qD,kt,kt,Rat.intCast_add,Kj c,Kj f]
   have e2:(a.num.add b.num).m=(a.fg&&b.fg&&(a.num.sm&&b.num.sm)):=by rw[hw.1,hw.2];rfl
   rw[e1,e2]
  rw[e]at g;simp[f70,ad];refine c1 d ?_;simp[ad];refine c1 n ?_;simp[ad];refine c2 l ?_;simp[ad];refine c1 g ?_;simp[ad]
 ·have h:a.den.v.natAbs<2^kB:=by rw[jD];exact j.2
  have i:b.den.v.natAbs<2^kB:=by rw[jD];exact k.2
  have l:=qz (x:=a.num) (y:=b.den) j.1 i (by omega);have g:=qz (x:=b.num) (y:=a.den) k.1 h (by omega);have s:(a.num.mul b.den).v.natAbs<2^(kB+kB):=nR j.1 i;have t:(b.num.mul a.den).v.natAbs<2^(kB+kB):=nR k.1 h;have p:=vu _ _ (gK s (by omega)) (gK t (by omega));have r:=qz (x:=a.den) (y:=b.den) h i (by omega);have u:((a.num.mul b.den).add (b.num.mul a.den)).v.natAbs<2^(kB+kB+1):=by
   rw[NI.qD,g6];exact gy (Int.natAbs_add_le _ _) (by omega)
  have w:kB=100000:=rfl;have o:=CF ((a.num.mul b.den).add (b.num.mul a.den)) (a.den.mul b.den) (by rw[NI.lj,iX,iX];have:=a.q.den_nz;have:=b.q.den_nz;exact em (by omega) (by omega)) (gK u (by omega)) (gK (nR (x:=a.den.v) (y:=b.den.v) h i) (by omega));rw[VS a b hw]at o;have hc:a.fg=false\/(a.fg=true/\b.fg=false):=by
   rcases c:a.fg with _|_
   ·exact .inl rfl
   ·exact .inr ⟨rfl,by rcases f:b.fg with _|_;rfl;exact(hw ⟨c,f⟩).elim⟩
  rcases hc with c|⟨c,f⟩
  ·rw[c]at d;simp[f70,ad];refine c1 d ?_;simp[ad];refine e2 l ?_;simp[ad];refine e2 g ?_;simp[ad];refine e2 p ?_;simp[ad];refine e2 r ?_;simp[ad];refine e2 o ?_;simp[ad]
  ·rw[c]at d;rw[f]at n;simp[f70,ad];refine c1 d ?_;simp[ad];refine c1 n ?_;simp[ad];refine e2 l ?_;simp[ad];refine e2 g ?_;simp[ad];refine e2 p ?_;simp[ad];refine e2 r ?_;simp[ad];refine e2 o ?_;simp[ad]
theorem xZ(a b:NF)(d:bE kB a.q)(c:bE kB b.q):az prog 166 [eF a,eF b] (eF (a.sub b)):=by
 have e:=JE b c;have f:=vw a b.neg d (AH c);refine aM nf MG mix (by simp[f166]) ?_;simp[f166,ad];refine e1 e ?_;simp[ad];refine e2 f ?_;simp[ad];exact Wk.refl _
def du(x y:Rat):Int:=if x<y then -1 else if x=y then 0 else 1
theorem aAd(a b:Rat):jt (a.num*b.den) (b.num*a.den)=du a b:=by
 have c:a<b↔a.num*b.den<b.num*a.den:=hP _ _;have f:a=b↔a.num*b.den=b.num*a.den:=by
  constructor
  ·rintro rfl;rfl
  ·intro h
   by_cases d:a<b
   ·rw[c]at d;omega
   ·by_cases e:b<a
    ·have g:=(hP b a).1 e;omega
    ·exact Rat.le_antisymm (hO.1 e) (hO.1 d)
 simp only[jt,du,c,f]
theorem sT(a b:NF)(c:bE kB a.q)(d:bE kB b.q):az prog 110 [eF a,eF b] (.int .i64 (du a.q b.q)):=by
 have e:a.den.v.natAbs<2^kB:=by rw[jD];exact c.2
 have f:b.den.v.natAbs<2^kB:=by rw[jD];exact d.2
 have j:=qz (x:=a.num) (y:=b.den) c.1 f (by omega);have k:=qz (x:=b.num) (y:=a.den) d.1 e (by omega);have h:(a.num.mul b.den).v.natAbs<2^(kB+kB):=nR c.1 f;have i:(b.num.mul a.den).v.natAbs<2^(kB+kB):=nR d.1 e;have g:=MU _ _ (gK h (by omega)) (gK i (by omega));rw[NI.lj,NI.lj,kt,kt,iX,iX,aAd]at g;refine aM nf EX mix (by simp[f110]) ?_;simp[f110,ad];refine e2 j ?_;simp[ad];refine e2 k ?_;simp[ad];refine e2 g ?_;simp[ad]
def low:Nat->Nat->List Nat
 |0,_=>[]
 |i+1,n=>(48+n/10^i% 10)::low i n
def nd(n:Nat):Nat:=if h:n=0 then 0 else nd (n/10)+1
 decreasing_by omega
theorem mi:∀(i n:Nat),i<nd n↔10^i<=n
 |0,n=>by
  rw[nd];split
  ·subst n;simp
  ·simp;omega
 |i+1,n=>by
  rw[nd];split
  ·rename_i h;subst h;have:=g0 (n:=i+1) (show 0<10 by omega);constructor
   ·intro h;omega
   ·intro h;omega
  ·have:=mi i (n/10);rw[hv (by omega),<-g6]at this;rw[<-this];omega
theorem pQ(b n:Nat):∀a,low (a+b) n=low a (n/10^b)++low b n
 |0=>by simp[low]
 |a+1=>by
  rw[show a+1+b=(a+b)+1 by omega,low,low,pQ b n a,Nat.div_div_eq_div_mul,<-ha,Nat.add_comm b a];rfl
theorem BJ(n k:Nat):∀b,b<=k->low b (n% 10^k)=low b n
 |0,_=>rfl
 |b+1,h=>by
  have e:k=b+(k-b-1+1):=by omega
  have a:n% 10^k/10^b=n/10^b% 10^(k-b-1+1):=by
   conv=>lhs;rw[e,ha]
   rw[Nat.mod_mul_right_div_self]
  rw[low,low,BJ n k b (by omega),a,Nat.mod_mod_of_dvd _ (Nat.pow_dvd_pow 10 (show 1<=k-b-1+1 by omega)|>fun h=>by simpa using h)]
theorem azL{n m:Nat}(h:∀i,i<nd n↔i<m):nd n=m:=by
 have a:=h m;have b:=h (nd n);omega
theorem Co{n k:Nat}(h:10^k<=n):nd n=nd (n/10^k)+k:=by
 refine azL fun i=>?_;rw[mi]
 by_cases hi:i<k
 ·have:=gm (show 0<10 by omega) (Nat.le_of_lt hi);constructor
  ·intro _;omega
  ·intro _;omega
 ·obtain⟨j,rfl⟩:∃j,i=j+k:=⟨i-k,by omega⟩
  rw[ha,<-hv (g0 (by omega)),<-mi];omega
theorem qB{n k:Nat}(h:n<10^k):nd n<=k:=by
 rcases hb k (nd n)with a|a
 ·rw[mi]at a;omega
 ·exact a
theorem vg{n:Nat}(h:0<n):0<nd n:=by rw[mi,hh];exact h
theorem Ve{M:Nat}(h:10^9<=M):low (nd M) M=low (nd (M/10^9)) (M/10^9)++low 9 (M% 10^9):=by
 rw[Co h,pQ,BJ _ _ _ (gx 9)]
theorem pP(n:Nat):∀i,(low i n).length=i
 |0=>rfl
 |i+1=>by simp[low,pP n i]
def aW(n:Nat):List Nat:=low (max 1 (nd n)) n
def bD(z:Int):List Nat:=if z<0 then 45::aW z.natAbs else aW z.natAbs
def bf(q:Rat):List Nat:=if q.den=1 then bD q.num else bD q.num++47::aW q.den
def aV(s:List Nat):Nat:=s.foldl (fun n c=>n*10+(c-48)) 0
def bX(c:Nat):Bool:=decide (48<=c)&&decide (c<=57)
theorem xe(s:List Nat)(c:Nat):aV (s++[c])=aV s*10+(c-48):=by simp[aV]
theorem rS(i n:Nat):low (i+1) n=low i (n/10)++[48+n% 10]:=by
 have:=pQ 1 n i;rw[this];simp[low]
theorem OD:∀(i n:Nat),(low i n).all bX=true
 |0,n=>rfl
 |i+1,n=>by
  rw[low,e8,OD i n];have:=hB (n/10^i) (show 0<10 by omega);simp[bX];omega
theorem IV:∀(i n:Nat),aV (low i n)=n% 10^i
 |0,n=>by simp[low,aV,Nat.mod_one]
 |i+1,n=>by
  rw[rS,xe,IV i,g6,g8 (10^i),Nat.mod_mul];omega
theorem Bn(n:Nat):n<10^nd n:=by
 rcases hb n (10^nd n)with h|h
 ·exact h
 ·have:=(mi (nd n) n).2 h;omega
theorem oG(n:Nat):aV (aW n)=n:=by
 rw[aW,IV];refine g7 (gt (Bn n) (gm (by omega) (by omega)))
theorem zx{a b:Nat}(h:aW a=aW b):a=b:=by rw[<-oG a,h,oG]
theorem pN(n:Nat):(aW n).length=max 1 (nd n):=pP _ _
theorem nt(n:Nat):(aW n).all bX=true:=OD _ _
theorem lX:aW 0=[48]:=by
 have:nd 0=0:=by rw[nd,dif_pos rfl]
 rw[aW,this];rfl
theorem PB{n:Nat}(h:0<n):(aW n).head?=some (48+n/10^(nd n-1))/\0<n/10^(nd n-1)/\n/10^(nd n-1)<10:=by
 have d:=vg h;obtain⟨k,hk⟩:∃k,nd n=k+1:=⟨nd n-1,by omega⟩
 have e:max 1 (nd n)=k+1:=by omega
 have c:=(mi k n).1 (by omega);have a:=Bn n;rw[hk]at a;have b:n/10^k<10:=by rw[hg (g0 (by omega)),g8,<-g6];exact a
 rw[aW,e,hk,g9];exact⟨by rw[low,fv,g7 b],hn c (g0 (by omega)),b⟩
def dm(s:List Nat):Bool:=!s.isEmpty&&s.all bX&&(decide (s.head?≠some 48)||decide (s=[48]))
theorem DL(n:Nat):dm (aW n)=true:=by
 rcases g5 n with rfl|h
 ·rw[lX];rfl
 ·obtain⟨b,f,g⟩:=PB h;have d:(aW n).isEmpty=false:=by
   have:=pN n;cases he:aW n with
   |nil=>rw[he]at this;simp at this;omega
   |cons a l=>rfl
  have c:¬(some (48+n/10^(nd n-1))=some 48):=by intro e;injection e with e;omega
  simp only[dm,d,nt,b,Bool.not_false,a8,ne_eq,c,not_false_eq_true,decide_true,Bool.true_or]
theorem iR:∀(k:Nat)(s:List Nat),s.length=k->s.all bX=true->aV s<10^k
 |0,s,h,_=>by
            have:s=[]:=e9.1 h
            subst this;simp[aV]
 |n+1,s,h,a=>by
  have b:s≠[]:=by intro e;subst e;simp at h
  obtain⟨t,c,rfl⟩:∃t c,s=t++[c]:=⟨s.dropLast,s.getLast b,(fJ b).symm⟩
  simp only[gi,e8,gj,aT,av]at a;have d:=iR n t (by simpa using h) a.1;have hc:=a.2;simp only[bX,av,decide_eq_true_eq]at hc;rw[xe,g6];omega
theorem JO:∀(k:Nat)(s:List Nat),s.length=k->s.all bX=true->low k (aV s)=s
 |0,s,h,_=>by
            have:s=[]:=e9.1 h
            subst this;rfl
 |n+1,s,h,a=>by
  have b:s≠[]:=by intro e;subst e;simp at h
  obtain⟨t,c,rfl⟩:∃t c,s=t++[c]:=⟨s.dropLast,s.getLast b,(fJ b).symm⟩
  simp only[gi,e8,gj,aT,av]at a;have d:=JO n t (by simpa using h) a.1;have hc:=a.2;simp only[bX,av,decide_eq_true_eq]at hc;rw[rS,xe];have e1:(aV t*10+(c-48))/10=aV t:=by omega
  have e2:(aV t*10+(c-48))% 10=c-48:=by omega
  rw[e1,e2,d];congr 2;omega
theorem QS(c:Nat)(s:List Nat)(h:49<=c):10^s.length<=aV (c::s):=by
 have key:∀(s:List Nat)(a:Nat),a*10^s.length<=s.foldl (fun n c=>n*10+(c-48)) a:=by
  intro s
  induction s with
  |nil=>intro a;simp
  |cons x r b=>
   intro a;rw[gg,ge];refine hd ?_ (b _);rw[g6,g8 (10^r.length),<-hE];exact hz _ (by omega)
 have:=key s (c-48);rw[aV,gg,Nat.zero_mul,hG];refine hd ?_ this;have:1*10^s.length<=(c-48)*10^s.length:=hz _ (by omega);omega
theorem uU{s:List Nat}(h:dm s=true):aW (aV s)=s:=by
 simp only[dm,av,ax,decide_eq_true_eq,ay]at h;obtain⟨⟨f,a⟩,b⟩:=h;rcases b with b|rfl
 ·cases s with
  |nil=>simp at f
  |cons c r=>
   have hc:bX c=true:=by simpa using(e8.symm.trans a|>fun h=>by simpa using h:bX c=true/\r.all bX=true).1
   simp only[bX,av,decide_eq_true_eq]at hc;have i:49<=c:=by
    have:c≠48:=fun e=>b (by rw[e];rfl);omega
   have g:=iR _ _ rfl a;have j:=QS c r i;have k:nd (aV (c::r))=r.length+1:=by
    have l:=(mi r.length _).2 j;have d:=qB g;rw[ge]at d;omega
   rw[aW,k,show max 1 (r.length+1)=r.length+1 by omega];exact JO _ _ rfl a
 ·have:aV [48]=0:=rfl;rw[this,lX]
def bS(c:Nat):List Nat->List Nat×List Nat×Bool
 |[]=>([],[],false)
 |x::r=>if x=c then([],r,true)else(x::(bS c r).1,(bS c r).2.1,(bS c r).2.2)
theorem Bc(c:Nat):∀(a b:List Nat),c∉a->bS c (a++c::b)=(a,b,true)
 |[],b,_=>by simp[bS]
 |x::a,b,h=>by
  simp only[fb,not_or]at h;rw[fd,bS,if_neg (fun e=>h.1 e.symm),Bc c a b h.2]
theorem AQ(c:Nat):∀(a:List Nat),c∉a->bS c a=(a,[],false)
 |[],_=>rfl
 |x::a,h=>by
  simp only[fb,not_or]at h;rw[bS,if_neg (fun e=>h.1 e.symm),AQ c a h.2]
theorem om(c:Nat):∀(s:List Nat),((bS c s).2.2=true/\s=(bS c s).1++c::(bS c s).2.1)\/((bS c s).2.2=false/\(bS c s).1=s/\(bS c s).2.1=[])
 |[]=>by simp[bS]
 |x::s=>by
  rw[bS]
  by_cases h:x=c
  ·subst h;simp
  ·rw[if_neg h];rcases om c s with⟨a,b⟩|⟨a,b,d⟩
   ·left;exact⟨a,by dsimp only;rw[fd,<-b]⟩
   ·right;exact⟨a,by dsimp only;rw[b],d⟩
def bP(s:List Nat):Bool:=decide (s.head?=some 45)
def cF(s:List Nat):List Nat:=if bP s=true then s.tail else s
def bA(s:List Nat):List Nat:=(bS 47 (cF s)).1
def bJ(s:List Nat):List Nat:=(bS 47 (cF s)).2.1
def dP(s:List Nat):Bool:=(bS 47 (cF s)).2.2
def jm(s:List Nat):Bool:=dm (bA s)&&!(bP s&&decide (bA s=[48]))&&(!dP s||(dm (bJ s)&&decide (bJ s≠[48])&&decide (bJ s≠[49])))
def bI(s:List Nat):Int:=
 if jm s=false then 1
 else if 600<(bA s).length\/600<(bJ s).length then 4
 else if dP s=true/\ho (aV (bA s)) (aV (bJ s))≠1 then 1 else 0
def aL(s:List Nat):Rat:=hM (if bP s=true then -(aV (bA s):Int)else aV (bA s)) (if dP s=true then aV (bJ s)else 1:Nat)
theorem zt{s:List Nat}(h:s.all bX=true){c:Nat}(hc:bX c=false):c∉s:=by
 intro a;rw[fm]at h;rw[h c a]at hc;cases hc
theorem iH{s:List Nat}(h:dm s=true):s.all bX=true:=by
 simp only[dm,av]at h;exact h.1.2
theorem ub(n:Nat):bD (n:Int)=aW n:=by
 rw[bD,if_neg (by omega)];rfl
theorem aDw{n:Nat}(h:0<n):bD (-(n:Int))=45::aW n:=by
 rw[bD,if_pos (by omega)];congr 1;rw[en];rfl
theorem xw{s:List Nat}(h:dm s=true)(a:s≠[48]):0<aV s:=by
 rcases g5 (aV s)with e|e
 ·have:=uU h;rw[e,lX]at this;exact(a this.symm).elim
 ·exact e
theorem fX{s:List Nat}(h:bI s=0):bf (aL s)=s/\(aL s).num=(if bP s=true then -(aV (bA s):Int)else aV (bA s))/\(aL s).den=(if dP s=true then aV (bJ s)else 1:Nat):=by
 unfold bI at h
 split at h
 ·cases h
 rename_i b
 split at h
 ·cases h
 split at h
 ·cases h
 rename_i g;have b:jm s=true:=by simpa using b
 simp only[jm,av,ay,a1,decide_eq_false_iff_not,ax,decide_eq_true_eq]at b;obtain⟨⟨d,a2⟩,a3⟩:=b;have hs:s=(if bP s=true then[45]else[])++cF s:=by
  rw[cF]
  by_cases a:bP s=true
  ·rw[if_pos a,if_pos a];simp only[bP,decide_eq_true_eq]at a;cases s with
   |nil=>simp at a
   |cons c r=>simp at a;subst a;rfl
  ·rw[if_neg a,if_neg a];rfl
 have i:(if dP s=true then aV (bJ s)else 1:Nat)≠0:=by
  split
  ·rename_i hf;rcases a3 with a3|a3
   ·rw[hf]at a3;cases a3
   ·have:=xw a3.1.1 a3.1.2;omega
  ·omega
 have j:ho (if bP s=true then -(aV (bA s):Int)else aV (bA s)).natAbs (if dP s=true then aV (bJ s)else 1:Nat)=1:=by
  have e:(if bP s=true then -(aV (bA s):Int)else aV (bA s)).natAbs=aV (bA s):=by split<;>omega
  rw[e]
  by_cases hf:dP s=true
  ·rw[if_pos hf];exact Decidable.not_not.1 fun e=>g ⟨hf,e⟩
  ·rw[if_neg hf,hC]
 obtain⟨e1,e2⟩:=kN (n:=if bP s=true then -(aV (bA s):Int)else aV (bA s)) i;rw[j]at e1 e2;simp only[Nat.div_one]at e2;have e1:(aL s).num=(if bP s=true then -(aV (bA s):Int)else aV (bA s)):=by rw[aL,e1];exact ew _
 have e2:(aL s).den=(if dP s=true then aV (bJ s)else 1:Nat):=e2;refine⟨?_,e1,e2⟩;have hI:bD (aL s).num=(if bP s=true then[45]else[])++bA s:=by
  rw[e1]
  by_cases a:bP s=true
  ·rw[if_pos a,if_pos a,aDw,uU d];·rfl
   refine xw d ?_;rcases a2 with a2|a2
   ·rw[a]at a2;cases a2
   ·exact a2
  ·rw[if_neg a,if_neg a,ub,uU d];rfl
 rw[bf,hI,e2]
 by_cases hf:dP s=true
 ·have f:dm (bJ s)=true/\bJ s≠[48]/\bJ s≠[49]:=by
   rcases a3 with a3|a3
   ·rw[hf]at a3;cases a3
   ·exact⟨a3.1.1,a3.1.2,a3.2⟩
  have k:aV (bJ s)≠1:=by
   intro e;have:=uU f.1;rw[e]at this;have b:nd 1=1:=by rw[nd,dif_neg (by omega),nd,dif_pos (by omega)]
   have:aW 1=[49]:=by rw[aW,b];rfl
   exact f.2.2 (by rw[<-this];assumption|>Eq.symm)
  rw[if_pos hf,if_neg k,uU f.1]
  conv=>rhs;rw[hs]
  rw[List.append_assoc];congr 1;rcases om 47 (cF s)with⟨g1,g2⟩|⟨g1,_⟩
  ·exact g2.symm
  ·rw[dP,g1]at hf;cases hf
 ·rw[if_neg hf,if_pos rfl]
  conv=>rhs;rw[hs]
  congr 1;rcases om 47 (cF s)with⟨g1,g2⟩|⟨g1,g2,_⟩
  ·exact(hf g1).elim
  ·exact g2
theorem xf(z:Int)(r:List Nat):bP (bD z++r)=decide (z<0)/\cF (bD z++r)=aW z.natAbs++r:=by
 by_cases h:z<0
 ·have:bD z=45::aW z.natAbs:=by rw[bD,if_pos h]
  rw[this];simp[bP,cF,h]
 ·have e:bD z=aW z.natAbs:=by rw[bD,if_neg h]
  have a:=nt z.natAbs;have b:=pN z.natAbs;rw[e];have d:bP (aW z.natAbs++r)=false:=by
   cases f:aW z.natAbs with
   |nil=>rw[f]at b;simp at b;omega
   |cons c t=>
    rw[f]at a;simp only[e8,av]at a;have hc:=a.1;simp only[bX,av,decide_eq_true_eq]at hc;have:¬(some c=some 45):=by intro e;injection e with e;omega
    simp only[bP,fd,fv,this,decide_false]
  exact⟨by rw[d];simp[h],by rw[cF,d];simp⟩
theorem sd(q:Rat):bP (bf q)=decide (q.num<0)/\bA (bf q)=aW q.num.natAbs/\dP (bf q)=decide (q.den≠1)/\bJ (bf q)=if q.den=1 then[]else aW q.den:=by
 have d:47∉aW q.num.natAbs:=zt (nt _) rfl
 by_cases h:q.den=1
 ·have e:bf q=bD q.num++[]:=by rw[bf,if_pos h,e7]
  obtain⟨c,b⟩:=xf q.num [];rw[e7,e7]at b;have a:=AQ 47 _ d;rw[<-b]at a;rw[e];refine⟨c,?_,?_,?_⟩
  ·rw[e7,bA,a,b]
  ·rw[e7,dP,a,h];rfl
  ·rw[e7,bJ,a,if_pos h]
 ·have e:bf q=bD q.num++47::aW q.den:=by rw[bf,if_neg h]
  obtain⟨c,b⟩:=xf q.num (47::aW q.den);have a:=Bc 47 _ (aW q.den) d;rw[<-b]at a;rw[e];refine⟨c,?_,?_,?_⟩
  ·rw[bA,a]
  ·rw[dP,a];simp[h]
  ·rw[bJ,a,if_neg h]
theorem BX(q:Rat):aL (bf q)=q:=by
 obtain⟨a,b,c,d⟩:=sd q;have e1:(if bP (bf q)=true then -(aV (bA (bf q)):Int)else aV (bA (bf q)))=q.num:=by
  rw[a,b,oG]
  by_cases h:q.num<0
  ·simp[h];omega
  ·simp[h];omega
 have e2:(if dP (bf q)=true then aV (bJ (bf q))else 1:Nat)=q.den:=by
  rw[c,d]
  by_cases h:q.den=1
  ·simp[h]
  ·simp[h,oG]
 rw[aL,e1,e2,Rat.num_divInt_den]
theorem aDy{a b:Rat}(h:bf a=bf b):a=b:=by rw[<-BX a,h,BX]
theorem DK:aW 1=[49]:=by
 have a:nd 1=1:=by rw[nd,dif_neg (by omega),nd,dif_pos (by omega)]
 rw[aW,a];rfl
theorem W8{q:Rat}(g:(aW q.num.natAbs).length<=600)(i:(aW q.den).length<=600):bI (bf q)=0:=by
 obtain⟨g1,g2,g3,g4⟩:=sd q;have hf:jm (bf q)=true:=by
  simp only[jm,g1,g2,g3,g4,DL,a8,av,ax,ay,a1,decide_eq_false_iff_not,decide_eq_true_eq];refine⟨?_,?_⟩
  ·by_cases h:q.num<0
   ·right;intro e;have:=zx (b:=0) (e.trans lX.symm);omega
   ·exact .inl h
  ·by_cases h:q.den=1
   ·left;simp[h]
   ·right;rw[if_neg h];have f:=q.den_nz;refine⟨⟨DL _,fun e=>?_⟩,fun e=>?_⟩
    ·exact f (zx (e.trans lX.symm))
    ·exact h (zx (e.trans DK.symm))
 rw[bI,hf,if_neg (by simp),g2,g3,g4];rw[if_neg (by
  intro h;rcases h with h|h
  ·omega
  ·split at h
   ·simp at h
   ·omega)]
 rw[if_neg];rintro⟨c,a⟩;have d:¬q.den=1:=by simpa using c
 rw[if_neg d,oG,oG]at a;exact a q.reduced
theorem ua{n k:Nat}(h:n<10^k)(hk:1<=k):(aW n).length<=k:=by
 rw[pN];have:=qB h;omega
theorem BG(z:Int):(bD z).length<=(aW z.natAbs).length+1:=by
 rw[bD];split<;>simp
theorem DJ(q:Rat):(bf q).length<=(aW q.num.natAbs).length+(aW q.den).length+2:=by
 have:=BG q.num;rw[bf];split<;>simp<;>omega
theorem PC(q:Rat):∀c∈bf q,c<58:=by
 have a:∀n,∀c∈aW n,c<58:=fun n c hc=>by
  have:=fm.1 (nt n) c hc;simp only[bX,av,decide_eq_true_eq]at this;omega
 have hI:∀z,∀c∈bD z,c<58:=fun z c hc=>by
  rw[bD]at hc
  split at hc
  ·rcases fb.1 hc with rfl|hc
   ·omega
   ·exact a _ c hc
  ·exact a _ c hc
 intro c hc;rw[bf]at hc
 split at hc
 ·exact hI _ c hc
 ·rcases List.mem_append.1 hc with hc|hc
  ·exact hI _ c hc
  ·rcases fb.1 hc with rfl|hc
   ·omega
   ·exact a _ c hc
theorem Se(k:Nat):2^(3*k)<=10^k:=by
 rw[hm];exact Nat.pow_le_pow_left (by omega) k
theorem Hm{n k:Nat}(h:n<2^(3*k))(hk:1<=k):(aW n).length<=k:=ua (gt h (Se k)) hk
theorem qK{n k K:Nat}(h:n<2^K)(a:K<=3*k)(hk:1<=k):(aW n).length<=k:=Hm (gt h (gm (by decide) a)) hk
def mD:Nat:=600
theorem Ex{s:List Nat}(h:bI s=0):(aL s).num.natAbs<10^mD/\(aL s).den<10^mD:=by
 obtain⟨k,f,g⟩:=fX h;unfold bI at h
 split at h
 ·cases h
 rename_i a
 split at h
 ·cases h
 rename_i l;have a:jm s=true:=by simpa using a
 simp only[jm,av,ax,decide_eq_true_eq]at a;obtain⟨⟨b,_⟩,a3⟩:=a;have c:=iR _ _ rfl (iH b);have i:10^(bA s).length<=10^mD:=gm (by omega) (by rw[mD];omega);refine⟨?_,?_⟩
 ·rw[f];have e:(if bP s=true then -(aV (bA s):Int)else aV (bA s)).natAbs=aV (bA s):=by split<;>omega
  rw[e];exact gt c i
 ·rw[g]
  by_cases hf:dP s=true
  ·rw[if_pos hf];rcases a3 with a3|a3
   ·rw[hf]at a3;cases a3
   ·have d:=iR _ _ rfl (iH a3.1.1);have j:10^(bJ s).length<=10^mD:=gm (by omega) (by rw[mD];omega);exact gt d j
  ·rw[if_neg hf];exact Nat.one_lt_pow (by decide) (by omega)
open Go
def cJ(l:List UInt8):List Nat:=l.map (·.toNat)
theorem Sm(l:List UInt8):(cJ l).map hR=l:=by
 induction l with
 |nil=>rfl
 |cons a r b=>simp only[cJ,gc]at b⊢;rw[b];simp
def mr(c:Nat):List Nat->Nat->Int
 |[],_=>-1
 |x::r,i=>bif ht x c then(i:Int)else mr c r (i+1)
theorem JW(c:UInt8):∀(l:List UInt8)(i:Nat),mr c.toNat (cJ l) i=if bo l c= -1 then -1 else bo l c+i
 |[],i=>by simp[mr,cJ,bo]
 |x::r,i=>by
  have b:=JW c r (i+1);simp only[cJ]at b;simp only[cJ,gc,mr,bo]
  by_cases hx:x=c
  ·subst hx;simp
  ·have e:ht x.toNat c.toNat=false:=by
    cases d:ht x.toNat c.toNat
    ·rfl
    ·exact(hx (hQ.1 (hy d))).elim
   have f:=Lib.indexByte_ge r c;simp only[e,cond_false,b,beq_iff_eq,hx,if_false]
   by_cases a:bo r c= -1
   ·simp[a]
   ·rw[if_neg a,if_neg a];rw[if_neg (by omega)];omega
theorem JX(c:Nat):∀(s:List Nat)(k:Nat),((bS c s).2.2=false/\mr c s k= -1/\bS c s=(s,[],false))\/
 ∃i,i<s.length/\mr c s k=((k+i:Nat):Int)/\bS c s=(s.take i,s.drop (i+1),true)
 |[],k=>by simp[bS,mr]
 |x::r,k=>by
  rw[bS,mr]
  by_cases h:x=c
  ·subst h;right;refine⟨0,by simp,?_,?_⟩
   ·simp
   ·simp
  ·have d:ht x c=false:=by
    cases d:ht x c
    ·rfl
    ·exact(h (hy d)).elim
   rw[d,if_neg h,cond_false];rcases JX c r (k+1)with⟨e,a,b⟩|⟨i,e,a,b⟩
   ·left;exact⟨e,a,by rw[b]⟩
   ·right;refine⟨i+1,by simp;omega,?_,?_⟩
    ·rw[a];congr 1;omega
    ·rw[b];simp
theorem zP(n:Nat):cJ (bk n)=aW n:=by
 induction n using Nat.strongRecOn with
 |ind n a=>
  rw[bk]
  by_cases h:n<10
  ·rw[dif_pos h,aW];have c:nd n<=1:=qB (by omega);rw[show max 1 (nd n)=1 by omega];rw[show(1:Nat)=0+1 from rfl,rS,low,List.nil_append,g7 h];simp[cJ,hS];omega
  ·rw[dif_neg h];have b:=a (n/10) (by omega);have e:nd n=nd (n/10)+1:=by
    have:=Co (n:=n) (k:=1) (by omega);rw[hl]at this;exact this
   have d:0<nd (n/10):=vg (by omega);rw[aW,e,show max 1 (nd (n/10)+1)=max 1 (nd (n/10))+1 by omega,rS];have:cJ (bk (n/10)++[hR (48+n% 10)])=cJ (bk (n/10))++[48+n% 10]:=by
    simp[cJ,hS];omega
   rw[this,b,aW]
theorem aye(z:Int):cJ (cc z)=bD z:=by
 rw[cc,bD]
 by_cases h:z<0
 ·rw[if_pos h,if_pos h];show 45::cJ _=_;rw[zP]
 ·rw[if_neg h,if_neg h,zP];congr 1;omega
def qX(s:List Nat):Nat->List Nat
 |0=>[]
 |n+1=>s++qX s n
theorem Ja(s:List UInt8):∀n,qX (cJ s) n=cJ (b5 s n)
 |0=>by simp[qX,b5,cJ]
 |n+1=>by
  have a:=Ja s n;simp only[cJ]at a;simp[qX,b5,cJ,a]
theorem A4(c:Nat):∀n,qX [c] n=gb n c
 |0=>rfl
 |n+1=>by rw[qX,A4 c n];rfl
theorem As(l:List UInt8):b2 l [45]=bP (cJ l):=by
 cases l with
 |nil=>rfl
 |cons c r=>
  rw[b2,bP];simp only[cJ,gc,List.isPrefixOf,fv,aT,Option.some.injEq]
  by_cases h:c=45
  ·subst h;rfl
  ·have a:¬c.toNat=45:=fun e=>h (hQ.1 e);have b:((45:UInt8)==c)=false:=by simpa using fun e=>h e.symm
   rw[b];simp[a]
theorem GJ(l:List UInt8):cJ (b1 l [45])=cF (cJ l):=by
 rw[b1,As,cF];cases h:bP (cJ l)
 ·simp
 ·cases l with
  |nil=>simp[cJ,bP]at h
  |cons c r=>simp[cJ]
def kr(s:List Nat):List Nat:=s.dropWhile bX
def iu(s:List Nat):List Nat:=(s.reverse.dropWhile bX).reverse
theorem wy{p:Nat->Bool}:∀{s:List Nat},s.dropWhile p=[]↔s.all p=true
 |[]=>by simp
 |x::r=>by
  rw[List.dropWhile_cons];cases h:p x
  ·simp[h]
  ·simp[h,wy]
theorem SY(s:List Nat):kr (iu s)=[]↔s.all bX=true:=by
 rw[kr,wy,iu];constructor
 ·intro h
  by_cases a:s.reverse.dropWhile bX=[]
  ·rw[wy,fl]at a;exact a
  ·have b:=List.head_dropWhile_not bX a;rw[fl,fm]at h;rw[h _ (List.head_mem a)]at b;cases b
 ·intro h;have:s.reverse.dropWhile bX=[]:=by rw[wy,fl];exact h
  rw[this];rfl
end Go.al
namespace Go.Proofs
open Go.Shelf
def Tryz.R9:dl:=⟨fun|103=>251|210=>294|206=>297|n=>n,fun|9=>9|4=>4|24=>309|3=>3|n=>n,fun|n=>n⟩
theorem Tryz.azw:db prog R9:={
 mixed:=by kernel_rfl
 f103:=func251.trans (congrArg some (by kernel_rfl))
 f206:=func297.trans (congrArg some (by kernel_rfl))
 f210:=func294.trans (congrArg some (by kernel_rfl))
 t3:=underlying3
 a3:=isAgg3
 z3:=sizeOf3
 v3:=zeroValue3
 t4:=underlying4
 a4:=isAgg4
 z4:=sizeOf4
 v4:=zeroValue4
 t9:=underlying9
 a9:=isAgg9
 z9:=sizeOf9
 v9:=zeroValue9
 t24:=underlying309
 a24:=isAgg309
 z24:=sizeOf309
 v24:=zeroValue309}
open Go.RowKit in
theorem Tryz.strings_CutPrefix(s p:ByteArray)(w:bb):
 be prog 251 #[.string s,.string p] w fun e w'=>e=.returned (.tuple #[.string ⟨(b1 s.data.toList p.data.toList).toArray⟩,.bool (b2 s.data.toList p.data.toList)])/\w'=w:=Any.strings_CutPrefix azw s p w
def Tryz.R4:dl:=⟨fun|283=>323|n=>n,fun|3=>3|9=>9|4=>4|n=>n,fun|n=>n⟩
theorem Tryz.azE:cy prog R4:={
 mixed:=by kernel_rfl
 f283:=func323.trans (congrArg some (by kernel_rfl))
 t3:=underlying3
 a3:=isAgg3
 z3:=sizeOf3
 v3:=zeroValue3
 t4:=underlying4
 a4:=isAgg4
 z4:=sizeOf4
 v4:=zeroValue4
 t9:=underlying9
 a9:=isAgg9
 z9:=sizeOf9
 v9:=zeroValue9}
open Go.Lib in
theorem Tryz.internal_strconv_small(i:Nat)(h:i<100)(w:bb):
 be prog 323 #[.int .i64 i] w fun e w'=>e=.returned (.string ⟨(bk i).toArray⟩)/\w'=w:=Any.internal_strconv_small azE i h w
def Tryz.Rn:dl:=⟨fun|284=>324|129=>312|317=>362|318=>363|n=>n,fun|53=>304|3=>3|212=>396|0=>0|4=>4|46=>323|5=>5|9=>9|n=>n,fun|17=>1|n=>n⟩
theorem Tryz.Vh:Go.Proofs.LaysM.n284 prog Rn:={
 mixed:=by kernel_rfl
 f129:=func312.trans (congrArg some (by kernel_rfl))
 f284:=func324.trans (congrArg some (by kernel_rfl))
 f317:=func362.trans (congrArg some (by kernel_rfl))
 f318:=func363.trans (congrArg some (by kernel_rfl))
 t0:=underlying0
 a0:=isAgg0
 z0:=sizeOf0
 v0:=zeroValue0
 t3:=underlying3
 a3:=isAgg3
 z3:=sizeOf3
 v3:=zeroValue3
 t4:=underlying4
 a4:=isAgg4
 z4:=sizeOf4
 v4:=zeroValue4
 t5:=underlying5
 a5:=isAgg5
 z5:=sizeOf5
 v5:=zeroValue5
 t9:=underlying9
 a9:=isAgg9
 z9:=sizeOf9
 v9:=zeroValue9
 t46:=underlying323
 a46:=isAgg323
 z46:=sizeOf323
 v46:=zeroValue323
 t53:=underlying304
 a53:=isAgg304
 z53:=sizeOf304
 v53:=zeroValue304
 t212:=underlying396
 a212:=isAgg396
 z212:=sizeOf396
 v212:=zeroValue396
 g17:=by kernel_rfl
 i0:=by kernel_rfl
 i3:=by kernel_rfl
 i4:=by kernel_rfl
 i5:=by kernel_rfl
 i9:=by kernel_rfl
 i46:=by kernel_rfl
 i53:=by kernel_rfl
 i212:=by kernel_rfl
 m17:=by kernel_rfl}
open Go.Lib in
theorem Tryz.internal_strconv_numDigits(u:Nat)(h1:1<=u)(h2:u<18446744073709551616)(w:bb)(htab:b4 prog w "internal/strconv.uint64pow10" .u64 b3):
 be prog 324 #[.int .u64 u] w fun e w'=>e=.returned (.int .i64 (bl u))/\w'=w:=Any.internal_strconv_numDigits Vh u h1 h2 w htab
def Tryz.R3:dl:=⟨fun|285=>325|n=>n,fun|37=>223|53=>304|3=>3|4=>4|51=>355|9=>9|5=>5|0=>0|n=>n,fun|n=>n⟩
theorem Tryz.azF:cx prog R3:={
 mixed:=by kernel_rfl
 f285:=func325.trans (congrArg some (by kernel_rfl))
 t0:=underlying0
 a0:=isAgg0
 z0:=sizeOf0
 v0:=zeroValue0
 t3:=underlying3
 a3:=isAgg3
 z3:=sizeOf3
 v3:=zeroValue3
 t4:=underlying4
 a4:=isAgg4
 z4:=sizeOf4
 v4:=zeroValue4
 t5:=underlying5
 a5:=isAgg5
 z5:=sizeOf5
 v5:=zeroValue5
 t9:=underlying9
 a9:=isAgg9
 z9:=sizeOf9
 v9:=zeroValue9
 t37:=underlying223
 a37:=isAgg223
 z37:=sizeOf223
 v37:=zeroValue223
 t51:=underlying355
 a51:=isAgg355
 z51:=sizeOf355
 v51:=zeroValue355
 t53:=underlying304
 a53:=isAgg304
 z53:=sizeOf304
 v53:=zeroValue304}
open Go.RowKit Go.Sort Go.Lib in
theorem Tryz.internal_strconv_formatBase10(ak off cap:Nat)(u:Nat)(d:Array UInt8)(w:bb)(hH:Holds (fun(b:UInt8)=>dq .u8 (b.toNat:Int)) w ak off d)(hu:u<10^d.size)(hu64:u<18446744073709551616)(hsz:d.size<4611686018427387904):
 be prog 325 #[.slice (some ⟨ak,off,none⟩) d.size cap,.int .u64 u] w fun e w'=>
  e=.returned (.tuple #[])/\∃(n v':Nat)(dk:Array UInt8),w'=(putRow (fun(b:UInt8)=>dq .u8 (b.toNat:Int)) w ak off dk).drewN n/\FmtInv d.size u 0 v' dk:=Any.internal_strconv_formatBase10 azF ak off cap u d w hH hu hu64 hsz
def Tryz.Q9:dl:=⟨fun|171=>153|243=>227|246=>280|283=>323|284=>324|285=>325|286=>326|129=>312|317=>362|318=>363|319=>364|320=>365|337=>380|338=>381|n=>n,fun|3=>3|9=>9|2=>2|4=>4|171=>362|0=>0|53=>304|37=>223|5=>5|173=>364|212=>396|51=>355|20=>20|213=>397|46=>323|232=>420|233=>421|n=>n,fun|17=>1|18=>6|19=>7|n=>n⟩
theorem Tryz.Vi:Go.Proofs.LaysM.n171 prog Q9:={
 mixed:=by kernel_rfl
 f129:=func312.trans (congrArg some (by kernel_rfl))
 f171:=func153.trans (congrArg some (by kernel_rfl))
 f243:=func227.trans (congrArg some (by kernel_rfl))
 f246:=func280.trans (congrArg some (by kernel_rfl))
 f283:=func323.trans (congrArg some (by kernel_rfl))
 f284:=func324.trans (congrArg some (by kernel_rfl))
 f285:=func325.trans (congrArg some (by kernel_rfl))
 f286:=func326.trans (congrArg some (by kernel_rfl))
 f317:=func362.trans (congrArg some (by kernel_rfl))
 f318:=func363.trans (congrArg some (by kernel_rfl))
 f319:=func364.trans (congrArg some (by kernel_rfl))
 f320:=func365.trans (congrArg some (by kernel_rfl))
 f337:=func380.trans (congrArg some (by kernel_rfl))
 f338:=func381.trans (congrArg some (by kernel_rfl))
 t0:=underlying0
 a0:=isAgg0
 z0:=sizeOf0
 v0:=zeroValue0
 t2:=underlying2
 a2:=isAgg2
 z2:=sizeOf2
 v2:=zeroValue2
 t3:=underlying3
 a3:=isAgg3
 z3:=sizeOf3
 v3:=zeroValue3
 t4:=underlying4
 a4:=isAgg4
 z4:=sizeOf4
 v4:=zeroValue4
 t5:=underlying5
 a5:=isAgg5
 z5:=sizeOf5
 v5:=zeroValue5
 t9:=underlying9
 a9:=isAgg9
 z9:=sizeOf9
 v9:=zeroValue9
 t20:=underlying20
 a20:=isAgg20
 z20:=sizeOf20
 v20:=zeroValue20
 t37:=underlying223
 a37:=isAgg223
 z37:=sizeOf223
 v37:=zeroValue223
 t46:=underlying323
 a46:=isAgg323
 z46:=sizeOf323
 v46:=zeroValue323
 t51:=underlying355
 a51:=isAgg355
 z51:=sizeOf355
 v51:=zeroValue355
 t53:=underlying304
 a53:=isAgg304
 z53:=sizeOf304
 v53:=zeroValue304
 t171:=underlying362
 a171:=isAgg362
 z171:=sizeOf362
 v171:=zeroValue362
 t173:=underlying364
 a173:=isAgg364
 z173:=sizeOf364
 v173:=zeroValue364
 t212:=underlying396
 a212:=isAgg396
 z212:=sizeOf396
 v212:=zeroValue396
 t213:=underlying397
 a213:=isAgg397
 z213:=sizeOf397
 t232:=underlying420
 a232:=isAgg420
 z232:=sizeOf420
 v232:=zeroValue420
 t233:=underlying421
 a233:=isAgg421
 z233:=sizeOf421
 v233:=zeroValue421
 g17:=by kernel_rfl
 g18:=by kernel_rfl
 g19:=by kernel_rfl
 i0:=by kernel_rfl
 i2:=by kernel_rfl
 i3:=by kernel_rfl
 i4:=by kernel_rfl
 i5:=by kernel_rfl
 i9:=by kernel_rfl
 i20:=by kernel_rfl
 i37:=by kernel_rfl
 i46:=by kernel_rfl
 i51:=by kernel_rfl
 i53:=by kernel_rfl
 i171:=by kernel_rfl
 i173:=by kernel_rfl
 i212:=by kernel_rfl
 i232:=by kernel_rfl
 i233:=by kernel_rfl
 m17:=by kernel_rfl
 m18:=by kernel_rfl
 m19:=by kernel_rfl}
open Go.RowKit Go.Sort Go.Lib in
theorem Tryz.strconv_Itoa(n:Int)(h0: -9223372036854775808<=n)(h1:n<=9223372036854775807)(w:bb)(htab:b4 prog w "internal/strconv.uint64pow10" .u64 b3):
 be prog 153 #[.int .i64 n] w fun e w'=>e=.returned (.string ⟨(cc n).toArray⟩)/\∃k os,w'=grow (w.drewN k) os:=Any.strconv_Itoa Vi n h0 h1 w htab
def Tryz.Ra:dl:=⟨fun|172=>260|244=>299|245=>300|247=>347|279=>348|280=>349|281=>350|282=>351|287=>375|316=>376|171=>153|205=>377|321=>385|322=>386|243=>227|246=>280|283=>323|284=>324|285=>325|286=>326|129=>312|317=>362|318=>363|319=>364|320=>365|337=>380|338=>381|n=>n,fun|9=>9|3=>3|75=>227|76=>228|4=>4|5=>5|167=>379|37=>223|0=>0|85=>380|2=>2|168=>382|53=>304|175=>405|46=>323|210=>409|127=>329|145=>419|143=>417|21=>21|171=>362|173=>364|212=>396|51=>355|20=>20|213=>397|232=>420|233=>421|80=>289|n=>n,fun|15=>4|16=>5|17=>1|18=>6|19=>7|n=>n⟩
theorem Tryz.Vj:Go.Proofs.LaysC.n172 prog Ra:={
 mixed:=by kernel_rfl
 f129:=func312.trans (congrArg some (by kernel_rfl))
 f171:=func153.trans (congrArg some (by kernel_rfl))
 f172:=func260.trans (congrArg some (by kernel_rfl))
 f205:=func377.trans (congrArg some (by kernel_rfl))
 f243:=func227.trans (congrArg some (by kernel_rfl))
 f244:=func299.trans (congrArg some (by kernel_rfl))
 f245:=func300.trans (congrArg some (by kernel_rfl))
 f246:=func280.trans (congrArg some (by kernel_rfl))
 f247:=func347.trans (congrArg some (by kernel_rfl))
 f279:=func348.trans (congrArg some (by kernel_rfl))
 f280:=func349.trans (congrArg some (by kernel_rfl))
 f281:=func350.trans (congrArg some (by kernel_rfl))
 f282:=func351.trans (congrArg some (by kernel_rfl))
 f283:=func323.trans (congrArg some (by kernel_rfl))
 f284:=func324.trans (congrArg some (by kernel_rfl))
 f285:=func325.trans (congrArg some (by kernel_rfl))
 f286:=func326.trans (congrArg some (by kernel_rfl))
 f287:=func375.trans (congrArg some (by kernel_rfl))
 f316:=func376.trans (congrArg some (by kernel_rfl))
 f317:=func362.trans (congrArg some (by kernel_rfl))
 f318:=func363.trans (congrArg some (by kernel_rfl))
 f319:=func364.trans (congrArg some (by kernel_rfl))
 f320:=func365.trans (congrArg some (by kernel_rfl))
 f321:=func385.trans (congrArg some (by kernel_rfl))
 f322:=func386.trans (congrArg some (by kernel_rfl))
 f337:=func380.trans (congrArg some (by kernel_rfl))
 f338:=func381.trans (congrArg some (by kernel_rfl))
 t0:=underlying0
 a0:=isAgg0
 z0:=sizeOf0
 v0:=zeroValue0
 t2:=underlying2
 a2:=isAgg2
 z2:=sizeOf2
 v2:=zeroValue2
 t3:=underlying3
 a3:=isAgg3
 z3:=sizeOf3
 v3:=zeroValue3
 t4:=underlying4
 a4:=isAgg4
 z4:=sizeOf4
 v4:=zeroValue4
 t5:=underlying5
 a5:=isAgg5
 z5:=sizeOf5
 v5:=zeroValue5
 t9:=underlying9
 a9:=isAgg9
 z9:=sizeOf9
 v9:=zeroValue9
 t20:=underlying20
 a20:=isAgg20
 z20:=sizeOf20
 v20:=zeroValue20
 t21:=underlying21
 a21:=isAgg21
 z21:=sizeOf21
 v21:=zeroValue21
 t37:=underlying223
 a37:=isAgg223
 z37:=sizeOf223
 v37:=zeroValue223
 t46:=underlying323
 a46:=isAgg323
 z46:=sizeOf323
 v46:=zeroValue323
 t51:=underlying355
 a51:=isAgg355
 z51:=sizeOf355
 v51:=zeroValue355
 t53:=underlying304
 a53:=isAgg304
 z53:=sizeOf304
 v53:=zeroValue304
 t75:=underlying227
 a75:=isAgg227
 z75:=sizeOf227
 v75:=zeroValue227
 t76:=underlying228
 a76:=isAgg228
 z76:=sizeOf228
 v76:=zeroValue228
 t85:=underlying380
 a85:=isAgg380
 z85:=sizeOf380
 v85:=zeroValue380
 t127:=underlying329
 a127:=isAgg329
 z127:=sizeOf329
 v127:=zeroValue329
 t143:=underlying417
 a143:=isAgg417
 z143:=sizeOf417
 v143:=zeroValue417
 t145:=underlying419
 a145:=isAgg419
 z145:=sizeOf419
 v145:=zeroValue419
 t167:=underlying379
 a167:=isAgg379
 z167:=sizeOf379
 v167:=zeroValue379
 t168:=underlying382
 a168:=isAgg382
 z168:=sizeOf382
 v168:=zeroValue382
 t171:=underlying362
 a171:=isAgg362
 z171:=sizeOf362
 v171:=zeroValue362
 t173:=underlying364
 a173:=isAgg364
 z173:=sizeOf364
 v173:=zeroValue364
 t175:=underlying405
 a175:=isAgg405
 z175:=sizeOf405
 v175:=zeroValue405
 t210:=underlying409
 a210:=isAgg409
 z210:=sizeOf409
 v210:=zeroValue409
 t212:=underlying396
 a212:=isAgg396
 z212:=sizeOf396
 v212:=zeroValue396
 t213:=underlying397
 a213:=isAgg397
 z213:=sizeOf397
 t232:=underlying420
 a232:=isAgg420
 z232:=sizeOf420
 v232:=zeroValue420
 t233:=underlying421
 a233:=isAgg421
 z233:=sizeOf421
 v233:=zeroValue421
 g15:=by kernel_rfl
 g16:=by kernel_rfl
 g17:=by kernel_rfl
 g18:=by kernel_rfl
 g19:=by kernel_rfl
 t80:=underlying289
 a80:=isAgg289
 z80:=sizeOf289
 v80:=zeroValue289
 i0:=by kernel_rfl
 i2:=by kernel_rfl
 i3:=by kernel_rfl
 i4:=by kernel_rfl
 i5:=by kernel_rfl
 i9:=by kernel_rfl
 i20:=by kernel_rfl
 i21:=by kernel_rfl
 i37:=by kernel_rfl
 i46:=by kernel_rfl
 i51:=by kernel_rfl
 i53:=by kernel_rfl
 i75:=by kernel_rfl
 i76:=by kernel_rfl
 i80:=by kernel_rfl
 i85:=by kernel_rfl
 i127:=by kernel_rfl
 i143:=by kernel_rfl
 i145:=by kernel_rfl
 i167:=by kernel_rfl
 i168:=by kernel_rfl
 i171:=by kernel_rfl
 i173:=by kernel_rfl
 i175:=by kernel_rfl
 i210:=by kernel_rfl
 i212:=by kernel_rfl
 i232:=by kernel_rfl
 i233:=by kernel_rfl
 m15:=by kernel_rfl
 m16:=by kernel_rfl
 m17:=by kernel_rfl
 m18:=by kernel_rfl
 m19:=by kernel_rfl
 c0:=by kernel_rfl
 c2:=by kernel_rfl
 c3:=by kernel_rfl
 c4:=by kernel_rfl
 c5:=by kernel_rfl
 c9:=by kernel_rfl
 c20:=by kernel_rfl
 c21:=by kernel_rfl
 c37:=by kernel_rfl
 c46:=by kernel_rfl
 c51:=by kernel_rfl
 c53:=by kernel_rfl
 c75:=by kernel_rfl
 c76:=by kernel_rfl
 c80:=by kernel_rfl
 c85:=by kernel_rfl
 c127:=by kernel_rfl
 c143:=by kernel_rfl
 c145:=by kernel_rfl
 c167:=by kernel_rfl
 c168:=by kernel_rfl
 c171:=by kernel_rfl
 c173:=by kernel_rfl
 c175:=by kernel_rfl
 c210:=by kernel_rfl
 c212:=by kernel_rfl
 c213:=by kernel_rfl
 c232:=by kernel_rfl
 c233:=by kernel_rfl}
open Go.RowKit in
theorem Tryz.strconv_Atoi_ok(s:ByteArray)(hmax:s.size<=9223372036854775806)(v:Int)(h:ce s.data.toList= .ok v)(w:bb):
 be prog 260 #[.string s] w fun e w'=>e=.returned (.tuple #[.int .i64 v,.nilIface])/\(w'=w\/∃t,w'=Lib.bytesWorld w 5 t):=Any.strconv_Atoi_ok Vj s hmax v h w
def Tryz.R6:dl:=⟨fun|219=>296|217=>343|225=>344|224=>345|267=>346|266=>373|314=>374|n=>n,fun|9=>9|3=>3|4=>4|5=>5|46=>323|146=>400|51=>355|n=>n,fun|1=>0|n=>n⟩
theorem Tryz.azC:c6 prog R6:={
 mixed:=by kernel_rfl
 f217:=func343.trans (congrArg some (by kernel_rfl))
 f219:=func296.trans (congrArg some (by kernel_rfl))
 f224:=func345.trans (congrArg some (by kernel_rfl))
 f225:=func344.trans (congrArg some (by kernel_rfl))
 f266:=func373.trans (congrArg some (by kernel_rfl))
 f267:=func346.trans (congrArg some (by kernel_rfl))
 f314:=func374.trans (congrArg some (by kernel_rfl))
 t3:=underlying3
 a3:=isAgg3
 z3:=sizeOf3
 v3:=zeroValue3
 t4:=underlying4
 a4:=isAgg4
 z4:=sizeOf4
 v4:=zeroValue4
 t5:=underlying5
 a5:=isAgg5
 z5:=sizeOf5
 v5:=zeroValue5
 t9:=underlying9
 a9:=isAgg9
 z9:=sizeOf9
 v9:=zeroValue9
 t46:=underlying323
 a46:=isAgg323
 z46:=sizeOf323
 v46:=zeroValue323
 t51:=underlying355
 a51:=isAgg355
 z51:=sizeOf355
 v51:=zeroValue355
 t146:=underlying400
 a146:=isAgg400
 z146:=sizeOf400
 v146:=zeroValue400
 g1:=by kernel_rfl}
open Go.RowKit Go.Lib in
theorem Tryz.stringslite_Index_one(s:ByteArray)(c:UInt8)(w:bb):
 be prog 296 #[.string s,.string ⟨#[c]⟩] w fun e w'=>e=.returned (.int .i64 (bo s.data.toList c))/\w'=w:=Any.stringslite_Index_one azC s c w
def Tryz.SP:dl:=⟨fun|99=>258|206=>297|n=>n,fun|9=>9|4=>4|3=>3|n=>n,fun|n=>n⟩
theorem Tryz.azG:cv prog SP:={
 mixed:=by kernel_rfl
 f99:=func258.trans (congrArg some (by kernel_rfl))
 f206:=func297.trans (congrArg some (by kernel_rfl))
 t3:=underlying3
 a3:=isAgg3
 z3:=sizeOf3
 v3:=zeroValue3
 t4:=underlying4
 a4:=isAgg4
 z4:=sizeOf4
 v4:=zeroValue4
 t9:=underlying9
 a9:=isAgg9
 z9:=sizeOf9
 v9:=zeroValue9}
open Go.RowKit Go.Lib in
theorem Tryz.strings_HasPrefix(s p:ByteArray)(w:bb):
 be prog 258 #[.string s,.string p] w fun e w'=>e=.returned (.bool (b2 s.data.toList p.data.toList))/\w'=w:=Any.strings_HasPrefix azG s p w
def Tryz.Sa:dl:=⟨fun|101=>259|208=>298|206=>297|n=>n,fun|9=>9|4=>4|3=>3|n=>n,fun|n=>n⟩
theorem Tryz.azv:dg prog Sa:={
 mixed:=by kernel_rfl
 f101:=func259.trans (congrArg some (by kernel_rfl))
 f206:=func297.trans (congrArg some (by kernel_rfl))
 f208:=func298.trans (congrArg some (by kernel_rfl))
 t3:=underlying3
 a3:=isAgg3
 z3:=sizeOf3
 v3:=zeroValue3
 t4:=underlying4
 a4:=isAgg4
 z4:=sizeOf4
 v4:=zeroValue4
 t9:=underlying9
 a9:=isAgg9
 z9:=sizeOf9
 v9:=zeroValue9}
open Go.RowKit Go.Lib in
theorem Tryz.strings_TrimPrefix(s p:ByteArray)(w:bb):
 be prog 259 #[.string s,.string p] w fun e w'=>e=.returned (.string ⟨(b1 s.data.toList p.data.toList).toArray⟩)/\w'=w:=Any.strings_TrimPrefix azv s p w
def Tryz.Gt:dl:=⟨fun|105=>293|212=>335|99=>258|165=>279|166=>151|170=>228|169=>229|263=>369|264=>246|206=>297|240=>225|241=>322|276=>278|277=>361|n=>n,fun|9=>9|3=>3|4=>4|20=>20|0=>0|46=>323|109=>369|5=>5|72=>225|76=>228|51=>355|146=>400|53=>304|148=>305|70=>222|37=>223|75=>227|127=>329|164=>325|80=>289|n=>n,fun|n=>n⟩
theorem Tryz.azx:da prog Gt:={
 mixed:=by kernel_rfl
 f99:=func258.trans (congrArg some (by kernel_rfl))
 f105:=func293.trans (congrArg some (by kernel_rfl))
 f165:=func279.trans (congrArg some (by kernel_rfl))
 f166:=func151.trans (congrArg some (by kernel_rfl))
 f169:=func229.trans (congrArg some (by kernel_rfl))
 f170:=func228.trans (congrArg some (by kernel_rfl))
 f206:=func297.trans (congrArg some (by kernel_rfl))
 f212:=func335.trans (congrArg some (by kernel_rfl))
 f240:=func225.trans (congrArg some (by kernel_rfl))
 f241:=func322.trans (congrArg some (by kernel_rfl))
 f263:=func369.trans (congrArg some (by kernel_rfl))
 f264:=func246.trans (congrArg some (by kernel_rfl))
 f276:=func278.trans (congrArg some (by kernel_rfl))
 f277:=func361.trans (congrArg some (by kernel_rfl))
 t0:=underlying0
 a0:=isAgg0
 z0:=sizeOf0
 v0:=zeroValue0
 t3:=underlying3
 a3:=isAgg3
 z3:=sizeOf3
 v3:=zeroValue3
 t4:=underlying4
 a4:=isAgg4
 z4:=sizeOf4
 v4:=zeroValue4
 t5:=underlying5
 a5:=isAgg5
 z5:=sizeOf5
 v5:=zeroValue5
 t9:=underlying9
 a9:=isAgg9
 z9:=sizeOf9
 v9:=zeroValue9
 t20:=underlying20
 a20:=isAgg20
 z20:=sizeOf20
 v20:=zeroValue20
 t37:=underlying223
 a37:=isAgg223
 z37:=sizeOf223
 v37:=zeroValue223
 t46:=underlying323
 a46:=isAgg323
 z46:=sizeOf323
 v46:=zeroValue323
 t51:=underlying355
 a51:=isAgg355
 z51:=sizeOf355
 v51:=zeroValue355
 t53:=underlying304
 a53:=isAgg304
 z53:=sizeOf304
 v53:=zeroValue304
 t70:=underlying222
 a70:=isAgg222
 z70:=sizeOf222
 v70:=zeroValue222
 t72:=underlying225
 a72:=isAgg225
 z72:=sizeOf225
 v72:=zeroValue225
 t75:=underlying227
 a75:=isAgg227
 z75:=sizeOf227
 v75:=zeroValue227
 t76:=underlying228
 a76:=isAgg228
 z76:=sizeOf228
 v76:=zeroValue228
 t109:=underlying369
 a109:=isAgg369
 z109:=sizeOf369
 v109:=zeroValue369
 t127:=underlying329
 a127:=isAgg329
 z127:=sizeOf329
 v127:=zeroValue329
 t146:=underlying400
 a146:=isAgg400
 z146:=sizeOf400
 v146:=zeroValue400
 t148:=underlying305
 a148:=isAgg305
 z148:=sizeOf305
 v148:=zeroValue305
 t164:=underlying325
 a164:=isAgg325
 z164:=sizeOf325
 v164:=zeroValue325}
theorem Tryz.QG:Builder.Extra prog Gt:={
 sizeBuilder:=by kernel_rfl
 liesBuilder:=by kernel_rfl
 t5:=underlying5
 a5:=isAgg5
 z5:=sizeOf5
 v5:=zeroValue5
 infoByte:=by kernel_rfl
 cellsByte:=by kernel_rfl
 sizeByte:=by kernel_rfl
 neB5:=by decide}
open Go.RowKit Go.Lib in
theorem Tryz.strings_Repeat(s:ByteArray)(c:Nat)(w:bb)(hc:c<=9223372036854775807)(hlen:s.size*c<=140737488355328):
 be prog 293 #[.string s,.int .i64 c] w fun e w'=>e=.returned (.string ⟨(b5 s.data.toList c).toArray⟩)/\Below w.heap.size w w':=Any.strings_Repeat azx QG s c w hc hlen
end Go.Proofs
namespace Go.Proofs
open Go.Shelf Go.RowKit Go.Sort Go.Lib
set_option maxHeartbeats 6400000 in
set_option maxRecDepth 100000 in
theorem Tryz.QE(u:Nat)(hu64:u<18446744073709551616)(w:bb)
 (htab:b4 prog w "internal/strconv.uint64pow10" .u64 b3):
 be prog 334 #[.int .u64 u,.int .i64 10] w fun e w'=>e=.returned (.string ⟨(bk u).toArray⟩)/\∃k os,w'=grow (w.drewN k) os:=by
 have e323:∀args w,(callFunc 323 args).run prog w=.ok (.enter 323 args) w:=enters_of func323 (by kernel_rfl) rfl;have e324:∀args w,(callFunc 324 args).run prog w=.ok (.enter 324 args) w:=enters_of func324 (by kernel_rfl) rfl;have e325:∀args w,(callFunc 325 args).run prog w=.ok (.enter 325 args) w:=enters_of func325 (by kernel_rfl) rfl
 by_cases hs:u<100
 ·go_enter func334,ntmps334
  go_wp2_with (go_at_fn 323;refine(internal_strconv_small u hs _).mono ?_;rintro e w' ⟨rfl,rfl⟩)
  go_ret
  exact⟨rfl,0,#[],by simp[World.drewN_zero]⟩
 ·have hu1:1<=u:=by omega
  have hnd20:bl u<=20:=by have:=Lib.numDigits_eq u hu1 hu64;split at this<;>omega
  have hb3:bl u<=24:=by omega
  have hal:prog.arrayLen 362=24:=by kernel_rfl
  have hsl1:∀W,(Instr.sliceAt 362 (.pointer (some ⟨w.heap.size,0,none⟩)) none (some (.int .i64 (bl u:Int))) none).run prog W=.ok (.slice (some ⟨w.heap.size,0,none⟩) (bl u) 24) W:=fun W=>by
   rw[run_sliceAt_array_h W 362 ⟨w.heap.size,0,none⟩ (by kernel_rfl) .i64 (bl u:Int) (by omega) (by rw[hal];omega)]
   go_simp
  have hH0:=Lib.holds_zero0 w 362 (bl u) hb3;have hfmt:=internal_strconv_formatBase10 w.heap.size 0 24 u (Array.replicate (bl u) 0) (w.alloc (.cells b0 362)) hH0 (by rw[ao];exact Lib.lt_pow_nDigits u) hu64 (by rw[ao];omega);rw[ao]at hfmt;have HH0:=Lib.hid hH0;clear hH0 hal
  go_enter func334,ntmps334
  go_wp2_with (first
   |(go_at_fn 324;refine(internal_strconv_numDigits u hu1 hu64 _ (Lib.tabIs_alloc htab _)).mono ?_;rintro e w' ⟨rfl,rfl⟩))
  go_at_fn 325
  refine hfmt.mono ?_;rintro e w' ⟨rfl,k,v',dk,rfl,hF⟩;have hcv:(convert 223 9 (.slice (some ⟨w.heap.size,0,none⟩) (bl u) 24)).run prog ((putRow (fun(b:UInt8)=>dq .u8 (b.toNat:Int)) (w.alloc (.cells b0 362)) w.heap.size 0 dk).drewN k)=.ok (.string ⟨(bk u).toArray⟩) ((putRow (fun(b:UInt8)=>dq .u8 (b.toNat:Int)) (w.alloc (.cells b0 362)) w.heap.size 0 dk).drewN k):=by
   have h:=run_convert_bytes_back (P:=prog) ((putRow (fun(b:UInt8)=>dq .u8 (b.toNat:Int)) (w.alloc (.cells b0 362)) w.heap.size 0 dk).drewN k) 223 9 5 ⟨w.heap.size,0,none⟩ 24 (bk u) (by kernel_rfl) (by kernel_rfl) (by kernel_rfl) (fun j hj=>by
    rw[Lib.row_is_numeral hF j hj,Lib.add_plain,World.cell?_drewN];exact cell?_putRow (fun(b:UInt8)=>dq .u8 (b.toNat:Int)) _ w.heap.size 0 _ dk HH0.out (by rw[hF.size,ao]) j (by rw[hF.size];rw[cb]at hj;exact hj))
   rw[cb]at h;exact h
  go_wp2
  go_ret
  obtain⟨os,eo⟩:=Lib.fin_at w (.cells b0 362) dk k 0;exact⟨rfl,k,os,eo⟩
end Go.Proofs
namespace Go.al
open Go.Proofs
theorem sy{P:Program}{w:bb}{aa:Nat->Prop}(l:List UInt8):aA P w aa (.str (cJ l)) (.string ⟨l.toArray⟩):=by
 simp only[aA];exact⟨_,rfl,by simp[cJ]⟩
theorem mb{P:Program}{w:bb}{aa:Nat->Prop}{s:List Nat}{v:Value}(h:aA P w aa (.str s) v):∃bs:ByteArray,v=.string bs/\s=cJ bs.data.toList:=by
 simp only[aA]at h;obtain⟨bs,rfl,rfl⟩:=h;exact⟨bs,rfl,rfl⟩
theorem one_byte{w:bb}{aa:Nat->Prop}{c:Nat}{v:Value}(h:aA prog w aa (.str [c]) v):∃b:UInt8,v=.string ⟨#[b]⟩/\c=b.toNat:=by
 obtain⟨bs,rfl,f⟩:=mb h;clear h;have h:=f;clear f
 match e:bs.data.toList with
 |[]=>rw[e]at h;simp[cJ]at h
 |[b]=>
  rw[e]at h;simp[cJ]at h;refine⟨b,?_,h⟩;congr 1;cases bs with
  |mk d=>simp at e⊢;exact Array.ext' (by simpa using e)
 |a::b::r=>rw[e]at h;simp[cJ]at h
theorem Cu{w:bb}{aa:Nat->Prop}{v:Value}(h:aA prog w aa (.str [45]) v):v=.string ⟨#[45]⟩:=by
 obtain⟨b,rfl,a⟩:=one_byte h;have:b=45:=hQ.1 a.symm;rw[this]
theorem FT(s:List Nat)(c:Nat):az prog 296 [.str s,.str [c]] (.int .i64 (mr c s 0)):=by
 refine jg (il func296 (by kernel_rfl)) fun w aa g _ _ f=>?_;obtain⟨x,y,rfl,a,d⟩:=lV f;obtain⟨b,rfl,rfl⟩:=one_byte d;obtain⟨bs,rfl,rfl⟩:=mb a;refine(stringslite_Index_one bs b w).mono ?_;rintro e w' ⟨rfl,rfl⟩;refine⟨_,rfl,⟨gx _,fun _ _=>rfl,rfl,rfl⟩,fun w aa=>?_⟩;have e1:=JW b bs.data.toList 0;simp only[aA]at e1⊢;rw[e1]
 by_cases h:bo bs.data.toList b= -1<;>simp[h]
theorem WB(s:List Nat)(c:Nat)(h:s.length<=1048576):az prog 257 [.str s,.str [c]] (.aE [.str (bS c s).1,.str (bS c s).2.1,.bool (bS c s).2.2]):=by
 refine aM nf LO mix (by simp[f257]) ?_;simp[f257];refine c2 (FT s c) ?_;rcases JX c s 0 with⟨_,a,b⟩|⟨i,d,a,b⟩
 ·simp[a,b]
 ·rw[hG]at a;have w:=cH (i:=i) (by omega);have e1:((i:Int)+1).toNat=i+1:=by omega
  simp[a,b,w,e1];omega
theorem MZ(s:List Nat)(c:Nat)(h:s.length<=1048576):az prog 184 [.str s,.str [c]] (.aE [.str (bS c s).1,.str (bS c s).2.1,.bool (bS c s).2.2]):=by
 refine aM nf EI mix (by simp[f184]) ?_;simp[f184];refine c2 (WB s c h) ?_;simp
theorem We(s:List Nat):az prog 258 [.str s,.str [45]] (.bool (bP s)):=by
 refine jg (il func258 (by kernel_rfl)) fun w aa d _ _ c=>?_;obtain⟨x,y,rfl,a,b⟩:=lV c;obtain rfl:=Cu b;obtain⟨bs,rfl,rfl⟩:=mb a;refine(strings_HasPrefix bs _ w).mono ?_;rintro e w' ⟨rfl,rfl⟩;exact⟨_,rfl,⟨gx _,fun _ _=>rfl,rfl,rfl⟩,fun w aa=>by rw[<-As];simp only[aA]⟩
theorem Iq(s:List Nat):az prog 259 [.str s,.str [45]] (.str (cF s)):=by
 refine jg (il func259 (by kernel_rfl)) fun w aa d _ _ c=>?_;obtain⟨x,y,rfl,a,b⟩:=lV c;obtain rfl:=Cu b;obtain⟨bs,rfl,rfl⟩:=mb a;refine(strings_TrimPrefix bs _ w).mono ?_;rintro e w' ⟨rfl,rfl⟩;exact⟨_,rfl,⟨gx _,fun _ _=>rfl,rfl,rfl⟩,fun w aa=>by rw[<-GJ];exact sy _⟩
theorem VM(s:List Nat):az prog 251 [.str s,.str [45]] (.aE [.str (cF s),.bool (bP s)]):=by
 refine jg (il func251 (by kernel_rfl)) fun w aa d _ _ c=>?_;obtain⟨x,y,rfl,a,b⟩:=lV c;obtain rfl:=Cu b;obtain⟨bs,rfl,rfl⟩:=mb a;refine(strings_CutPrefix bs _ w).mono ?_;rintro e w' ⟨rfl,rfl⟩;refine⟨_,rfl,⟨gx _,fun _ _=>rfl,rfl,rfl⟩,fun w aa=>?_⟩;rw[<-GJ,<-As];simp only[aA,bm];refine⟨[_,_],⟨_,_,rfl,?_,_,_,rfl,rfl,rfl⟩,rfl⟩;exact⟨_,rfl,by simp[cJ]⟩
theorem Lp{w:bb}{aa:Nat->Prop}(b:l8 prog w aa):b4 prog w "internal/strconv.uint64pow10" .u64 b3:=by
 obtain⟨_,T,a⟩:=b.raw 1 _ rfl;have c:prog.globalNamed "internal/strconv.uint64pow10" =some 1:=by kernel_rfl
 simp only[b4,World.var?,c,Option.bind_some,a];rfl
theorem FR(n:Int)(b:-9223372036854775808<=n)(c:n<=9223372036854775807):az prog 153 [.int .i64 n] (.str (bD n)):=by
 refine jg (il func153 (by kernel_rfl)) fun w aa g _ f d=>?_;obtain⟨x,rfl,a⟩:=xE d;simp only[aA]at a;subst a;refine(strconv_Itoa n b c w (Lp f)).mono ?_;rintro e w' ⟨rfl,k,os,rfl⟩;refine⟨_,rfl,⟨?_,fun k hk=>?_,rfl,rfl⟩,fun w aa=>?_⟩
 ·simp[dp,World.drewN]
 ·simp only[dp];exact ap hk
 ·rw[<-aye];exact sy _
theorem WD(u:Nat)(f:u<18446744073709551616):az prog 334 [.int .u64 u,.int .i64 10] (.str (aW u)):=by
 refine jg (il func334 (by kernel_rfl)) fun w aa g _ d c=>?_;obtain⟨x,y,rfl,a,b⟩:=lV c;simp only[aA]at a b;subst a b;refine(QE u f w (Lp d)).mono ?_;rintro e w' ⟨rfl,k,os,rfl⟩;refine⟨_,rfl,⟨?_,fun k hk=>?_,rfl,rfl⟩,fun w aa=>?_⟩
 ·simp[dp,World.drewN]
 ·simp only[dp];exact ap hk
 ·rw[<-zP];exact sy _
theorem M0(u:Nat)(a:u<18446744073709551616):az prog 292 [.int .u64 u,.int .i64 10] (.str (aW u)):=by
 refine aM nf LM mix (by simp[f292]) ?_;simp[f292];refine c2 (WD u a) ?_;simp
theorem M5(s:List Nat)(c:Nat)(hc:c<=9223372036854775807)(g:s.length*c<=140737488355328):az prog 293 [.str s,.int .i64 c] (.str (qX s c)):=by
 refine jg (il func293 (by kernel_rfl)) fun w aa h _ i f=>?_;obtain⟨x,y,rfl,d,b⟩:=lV f;obtain⟨bs,rfl,rfl⟩:=mb d;simp only[aA]at b;subst b;refine(strings_Repeat bs c w hc (by simpa[cJ]using g)).mono ?_;rintro e w' ⟨rfl,a⟩;exact⟨_,rfl,⟨a.size,a.block,a.os,a.output⟩,fun w aa=>by
  rw[Ja];exact sy _⟩
theorem FU(s:List Nat)(v:Int)(h:ce (s.map hR)=.ok v)(d:s.length<=9223372036854775806):az prog 260 [.str s] (.aE [.int .i64 v,.fG]):=by
 refine jg (il func260 (by kernel_rfl)) fun w aa g _ i c=>?_;obtain⟨x,rfl,b⟩:=xE c;obtain⟨bs,rfl,rfl⟩:=mb b;rw[Sm]at h;refine(strconv_Atoi_ok bs (by simpa[cJ]using d) v h w).mono ?_;rintro e w' ⟨rfl,f⟩;refine⟨_,rfl,?_,fun w aa=>by simp[aA,bm]⟩;rcases f with rfl|⟨t,rfl⟩
 ·exact⟨gx _,fun _ _=>rfl,rfl,rfl⟩
 ·have a:=Lib.bytesWorld_below w 5 t;exact⟨a.size,a.block,a.os,a.output⟩
def tB:Nat:=1000000000000000000
theorem Cd:tB=10^18:=by decide
theorem JN:∀i,low i 0=gb i 48
 |0=>rfl
 |i+1=>by rw[rS,Nat.zero_div,JN i,List.replicate_succ']
theorem OV{r:Nat}(h:r<tB):gb (18-(aW r).length) 48++aW r=low 18 r:=by
 rw[pN,aW];have c:nd r<=18:=qB (by rw[<-Cd];exact h);obtain⟨k,hk⟩:∃k,k=max 1 (nd r):=⟨_,rfl⟩
 have d:k<=18:=by omega
 have b:r<10^k:=gt (Bn r) (gm (by decide) (by omega));rw[<-hk];have:=pQ (18-k) r (a:=k);have e:low 18 r=low (18-k) (r/10^k)++low k r:=by
  have:=pQ k r (18-k);rw[show 18-k+k=18 by omega]at this;exact this
 rw[e,hD b,JN]
theorem BS{r:Nat}(h:r<tB):(aW r).length<=18:=by
 rw[pN];have a:nd r<=18:=qB (by rw[<-Cd];exact h);omega
theorem UE{m:Nat}(h:tB<=m):aW m=aW (m/tB)++low 18 (m% tB):=by
 rw[Cd]at h⊢;have e:=Co (n:=m) (k:=18) h;have a:0<nd (m/10^18):=vg (hn h (g0 (by decide)));rw[aW,aW,show max 1 (nd m)=max 1 (nd (m/10^18))+18 by omega,pQ,BJ m 18 18 (gx _)]
def jc(m:Nat)(a:List (List Nat)):List Nat:=(if m=0 then[]else aW m)++a.reverse.flatten
def dZ(m:Nat):List Nat:=if m/tB=0 then aW m else low 18 (m% tB)
theorem IZ{m:Nat}(h:m≠0)(c:List (List Nat)):jc (m/tB) (c++[dZ m])=jc m c:=by
 rw[jc,jc,if_neg h,dZ,List.reverse_append]
 by_cases a:m/tB=0
 ·rw[if_pos a,if_pos a];simp
 ·rw[if_neg a,if_neg a];have:tB<=m:=by
   rcases hb m tB with b|b
   ·exact(a (hD b)).elim
   ·exact b
  rw[UE this];simp
theorem UG(a:List (List Nat)):jc 0 a=a.reverse.flatten:=by rw[jc,if_pos rfl];rfl
theorem xL(n:Nat):0<(aW n).length:=by rw[pN];omega
theorem HU(m:Nat):dZ m≠[]:=by
 intro h;have:(dZ m).length=0:=by rw[h];rfl
 rw[dZ]at this
 split at this
 ·have:=xL m;omega
 ·rw[pP]at this;omega
theorem HV(m:Nat):(dZ m).length<=18:=by
 rw[dZ]
 split
 ·rename_i h;have b:m<tB:=by
   rcases hb m tB with a|a
   ·exact a
   ·have:=hn a (show 0<tB by decide);omega
  exact BS b
 ·rw[pP];exact gx _
theorem JU{c:Nat}(h:bX c=true):c<256:=by
 simp only[bX,av,decide_eq_true_eq]at h;omega
end Go.al
namespace Go.Proofs
open Go.al
theorem Tryz.zM:prog.underlying 222=some (.pointer 225):=by kernel_rfl
theorem Tryz.Fo:prog.underlying 325=some .unsafePointer:=by kernel_rfl
theorem Tryz.FE:(prog.info? 225).map (·.size)=some 2:=by kernel_rfl
theorem Tryz.azH:liesAt prog prog.depth 225 (2/prog.cellsOf 225) 0 225 1=true:=by kernel_rfl
set_option maxHeartbeats 1000000 in
set_option maxRecDepth 100000 in
theorem Tryz.QM(b:Nat)(w:bb)(h0:w.cell? ⟨b,0,none⟩=some (.pointer (some ⟨b,0,none⟩))):
 be prog 225 #[.pointer (some ⟨b,0,none⟩)] w fun e w'=>e=.returned (.tuple #[])/\w'=w:=by
 obtain⟨j,hj,_⟩:=Option.map_eq_some_iff.1 FE
 go_enter func225,ntmps225
 go_wp2
 rw[Lib.run_neq_ptr_same w _ zM hj]
 go_wp2
 go_end0
 exact⟨rfl,rfl⟩
set_option maxHeartbeats 1000000 in
set_option maxRecDepth 100000 in
theorem Tryz.QN(b:Nat)(w:bb)(h0:w.cell? ⟨b,0,none⟩=some (.pointer none))(hsh:w.shape? b=some (225,2))(hfz:w.frozen? ⟨b,0,none⟩=false):
 be prog 225 #[.pointer (some ⟨b,0,none⟩)] w fun e w'=>e=.returned (.tuple #[])/\w'=w.setCell ⟨b,0,none⟩ (.pointer (some ⟨b,0,none⟩)):=by
 obtain⟨j,hj,hjs⟩:=Option.map_eq_some_iff.1 FE
 go_enter func225,ntmps225
 go_wp2
 rw[Lib.run_to_unsafe w ⟨b,0,none⟩ zM Fo hj (by rw[hjs];decide) hsh (Nat.zero_lt_succ 1)];simp only[Result.andThen];rw[ck]
 go_wp2
 rw[run_callFunc_extern func278 (by kernel_rfl) (by kernel_rfl) (by kernel_rfl) (e:=Extern.AbiNoEscape.same) (by kernel_rfl)];rw[Lib.run_noEscape];simp only[Result.andThen];rw[ck]
 go_wp2
 rw[Lib.run_from_unsafe w ⟨b,0,none⟩ Fo zM hj hsh azH];simp only[Result.andThen];rw[ck]
 go_wp2
 go_end0
 exact⟨rfl,rfl⟩
end Go.Proofs
