import Derived.Test.YtgpphcmkjhklgaaGreatDoorPF
import Derived.Lib.ItoaNum
import Derived.Lib.Strings
import Derived.Lib.Repeat
import Derived.Lib.Bytealg
import Derived.Test.YtgpphcmkjhklgaaGreatDoorThA
import Derived.Test.YtgpphcmkjhklgaaGreatDoorPE
import Derived.Shelf.Strings.Builder1
import Derived.Shelf.Strings.Builder2
import Derived.Shelf.Strings.Trim
import Derived.Shelf.Small.Utf8
import Derived.Shelf.Small.Bits
import Derived.Shelf.Small.Strs
import Derived.Shelf.Small.Wraps
import Derived.Shelf.Strings.BuilderF
import Derived.Shelf.Strings.Builder2Cap
import Derived.Shelf.Strconv.Atoi
import Derived.Shelf.Strconv.Itoa0
import Derived.Shelf.Strconv.Itoa1
import Derived.Shelf.LaysM
import Derived.Shelf.Strconv.Itoa2
import Derived.Shelf.Strconv.Itoa3
import Derived.Shelf.Strconv.AtoiErrFast
import Derived.Shelf.Strconv.ParseIntEmpty
import Derived.Shelf.Strconv.AtoiFail
import Derived.Shelf.Strconv.Clone
import Derived.Shelf.Strconv.SyntaxError
import Derived.Shelf.LaysC
import Derived.Shelf.Strconv.ToError
import Derived.Shelf.Strconv.Lower
import Derived.Shelf.Strconv.ParseUint10
import Derived.Shelf.Strconv.ParseUint10Empty
import Derived.Shelf.Strconv.ParseUint10Any
import Derived.Shelf.Strconv.ParseInt10
import Derived.Shelf.Strconv.AtoiLong
import Derived.Shelf.Strconv.AtoiInnerAll
import Derived.Shelf.Strconv.RangeError
import Derived.Shelf.Strconv.ToErrorRange
import Derived.Shelf.Strconv.AtoiAll
import Derived.Shelf.Strconv.ParseUintEmpty
import Derived.Shelf.Strings.Search1
import Derived.Shelf.Strings.Search2
import Derived.Shelf.Strings.Search3
import Derived.Shelf.Strings.Cut
import Derived.Shelf.Strings.Count
import Derived.Shelf.Strings.Shaped
import Derived.Shelf.Strings.Prefix
import Derived.Shelf.Unicode.Decode
import Derived.Shelf.Strings.Runes
import Derived.Shelf.Strings.AsciiSet
import Derived.Shelf.Bits.Mul64
import Derived.Shelf.Strings.Repeat
import Derived.Shelf.Unicode.DecodeSlow
import Derived.Shelf.Unicode.DecodeAny
import Derived.Shelf.Unicode.DecodeLast
import Derived.Shelf.Slices.Turned
import Derived.Test.YtgpphcmkjhklgaaGreatDoorProg
import Derived.Lib.Walk
import Derived.Lib.ItoaMem
import Derived.WalkKit
import Derived.BigCall
import Derived.BigGuard
import Derived.Lib.AppendIntMem
import Derived.Lib.Builder
import Derived.Laws.Externs
import Derived.Shelf.RegionOpenPlain
/- Parts of a proof. -/
set_option linter.unusedSimpArgs false
set_option linter.unusedVariables false
set_option linter.unusedSectionVars false
open Go.Proofs.Tryz
open Array renaming size_replicate->ao, getElem?_append_left->ap
open Bool renaming and_eq_true->av, or_eq_true->ax, and_true->ay, not_eq_true'->aT, false_and->a1, and_false->a6
open Go renaming World->a7, Calls->a8
open Go.IntKind renaming i64->bb
open Go.Lib renaming decDigits->be, nDigits->bi, indexByte->bk, bitLen->bl, zeros24->bo, trimPrefix->bv, hasPrefix->b0, pow10Tab->b1, TabIs->b2, repeatL->b3, decDigits_length->b4, itoa->b5, atoiAll->cb
open Go.Oper renaming upon_value->cc
open Go.Proofs.Lays renaming n99->ce, n285->ck, n283->cv, n219->cx, n105->cy, n103->c6, n101->da
open Go.Shelf renaming Ren->db
open Go.Sort renaming grow->dg
open Go.Value renaming int->dl
open Int renaming ediv_emod_unique->dp, natAbs_mul->dq, emod_lt_of_pos->dz, emod_nonneg->ea, ediv_lt_of_lt_mul->eb, tmod_lt_of_pos->ec, natAbs_natCast->ed, lt_tmod_of_pos->ee, mul_ne_zero->ei, natAbs_neg->ej, mul_le_mul->em, ediv_one->en, mul_sub->eq, mul_neg->ew
open List renaming append_nil->e6, all_cons->e7, length_eq_zero_iff->e8, cons_append->e9, all_reverse->fb, dropLast_concat_getLast->fd, replicate->fl, map_cons->fm, length_cons->fv, all_eq_true->fH, head?_cons->gb, foldl_cons->gc, all_append->ge, mem_cons->gg, all_nil->gi
open Nat renaming pow_le_pow_right->gj, lt_of_lt_of_le->gm, le_refl->gt, lt_of_le_of_lt->gx, pow_pos->gy, pow_succ->g0, eq_zero_or_pos->g5, pow_add->g6, mod_eq_of_lt->g7, mul_comm->g8, lt_or_ge->g9, le_trans->ha, add_sub_cancel->hb, pow_zero->hd, pow_one->he, pow_mul->hg, gcd->hh, le_of_eq->hl, le_mul_of_pos_left->hm, beq->hn, le_div_iff_mul_le->ho, eq_of_beq_eq_true->hp, div_lt_iff_lt_mul->hr, mul_le_mul_right->ht, div_pos->hv, mul_le_mul_left->hy, mod_lt->hz, gcd_one_right->hA, div_eq_of_lt->hB, mul_assoc->hC, zero_add->hD, gcd_comm->hE, pow_two->hG
open Rat renaming divInt->hJ, num_eq_zero->hK, not_lt->hL, lt_iff->hM
open UInt8 renaming toNat_inj->hN, ofNat->hO, toNat_ofNat'->hP
namespace Go.aw
open Go.Proofs
set_option maxHeartbeats 4000000
set_option maxRecDepth 100000
theorem mA{a b:NI}(h:a.v=b.v)(d:a.v= -9223372036854775808->a.m=b.m):eI a=eI b:=by
 by_cases c:a.v= -9223372036854775808
 ·have:=d c;cases a;cases b;dsimp only at h this;subst h this;rfl
 ·have e:a.sm=b.sm:=by
   simp only[NI.sm,h];rw[h]at c;simp[c]
  rw[iM,iM,e,h]
theorem VO{a b:Int}(c:0<b):(a.tdiv b=a/b/\a.tmod b=a% b/\¬a.tmod b<0)\/(a.tdiv b-1=a/b/\a.tmod b+b=a% b/\a.tmod b<0/\a/b<0):=by
 have f:=Int.tmod_add_mul_tdiv a b;have g:=ee a c;have i:=ec a c
 by_cases h:a.tmod b<0
 ·right;have e:=(dp (a:=a) (r:=a.tmod b+b) (q:=a.tdiv b-1) c).2 ⟨by rw[eq];omega,by omega,by omega⟩;have j:a<0:=by
   rcases Int.lt_or_le a 0 with d|d
   ·exact d
   ·have:=Int.tmod_nonneg b d;omega
  have d:a/b<0:=eb c (by omega);omega
 ·left;have e:=(dp (a:=a) (r:=a.tmod b) (q:=a.tdiv b) c).2 ⟨by omega,by omega,by omega⟩;omega
theorem Xw{a b:Int}(c:0<b):((if a<0 then -((a.natAbs% b.natAbs:Nat):Int)else(a.natAbs% b.natAbs:Nat))<0/\a/b=(if a<0 then -((a.natAbs/b.natAbs:Nat):Int)else(a.natAbs/b.natAbs:Nat))-1/\a% b=(if a<0 then -((a.natAbs% b.natAbs:Nat):Int)else(a.natAbs% b.natAbs:Nat))+b)\/
 (¬(if a<0 then -((a.natAbs% b.natAbs:Nat):Int)else(a.natAbs% b.natAbs:Nat))<0/\a/b=(if a<0 then -((a.natAbs/b.natAbs:Nat):Int)else(a.natAbs/b.natAbs:Nat))/\a% b=(if a<0 then -((a.natAbs% b.natAbs:Nat):Int)else(a.natAbs% b.natAbs:Nat))):=by
 have e:((b.natAbs:Nat):Int)=b:=by omega
 have f:=Nat.mod_add_div a.natAbs b.natAbs;have g:=hz a.natAbs (show 0<b.natAbs by omega);have i:((a.natAbs% b.natAbs:Nat):Int)+b*(a.natAbs/b.natAbs:Nat)=(a.natAbs:Nat):=by
  rw[<-e,<-Int.natCast_mul,<-Int.natCast_add,e,f]
 generalize a.natAbs% b.natAbs=r at*;generalize a.natAbs/b.natAbs=q at*
 by_cases h:a<0
 ·simp only[if_pos h]
  by_cases j:r=0
  ·right;have d:=(dp (a:=a) (r:=0) (q:=-(q:Int)) c).2 ⟨by rw[ew];omega,by omega,by omega⟩;omega
  ·left;have d:=(dp (a:=a) (r:=-(r:Int)+b) (q:=-(q:Int)-1) c).2 ⟨by rw[eq,ew];omega,by omega,by omega⟩;omega
 ·simp only[if_neg h];right;have d:=(dp (a:=a) (r:=(r:Int)) (q:=(q:Int)) c).2 ⟨by omega,by omega,by omega⟩;omega
theorem I7(a b:NI)(i:0<b.v)(M:okW a.v)(z:okW b.v):az prog 289 [eI a,eI b] (.aE [eI (a.div b),eI (a.mod b)]):=by
 have V:=nq (eI a) a.v (lM a);have hq:=nq (eI b) b.v (lM b);have af:=nj M;have ag:=nj z;have O:=Be a.v.natAbs b.v.natAbs (by omega) (by omega) (by omega);refine aL nf EW mix (by simp[f289]) ?_;simp[f289,-bg];rw[bg];simp[-bg];refine join (fun s=>aK s.env 2=.ptr 0 []/\aK s.env 3=.ptr 1 []/\aK s.env 4=.ptr 2 []/\aK s.env 5=.ptr 3 []/\s.heap=[.box false (.p (eI a)),.box false (.p (eI b)),.box false (.p (.st 130 [.int .i64 0,.aO])),.box false (.p (.st 130 [.int .i64 0,.aO]))]) ?_ ?_
 ·rcases hs:a.sm with _|_
  ·obtain⟨c,cs,l⟩:=nD hs;simp[ad,l,di,cK]
  ·have l:=lJ hs;rcases n:b.sm with _|_
   ·obtain⟨c,cs,m⟩:=nD n;simp[ad,l,m,di,cK]
   ·have m:=lJ n;have u:=mw hs;have w:=mw n;have al:=NI.oN hs;have am:=NI.oN n
    by_cases t:a.v= -9223372036854775808
    ·simp[ad,l,m,u,w,t,di,cK]
    ·have r:¬b.v=0:=by omega
     have E:-9223372036854775808<a.v/b.v:=by
      have:=Int.le_ediv_of_mul_le (a:=-9223372036854775807) (b:=a.v) i (by omega);omega
     have F:a.v/b.v<9223372036854775808:=eb i (by omega);have G:=dz a.v i;have H:=ea a.v r;have J:eI (a.div b)=eJ (a.v/b.v):=by rw[iM,if_pos (NI.yA E F)];rfl
     have f2:eI (a.mod b)=eJ (a.v% b.v):=nG (by omega) (by omega);rw[J,f2];have aj:=ee a.v i;have ai:=ec a.v i;rcases VO (a:=a.v) i with⟨d1,d2,d3⟩|⟨d1,d2,d3,d4⟩
     ·have q1:bb.wrap (a.v.tdiv b.v)=a.v/b.v:=by rw[d1];exact aM _ (by omega) (by omega)
      simp[ad,l,m,u,w,t,r,di,cK,eJ,d3,q1];exact d2.symm
     ·have q1:bb.wrap (bb.wrap (a.v.tdiv b.v)-1)=a.v/b.v:=by rw[aM (a.v.tdiv b.v) (by omega) (by omega),d1];exact aM _ (by omega) (by omega)
      have Z:bb.wrap (a.v.tmod b.v+b.v)=a.v% b.v:=by rw[d2];exact aM _ (by omega) (by omega)
      simp[ad,l,m,u,w,t,r,di,cK,eJ,d3,q1,Z]
 ·rintro⟨aa,ah⟩ ⟨d,e,f,g,A⟩;dsimp only at d e f g A;subst A;have S:(an wB (a.v.natAbs/b.v.natAbs)).length<=900000:=by
   have:=dB aZ _ _ (gx (Nat.div_le_self a.v.natAbs b.v.natAbs) (bZ aZ a.v.natAbs));omega
  have T:(an wB (a.v.natAbs% b.v.natAbs)).length<=900000:=by
   have:=dB aZ _ _ (gx (Nat.mod_le a.v.natAbs b.v.natAbs) (bZ aZ a.v.natAbs));omega
  have C:=uU (decide (a.v<0)) (a.v.natAbs/b.v.natAbs) (by omega);have D:=uU (decide (a.v<0)) (a.v.natAbs% b.v.natAbs) (by omega);have P:=Xw (a:=a.v) i;simp only[decide_eq_true_eq]at C D;have ak:=hz a.v.natAbs (show 0<b.v.natAbs by omega);generalize a.v.natAbs/b.v.natAbs=k at*;generalize a.v.natAbs% b.v.natAbs=j at*;have ae:-b.v<(if a.v<0 then -(j:Int)else(j:Int)):=by split<;>omega
  have L:a.v<0->(if a.v<0 then -(j:Int)else(j:Int))<=0:=fun h=>by rw[if_pos h];omega
  have X:okW (if a.v<0 then -(k:Int)else(k:Int)):=by rw[okW];split<;>simpa using S
  have Y:okW (if a.v<0 then -(j:Int)else(j:Int)):=by rw[okW];split<;>simpa using T
  have W:(if a.v<0 then -(k:Int)else(k:Int))= -9223372036854775808->a.v<0:=by split<;>omega
  generalize (if a.v<0 then -(k:Int)else(k:Int))=Q at*;generalize (if a.v<0 then -(j:Int)else(j:Int))=R at*;have y:=sF (.mk' R);simp only[NI.ij]at y;have G:=dz a.v i;have H:=ea a.v (show b.v≠0 by omega);simp[d,e,f,g];refine c1 V ?_;simp[d,e,f,g];refine c1 hq ?_;simp[d,e,f,g];refine c2 O ?_;simp;refine c2 C ?_;simp;refine c2 D ?_;simp[d,e,f,g,ad];refine c1 y ?_;rcases P with⟨d1,d2,d3⟩|⟨d1,d2,d3⟩
  ·have B:=CG (.mk' Q) (.of 1) X (by rw[okW];decide);have N:=vg (.mk' R) b Y z;rw[sR (by decide) (by decide)]at B;have o:eI (a.div b)=eI ((NI.mk' Q).sub (.of 1)):=by
    refine mA (by rw[NI.OP];exact d2) (fun h=>?_);have I:Q= -9223372036854775807:=by have:a.v/b.v= -9223372036854775808:=h;omega
    have U:¬a.v% b.v=0:=by omega
    subst I;show decide (a.v% b.v≠0)=_;simp[U];rfl
   have q:eI (a.mod b)=eI ((NI.mk' R).add b):=mA (by rw[NI.qJ];exact d3) (fun h=>by have:a.v% b.v= -9223372036854775808:=h;omega);rw[o,q];simp[d,e,f,g,ad,d1];refine e1 (qQ 1) ?_;simp[d,e,f,g,ad];refine e2 B ?_;simp[d,e,f,g,ad];refine e2 N ?_;simp[d,e,f,g,ad];exact⟨rfl,rfl⟩
  ·have o:eI (a.div b)=eI (.mk' Q):=by
    refine mA d2 (fun h=>?_);have ab:a.v/b.v= -9223372036854775808:=h;have ac:=L (W (by omega));have K:a.v% b.v=0:=by omega
    show decide (a.v% b.v≠0)=false;simp[K]
   have q:eI (a.mod b)=eI (.mk' R):=mA d3 (fun h=>by have:a.v% b.v= -9223372036854775808:=h;omega);rw[o,q]
   by_cases x:R=0
   ·simp[d,e,f,g,ad,x]
   ·simp[d,e,f,g,ad,d1,x]
theorem pU{a b:Int}(h:okW b)(c:a.natAbs<=b.natAbs):okW a:=by
 have:=dB aZ _ _ (gx c (bZ aZ b.natAbs));have:=nj h;rw[okW];omega
theorem MI(a b:NI)(e:0<b.v)(d:okW a.v)(f:okW b.v):az prog 245 [eI a,eI b] (eI (a.div b)):=by
 have c:=sF b;rw[if_neg (by omega),if_neg (by omega)]at c;refine aL nf Lt mix (by simp[f245]) ?_;simp[f245];refine c1 c ?_;simp;refine c2 (I7 a b e d f) ?_;simp[ad]
 done
theorem NI.xL(a:NI):a.abs.v.natAbs=a.v.natAbs:=by
 rw[NI.abs];split
 ·rw[NI.ij,ej]
 ·rfl
theorem NI.Mz(a:NI):0<=a.abs.v:=by
 rw[NI.abs];split
 ·rw[NI.ij];omega
 ·omega
def eh(a b:Int):Int:=(hh a.natAbs b.natAbs:Nat)
theorem MF(a b:NI)(j:okW a.v)(k:okW b.v):az prog 244 [eI a,eI b] (eI (.mk' (eh a.v b.v))):=by
 refine aL nf EK mix (by simp[f244]) ?_;simp[f244];refine e1 (MD a j) ?_;simp;refine e1 (MD b k) ?_;simp[ad];refine⟨⟨rfl,rfl⟩,?_⟩;have n:eh a.abs.v b.abs.v=eh a.v b.v:=by rw[eh,eh,NI.xL,NI.xL]
 refine lp (α:=NI×NI) (fun x=>⟨[(4,.ptr 2 []),(3,.ptr 1 []),(2,.ptr 0 [])],[.box false (.p (eI x.1)),.box false (.p (eI x.2)),.box false (.p (.st 130 [.int .i64 0,.aO]))]⟩)
  (fun x=>0<=x.1.v/\0<=x.2.v/\okW x.1.v/\okW x.2.v/\eh x.1.v x.2.v=eh a.v b.v) (fun x=>x.2.v.toNat) (a.abs,b.abs) ⟨NI.Mz a,NI.Mz b,pU j (hl (NI.xL a)),pU k (hl (NI.xL b)),n⟩ ?_
 rintro⟨x,y⟩ ⟨l,g,i,c,f⟩;dsimp only at l g i c f;have d:=sF y
 by_cases e:y.v=0
 ·rw[if_neg (by omega),if_pos e]at d;have hx:eI (.mk' (eh a.v b.v))=eI x:=by
   refine mA ?_ (fun h=>?_)
   ·rw[NI.ij,<-f,e,eh];simp;omega
   ·rw[NI.ij,eh]at h;omega
  rw[hx];simp;refine c1 d ?_;simp[ad]
 ·rw[if_neg (by omega),if_neg e]at d;have q:=dz x.v (show 0<y.v by omega);have o:=ea x.v e;have m:(x.v% y.v).natAbs=x.v.natAbs% y.v.natAbs:=by
   have e1:(x.v.natAbs:Int)=x.v:=by omega
   have e2:(y.v.natAbs:Int)=y.v:=by omega
   have e3:((x.v.natAbs% y.v.natAbs:Nat):Int)=x.v% y.v:=by rw[Int.natCast_emod,e1,e2]
   omega
  simp;refine c1 d ?_;simp[ad];refine c2 (I7 x y (by omega) i c) ?_;simp[ad];refine⟨rfl,?_⟩;refine rd (y,x.mod y) ⟨g,o,c,pU c (by show(x.v% y.v).natAbs<=_;omega),?_⟩ (by show(x.v% y.v).toNat<y.v.toNat;omega);show eh y.v (x.v% y.v)=_;rw[<-f,eh,eh,m,hE y.v.natAbs,<-Nat.gcd_rec,hE]
theorem aAe{o x k A:Nat}(hx:1<=x)(d:1<=o)(h:o*x^k=A)(hk:1<=k):o*x<=A/\(2<=k->x*x<=A):=by
 have a:x<=x^k:=by
  calc x=x^1:=(he x).symm
   _<=x^k:=gj hx hk
 refine⟨by rw[<-h];exact hy _ a,fun b=>?_⟩;have c:x*x<=x^k:=by
  calc x*x=x^2:=by rw[hG]
   _<=x^k:=gj hx b
 rw[<-h];exact ha c (hm _ d)
theorem Wl(a:NI)(n A:Nat)(E:1<=a.v)(q:A=a.v.natAbs^n)(J:(an wB A).length<=400000)(F:(an wB a.v.natAbs).length<=400000)(K:n<=1000000):az prog 261 [eI a,.int .i64 n] (eI (.mk' A)):=by
 refine aL nf DH mix (by simp[f261]) ?_;simp[f261];refine c1 (qQ 1) ?_;rw[show eJ 1=eI (.of 1)from(sR (by decide) (by decide)).symm];simp[ad];refine lp (α:=Nat×NI×NI) (fun s=>⟨[(1,.p (.int .i64 s.1)),(5,.ptr 2 []),(4,.ptr 1 []),(2,.ptr 0 [])],[.box false (.p (eI s.2.1)),.box false (.p (.st 130 [.int .i64 0,.aO])),.box false (.p (eI s.2.2))]⟩)
  (fun s=>s.1<=n/\1<=s.2.1.v/\1<=s.2.2.v/\(0<s.1->s.2.2.v.natAbs*s.2.1.v.natAbs^s.1=A)/\(s.1=0->s.2.2.v.natAbs=A)/\(an wB s.2.1.v.natAbs).length<=400000) (fun s=>s.1) (n,a,.of 1) ⟨gt _,E,(by decide:(1:Int)<=1),fun _=>by rw[q];show(1:Int).natAbs*_=_;simp,fun h=>by have h:n=0:=h;rw[q,h,hd];rfl,F⟩ ?_
 rintro⟨k,x,o⟩ ⟨C,c,i,b,l,m⟩;dsimp only at C c i b l m
 by_cases k0:k=0
 ·subst k0;have e:eI (.mk' A)=eI o:=by
   refine mA ?_ (fun h=>?_)
   ·rw[NI.ij,<-l rfl];omega
   ·rw[NI.ij]at h;omega
  rw[e];simp[ad]
 have b:=b (by omega);have r:=aAe (o:=o.v.natAbs) (x:=x.v.natAbs) (by omega) (by omega) b (by omega);have d:bb.wrap (k% 2^bb.bits&&&1% 2^bb.bits:Nat)=(k% 2:Nat):=by
  rw[show(2^bb.bits:Nat)=18446744073709551616 from rfl,g7 (show k<18446744073709551616 by omega),show 1% 18446744073709551616=2^1-1 from rfl,Nat.and_two_pow_sub_one_eq_mod];exact aM _ (by omega) (by omega)
 have hs:(k:Int).fdiv (2^min 1 bb.bits)=(k/2:Nat):=by
  rw[show((2:Int)^min 1 bb.bits)=2 from rfl,Int.fdiv_eq_ediv_of_nonneg _ (by decide)];omega
 have j:0<k:=by omega
 have L:(an wB o.v.natAbs).length<=400000:=by
  have D:o.v.natAbs<=A:=ha (Nat.le_mul_of_pos_right _ (show 0<x.v.natAbs by omega)) r.1;have:=dB aZ _ _ (gx D (bZ aZ A));omega
 have z:2<=k->(an wB (x.v*x.v).natAbs).length<=400000:=fun h=>by
  have:=dB aZ _ _ (gx (r.2 h) (bZ aZ A));rw[dq];omega
 have y:(1:Int)<=o.v*x.v:=by
  have:=em i c (by decide) (by omega);omega
 have B:(1:Int)<=x.v*x.v:=by
  have:=em c c (by decide) (by omega);omega
 have u:=yI o x (by omega);have w:=yI x x (by omega);have g:x.v.natAbs^k=(x.v*x.v).natAbs^(k/2)*x.v.natAbs^(k% 2):=by
  rw[dq,<-hG,<-hg,<-g6,Nat.div_add_mod]
 by_cases H:k% 2=1
 ·rw[H,he]at g;have t:((k% 2:Nat):Int)=1:=by omega
  rw[t]at d
  by_cases k1:1<k
  ·have f:(1:Int)<k:=by omega
   simp[j,d];refine c2 u ?_;simp[ad,f];refine c2 w ?_;simp[ad,hs];refine rd (k/2,x.mul x,o.mul x) ⟨by omega,B,y,fun _=>?_,fun h=>by dsimp only at h;omega,z k1⟩ (by dsimp only;omega);rw[g]at b;show(o.v*x.v).natAbs*(x.v*x.v).natAbs^(k/2)=A;rw[<-b,dq o.v,g8 ((x.v*x.v).natAbs^(k/2)),hC]
  ·have f:¬(1:Int)<k:=by omega
   have G:k=1:=by omega
   simp[j,d];refine c2 u ?_;simp[ad,f,hs];refine rd (k/2,x,o.mul x) ⟨by omega,c,y,fun h=>by dsimp only at h;omega,fun _=>?_,m⟩ (by dsimp only;omega);subst G;rw[he]at b;show(o.v*x.v).natAbs=A;rw[<-b,dq]
 ·have I:k% 2=0:=by omega
  rw[I,hd,Nat.mul_one]at g;have t:¬((k% 2:Nat):Int)=1:=by omega
  rw[show((k% 2:Nat):Int)=0 by omega]at d;have f:(1:Int)<k:=by omega
  simp[j,d,f];refine c2 w ?_;simp[ad,hs];refine rd (k/2,x.mul x,o) ⟨by omega,B,i,fun _=>?_,fun h=>by dsimp only at h;omega,z (by omega)⟩ (by dsimp only;omega);show o.v.natAbs*(x.v*x.v).natAbs^(k/2)=A;rw[<-g,b]
theorem Wy(x:Nat)(hx:x<18446744073709551616):az prog 312 [.int .u64 x] (.int .i64 (bl x:Nat)):=by
 refine jk (iy func312 (by kernel_rfl)) fun w aa d _ _ c=>?_;obtain⟨a,rfl,b⟩:=xy c;simp only[aA]at b;subst b;refine(bits_Len64 x w (by omega) (by omega)).mono ?_;rintro e w' ⟨rfl,rfl⟩;refine⟨_,rfl,⟨gt _,fun _ _=>rfl,rfl,rfl⟩,fun w aa=>?_⟩;simp only[aA];rfl
def nH(n:Nat):Nat:=if n=0 then 0 else 64*((an wB n).length-1)+bl (ae wB n ((an wB n).length-1))
theorem rL{n:Nat}:an wB n=[]↔n=0:=by
 constructor
 ·intro h;have:=bZ aZ n;rw[h,List.length_nil,hd]at this;omega
 ·rintro rfl;exact kD
theorem Jc(n:Nat):n<2^nH n:=by
 by_cases b:n=0
 ·subst b;exact gy (by decide)
 ·rw[nH,if_neg b];have e:=bZ aZ n;have j:0<(an wB n).length:=by
   rcases g5 (an wB n).length with h|h
   ·exact(b (rL.1 (e8.1 h))).elim
   ·exact h
  obtain⟨m,i⟩:∃m,(an wB n).length=m+1:=⟨(an wB n).length-1,by omega⟩
  rw[i]at e⊢;rw[hb];have d:n/wB^m<wB:=by
   rw[hr (gy (by decide)),g8,<-g0];exact e
  have f:ae wB n m=n/wB^m:=by rw[ae,g7 d]
  have g:0<n/wB^m:=by
   rcases g5 (n/wB^m)with h|h
   ·have c:n<wB^m:=by
     rcases g9 n (wB^m)with a|a
     ·exact a
     ·have:=hv a (gy (show 0<wB by decide));omega
    have:=dB aZ m n c;omega
   ·exact h
  have c:=wV (n/wB^m) (n/wB^m) (gt _) g d;rw[f,g6,hg];show n<wB^m*_;have a:n<(n/wB^m+1)*wB^m:=by
   rw[<-hr (gy (by decide))];omega
  rw[g8]at a;exact gm a (hy _ c.2.2)
theorem Wh(a:NI)(l:okW a.v):az prog 290 [eI a] (.int .i64 (nH a.v.natAbs:Nat)):=by
 have b:=nq (eI a) a.v (lM a);refine aL nf EV mix (by simp[f290]) ?_;have o:=nj l;have q:∀i(h:i<(an wB a.v.natAbs).length),(an wB a.v.natAbs)[i]=ae wB a.v.natAbs i:=fun i h=>dW aZ h;have f:=b7 (B:=wB) aZ a.v.natAbs ((an wB a.v.natAbs).length-1);have j:=Wy _ f;have A:=Jc a.v.natAbs;have s:=rL (n:=a.v.natAbs)
 by_cases e:a.v.natAbs=0
 ·rw[e]at b⊢;simp only[eN,kD]at b;simp[f290];refine c1 b ?_;simp[nH]
 ·have k:=mt s.1 e;rw[nH,if_neg e];have p:bl (ae wB a.v.natAbs ((an wB a.v.natAbs).length-1))<=64:=by
   rcases g5 (ae wB a.v.natAbs ((an wB a.v.natAbs).length-1))with h|h
   ·rw[h];decide
   ·exact MC h f
  simp only[eN]at b;generalize an wB a.v.natAbs=x at*;obtain⟨m,d⟩:∃m,x.length=m+1:=⟨x.length-1,by cases x with|nil=>exact(k rfl).elim|cons c cs=>simp⟩
  rw[d,hb]at j p f;rw[d,hb];rw[d]at o;have hx:=q m (by omega);have t:x[m]?=some (ae wB a.v.natAbs m):=by rw[List.getElem?_eq_getElem (by omega),hx]
  have u:bb.wrap (m:Int)=m:=aM _ (by omega) (by omega);have w:bb.wrap (64*(m:Int))=64*m:=aM _ (by omega) (by omega);have y:bb.wrap (64*(m:Int)+(bl (ae wB a.v.natAbs m):Nat))=(64*m+bl (ae wB a.v.natAbs m):Nat):=by rw[aM _ (by omega) (by omega)];push_cast;rfl
  generalize bl (ae wB a.v.natAbs m)=g at*;have z:bb.wrap (64*(m:Int)+g)=64*m+g:=by rw[y];push_cast;rfl
  simp[f290];refine c1 b ?_;have r:¬((m:Int)+1=0):=by omega
  simp[k,d,u,w,t,hx,r];refine c1 j ?_;simp[z]
noncomputable def eF(a:NF):PV:=.st 132 [eI a.num,eI a.den]
@[simp] theorem aG5(a:NF):aJ (eF a)=.agg 132:=rfl
@[simp] theorem aFl(a:NF):cj (eF a)=[eI a.num,eI a.den]:=rfl
@[simp] theorem aIj(n:Int):aJ (eJ n)=.agg 130:=rfl
@[simp] theorem aDO:prog.cellsOf 130=2:=by kernel_rfl
@[simp] theorem aDP:prog.cellsOf 132=4:=by kernel_rfl
theorem J5:eJ 1=eI (.mk' 1):=(nG (by decide) (by decide)).symm
def kB:Nat:=100000
theorem o9:kB<=3*kB:=hm _ (by decide)
theorem xl{n k:Nat}(h:n<2^k):(an wB n).length<=k/64+1:=by
 refine dB aZ _ _ (gm h ?_);rw[show wB=2^64 from rfl,<-hg];exact gj (by decide) (by omega)
theorem gO{z:Int}{k:Nat}(h:z.natAbs<2^k)(hk:k<=3*kB):okW z:=by
 have:=xl h;have a:kB=100000:=rfl;rw[okW];omega
def NF.make(n d:NI):NF:=⟨hJ n.v d.v,n.m&&decide (d.v=1)⟩
theorem AP(a:NF):az prog 161 [eF a] (.bool a.eZ):=by
 refine aL nf ED mix (by simp[f161]) ?_;have f:a.den.v=a.q.den:=rfl;have h:=a.q.den_pos;rcases hs:a.den.sm with _|_
 ·obtain⟨c,cs,d⟩:=nD hs;have g:=NI.yf (a:=a.den) (by rw[hs];decide);have b:a.eZ=false:=by rw[NF.eZ,decide_eq_false_iff_not];omega
  simp[f161,ad,d,di,cK,b]
 ·have d:=lJ hs;have e:=mw hs;rw[f]at e;have b:a.eZ=decide ((a.q.den:Int)=1):=by rw[NF.eZ,decide_eq_decide];omega
  simp[f161,ad,d,e,di,cK,b];rfl
theorem BW(a:NI):az prog 158 [eI a] (eF (.whole a)):=by
 refine aL nf EH mix (by simp[f158]) ?_;simp[f158];refine e1 (qQ 1) ?_;have b:(NF.whole a).num=a:=by cases a;rfl
 have c:(NF.whole a).den=.mk' 1:=rfl;simp[ad,eF,b,c,J5]
theorem sX(n:Int)(h:-9223372036854775808<=n)(b:n<=9223372036854775807):az prog 68 [.int .i64 n] (eF (.int n)):=by
 have a:=BW (.of n);rw[sR h b]at a;refine aL nf NL mix (by simp[f68]) ?_;simp[f68];refine c1 (qQ n) ?_;simp;refine c1 a ?_;simp[ad];exact Wk.refl _
theorem Cf(q:Rat):(if q<0 then(-1:Int)else if q=0 then 0 else 1)=if q.num<0 then -1 else if q.num=0 then 0 else 1:=by
 have a:q<0↔q.num<0:=by rw[<-Rat.not_le,<-Rat.num_nonneg];omega
 have b:q=0↔q.num=0:=hK.symm;simp only[a,b]
theorem BU(a:NF):az prog 109 [eF a] (.int .i64 (if a.q<0 then -1 else if a.q=0 then 0 else 1)):=by
 have b:=sF a.num;refine aL nf Ex mix (by simp[f109]) ?_;simp[f109,ad];refine c1 b ?_;simp;exact Cf a.q
theorem Jt(a:NF)(h:bP kB a.q):az prog 206 [eF a] (eF a.neg):=by
 have d:=sO a.num (gO h.1 o9);refine aL nf ER mix (by simp[f206]) ?_;simp[f206,ad];refine e1 d ?_;have b:a.neg.num=a.num.neg:=by show(⟨(-a.q).num,false⟩:NI)=⟨-a.q.num,false⟩;rw[Rat.neg_num]
 have c:a.neg.den=a.den:=by show(⟨((-a.q).den:Int),false⟩:NI)=⟨a.q.den,false⟩;rw[Rat.neg_den]
 simp[ad,eF,b,c]
theorem SE{n d:NI}(j:0<d.v):(NI.mk' (eh n.v d.v)).v≠0/\0<eh n.v d.v/\(¬d.v=1->eI (n.div (.mk' (eh n.v d.v)))=eI (NF.make n d).num)/\eI (d.div (.mk' (eh n.v d.v)))=eI (NF.make n d).den:=by
 obtain⟨dn,e⟩:∃dn:Nat,d.v=dn:=⟨d.v.toNat,by omega⟩
 have f:dn≠0:=by omega
 obtain⟨e1,e2⟩:=lj (n:=n.v) f;have c:eh n.v d.v=(hh n.v.natAbs dn:Nat):=by rw[eh,e];rfl
 have k:0<hh n.v.natAbs dn:=Nat.gcd_pos_of_pos_right _ (by omega);have i:(hh n.v.natAbs dn:Int)∣n.v:=Int.ofNat_dvd_left.2 (Nat.gcd_dvd_left _ _);refine⟨by rw[NI.ij,c];omega,by rw[c];omega,fun g=>?_,?_⟩
 ·refine mA ?_ (fun _=>?_)
  ·show n.v/eh n.v d.v=(hJ n.v d.v).num;rw[c,e,e1]
  ·show decide (n.v% eh n.v d.v≠0)=(n.m&&decide (d.v=1))
   rw[c,Int.emod_eq_zero_of_dvd i];simp[g]
 ·refine mA ?_ (fun h=>?_)
  ·show d.v/eh n.v d.v=((hJ n.v d.v).den:Int)
   rw[c,e,e2];exact(Int.natCast_ediv _ _).symm
  ·have:d.v/eh n.v d.v= -9223372036854775808:=h;have:=Int.ediv_nonneg (a:=d.v) (b:=eh n.v d.v) (by omega) (by rw[c];omega);omega
theorem U7{n d:NI}(a:d.v<0):NF.make n.neg d.neg=NF.make n d:=by
 rw[NF.make,NF.make];have e1:hJ n.neg.v d.neg.v=hJ n.v d.v:=Rat.neg_divInt_neg _ _;have e2:(n.neg.m&&decide (d.neg.v=1))=(n.m&&decide (d.v=1)):=by
  rw[show n.neg.m=false from rfl,a1,decide_eq_false (by omega),a6]
 rw[e1,e2]
theorem GH(n:Int):(hJ n 1).num=n/\(hJ n 1).den=1:=by
 obtain⟨e1,e2⟩:=lj (n:=n) (show 1≠0 by decide);rw[hA]at e1 e2;refine⟨?_,?_⟩
 ·exact e1.trans (en n)
 ·exact e2
theorem Cy(n d:NI)(A:d.v≠0)(q:okW n.v)(o:okW d.v):az prog 163 [eI n,eI d] (eF (.make n d)):=by
 have i:=sF d;refine aL nf Mv mix (by simp[f163]) ?_;simp[f163,-bg];rw[bg];simp[-bg];refine join (fun s=>∃a d':NI,0<d'.v/\okW a.v/\okW d'.v/\NF.make a d'=NF.make n d/\aK s.env 2=.ptr 0 []/\aK s.env 3=.ptr 1 []/\aK s.env 4=.ptr 2 []/\s.heap=[.box false (.p (eI a)),.box false (.p (eI d')),.box false (.p (.st 132 [.st 130 [.int .i64 0,.aO],.st 130 [.int .i64 0,.aO]]))]) ?_ ?_
 ·by_cases l:d.v<0
  ·rw[if_pos l]at i;simp;refine c1 i ?_;simp;refine e1 (sO n q) ?_;simp;refine e1 (sO d o) ?_;simp[ad];exact⟨⟨rfl,rfl⟩,n.neg,d.neg,by rw[NI.C5];omega,pU q (by rw[NI.C5];omega),pU o (by rw[NI.C5];omega),U7 l,rfl,rfl⟩
  ·rw[if_neg l,if_neg A]at i;simp;refine c1 i ?_;simp;exact⟨n,d,by omega,q,o,rfl,rfl,rfl⟩
 ·rintro⟨G,H⟩ ⟨a,d',F,y,r,z,b,e,f,u⟩;dsimp only at b e f u;subst u;rw[<-z];clear z i;have t:=MF a d' y r;obtain⟨g1,g2,g3,g4⟩:=SE (n:=a) F;have og:okW (eh a.v d'.v):=by
   refine pU r ?_;rw[eh];exact ha (hl (ed _)) (Nat.gcd_le_right _ (by omega))
  have w:=MI a (.mk' (eh a.v d'.v)) g2 y og;have x:=MI d' (.mk' (eh a.v d'.v)) g2 r og
  by_cases hs:d'.v=1
  ·have g:d'.sm=true:=NI.yA (by omega) (by omega);have j:=lJ g;have k:=mw g;rw[hs]at k;have C:eF (.make a d')=.st 132 [eI a,eI d']:=by
    rw[eF];have D:(NF.make a d').num=a:=by
     show(⟨(hJ a.v d'.v).num,a.m&&decide (d'.v=1)⟩:NI)=a;rw[hs,(GH _).1];simp
    have E:eI (NF.make a d').den=eI d':=by
     refine mA ?_ (fun h=>?_)
     ·show((hJ a.v d'.v).den:Int)=d'.v;rw[hs,(GH _).2];rfl
     ·have:((hJ a.v d'.v).den:Int)= -9223372036854775808:=h;omega
    rw[D,E]
   rw[C];simp[b,e,f,ad,j,k,di,cK]
   done
  ·rw[eF,<-g3 hs,<-g4];have B:(wI d'=.aO/\¬sI d'=1)\/∃c cs,wI d'=.seq (c::cs):=by
    rcases g:d'.sm with _|_
    ·exact .inr (nD g)
    ·exact .inl ⟨lJ g,by rw[mw g];exact hs⟩
   rcases B with⟨j,k⟩|⟨c,cs,j⟩
   ·simp[b,e,f,ad,j,k,di,cK];refine c2 t ?_;simp[b,e,f,ad];refine e2 w ?_;simp[b,e,f,ad];refine e2 x ?_;simp[b,e,f,ad]
    done
   ·simp[b,e,f,ad,j,di,cK];refine c2 t ?_;simp[b,e,f,ad];refine e2 w ?_;simp[b,e,f,ad];refine e2 x ?_;simp[b,e,f,ad]
    done
theorem kz(a:NF):a.num.v=a.q.num:=rfl
theorem jc(a:NF):a.den.v=a.q.den:=rfl
theorem jF(a:NF):a.den.v.natAbs=a.q.den:=by rw[jc,ed]
theorem qE{x y:NI}{k l:Nat}(hx:x.v.natAbs<2^k)(a:y.v.natAbs<2^l)(h:k+l<=4*kB):az prog 164 [eI x,eI y] (eI (x.mul y)):=by
 have b:=xl hx;have c:=xl a;have d:kB=100000:=rfl;exact yI x y (by omega)
theorem od{x y:Int}{k l:Nat}(hx:x.natAbs<2^k)(a:y.natAbs<2^l):(x*y).natAbs<2^(k+l):=by
 rw[dq,g6];exact Nat.mul_lt_mul'' hx a
theorem BB{n d:NI}{q:Rat}(m:Bool)(hq:hJ n.v d.v=q)(a:(n.m&&decide (d.v=1))=m):NF.make n d=⟨q,m⟩:=by rw[NF.make,hq,a]
theorem U5(a b:NF):NF.make (a.num.mul b.num) (a.den.mul b.den)=a.mul b:=by
 refine BB _ ?_ rfl;rw[NI.lI,NI.lI,kz,kz,jc,jc,Rat.mul_def,Rat.normalize_eq_mkRat];rfl
theorem sq(a b:NF)(c:bP kB a.q)(d:bP kB b.q):az prog 165 [eF a,eF b] (eF (a.mul b)):=by
 have f:=qE (x:=a.num) (y:=b.num) c.1 d.1 (by omega);have g:=qE (x:=a.den) (y:=b.den) (by rw[jF];exact c.2) (by rw[jF];exact d.2) (by omega);have e:=Cy (a.num.mul b.num) (a.den.mul b.den) (by rw[NI.lI,jc,jc];have:=a.q.den_nz;have:=b.q.den_nz;exact ei (by omega) (by omega)) (gO (od c.1 d.1) (by omega)) (gO (od (x:=a.den.v) (y:=b.den.v) (by rw[jF];exact c.2) (by rw[jF];exact d.2)) (by omega));rw[U5]at e;refine aL nf Mt mix (by simp[f165]) ?_;simp[f165,ad];refine e2 f ?_;simp[ad];refine e2 g ?_;simp[ad];refine e2 e ?_;simp[ad]
theorem Vh(a:NF)(h:a.q≠0):NF.make a.den a.num=a.inv:=by
 refine BB _ ?_ rfl;rw[kz,jc];show hJ a.q.den a.q.num=a.q⁻¹;rw[Rat.inv_def]
theorem Ju(a:NF)(c:bP kB a.q)(b:a.q≠0):az prog 169 [eF a] (eF a.inv):=by
 have d:=Cy a.den a.num (by rw[kz];exact mt hK.1 b) (gO (by rw[jF];exact c.2) o9) (gO c.1 o9);rw[Vh a b]at d;refine aL nf Mp mix (by simp[f169]) ?_;simp[f169,ad];refine c2 d ?_;simp[ad]
theorem Wt(a b:NF)(g:bP kB a.q)(c:bP kB b.q)(f:b.q≠0):az prog 73 [eF a,eF b] (eF (a.div b)):=by
 have h:=Ju b c f;have d:=sq a b.inv g (azx c);have e:a.mul b.inv=a.div b:=by
  rw[NF.mul,NF.div,NF.inv,Rat.div_def]
 rw[e]at d;refine aL nf NT mix (by simp[f73]) ?_;simp[f73,ad];refine e1 h ?_;simp[ad];refine e2 d ?_;simp[ad]
theorem VM(a b:NF)(h:¬(a.eZ=true/\b.eZ=true)):NF.make ((a.num.mul b.den).add (b.num.mul a.den)) (a.den.mul b.den)=a.add b:=by
 have g:(a.eZ&&b.eZ)=false:=by simpa using h
 refine BB _ ?_ ?_
 ·rw[NI.qJ,NI.lI,NI.lI,NI.lI,kz,kz,jc,jc,Rat.add_def'];rfl
 ·rw[g,a1];have:¬(a.den.mul b.den).v=1:=by
   intro c;rw[NI.lI,jc,jc]at c;have d:a.q.den*b.q.den=1:=by exact_mod_cast c
   have e:=Nat.eq_one_of_mul_eq_one_right d;have f:=Nat.eq_one_of_mul_eq_one_left d;exact h ⟨by rw[NF.eZ];simp[e,f],by rw[NF.eZ];simp[e,f]⟩
  rw[decide_eq_false this,a6]
theorem J7{q:Rat}(h:q.den=1):(q.num:Rat)=q:=by
 apply Rat.ext
 ·rw[Rat.num_intCast]
 ·rw[Rat.den_intCast,h]
theorem Cv(a b:NF)(j:bP kB a.q)(k:bP kB b.q):az prog 70 [eF a,eF b] (eF (a.add b)):=by
 have d:=AP a;have n:=AP b;refine aL nf NP mix (by simp[f70]) ?_
 by_cases hw:a.eZ=true/\b.eZ=true
 ·rw[hw.1]at d;rw[hw.2]at n;have l:=vg a.num b.num (gO j.1 o9) (gO k.1 o9);have g:=BW (a.num.add b.num);have c:a.q.den=1:=by simpa[NF.eZ]using hw.1
  have f:b.q.den=1:=by simpa[NF.eZ]using hw.2
  have e:NF.whole (a.num.add b.num)=a.add b:=by
   rw[NF.whole,NF.add];have e1:(((a.num.add b.num).v:Int):Rat)=a.q+b.q:=by
    rw[NI.qJ,kz,kz,Rat.intCast_add,J7 c,J7 f]
   have e2:(a.num.add b.num).m=(a.eZ&&b.eZ&&(a.num.sm&&b.num.sm)):=by rw[hw.1,hw.2];rfl
   rw[e1,e2]
  rw[e]at g;simp[f70,ad];refine c1 d ?_;simp[ad];refine c1 n ?_;simp[ad];refine c2 l ?_;simp[ad];refine c1 g ?_;simp[ad]
 ·have h:a.den.v.natAbs<2^kB:=by rw[jF];exact j.2
  have i:b.den.v.natAbs<2^kB:=by rw[jF];exact k.2
  have l:=qE (x:=a.num) (y:=b.den) j.1 i (by omega);have g:=qE (x:=b.num) (y:=a.den) k.1 h (by omega);have s:(a.num.mul b.den).v.natAbs<2^(kB+kB):=od j.1 i;have t:(b.num.mul a.den).v.natAbs<2^(kB+kB):=od k.1 h;have p:=vg _ _ (gO s (by omega)) (gO t (by omega));have r:=qE (x:=a.den) (y:=b.den) h i (by omega);have u:((a.num.mul b.den).add (b.num.mul a.den)).v.natAbs<2^(kB+kB+1):=by
   rw[NI.qJ,g0];exact gx (Int.natAbs_add_le _ _) (by omega)
  have w:kB=100000:=rfl;have o:=Cy ((a.num.mul b.den).add (b.num.mul a.den)) (a.den.mul b.den) (by rw[NI.lI,jc,jc];have:=a.q.den_nz;have:=b.q.den_nz;exact ei (by omega) (by omega)) (gO u (by omega)) (gO (od (x:=a.den.v) (y:=b.den.v) h i) (by omega));rw[VM a b hw]at o;have hc:a.eZ=false\/(a.eZ=true/\b.eZ=false):=by
   rcases c:a.eZ with _|_
   ·exact .inl rfl
   ·exact .inr ⟨rfl,by rcases f:b.eZ with _|_;rfl;exact(hw ⟨c,f⟩).elim⟩
  rcases hc with c|⟨c,f⟩
  ·rw[c]at d;simp[f70,ad];refine c1 d ?_;simp[ad];refine e2 l ?_;simp[ad];refine e2 g ?_;simp[ad];refine e2 p ?_;simp[ad];refine e2 r ?_;simp[ad];refine e2 o ?_;simp[ad]
  ·rw[c]at d;rw[f]at n;simp[f70,ad];refine c1 d ?_;simp[ad];refine c1 n ?_;simp[ad];refine e2 l ?_;simp[ad];refine e2 g ?_;simp[ad];refine e2 p ?_;simp[ad];refine e2 r ?_;simp[ad];refine e2 o ?_;simp[ad]
theorem xW(a b:NF)(d:bP kB a.q)(c:bP kB b.q):az prog 166 [eF a,eF b] (eF (a.sub b)):=by
 have e:=Jt b c;have f:=Cv a b.neg d (AF c);refine aL nf Ms mix (by simp[f166]) ?_;simp[f166,ad];refine e1 e ?_;simp[ad];refine e2 f ?_;simp[ad];exact Wk.refl _
def dJ(x y:Rat):Int:=if x<y then -1 else if x=y then 0 else 1
theorem azK(a b:Rat):ju (a.num*b.den) (b.num*a.den)=dJ a b:=by
 have c:a<b↔a.num*b.den<b.num*a.den:=hM _ _;have f:a=b↔a.num*b.den=b.num*a.den:=by
  constructor
  ·rintro rfl;rfl
  ·intro h
   by_cases d:a<b
   ·rw[c]at d;omega
   ·by_cases e:b<a
    ·have g:=(hM b a).1 e;omega
    ·exact Rat.le_antisymm (hL.1 e) (hL.1 d)
 simp only[ju,dJ,c,f]
theorem oY(a b:NF)(c:bP kB a.q)(d:bP kB b.q):az prog 110 [eF a,eF b] (.int .i64 (dJ a.q b.q)):=by
 have e:a.den.v.natAbs<2^kB:=by rw[jF];exact c.2
 have f:b.den.v.natAbs<2^kB:=by rw[jF];exact d.2
 have j:=qE (x:=a.num) (y:=b.den) c.1 f (by omega);have k:=qE (x:=b.num) (y:=a.den) d.1 e (by omega);have h:(a.num.mul b.den).v.natAbs<2^(kB+kB):=od c.1 f;have i:(b.num.mul a.den).v.natAbs<2^(kB+kB):=od d.1 e;have g:=ME _ _ (gO h (by omega)) (gO i (by omega));rw[NI.lI,NI.lI,kz,kz,jc,jc,azK]at g;refine aL nf Ew mix (by simp[f110]) ?_;simp[f110,ad];refine e2 j ?_;simp[ad];refine e2 k ?_;simp[ad];refine e2 g ?_;simp[ad]
def low:Nat->Nat->List Nat
 |0,_=>[]
 |i+1,n=>(48+n/10^i% 10)::low i n
def nd(n:Nat):Nat:=if h:n=0 then 0 else nd (n/10)+1
 decreasing_by omega
theorem nI:∀(i n:Nat),i<nd n↔10^i<=n
 |0,n=>by
  rw[nd];split
  ·subst n;simp
  ·simp;omega
 |i+1,n=>by
  rw[nd];split
  ·rename_i h;subst h;have:=gy (n:=i+1) (show 0<10 by omega);constructor
   ·intro h;omega
   ·intro h;omega
  ·have:=nI i (n/10);rw[ho (by omega),<-g0]at this;rw[<-this];omega
theorem pY(b n:Nat):∀a,low (a+b) n=low a (n/10^b)++low b n
 |0=>by simp[low]
 |a+1=>by
  rw[show a+1+b=(a+b)+1 by omega,low,low,pY b n a,Nat.div_div_eq_div_mul,<-g6,Nat.add_comm b a];rfl
theorem BC(n k:Nat):∀b,b<=k->low b (n% 10^k)=low b n
 |0,_=>rfl
 |b+1,h=>by
  have e:k=b+(k-b-1+1):=by omega
  have a:n% 10^k/10^b=n/10^b% 10^(k-b-1+1):=by
   conv=>lhs;rw[e,g6]
   rw[Nat.mod_mul_right_div_self]
  rw[low,low,BC n k b (by omega),a,Nat.mod_mod_of_dvd _ (Nat.pow_dvd_pow 10 (show 1<=k-b-1+1 by omega)|>fun h=>by simpa using h)]
theorem azq{n m:Nat}(h:∀i,i<nd n↔i<m):nd n=m:=by
 have a:=h m;have b:=h (nd n);omega
theorem Ch{n k:Nat}(h:10^k<=n):nd n=nd (n/10^k)+k:=by
 refine azq fun i=>?_;rw[nI]
 by_cases hi:i<k
 ·have:=gj (show 0<10 by omega) (Nat.le_of_lt hi);constructor
  ·intro _;omega
  ·intro _;omega
 ·obtain⟨j,rfl⟩:∃j,i=j+k:=⟨i-k,by omega⟩
  rw[g6,<-ho (gy (by omega)),<-nI];omega
theorem qH{n k:Nat}(h:n<10^k):nd n<=k:=by
 rcases g9 k (nd n)with a|a
 ·rw[nI]at a;omega
 ·exact a
theorem yv{n:Nat}(h:0<n):0<nd n:=by rw[nI,hd];exact h
theorem U8{M:Nat}(h:10^9<=M):low (nd M) M=low (nd (M/10^9)) (M/10^9)++low 9 (M% 10^9):=by
 rw[Ch h,pY,BC _ _ _ (gt 9)]
theorem pX(n:Nat):∀i,(low i n).length=i
 |0=>rfl
 |i+1=>by simp[low,pX n i]
def bm(n:Nat):List Nat:=low (max 1 (nd n)) n
def cE(z:Int):List Nat:=if z<0 then 45::bm z.natAbs else bm z.natAbs
def bH(q:Rat):List Nat:=if q.den=1 then cE q.num else cE q.num++47::bm q.den
def aU(s:List Nat):Nat:=s.foldl (fun n c=>n*10+(c-48)) 0
def b6(c:Nat):Bool:=decide (48<=c)&&decide (c<=57)
theorem wY(s:List Nat)(c:Nat):aU (s++[c])=aU s*10+(c-48):=by simp[aU]
theorem rW(i n:Nat):low (i+1) n=low i (n/10)++[48+n% 10]:=by
 have:=pY 1 n i;rw[this];simp[low]
theorem Og:∀(i n:Nat),(low i n).all b6=true
 |0,n=>rfl
 |i+1,n=>by
  rw[low,e7,Og i n];have:=hz (n/10^i) (show 0<10 by omega);simp[b6];omega
theorem IG:∀(i n:Nat),aU (low i n)=n% 10^i
 |0,n=>by simp[low,aU,Nat.mod_one]
 |i+1,n=>by
  rw[rW,wY,IG i,g0,g8 (10^i),Nat.mod_mul];omega
theorem Hw(n:Nat):n<10^nd n:=by
 rcases g9 n (10^nd n)with h|h
 ·exact h
 ·have:=(nI (nd n) n).2 h;omega
theorem xn(n:Nat):aU (bm n)=n:=by
 rw[bm,IG];refine g7 (gm (Hw n) (gj (by omega) (by omega)))
theorem sc(n:Nat):(bm n).length=max 1 (nd n):=pX _ _
theorem uZ(n:Nat):(bm n).all b6=true:=Og _ _
theorem pJ:bm 0=[48]:=by
 have:nd 0=0:=by rw[nd,dif_pos rfl]
 rw[bm,this];rfl
def dv(s:List Nat):Bool:=!s.isEmpty&&s.all b6&&(decide (s.head?≠some 48)||decide (s=[48]))
theorem iX:∀(k:Nat)(s:List Nat),s.length=k->s.all b6=true->aU s<10^k
 |0,s,h,_=>by
            have:s=[]:=e8.1 h
            subst this;simp[aU]
 |n+1,s,h,a=>by
  have b:s≠[]:=by intro e;subst e;simp at h
  obtain⟨t,c,rfl⟩:∃t c,s=t++[c]:=⟨s.dropLast,s.getLast b,(fd b).symm⟩
  simp only[ge,e7,gi,ay,av]at a;have d:=iX n t (by simpa using h) a.1;have hc:=a.2;simp only[b6,av,decide_eq_true_eq]at hc;rw[wY,g0];omega
theorem JD:∀(k:Nat)(s:List Nat),s.length=k->s.all b6=true->low k (aU s)=s
 |0,s,h,_=>by
            have:s=[]:=e8.1 h
            subst this;rfl
 |n+1,s,h,a=>by
  have b:s≠[]:=by intro e;subst e;simp at h
  obtain⟨t,c,rfl⟩:∃t c,s=t++[c]:=⟨s.dropLast,s.getLast b,(fd b).symm⟩
  simp only[ge,e7,gi,ay,av]at a;have d:=JD n t (by simpa using h) a.1;have hc:=a.2;simp only[b6,av,decide_eq_true_eq]at hc;rw[rW,wY];have e1:(aU t*10+(c-48))/10=aU t:=by omega
  have e2:(aU t*10+(c-48))% 10=c-48:=by omega
  rw[e1,e2,d];congr 2;omega
theorem QO(c:Nat)(s:List Nat)(h:49<=c):10^s.length<=aU (c::s):=by
 have key:∀(s:List Nat)(a:Nat),a*10^s.length<=s.foldl (fun n c=>n*10+(c-48)) a:=by
  intro s
  induction s with
  |nil=>intro a;simp
  |cons x r b=>
   intro a;rw[gc,fv];refine ha ?_ (b _);rw[g0,g8 (10^r.length),<-hC];exact ht _ (by omega)
 have:=key s (c-48);rw[aU,gc,Nat.zero_mul,hD];refine ha ?_ this;have:1*10^s.length<=(c-48)*10^s.length:=ht _ (by omega);omega
theorem uO{s:List Nat}(h:dv s=true):bm (aU s)=s:=by
 simp only[dv,av,ax,decide_eq_true_eq,aT]at h;obtain⟨⟨f,a⟩,b⟩:=h;rcases b with b|rfl
 ·cases s with
  |nil=>simp at f
  |cons c r=>
   have hc:b6 c=true:=by simpa using(e7.symm.trans a|>fun h=>by simpa using h:b6 c=true/\r.all b6=true).1
   simp only[b6,av,decide_eq_true_eq]at hc;have i:49<=c:=by
    have:c≠48:=fun e=>b (by rw[e];rfl);omega
   have g:=iX _ _ rfl a;have j:=QO c r i;have k:nd (aU (c::r))=r.length+1:=by
    have l:=(nI r.length _).2 j;have d:=qH g;rw[fv]at d;omega
   rw[bm,k,show max 1 (r.length+1)=r.length+1 by omega];exact JD _ _ rfl a
 ·have:aU [48]=0:=rfl;rw[this,pJ]
def bS(c:Nat):List Nat->List Nat×List Nat×Bool
 |[]=>([],[],false)
 |x::r=>if x=c then([],r,true)else(x::(bS c r).1,(bS c r).2.1,(bS c r).2.2)
theorem Ht(c:Nat):∀(a b:List Nat),c∉a->bS c (a++c::b)=(a,b,true)
 |[],b,_=>by simp[bS]
 |x::a,b,h=>by
  simp only[gg,not_or]at h;rw[e9,bS,if_neg (fun e=>h.1 e.symm),Ht c a b h.2]
theorem Gw(c:Nat):∀(a:List Nat),c∉a->bS c a=(a,[],false)
 |[],_=>rfl
 |x::a,h=>by
  simp only[gg,not_or]at h;rw[bS,if_neg (fun e=>h.1 e.symm),Gw c a h.2]
theorem oJ(c:Nat):∀(s:List Nat),((bS c s).2.2=true/\s=(bS c s).1++c::(bS c s).2.1)\/((bS c s).2.2=false/\(bS c s).1=s/\(bS c s).2.1=[])
 |[]=>by simp[bS]
 |x::s=>by
  rw[bS]
  by_cases h:x=c
  ·subst h;simp
  ·rw[if_neg h];rcases oJ c s with⟨a,b⟩|⟨a,b,d⟩
   ·left;exact⟨a,by dsimp only;rw[e9,<-b]⟩
   ·right;exact⟨a,by dsimp only;rw[b],d⟩
def bQ(s:List Nat):Bool:=decide (s.head?=some 45)
def cG(s:List Nat):List Nat:=if bQ s=true then s.tail else s
def bA(s:List Nat):List Nat:=(bS 47 (cG s)).1
def bJ(s:List Nat):List Nat:=(bS 47 (cG s)).2.1
def dO(s:List Nat):Bool:=(bS 47 (cG s)).2.2
def kG(s:List Nat):Bool:=dv (bA s)&&!(bQ s&&decide (bA s=[48]))&&(!dO s||(dv (bJ s)&&decide (bJ s≠[48])&&decide (bJ s≠[49])))
def bU(s:List Nat):Int:=
 if kG s=false then 1
 else if 600<(bA s).length\/600<(bJ s).length then 4
 else if dO s=true/\hh (aU (bA s)) (aU (bJ s))≠1 then 1 else 0
def bh(s:List Nat):Rat:=hJ (if bQ s=true then -(aU (bA s):Int)else aU (bA s)) (if dO s=true then aU (bJ s)else 1:Nat)
theorem O4{s:List Nat}(h:s.all b6=true){c:Nat}(hc:b6 c=false):c∉s:=by
 intro a;rw[fH]at h;rw[h c a]at hc;cases hc
theorem iO{s:List Nat}(h:dv s=true):s.all b6=true:=by
 simp only[dv,av]at h;exact h.1.2
theorem tW(n:Nat):cE (n:Int)=bm n:=by
 rw[cE,if_neg (by omega)];rfl
theorem aBP{n:Nat}(h:0<n):cE (-(n:Int))=45::bm n:=by
 rw[cE,if_pos (by omega)];congr 1;rw[ej];rfl
theorem xo{s:List Nat}(h:dv s=true)(a:s≠[48]):0<aU s:=by
 rcases g5 (aU s)with e|e
 ·have:=uO h;rw[e,pJ]at this;exact(a this.symm).elim
 ·exact e
theorem jn{s:List Nat}(h:bU s=0):bH (bh s)=s/\(bh s).num=(if bQ s=true then -(aU (bA s):Int)else aU (bA s))/\(bh s).den=(if dO s=true then aU (bJ s)else 1:Nat):=by
 unfold bU at h
 split at h
 ·cases h
 rename_i b
 split at h
 ·cases h
 split at h
 ·cases h
 rename_i g;have b:kG s=true:=by simpa using b
 simp only[kG,av,aT,Bool.and_eq_false_iff,decide_eq_false_iff_not,ax,decide_eq_true_eq]at b;obtain⟨⟨d,a2⟩,a3⟩:=b;have hs:s=(if bQ s=true then[45]else[])++cG s:=by
  rw[cG]
  by_cases a:bQ s=true
  ·rw[if_pos a,if_pos a];simp only[bQ,decide_eq_true_eq]at a;cases s with
   |nil=>simp at a
   |cons c r=>simp at a;subst a;rfl
  ·rw[if_neg a,if_neg a];rfl
 have i:(if dO s=true then aU (bJ s)else 1:Nat)≠0:=by
  split
  ·rename_i hf;rcases a3 with a3|a3
   ·rw[hf]at a3;cases a3
   ·have:=xo a3.1.1 a3.1.2;omega
  ·omega
 have j:hh (if bQ s=true then -(aU (bA s):Int)else aU (bA s)).natAbs (if dO s=true then aU (bJ s)else 1:Nat)=1:=by
  have e:(if bQ s=true then -(aU (bA s):Int)else aU (bA s)).natAbs=aU (bA s):=by split<;>omega
  rw[e]
  by_cases hf:dO s=true
  ·rw[if_pos hf];exact Decidable.not_not.1 fun e=>g ⟨hf,e⟩
  ·rw[if_neg hf,hA]
 obtain⟨e1,e2⟩:=lj (n:=if bQ s=true then -(aU (bA s):Int)else aU (bA s)) i;rw[j]at e1 e2;simp only[Nat.div_one]at e2;have e1:(bh s).num=(if bQ s=true then -(aU (bA s):Int)else aU (bA s)):=by rw[bh,e1];exact en _
 have e2:(bh s).den=(if dO s=true then aU (bJ s)else 1:Nat):=e2;refine⟨?_,e1,e2⟩;have hI:cE (bh s).num=(if bQ s=true then[45]else[])++bA s:=by
  rw[e1]
  by_cases a:bQ s=true
  ·rw[if_pos a,if_pos a,aBP,uO d];·rfl
   refine xo d ?_;rcases a2 with a2|a2
   ·rw[a]at a2;cases a2
   ·exact a2
  ·rw[if_neg a,if_neg a,tW,uO d];rfl
 rw[bH,hI,e2]
 by_cases hf:dO s=true
 ·have f:dv (bJ s)=true/\bJ s≠[48]/\bJ s≠[49]:=by
   rcases a3 with a3|a3
   ·rw[hf]at a3;cases a3
   ·exact⟨a3.1.1,a3.1.2,a3.2⟩
  have k:aU (bJ s)≠1:=by
   intro e;have:=uO f.1;rw[e]at this;have b:nd 1=1:=by rw[nd,dif_neg (by omega),nd,dif_pos (by omega)]
   have:bm 1=[49]:=by rw[bm,b];rfl
   exact f.2.2 (by rw[<-this];assumption|>Eq.symm)
  rw[if_pos hf,if_neg k,uO f.1]
  conv=>rhs;rw[hs]
  rw[List.append_assoc];congr 1;rcases oJ 47 (cG s)with⟨g1,g2⟩|⟨g1,_⟩
  ·exact g2.symm
  ·rw[dO,g1]at hf;cases hf
 ·rw[if_neg hf,if_pos rfl]
  conv=>rhs;rw[hs]
  congr 1;rcases oJ 47 (cG s)with⟨g1,g2⟩|⟨g1,g2,_⟩
  ·exact(hf g1).elim
  ·exact g2
theorem Al(z:Int)(r:List Nat):bQ (cE z++r)=decide (z<0)/\cG (cE z++r)=bm z.natAbs++r:=by
 by_cases h:z<0
 ·have:cE z=45::bm z.natAbs:=by rw[cE,if_pos h]
  rw[this];simp[bQ,cG,h]
 ·have e:cE z=bm z.natAbs:=by rw[cE,if_neg h]
  have a:=uZ z.natAbs;have b:=sc z.natAbs;rw[e];have d:bQ (bm z.natAbs++r)=false:=by
   cases f:bm z.natAbs with
   |nil=>rw[f]at b;simp at b;omega
   |cons c t=>
    rw[f]at a;simp only[e7,av]at a;have hc:=a.1;simp only[b6,av,decide_eq_true_eq]at hc;have:¬(some c=some 45):=by intro e;injection e with e;omega
    simp only[bQ,e9,gb,this,decide_false]
  exact⟨by rw[d];simp[h],by rw[cG,d];simp⟩
theorem uj(q:Rat):bQ (bH q)=decide (q.num<0)/\bA (bH q)=bm q.num.natAbs/\dO (bH q)=decide (q.den≠1)/\bJ (bH q)=if q.den=1 then[]else bm q.den:=by
 have d:47∉bm q.num.natAbs:=O4 (uZ _) rfl
 by_cases h:q.den=1
 ·have e:bH q=cE q.num++[]:=by rw[bH,if_pos h,e6]
  obtain⟨c,b⟩:=Al q.num [];rw[e6,e6]at b;have a:=Gw 47 _ d;rw[<-b]at a;rw[e];refine⟨c,?_,?_,?_⟩
  ·rw[e6,bA,a,b]
  ·rw[e6,dO,a,h];rfl
  ·rw[e6,bJ,a,if_pos h]
 ·have e:bH q=cE q.num++47::bm q.den:=by rw[bH,if_neg h]
  obtain⟨c,b⟩:=Al q.num (47::bm q.den);have a:=Ht 47 _ (bm q.den) d;rw[<-b]at a;rw[e];refine⟨c,?_,?_,?_⟩
  ·rw[bA,a]
  ·rw[dO,a];simp[h]
  ·rw[bJ,a,if_neg h]
theorem II(q:Rat):bh (bH q)=q:=by
 obtain⟨a,b,c,d⟩:=uj q;have e1:(if bQ (bH q)=true then -(aU (bA (bH q)):Int)else aU (bA (bH q)))=q.num:=by
  rw[a,b,xn]
  by_cases h:q.num<0
  ·simp[h];omega
  ·simp[h];omega
 have e2:(if dO (bH q)=true then aU (bJ (bH q))else 1:Nat)=q.den:=by
  rw[c,d]
  by_cases h:q.den=1
  ·simp[h]
  ·simp[h,xn]
 rw[bh,e1,e2,Rat.num_divInt_den]
theorem aBT{a b:Rat}(h:bH a=bH b):a=b:=by rw[<-II a,h,II]
theorem tV{n k:Nat}(h:n<10^k)(hk:1<=k):(bm n).length<=k:=by
 rw[sc];have:=qH h;omega
theorem Bz(z:Int):(cE z).length<=(bm z.natAbs).length+1:=by
 rw[cE];split<;>simp
theorem aBV(q:Rat):(bH q).length<=(bm q.num.natAbs).length+(bm q.den).length+2:=by
 have:=Bz q.num;rw[bH];split<;>simp<;>omega
theorem R9(k:Nat):2^(3*k)<=10^k:=by
 rw[hg];exact Nat.pow_le_pow_left (by omega) k
theorem G5{n k:Nat}(h:n<2^(3*k))(hk:1<=k):(bm n).length<=k:=tV (gm h (R9 k)) hk
theorem vi{n k K:Nat}(h:n<2^K)(a:K<=3*k)(hk:1<=k):(bm n).length<=k:=G5 (gm h (gj (by decide) a)) hk
def mD:Nat:=600
theorem WX{s:List Nat}(h:bU s=0):(bh s).num.natAbs<10^mD/\(bh s).den<10^mD:=by
 obtain⟨k,f,g⟩:=jn h;unfold bU at h
 split at h
 ·cases h
 rename_i a
 split at h
 ·cases h
 rename_i l;have a:kG s=true:=by simpa using a
 simp only[kG,av,ax,decide_eq_true_eq]at a;obtain⟨⟨b,_⟩,a3⟩:=a;have c:=iX _ _ rfl (iO b);have i:10^(bA s).length<=10^mD:=gj (by omega) (by rw[mD];omega);refine⟨?_,?_⟩
 ·rw[f];have e:(if bQ s=true then -(aU (bA s):Int)else aU (bA s)).natAbs=aU (bA s):=by split<;>omega
  rw[e];exact gm c i
 ·rw[g]
  by_cases hf:dO s=true
  ·rw[if_pos hf];rcases a3 with a3|a3
   ·rw[hf]at a3;cases a3
   ·have d:=iX _ _ rfl (iO a3.1.1);have j:10^(bJ s).length<=10^mD:=gj (by omega) (by rw[mD];omega);exact gm d j
  ·rw[if_neg hf];exact Nat.one_lt_pow (by decide) (by omega)
open Go
def cN(l:List UInt8):List Nat:=l.map (·.toNat)
theorem Sh(l:List UInt8):(cN l).map hO=l:=by
 induction l with
 |nil=>rfl
 |cons a r b=>simp only[cN,fm]at b⊢;rw[b];simp
def mI(c:Nat):List Nat->Nat->Int
 |[],_=>-1
 |x::r,i=>bif hn x c then(i:Int)else mI c r (i+1)
theorem JL(c:UInt8):∀(l:List UInt8)(i:Nat),mI c.toNat (cN l) i=if bk l c= -1 then -1 else bk l c+i
 |[],i=>by simp[mI,cN,bk]
 |x::r,i=>by
  have b:=JL c r (i+1);simp only[cN]at b;simp only[cN,fm,mI,bk]
  by_cases hx:x=c
  ·subst hx;simp
  ·have e:hn x.toNat c.toNat=false:=by
    cases d:hn x.toNat c.toNat
    ·rfl
    ·exact(hx (hN.1 (hp d))).elim
   have f:=Lib.indexByte_ge r c;simp only[e,cond_false,b,beq_iff_eq,hx,if_false]
   by_cases a:bk r c= -1
   ·simp[a]
   ·rw[if_neg a,if_neg a];rw[if_neg (by omega)];omega
theorem JM(c:Nat):∀(s:List Nat)(k:Nat),((bS c s).2.2=false/\mI c s k= -1/\bS c s=(s,[],false))\/
 ∃i,i<s.length/\mI c s k=((k+i:Nat):Int)/\bS c s=(s.take i,s.drop (i+1),true)
 |[],k=>by simp[bS,mI]
 |x::r,k=>by
  rw[bS,mI]
  by_cases h:x=c
  ·subst h;right;refine⟨0,by simp,?_,?_⟩
   ·simp
   ·simp
  ·have d:hn x c=false:=by
    cases d:hn x c
    ·rfl
    ·exact(h (hp d)).elim
   rw[d,if_neg h,cond_false];rcases JM c r (k+1)with⟨e,a,b⟩|⟨i,e,a,b⟩
   ·left;exact⟨e,a,by rw[b]⟩
   ·right;refine⟨i+1,by simp;omega,?_,?_⟩
    ·rw[a];congr 1;omega
    ·rw[b];simp
theorem zN(n:Nat):cN (be n)=bm n:=by
 induction n using Nat.strongRecOn with
 |ind n a=>
  rw[be]
  by_cases h:n<10
  ·rw[dif_pos h,bm];have c:nd n<=1:=qH (by omega);rw[show max 1 (nd n)=1 by omega];rw[show(1:Nat)=0+1 from rfl,rW,low,List.nil_append,g7 h];simp[cN,hP];omega
  ·rw[dif_neg h];have b:=a (n/10) (by omega);have e:nd n=nd (n/10)+1:=by
    have:=Ch (n:=n) (k:=1) (by omega);rw[he]at this;exact this
   have d:0<nd (n/10):=yv (by omega);rw[bm,e,show max 1 (nd (n/10)+1)=max 1 (nd (n/10))+1 by omega,rW];have:cN (be (n/10)++[hO (48+n% 10)])=cN (be (n/10))++[48+n% 10]:=by
    simp[cN,hP];omega
   rw[this,b,bm]
theorem axG(z:Int):cN (b5 z)=cE z:=by
 rw[b5,cE]
 by_cases h:z<0
 ·rw[if_pos h,if_pos h];show 45::cN _=_;rw[zN]
 ·rw[if_neg h,if_neg h,zN];congr 1;omega
def re(s:List Nat):Nat->List Nat
 |0=>[]
 |n+1=>s++re s n
theorem I1(s:List UInt8):∀n,re (cN s) n=cN (b3 s n)
 |0=>by simp[re,b3,cN]
 |n+1=>by
  have a:=I1 s n;simp only[cN]at a;simp[re,b3,cN,a]
theorem A2(c:Nat):∀n,re [c] n=fl n c
 |0=>rfl
 |n+1=>by rw[re,A2 c n];rfl
theorem As(l:List UInt8):b0 l [45]=bQ (cN l):=by
 cases l with
 |nil=>rfl
 |cons c r=>
  rw[b0,bQ];simp only[cN,fm,List.isPrefixOf,gb,ay,Option.some.injEq]
  by_cases h:c=45
  ·subst h;rfl
  ·have a:¬c.toNat=45:=fun e=>h (hN.1 e);have b:((45:UInt8)==c)=false:=by simpa using fun e=>h e.symm
   rw[b];simp[a]
theorem Gs(l:List UInt8):cN (bv l [45])=cG (cN l):=by
 rw[bv,As,cG];cases h:bQ (cN l)
 ·simp
 ·cases l with
  |nil=>simp[cN,bQ]at h
  |cons c r=>simp[cN]
def ky(s:List Nat):List Nat:=s.dropWhile b6
def iB(s:List Nat):List Nat:=(s.reverse.dropWhile b6).reverse
theorem v7{p:Nat->Bool}:∀{s:List Nat},s.dropWhile p=[]↔s.all p=true
 |[]=>by simp
 |x::r=>by
  rw[List.dropWhile_cons];cases h:p x
  ·simp[h]
  ·simp[h,v7]
theorem SR(s:List Nat):ky (iB s)=[]↔s.all b6=true:=by
 rw[ky,v7,iB];constructor
 ·intro h
  by_cases a:s.reverse.dropWhile b6=[]
  ·rw[v7,fb]at a;exact a
  ·have b:=List.head_dropWhile_not b6 a;rw[fb,fH]at h;rw[h _ (List.head_mem a)]at b;cases b
 ·intro h;have:s.reverse.dropWhile b6=[]:=by rw[v7,fb];exact h
  rw[this];rfl
end Go.aw
namespace Go.Proofs
open Go.Shelf
def Tryz.R4:db:=⟨fun|103=>251|210=>294|206=>297|n=>n,fun|9=>9|4=>4|24=>309|3=>3|n=>n,fun|n=>n⟩
theorem Tryz.ayG:c6 prog R4:={
 mixed:=by kernel_rfl
 f103:=func251.trans (congrArg some (by kernel_rfl))
 f206:=func297.trans (congrArg some (by kernel_rfl))
 f210:=func294.trans (congrArg some (by kernel_rfl))
 t3:=underlying3
 a3:=isAgg3
 z3:=sizeOf3
 v3:=zeroValue3
 t4:=underlying4
 a4:=isAgg4
 z4:=sizeOf4
 v4:=zeroValue4
 t9:=underlying9
 a9:=isAgg9
 z9:=sizeOf9
 v9:=zeroValue9
 t24:=underlying309
 a24:=isAgg309
 z24:=sizeOf309
 v24:=zeroValue309}
open Go.RowKit in
theorem Tryz.strings_CutPrefix(s p:ByteArray)(w:a7):
 a8 prog 251 #[.string s,.string p] w fun e w'=>e=.returned (.tuple #[.string ⟨(bv s.data.toList p.data.toList).toArray⟩,.bool (b0 s.data.toList p.data.toList)])/\w'=w:=Any.strings_CutPrefix ayG s p w
def Tryz.RX:db:=⟨fun|283=>323|n=>n,fun|3=>3|9=>9|4=>4|n=>n,fun|n=>n⟩
theorem Tryz.aza:cv prog RX:={
 mixed:=by kernel_rfl
 f283:=func323.trans (congrArg some (by kernel_rfl))
 t3:=underlying3
 a3:=isAgg3
 z3:=sizeOf3
 v3:=zeroValue3
 t4:=underlying4
 a4:=isAgg4
 z4:=sizeOf4
 v4:=zeroValue4
 t9:=underlying9
 a9:=isAgg9
 z9:=sizeOf9
 v9:=zeroValue9}
open Go.Lib in
theorem Tryz.internal_strconv_small(i:Nat)(h:i<100)(w:a7):
 a8 prog 323 #[.int .i64 i] w fun e w'=>e=.returned (.string ⟨(be i).toArray⟩)/\w'=w:=Any.internal_strconv_small aza i h w
def Tryz.Ri:db:=⟨fun|284=>324|129=>312|317=>362|318=>363|n=>n,fun|53=>304|3=>3|212=>396|0=>0|4=>4|46=>323|5=>5|9=>9|n=>n,fun|17=>1|n=>n⟩
theorem Tryz.Vb:Go.Proofs.LaysM.n284 prog Ri:={
 mixed:=by kernel_rfl
 f129:=func312.trans (congrArg some (by kernel_rfl))
 f284:=func324.trans (congrArg some (by kernel_rfl))
 f317:=func362.trans (congrArg some (by kernel_rfl))
 f318:=func363.trans (congrArg some (by kernel_rfl))
 t0:=underlying0
 a0:=isAgg0
 z0:=sizeOf0
 v0:=zeroValue0
 t3:=underlying3
 a3:=isAgg3
 z3:=sizeOf3
 v3:=zeroValue3
 t4:=underlying4
 a4:=isAgg4
 z4:=sizeOf4
 v4:=zeroValue4
 t5:=underlying5
 a5:=isAgg5
 z5:=sizeOf5
 v5:=zeroValue5
 t9:=underlying9
 a9:=isAgg9
 z9:=sizeOf9
 v9:=zeroValue9
 t46:=underlying323
 a46:=isAgg323
 z46:=sizeOf323
 v46:=zeroValue323
 t53:=underlying304
 a53:=isAgg304
 z53:=sizeOf304
 v53:=zeroValue304
 t212:=underlying396
 a212:=isAgg396
 z212:=sizeOf396
 v212:=zeroValue396
 g17:=by kernel_rfl
 i0:=by kernel_rfl
 i3:=by kernel_rfl
 i4:=by kernel_rfl
 i5:=by kernel_rfl
 i9:=by kernel_rfl
 i46:=by kernel_rfl
 i53:=by kernel_rfl
 i212:=by kernel_rfl
 m17:=by kernel_rfl}
open Go.Lib in
theorem Tryz.internal_strconv_numDigits(u:Nat)(h1:1<=u)(h2:u<18446744073709551616)(w:a7)(htab:b2 prog w "internal/strconv.uint64pow10" .u64 b1):
 a8 prog 324 #[.int .u64 u] w fun e w'=>e=.returned (.int .i64 (bi u))/\w'=w:=Any.internal_strconv_numDigits Vb u h1 h2 w htab
def Tryz.RW:db:=⟨fun|285=>325|n=>n,fun|37=>223|53=>304|3=>3|4=>4|51=>355|9=>9|5=>5|0=>0|n=>n,fun|n=>n⟩
theorem Tryz.azb:ck prog RW:={
 mixed:=by kernel_rfl
 f285:=func325.trans (congrArg some (by kernel_rfl))
 t0:=underlying0
 a0:=isAgg0
 z0:=sizeOf0
 v0:=zeroValue0
 t3:=underlying3
 a3:=isAgg3
 z3:=sizeOf3
 v3:=zeroValue3
 t4:=underlying4
 a4:=isAgg4
 z4:=sizeOf4
 v4:=zeroValue4
 t5:=underlying5
 a5:=isAgg5
 z5:=sizeOf5
 v5:=zeroValue5
 t9:=underlying9
 a9:=isAgg9
 z9:=sizeOf9
 v9:=zeroValue9
 t37:=underlying223
 a37:=isAgg223
 z37:=sizeOf223
 v37:=zeroValue223
 t51:=underlying355
 a51:=isAgg355
 z51:=sizeOf355
 v51:=zeroValue355
 t53:=underlying304
 a53:=isAgg304
 z53:=sizeOf304
 v53:=zeroValue304}
open Go.RowKit Go.Sort Go.Lib in
theorem Tryz.internal_strconv_formatBase10(ak off cap:Nat)(u:Nat)(d:Array UInt8)(w:a7)(hH:Holds (fun(b:UInt8)=>dl .u8 (b.toNat:Int)) w ak off d)(hu:u<10^d.size)(hu64:u<18446744073709551616)(hsz:d.size<4611686018427387904):
 a8 prog 325 #[.slice (some ⟨ak,off,none⟩) d.size cap,.int .u64 u] w fun e w'=>
  e=.returned (.tuple #[])/\∃(n v':Nat)(dk:Array UInt8),w'=(putRow (fun(b:UInt8)=>dl .u8 (b.toNat:Int)) w ak off dk).drewN n/\FmtInv d.size u 0 v' dk:=Any.internal_strconv_formatBase10 azb ak off cap u d w hH hu hu64 hsz
def Tryz.Q3:db:=⟨fun|171=>153|243=>227|246=>280|283=>323|284=>324|285=>325|286=>326|129=>312|317=>362|318=>363|319=>364|320=>365|337=>380|338=>381|n=>n,fun|3=>3|9=>9|2=>2|4=>4|171=>362|0=>0|53=>304|37=>223|5=>5|173=>364|212=>396|51=>355|20=>20|213=>397|46=>323|232=>420|233=>421|n=>n,fun|17=>1|18=>6|19=>7|n=>n⟩
theorem Tryz.Vc:Go.Proofs.LaysM.n171 prog Q3:={
 mixed:=by kernel_rfl
 f129:=func312.trans (congrArg some (by kernel_rfl))
 f171:=func153.trans (congrArg some (by kernel_rfl))
 f243:=func227.trans (congrArg some (by kernel_rfl))
 f246:=func280.trans (congrArg some (by kernel_rfl))
 f283:=func323.trans (congrArg some (by kernel_rfl))
 f284:=func324.trans (congrArg some (by kernel_rfl))
 f285:=func325.trans (congrArg some (by kernel_rfl))
 f286:=func326.trans (congrArg some (by kernel_rfl))
 f317:=func362.trans (congrArg some (by kernel_rfl))
 f318:=func363.trans (congrArg some (by kernel_rfl))
 f319:=func364.trans (congrArg some (by kernel_rfl))
 f320:=func365.trans (congrArg some (by kernel_rfl))
 f337:=func380.trans (congrArg some (by kernel_rfl))
 f338:=func381.trans (congrArg some (by kernel_rfl))
 t0:=underlying0
 a0:=isAgg0
 z0:=sizeOf0
 v0:=zeroValue0
 t2:=underlying2
 a2:=isAgg2
 z2:=sizeOf2
 v2:=zeroValue2
 t3:=underlying3
 a3:=isAgg3
 z3:=sizeOf3
 v3:=zeroValue3
 t4:=underlying4
 a4:=isAgg4
 z4:=sizeOf4
 v4:=zeroValue4
 t5:=underlying5
 a5:=isAgg5
 z5:=sizeOf5
 v5:=zeroValue5
 t9:=underlying9
 a9:=isAgg9
 z9:=sizeOf9
 v9:=zeroValue9
 t20:=underlying20
 a20:=isAgg20
 z20:=sizeOf20
 v20:=zeroValue20
 t37:=underlying223
 a37:=isAgg223
 z37:=sizeOf223
 v37:=zeroValue223
 t46:=underlying323
 a46:=isAgg323
 z46:=sizeOf323
 v46:=zeroValue323
 t51:=underlying355
 a51:=isAgg355
 z51:=sizeOf355
 v51:=zeroValue355
 t53:=underlying304
 a53:=isAgg304
 z53:=sizeOf304
 v53:=zeroValue304
 t171:=underlying362
 a171:=isAgg362
 z171:=sizeOf362
 v171:=zeroValue362
 t173:=underlying364
 a173:=isAgg364
 z173:=sizeOf364
 v173:=zeroValue364
 t212:=underlying396
 a212:=isAgg396
 z212:=sizeOf396
 v212:=zeroValue396
 t213:=underlying397
 a213:=isAgg397
 z213:=sizeOf397
 t232:=underlying420
 a232:=isAgg420
 z232:=sizeOf420
 v232:=zeroValue420
 t233:=underlying421
 a233:=isAgg421
 z233:=sizeOf421
 v233:=zeroValue421
 g17:=by kernel_rfl
 g18:=by kernel_rfl
 g19:=by kernel_rfl
 i0:=by kernel_rfl
 i2:=by kernel_rfl
 i3:=by kernel_rfl
 i4:=by kernel_rfl
 i5:=by kernel_rfl
 i9:=by kernel_rfl
 i20:=by kernel_rfl
 i37:=by kernel_rfl
 i46:=by kernel_rfl
 i51:=by kernel_rfl
 i53:=by kernel_rfl
 i171:=by kernel_rfl
 i173:=by kernel_rfl
 i212:=by kernel_rfl
 i232:=by kernel_rfl
 i233:=by kernel_rfl
 m17:=by kernel_rfl
 m18:=by kernel_rfl
 m19:=by kernel_rfl}
open Go.RowKit Go.Sort Go.Lib in
theorem Tryz.strconv_Itoa(n:Int)(h0: -9223372036854775808<=n)(h1:n<=9223372036854775807)(w:a7)(htab:b2 prog w "internal/strconv.uint64pow10" .u64 b1):
 a8 prog 153 #[.int .i64 n] w fun e w'=>e=.returned (.string ⟨(b5 n).toArray⟩)/\∃k os,w'=grow (w.drewN k) os:=Any.strconv_Itoa Vc n h0 h1 w htab
def Tryz.Q5:db:=⟨fun|172=>260|244=>299|245=>300|247=>347|279=>348|280=>349|281=>350|282=>351|287=>375|316=>376|171=>153|205=>377|321=>385|322=>386|243=>227|246=>280|283=>323|284=>324|285=>325|286=>326|129=>312|317=>362|318=>363|319=>364|320=>365|337=>380|338=>381|n=>n,fun|9=>9|3=>3|75=>227|76=>228|4=>4|5=>5|167=>379|37=>223|0=>0|85=>380|2=>2|168=>382|53=>304|175=>405|46=>323|210=>409|127=>329|145=>419|143=>417|21=>21|171=>362|173=>364|212=>396|51=>355|20=>20|213=>397|232=>420|233=>421|80=>289|n=>n,fun|15=>4|16=>5|17=>1|18=>6|19=>7|n=>n⟩
theorem Tryz.Vd:Go.Proofs.LaysC.n172 prog Q5:={
 mixed:=by kernel_rfl
 f129:=func312.trans (congrArg some (by kernel_rfl))
 f171:=func153.trans (congrArg some (by kernel_rfl))
 f172:=func260.trans (congrArg some (by kernel_rfl))
 f205:=func377.trans (congrArg some (by kernel_rfl))
 f243:=func227.trans (congrArg some (by kernel_rfl))
 f244:=func299.trans (congrArg some (by kernel_rfl))
 f245:=func300.trans (congrArg some (by kernel_rfl))
 f246:=func280.trans (congrArg some (by kernel_rfl))
 f247:=func347.trans (congrArg some (by kernel_rfl))
 f279:=func348.trans (congrArg some (by kernel_rfl))
 f280:=func349.trans (congrArg some (by kernel_rfl))
 f281:=func350.trans (congrArg some (by kernel_rfl))
 f282:=func351.trans (congrArg some (by kernel_rfl))
 f283:=func323.trans (congrArg some (by kernel_rfl))
 f284:=func324.trans (congrArg some (by kernel_rfl))
 f285:=func325.trans (congrArg some (by kernel_rfl))
 f286:=func326.trans (congrArg some (by kernel_rfl))
 f287:=func375.trans (congrArg some (by kernel_rfl))
 f316:=func376.trans (congrArg some (by kernel_rfl))
 f317:=func362.trans (congrArg some (by kernel_rfl))
 f318:=func363.trans (congrArg some (by kernel_rfl))
 f319:=func364.trans (congrArg some (by kernel_rfl))
 f320:=func365.trans (congrArg some (by kernel_rfl))
 f321:=func385.trans (congrArg some (by kernel_rfl))
 f322:=func386.trans (congrArg some (by kernel_rfl))
 f337:=func380.trans (congrArg some (by kernel_rfl))
 f338:=func381.trans (congrArg some (by kernel_rfl))
 t0:=underlying0
 a0:=isAgg0
 z0:=sizeOf0
 v0:=zeroValue0
 t2:=underlying2
 a2:=isAgg2
 z2:=sizeOf2
 v2:=zeroValue2
 t3:=underlying3
 a3:=isAgg3
 z3:=sizeOf3
 v3:=zeroValue3
 t4:=underlying4
 a4:=isAgg4
 z4:=sizeOf4
 v4:=zeroValue4
 t5:=underlying5
 a5:=isAgg5
 z5:=sizeOf5
 v5:=zeroValue5
 t9:=underlying9
 a9:=isAgg9
 z9:=sizeOf9
 v9:=zeroValue9
 t20:=underlying20
 a20:=isAgg20
 z20:=sizeOf20
 v20:=zeroValue20
 t21:=underlying21
 a21:=isAgg21
 z21:=sizeOf21
 v21:=zeroValue21
 t37:=underlying223
 a37:=isAgg223
 z37:=sizeOf223
 v37:=zeroValue223
 t46:=underlying323
 a46:=isAgg323
 z46:=sizeOf323
 v46:=zeroValue323
 t51:=underlying355
 a51:=isAgg355
 z51:=sizeOf355
 v51:=zeroValue355
 t53:=underlying304
 a53:=isAgg304
 z53:=sizeOf304
 v53:=zeroValue304
 t75:=underlying227
 a75:=isAgg227
 z75:=sizeOf227
 v75:=zeroValue227
 t76:=underlying228
 a76:=isAgg228
 z76:=sizeOf228
 v76:=zeroValue228
 t85:=underlying380
 a85:=isAgg380
 z85:=sizeOf380
 v85:=zeroValue380
 t127:=underlying329
 a127:=isAgg329
 z127:=sizeOf329
 v127:=zeroValue329
 t143:=underlying417
 a143:=isAgg417
 z143:=sizeOf417
 v143:=zeroValue417
 t145:=underlying419
 a145:=isAgg419
 z145:=sizeOf419
 v145:=zeroValue419
 t167:=underlying379
 a167:=isAgg379
 z167:=sizeOf379
 v167:=zeroValue379
 t168:=underlying382
 a168:=isAgg382
 z168:=sizeOf382
 v168:=zeroValue382
 t171:=underlying362
 a171:=isAgg362
 z171:=sizeOf362
 v171:=zeroValue362
 t173:=underlying364
 a173:=isAgg364
 z173:=sizeOf364
 v173:=zeroValue364
 t175:=underlying405
 a175:=isAgg405
 z175:=sizeOf405
 v175:=zeroValue405
 t210:=underlying409
 a210:=isAgg409
 z210:=sizeOf409
 v210:=zeroValue409
 t212:=underlying396
 a212:=isAgg396
 z212:=sizeOf396
 v212:=zeroValue396
 t213:=underlying397
 a213:=isAgg397
 z213:=sizeOf397
 t232:=underlying420
 a232:=isAgg420
 z232:=sizeOf420
 v232:=zeroValue420
 t233:=underlying421
 a233:=isAgg421
 z233:=sizeOf421
 v233:=zeroValue421
 g15:=by kernel_rfl
 g16:=by kernel_rfl
 g17:=by kernel_rfl
 g18:=by kernel_rfl
 g19:=by kernel_rfl
 t80:=underlying289
 a80:=isAgg289
 z80:=sizeOf289
 v80:=zeroValue289
 i0:=by kernel_rfl
 i2:=by kernel_rfl
 i3:=by kernel_rfl
 i4:=by kernel_rfl
 i5:=by kernel_rfl
 i9:=by kernel_rfl
 i20:=by kernel_rfl
 i21:=by kernel_rfl
 i37:=by kernel_rfl
 i46:=by kernel_rfl
 i51:=by kernel_rfl
 i53:=by kernel_rfl
 i75:=by kernel_rfl
 i76:=by kernel_rfl
 i80:=by kernel_rfl
 i85:=by kernel_rfl
 i127:=by kernel_rfl
 i143:=by kernel_rfl
 i145:=by kernel_rfl
 i167:=by kernel_rfl
 i168:=by kernel_rfl
 i171:=by kernel_rfl
 i173:=by kernel_rfl
 i175:=by kernel_rfl
 i210:=by kernel_rfl
 i212:=by kernel_rfl
 i232:=by kernel_rfl
 i233:=by kernel_rfl
 m15:=by kernel_rfl
 m16:=by kernel_rfl
 m17:=by kernel_rfl
 m18:=by kernel_rfl
 m19:=by kernel_rfl
 c0:=by kernel_rfl
 c2:=by kernel_rfl
 c3:=by kernel_rfl
 c4:=by kernel_rfl
 c5:=by kernel_rfl
 c9:=by kernel_rfl
 c20:=by kernel_rfl
 c21:=by kernel_rfl
 c37:=by kernel_rfl
 c46:=by kernel_rfl
 c51:=by kernel_rfl
 c53:=by kernel_rfl
 c75:=by kernel_rfl
 c76:=by kernel_rfl
 c80:=by kernel_rfl
 c85:=by kernel_rfl
 c127:=by kernel_rfl
 c143:=by kernel_rfl
 c145:=by kernel_rfl
 c167:=by kernel_rfl
 c168:=by kernel_rfl
 c171:=by kernel_rfl
 c173:=by kernel_rfl
 c175:=by kernel_rfl
 c210:=by kernel_rfl
 c212:=by kernel_rfl
 c213:=by kernel_rfl
 c232:=by kernel_rfl
 c233:=by kernel_rfl}
open Go.RowKit in
theorem Tryz.strconv_Atoi_ok(s:ByteArray)(hmax:s.size<=9223372036854775806)(v:Int)(h:cb s.data.toList= .ok v)(w:a7):
 a8 prog 260 #[.string s] w fun e w'=>e=.returned (.tuple #[.int .i64 v,.nilIface])/\(w'=w\/∃t,w'=Lib.bytesWorld w 5 t):=Any.strconv_Atoi_ok Vd s hmax v h w
def Tryz.RZ:db:=⟨fun|219=>296|217=>343|225=>344|224=>345|267=>346|266=>373|314=>374|n=>n,fun|9=>9|3=>3|4=>4|5=>5|46=>323|146=>400|51=>355|n=>n,fun|1=>0|n=>n⟩
theorem Tryz.ayV:cx prog RZ:={
 mixed:=by kernel_rfl
 f217:=func343.trans (congrArg some (by kernel_rfl))
 f219:=func296.trans (congrArg some (by kernel_rfl))
 f224:=func345.trans (congrArg some (by kernel_rfl))
 f225:=func344.trans (congrArg some (by kernel_rfl))
 f266:=func373.trans (congrArg some (by kernel_rfl))
 f267:=func346.trans (congrArg some (by kernel_rfl))
 f314:=func374.trans (congrArg some (by kernel_rfl))
 t3:=underlying3
 a3:=isAgg3
 z3:=sizeOf3
 v3:=zeroValue3
 t4:=underlying4
 a4:=isAgg4
 z4:=sizeOf4
 v4:=zeroValue4
 t5:=underlying5
 a5:=isAgg5
 z5:=sizeOf5
 v5:=zeroValue5
 t9:=underlying9
 a9:=isAgg9
 z9:=sizeOf9
 v9:=zeroValue9
 t46:=underlying323
 a46:=isAgg323
 z46:=sizeOf323
 v46:=zeroValue323
 t51:=underlying355
 a51:=isAgg355
 z51:=sizeOf355
 v51:=zeroValue355
 t146:=underlying400
 a146:=isAgg400
 z146:=sizeOf400
 v146:=zeroValue400
 g1:=by kernel_rfl}
open Go.RowKit Go.Lib in
theorem Tryz.stringslite_Index_one(s:ByteArray)(c:UInt8)(w:a7):
 a8 prog 296 #[.string s,.string ⟨#[c]⟩] w fun e w'=>e=.returned (.int .i64 (bk s.data.toList c))/\w'=w:=Any.stringslite_Index_one ayV s c w
def Tryz.SJ:db:=⟨fun|99=>258|206=>297|n=>n,fun|9=>9|4=>4|3=>3|n=>n,fun|n=>n⟩
theorem Tryz.azj:ce prog SJ:={
 mixed:=by kernel_rfl
 f99:=func258.trans (congrArg some (by kernel_rfl))
 f206:=func297.trans (congrArg some (by kernel_rfl))
 t3:=underlying3
 a3:=isAgg3
 z3:=sizeOf3
 v3:=zeroValue3
 t4:=underlying4
 a4:=isAgg4
 z4:=sizeOf4
 v4:=zeroValue4
 t9:=underlying9
 a9:=isAgg9
 z9:=sizeOf9
 v9:=zeroValue9}
open Go.RowKit Go.Lib in
theorem Tryz.strings_HasPrefix(s p:ByteArray)(w:a7):
 a8 prog 258 #[.string s,.string p] w fun e w'=>e=.returned (.bool (b0 s.data.toList p.data.toList))/\w'=w:=Any.strings_HasPrefix azj s p w
def Tryz.R5:db:=⟨fun|101=>259|208=>298|206=>297|n=>n,fun|9=>9|4=>4|3=>3|n=>n,fun|n=>n⟩
theorem Tryz.ayF:da prog R5:={
 mixed:=by kernel_rfl
 f101:=func259.trans (congrArg some (by kernel_rfl))
 f206:=func297.trans (congrArg some (by kernel_rfl))
 f208:=func298.trans (congrArg some (by kernel_rfl))
 t3:=underlying3
 a3:=isAgg3
 z3:=sizeOf3
 v3:=zeroValue3
 t4:=underlying4
 a4:=isAgg4
 z4:=sizeOf4
 v4:=zeroValue4
 t9:=underlying9
 a9:=isAgg9
 z9:=sizeOf9
 v9:=zeroValue9}
open Go.RowKit Go.Lib in
theorem Tryz.strings_TrimPrefix(s p:ByteArray)(w:a7):
 a8 prog 259 #[.string s,.string p] w fun e w'=>e=.returned (.string ⟨(bv s.data.toList p.data.toList).toArray⟩)/\w'=w:=Any.strings_TrimPrefix ayF s p w
def Tryz.Gc:db:=⟨fun|105=>293|212=>335|99=>258|165=>279|166=>151|170=>228|169=>229|263=>369|264=>246|206=>297|240=>225|241=>322|276=>278|277=>361|n=>n,fun|9=>9|3=>3|4=>4|20=>20|0=>0|46=>323|109=>369|5=>5|72=>225|76=>228|51=>355|146=>400|53=>304|148=>305|70=>222|37=>223|75=>227|127=>329|164=>325|80=>289|n=>n,fun|n=>n⟩
theorem Tryz.ayI:cy prog Gc:={
 mixed:=by kernel_rfl
 f99:=func258.trans (congrArg some (by kernel_rfl))
 f105:=func293.trans (congrArg some (by kernel_rfl))
 f165:=func279.trans (congrArg some (by kernel_rfl))
 f166:=func151.trans (congrArg some (by kernel_rfl))
 f169:=func229.trans (congrArg some (by kernel_rfl))
 f170:=func228.trans (congrArg some (by kernel_rfl))
 f206:=func297.trans (congrArg some (by kernel_rfl))
 f212:=func335.trans (congrArg some (by kernel_rfl))
 f240:=func225.trans (congrArg some (by kernel_rfl))
 f241:=func322.trans (congrArg some (by kernel_rfl))
 f263:=func369.trans (congrArg some (by kernel_rfl))
 f264:=func246.trans (congrArg some (by kernel_rfl))
 f276:=func278.trans (congrArg some (by kernel_rfl))
 f277:=func361.trans (congrArg some (by kernel_rfl))
 t0:=underlying0
 a0:=isAgg0
 z0:=sizeOf0
 v0:=zeroValue0
 t3:=underlying3
 a3:=isAgg3
 z3:=sizeOf3
 v3:=zeroValue3
 t4:=underlying4
 a4:=isAgg4
 z4:=sizeOf4
 v4:=zeroValue4
 t5:=underlying5
 a5:=isAgg5
 z5:=sizeOf5
 v5:=zeroValue5
 t9:=underlying9
 a9:=isAgg9
 z9:=sizeOf9
 v9:=zeroValue9
 t20:=underlying20
 a20:=isAgg20
 z20:=sizeOf20
 v20:=zeroValue20
 t37:=underlying223
 a37:=isAgg223
 z37:=sizeOf223
 v37:=zeroValue223
 t46:=underlying323
 a46:=isAgg323
 z46:=sizeOf323
 v46:=zeroValue323
 t51:=underlying355
 a51:=isAgg355
 z51:=sizeOf355
 v51:=zeroValue355
 t53:=underlying304
 a53:=isAgg304
 z53:=sizeOf304
 v53:=zeroValue304
 t70:=underlying222
 a70:=isAgg222
 z70:=sizeOf222
 v70:=zeroValue222
 t72:=underlying225
 a72:=isAgg225
 z72:=sizeOf225
 v72:=zeroValue225
 t75:=underlying227
 a75:=isAgg227
 z75:=sizeOf227
 v75:=zeroValue227
 t76:=underlying228
 a76:=isAgg228
 z76:=sizeOf228
 v76:=zeroValue228
 t109:=underlying369
 a109:=isAgg369
 z109:=sizeOf369
 v109:=zeroValue369
 t127:=underlying329
 a127:=isAgg329
 z127:=sizeOf329
 v127:=zeroValue329
 t146:=underlying400
 a146:=isAgg400
 z146:=sizeOf400
 v146:=zeroValue400
 t148:=underlying305
 a148:=isAgg305
 z148:=sizeOf305
 v148:=zeroValue305
 t164:=underlying325
 a164:=isAgg325
 z164:=sizeOf325
 v164:=zeroValue325}
theorem Tryz.QB:Builder.Extra prog Gc:={
 sizeBuilder:=by kernel_rfl
 liesBuilder:=by kernel_rfl
 t5:=underlying5
 a5:=isAgg5
 z5:=sizeOf5
 v5:=zeroValue5
 infoByte:=by kernel_rfl
 cellsByte:=by kernel_rfl
 sizeByte:=by kernel_rfl
 neB5:=by decide}
open Go.RowKit Go.Lib in
theorem Tryz.strings_Repeat(s:ByteArray)(c:Nat)(w:a7)(hc:c<=9223372036854775807)(hlen:s.size*c<=140737488355328):
 a8 prog 293 #[.string s,.int .i64 c] w fun e w'=>e=.returned (.string ⟨(b3 s.data.toList c).toArray⟩)/\Below w.heap.size w w':=Any.strings_Repeat ayI QB s c w hc hlen
end Go.Proofs
namespace Go.Proofs
open Go.Shelf Go.RowKit Go.Sort Go.Lib
set_option maxHeartbeats 6400000 in
set_option maxRecDepth 100000 in
theorem Tryz.QA(u:Nat)(hu64:u<18446744073709551616)(w:a7)
 (htab:b2 prog w "internal/strconv.uint64pow10" .u64 b1):
 a8 prog 334 #[.int .u64 u,.int .i64 10] w fun e w'=>e=.returned (.string ⟨(be u).toArray⟩)/\∃k os,w'=grow (w.drewN k) os:=by
 have e323:∀args w,(callFunc 323 args).run prog w=.ok (.enter 323 args) w:=enters_of func323 (by kernel_rfl) rfl;have e324:∀args w,(callFunc 324 args).run prog w=.ok (.enter 324 args) w:=enters_of func324 (by kernel_rfl) rfl;have e325:∀args w,(callFunc 325 args).run prog w=.ok (.enter 325 args) w:=enters_of func325 (by kernel_rfl) rfl
 by_cases hs:u<100
 ·go_enter func334,ntmps334
  go_wp2_with (go_at_fn 323;refine(internal_strconv_small u hs _).mono ?_;rintro e w' ⟨rfl,rfl⟩)
  go_ret
  exact⟨rfl,0,#[],by simp[World.drewN_zero]⟩
 ·have hu1:1<=u:=by omega
  have hnd20:bi u<=20:=by have:=Lib.numDigits_eq u hu1 hu64;split at this<;>omega
  have hb3:bi u<=24:=by omega
  have hal:prog.arrayLen 362=24:=by kernel_rfl
  have hsl1:∀W,(Instr.sliceAt 362 (.pointer (some ⟨w.heap.size,0,none⟩)) none (some (.int .i64 (bi u:Int))) none).run prog W=.ok (.slice (some ⟨w.heap.size,0,none⟩) (bi u) 24) W:=fun W=>by
   rw[run_sliceAt_array_h W 362 ⟨w.heap.size,0,none⟩ (by kernel_rfl) .i64 (bi u:Int) (by omega) (by rw[hal];omega)]
   go_simp
  have hH0:=Lib.holds_zero0 w 362 (bi u) hb3;have hfmt:=internal_strconv_formatBase10 w.heap.size 0 24 u (Array.replicate (bi u) 0) (w.alloc (.cells bo 362)) hH0 (by rw[ao];exact Lib.lt_pow_nDigits u) hu64 (by rw[ao];omega);rw[ao]at hfmt;have HH0:=Lib.hid hH0;clear hH0 hal
  go_enter func334,ntmps334
  go_wp2_with (first
   |(go_at_fn 324;refine(internal_strconv_numDigits u hu1 hu64 _ (Lib.tabIs_alloc htab _)).mono ?_;rintro e w' ⟨rfl,rfl⟩))
  go_at_fn 325
  refine hfmt.mono ?_;rintro e w' ⟨rfl,k,v',dk,rfl,hF⟩;have hcv:(convert 223 9 (.slice (some ⟨w.heap.size,0,none⟩) (bi u) 24)).run prog ((putRow (fun(b:UInt8)=>dl .u8 (b.toNat:Int)) (w.alloc (.cells bo 362)) w.heap.size 0 dk).drewN k)=.ok (.string ⟨(be u).toArray⟩) ((putRow (fun(b:UInt8)=>dl .u8 (b.toNat:Int)) (w.alloc (.cells bo 362)) w.heap.size 0 dk).drewN k):=by
   have h:=run_convert_bytes_back (P:=prog) ((putRow (fun(b:UInt8)=>dl .u8 (b.toNat:Int)) (w.alloc (.cells bo 362)) w.heap.size 0 dk).drewN k) 223 9 5 ⟨w.heap.size,0,none⟩ 24 (be u) (by kernel_rfl) (by kernel_rfl) (by kernel_rfl) (fun j hj=>by
    rw[Lib.row_is_numeral hF j hj,Lib.add_plain,World.cell?_drewN];exact cell?_putRow (fun(b:UInt8)=>dl .u8 (b.toNat:Int)) _ w.heap.size 0 _ dk HH0.out (by rw[hF.size,ao]) j (by rw[hF.size];rw[b4]at hj;exact hj))
   rw[b4]at h;exact h
  go_wp2
  go_ret
  obtain⟨os,eo⟩:=Lib.fin_at w (.cells bo 362) dk k 0;exact⟨rfl,k,os,eo⟩
end Go.Proofs
namespace Go.aw
open Go.Proofs
theorem sD{P:Program}{w:a7}{aa:Nat->Prop}(l:List UInt8):aA P w aa (.str (cN l)) (.string ⟨l.toArray⟩):=by
 simp only[aA];exact⟨_,rfl,by simp[cN]⟩
theorem mv{P:Program}{w:a7}{aa:Nat->Prop}{s:List Nat}{v:Value}(h:aA P w aa (.str s) v):∃bs:ByteArray,v=.string bs/\s=cN bs.data.toList:=by
 simp only[aA]at h;obtain⟨bs,rfl,rfl⟩:=h;exact⟨bs,rfl,rfl⟩
theorem one_byte{w:a7}{aa:Nat->Prop}{c:Nat}{v:Value}(h:aA prog w aa (.str [c]) v):∃b:UInt8,v=.string ⟨#[b]⟩/\c=b.toNat:=by
 obtain⟨bs,rfl,f⟩:=mv h;clear h;have h:=f;clear f
 match e:bs.data.toList with
 |[]=>rw[e]at h;simp[cN]at h
 |[b]=>
  rw[e]at h;simp[cN]at h;refine⟨b,?_,h⟩;congr 1;cases bs with
  |mk d=>simp at e⊢;exact Array.ext' (by simpa using e)
 |a::b::r=>rw[e]at h;simp[cN]at h
theorem Cn{w:a7}{aa:Nat->Prop}{v:Value}(h:aA prog w aa (.str [45]) v):v=.string ⟨#[45]⟩:=by
 obtain⟨b,rfl,a⟩:=one_byte h;have:b=45:=hN.1 a.symm;rw[this]
theorem FB(s:List Nat)(c:Nat):az prog 296 [.str s,.str [c]] (.int .i64 (mI c s 0)):=by
 refine jk (iy func296 (by kernel_rfl)) fun w aa g _ _ f=>?_;obtain⟨x,y,rfl,a,d⟩:=mf f;obtain⟨b,rfl,rfl⟩:=one_byte d;obtain⟨bs,rfl,rfl⟩:=mv a;refine(stringslite_Index_one bs b w).mono ?_;rintro e w' ⟨rfl,rfl⟩;refine⟨_,rfl,⟨gt _,fun _ _=>rfl,rfl,rfl⟩,fun w aa=>?_⟩;have e1:=JL b bs.data.toList 0;simp only[aA]at e1⊢;rw[e1]
 by_cases h:bk bs.data.toList b= -1<;>simp[h]
theorem Ws(s:List Nat)(c:Nat)(h:s.length<=1048576):az prog 257 [.str s,.str [c]] (.aE [.str (bS c s).1,.str (bS c s).2.1,.bool (bS c s).2.2]):=by
 refine aL nf LA mix (by simp[f257]) ?_;simp[f257];refine c2 (FB s c) ?_;rcases JM c s 0 with⟨_,a,b⟩|⟨i,d,a,b⟩
 ·simp[a,b]
 ·rw[hD]at a;have w:=b8 (i:=i) (by omega);have e1:((i:Int)+1).toNat=i+1:=by omega
  simp[a,b,w,e1];omega
theorem MJ(s:List Nat)(c:Nat)(h:s.length<=1048576):az prog 184 [.str s,.str [c]] (.aE [.str (bS c s).1,.str (bS c s).2.1,.bool (bS c s).2.2]):=by
 refine aL nf Ei mix (by simp[f184]) ?_;simp[f184];refine c2 (Ws s c h) ?_;simp
theorem V6(s:List Nat):az prog 258 [.str s,.str [45]] (.bool (bQ s)):=by
 refine jk (iy func258 (by kernel_rfl)) fun w aa d _ _ c=>?_;obtain⟨x,y,rfl,a,b⟩:=mf c;obtain rfl:=Cn b;obtain⟨bs,rfl,rfl⟩:=mv a;refine(strings_HasPrefix bs _ w).mono ?_;rintro e w' ⟨rfl,rfl⟩;exact⟨_,rfl,⟨gt _,fun _ _=>rfl,rfl,rfl⟩,fun w aa=>by rw[<-As];simp only[aA]⟩
theorem Ie(s:List Nat):az prog 259 [.str s,.str [45]] (.str (cG s)):=by
 refine jk (iy func259 (by kernel_rfl)) fun w aa d _ _ c=>?_;obtain⟨x,y,rfl,a,b⟩:=mf c;obtain rfl:=Cn b;obtain⟨bs,rfl,rfl⟩:=mv a;refine(strings_TrimPrefix bs _ w).mono ?_;rintro e w' ⟨rfl,rfl⟩;exact⟨_,rfl,⟨gt _,fun _ _=>rfl,rfl,rfl⟩,fun w aa=>by rw[<-Gs];exact sD _⟩
theorem VG(s:List Nat):az prog 251 [.str s,.str [45]] (.aE [.str (cG s),.bool (bQ s)]):=by
 refine jk (iy func251 (by kernel_rfl)) fun w aa d _ _ c=>?_;obtain⟨x,y,rfl,a,b⟩:=mf c;obtain rfl:=Cn b;obtain⟨bs,rfl,rfl⟩:=mv a;refine(strings_CutPrefix bs _ w).mono ?_;rintro e w' ⟨rfl,rfl⟩;refine⟨_,rfl,⟨gt _,fun _ _=>rfl,rfl,rfl⟩,fun w aa=>?_⟩;rw[<-Gs,<-As];simp only[aA,bp];refine⟨[_,_],⟨_,_,rfl,?_,_,_,rfl,rfl,rfl⟩,rfl⟩;exact⟨_,rfl,by simp[cN]⟩
theorem Lb{w:a7}{aa:Nat->Prop}(b:mn prog w aa):b2 prog w "internal/strconv.uint64pow10" .u64 b1:=by
 obtain⟨_,T,a⟩:=b.raw 1 _ rfl;have c:prog.globalNamed "internal/strconv.uint64pow10" =some 1:=by kernel_rfl
 simp only[b2,World.var?,c,Option.bind_some,a];rfl
theorem FA(n:Int)(b:-9223372036854775808<=n)(c:n<=9223372036854775807):az prog 153 [.int .i64 n] (.str (cE n)):=by
 refine jk (iy func153 (by kernel_rfl)) fun w aa g _ f d=>?_;obtain⟨x,rfl,a⟩:=xy d;simp only[aA]at a;subst a;refine(strconv_Itoa n b c w (Lb f)).mono ?_;rintro e w' ⟨rfl,k,os,rfl⟩;refine⟨_,rfl,⟨?_,fun k hk=>?_,rfl,rfl⟩,fun w aa=>?_⟩
 ·simp[dg,World.drewN]
 ·simp only[dg];exact ap hk
 ·rw[<-axG];exact sD _
theorem Wv(u:Nat)(f:u<18446744073709551616):az prog 334 [.int .u64 u,.int .i64 10] (.str (bm u)):=by
 refine jk (iy func334 (by kernel_rfl)) fun w aa g _ d c=>?_;obtain⟨x,y,rfl,a,b⟩:=mf c;simp only[aA]at a b;subst a b;refine(QA u f w (Lb d)).mono ?_;rintro e w' ⟨rfl,k,os,rfl⟩;refine⟨_,rfl,⟨?_,fun k hk=>?_,rfl,rfl⟩,fun w aa=>?_⟩
 ·simp[dg,World.drewN]
 ·simp only[dg];exact ap hk
 ·rw[<-zN];exact sD _
theorem MK(u:Nat)(a:u<18446744073709551616):az prog 292 [.int .u64 u,.int .i64 10] (.str (bm u)):=by
 refine aL nf Ly mix (by simp[f292]) ?_;simp[f292];refine c2 (Wv u a) ?_;simp
theorem ML(s:List Nat)(c:Nat)(hc:c<=9223372036854775807)(g:s.length*c<=140737488355328):az prog 293 [.str s,.int .i64 c] (.str (re s c)):=by
 refine jk (iy func293 (by kernel_rfl)) fun w aa h _ i f=>?_;obtain⟨x,y,rfl,d,b⟩:=mf f;obtain⟨bs,rfl,rfl⟩:=mv d;simp only[aA]at b;subst b;refine(strings_Repeat bs c w hc (by simpa[cN]using g)).mono ?_;rintro e w' ⟨rfl,a⟩;exact⟨_,rfl,⟨a.size,a.block,a.os,a.output⟩,fun w aa=>by
  rw[I1];exact sD _⟩
theorem FC(s:List Nat)(v:Int)(h:cb (s.map hO)=.ok v)(d:s.length<=9223372036854775806):az prog 260 [.str s] (.aE [.int .i64 v,.fD]):=by
 refine jk (iy func260 (by kernel_rfl)) fun w aa g _ i c=>?_;obtain⟨x,rfl,b⟩:=xy c;obtain⟨bs,rfl,rfl⟩:=mv b;rw[Sh]at h;refine(strconv_Atoi_ok bs (by simpa[cN]using d) v h w).mono ?_;rintro e w' ⟨rfl,f⟩;refine⟨_,rfl,?_,fun w aa=>by simp[aA,bp]⟩;rcases f with rfl|⟨t,rfl⟩
 ·exact⟨gt _,fun _ _=>rfl,rfl,rfl⟩
 ·have a:=Lib.bytesWorld_below w 5 t;exact⟨a.size,a.block,a.os,a.output⟩
def tB:Nat:=1000000000000000000
theorem B6:tB=10^18:=by decide
theorem JC:∀i,low i 0=fl i 48
 |0=>rfl
 |i+1=>by rw[rW,Nat.zero_div,JC i,List.replicate_succ']
theorem Oz{r:Nat}(h:r<tB):fl (18-(bm r).length) 48++bm r=low 18 r:=by
 rw[sc,bm];have c:nd r<=18:=qH (by rw[<-B6];exact h);obtain⟨k,hk⟩:∃k,k=max 1 (nd r):=⟨_,rfl⟩
 have d:k<=18:=by omega
 have b:r<10^k:=gm (Hw r) (gj (by decide) (by omega));rw[<-hk];have:=pY (18-k) r (a:=k);have e:low 18 r=low (18-k) (r/10^k)++low k r:=by
  have:=pY k r (18-k);rw[show 18-k+k=18 by omega]at this;exact this
 rw[e,hB b,JC]
theorem BL{r:Nat}(h:r<tB):(bm r).length<=18:=by
 rw[sc];have a:nd r<=18:=qH (by rw[<-B6];exact h);omega
theorem Uz{m:Nat}(h:tB<=m):bm m=bm (m/tB)++low 18 (m% tB):=by
 rw[B6]at h⊢;have e:=Ch (n:=m) (k:=18) h;have a:0<nd (m/10^18):=yv (hv h (gy (by decide)));rw[bm,bm,show max 1 (nd m)=max 1 (nd (m/10^18))+18 by omega,pY,BC m 18 18 (gt _)]
def jh(m:Nat)(a:List (List Nat)):List Nat:=(if m=0 then[]else bm m)++a.reverse.flatten
def dY(m:Nat):List Nat:=if m/tB=0 then bm m else low 18 (m% tB)
theorem IL{m:Nat}(h:m≠0)(c:List (List Nat)):jh (m/tB) (c++[dY m])=jh m c:=by
 rw[jh,jh,if_neg h,dY,List.reverse_append]
 by_cases a:m/tB=0
 ·rw[if_pos a,if_pos a];simp
 ·rw[if_neg a,if_neg a];have:tB<=m:=by
   rcases g9 m tB with b|b
   ·exact(a (hB b)).elim
   ·exact b
  rw[Uz this];simp
theorem UB(a:List (List Nat)):jh 0 a=a.reverse.flatten:=by rw[jh,if_pos rfl];rfl
theorem xF(n:Nat):0<(bm n).length:=by rw[sc];omega
theorem HI(m:Nat):dY m≠[]:=by
 intro h;have:(dY m).length=0:=by rw[h];rfl
 rw[dY]at this
 split at this
 ·have:=xF m;omega
 ·rw[pX]at this;omega
theorem HJ(m:Nat):(dY m).length<=18:=by
 rw[dY]
 split
 ·rename_i h;have b:m<tB:=by
   rcases g9 m tB with a|a
   ·exact a
   ·have:=hv a (show 0<tB by decide);omega
  exact BL b
 ·rw[pX];exact gt _
theorem JJ{c:Nat}(h:b6 c=true):c<256:=by
 simp only[b6,av,decide_eq_true_eq]at h;omega
end Go.aw
namespace Go.Proofs
open Go.aw
theorem Tryz.zK:prog.underlying 222=some (.pointer 225):=by kernel_rfl
theorem Tryz.EZ:prog.underlying 325=some .unsafePointer:=by kernel_rfl
theorem Tryz.Fh:(prog.info? 225).map (·.size)=some 2:=by kernel_rfl
theorem Tryz.azl:liesAt prog prog.depth 225 (2/prog.cellsOf 225) 0 225 1=true:=by kernel_rfl
set_option maxHeartbeats 1000000 in
set_option maxRecDepth 100000 in
theorem Tryz.QI(b:Nat)(w:a7)(h0:w.cell? ⟨b,0,none⟩=some (.pointer (some ⟨b,0,none⟩))):
 a8 prog 225 #[.pointer (some ⟨b,0,none⟩)] w fun e w'=>e=.returned (.tuple #[])/\w'=w:=by
 obtain⟨j,hj,_⟩:=Option.map_eq_some_iff.1 Fh
 go_enter func225,ntmps225
 go_wp2
 rw[Lib.run_neq_ptr_same w _ zK hj]
 go_wp2
 go_end0
 exact⟨rfl,rfl⟩
set_option maxHeartbeats 1000000 in
set_option maxRecDepth 100000 in
theorem Tryz.QJ(b:Nat)(w:a7)(h0:w.cell? ⟨b,0,none⟩=some (.pointer none))(hsh:w.shape? b=some (225,2))(hfz:w.frozen? ⟨b,0,none⟩=false):
 a8 prog 225 #[.pointer (some ⟨b,0,none⟩)] w fun e w'=>e=.returned (.tuple #[])/\w'=w.setCell ⟨b,0,none⟩ (.pointer (some ⟨b,0,none⟩)):=by
 obtain⟨j,hj,hjs⟩:=Option.map_eq_some_iff.1 Fh
 go_enter func225,ntmps225
 go_wp2
 rw[Lib.run_to_unsafe w ⟨b,0,none⟩ zK EZ hj (by rw[hjs];decide) hsh (Nat.zero_lt_succ 1)];simp only[Result.andThen];rw[cc]
 go_wp2
 rw[run_callFunc_extern func278 (by kernel_rfl) (by kernel_rfl) (by kernel_rfl) (e:=Extern.AbiNoEscape.same) (by kernel_rfl)];rw[Lib.run_noEscape];simp only[Result.andThen];rw[cc]
 go_wp2
 rw[Lib.run_from_unsafe w ⟨b,0,none⟩ EZ zK hj hsh azl];simp only[Result.andThen];rw[cc]
 go_wp2
 go_end0
 exact⟨rfl,rfl⟩
end Go.Proofs
