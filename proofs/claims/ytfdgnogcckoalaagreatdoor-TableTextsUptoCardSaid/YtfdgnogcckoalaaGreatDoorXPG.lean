import Derived.Test.YtfdgnogcckoalaaGreatDoorXPF
import Derived.Test.YtfdgnogcckoalaaGreatDoorXPE
import Derived.Shelf.Strings.Builder1
import Derived.Shelf.Strings.Builder2
import Derived.Shelf.Strings.OnBuilder
import Derived.Shelf.Strings.Trim
import Derived.Shelf.Small.Utf8
import Derived.Shelf.Small.Bits
import Derived.Shelf.Small.Strs
import Derived.Shelf.Small.Wraps
import Derived.Shelf.Strings.BuilderF
import Derived.Shelf.Strconv.Atoi
import Derived.Shelf.Strconv.Itoa0
import Derived.Shelf.Strconv.Itoa1
import Derived.Shelf.LaysM
import Derived.Shelf.Strconv.Itoa2
import Derived.Shelf.Strconv.Itoa3
import Derived.Shelf.Strconv.AtoiErrFast
import Derived.Shelf.Strconv.ParseIntEmpty
import Derived.Shelf.Strconv.AtoiFail
import Derived.Shelf.Strconv.Clone
import Derived.Shelf.Strconv.SyntaxError
import Derived.Shelf.LaysC
import Derived.Shelf.Strconv.ToError
import Derived.Shelf.Strconv.Lower
import Derived.Shelf.Strconv.ParseUint10
import Derived.Shelf.Strconv.ParseUint10Empty
import Derived.Shelf.Strconv.ParseUint10Any
import Derived.Shelf.Strconv.ParseInt10
import Derived.Shelf.Strconv.AtoiLong
import Derived.Shelf.Strconv.AtoiInnerAll
import Derived.Shelf.Strconv.RangeError
import Derived.Shelf.Strconv.ToErrorRange
import Derived.Shelf.Strconv.AtoiAll
import Derived.Shelf.Strings.Search1
import Derived.Shelf.Strings.Search2
import Derived.Shelf.Strings.Search3
import Derived.Shelf.Strings.Cut
import Derived.Shelf.Strings.Count
import Derived.Shelf.Strings.Shaped
import Derived.Shelf.Strings.Prefix
import Derived.Shelf.Strings.Split
import Derived.Shelf.Strings.Runes
import Derived.Shelf.Strings.AsciiSet
import Derived.Shelf.Bits.Mul64
import Derived.Shelf.Strings.Repeat
import Derived.Shelf.Unicode.DecodeSlow
import Derived.Shelf.Slices.Turned
import Derived.Test.YtfdgnogcckoalaaGreatDoorProg
import Derived.Shelf.SlGeneric
import Derived.Shelf.Spec.SlicesGrow
import Derived.Test.YtfdgnogcckoalaaGreatDoorXThC
import Derived.Lib.AtoiAllCases
import Derived.WalkKit
/- Parts of a proof. -/
set_option maxRecDepth 100000
set_option maxHeartbeats 8000000
set_option linter.unusedSimpArgs false
set_option linter.unusedVariables false
set_option linter.unusedSectionVars false
open Go.Proofs.Tryz
open And renaming intro->am
open Bool renaming and_eq_true->ao, cond_eq_ite->ap, or_eq_true->av, and_eq_false_iff->ax, not_eq_true'->ay, eq_iff_iff->aT, true_and->a1
open Go renaming FuncId->a6, World->a7, DataW->a8, Calls->bb, Value->be, Field->bi
open Go.Builtin renaming zeroCells->bl
open Go.IntKind renaming i64->bo, u8->bv
open Go.Lib renaming atoiAll->b0, countByte->b1, compareBytes->b2, atoiSat->b3, trimSuffix->b4, hasSuffix->b5, join->cb
open Go.Proofs.Lays renaming n156->cc, n138->ce, n106->ck, n102->cv, n100->cx
open Go.Shelf renaming Ren->cy
open Go.Utf8 renaming decode->cE
open Int renaming tmod_eq_emod_of_nonneg->cN, natCast_emod->cR
open List renaming take_of_length_le->c6, mem_of_getElem?->c7, take_length->c8, length_eq_zero_iff->da, getElem?_eq_getElem->db, drop_eq_getElem_cons->dg, any_eq_true->dk, replicate->dl, take_succ_eq_append_getElem->dp, map_cons->dq, getElem?_eq_some_iff->dz, length_append->ea, mem_of_mem_take->eb, mem_cons_of_mem->ec, take_add_one->ed, getElem_mem->ee, mem_append->ei, length_map->ej, length_take->en, mem_iff_getElem->eo, all_append->eq, mem_map->et, map_nil->ew, zip_cons_cons->ez, getElem?_take->e6, zip_nil_left->e7, length_cons->e8, drop_length->e9, all_eq_true->fb, head?_eq_some_iff->fd, take->fl, mem_cons->fm, map_take->fv, range->gb, findIdx?_eq_some_iff_getElem->gc, getElem_take->ge, map_append->gg, mem_range->gi, getElem?_append_right->gj, getD_eq_getElem?_getD->gl, isEmpty_eq_false_iff->gm, findIdx?_eq_none_iff->gt, set_append_right->gx, mem_iff_getElem?->gy, eq_nil_or_concat->g4, concat_eq_append->g5, dropLast_subset->g6, length_pos_iff->g7, mem_singleton->g8, mem_cons_self->g9, isSuffixOf->ha, map_map->hb
open Nat renaming eq_of_beq_eq_true->hd, succ_le_succ->hg, le_trans->hj, beq->ho, le_of_ble_eq_true->hp, le_refl->ht, sub_self->hu, pow_le_pow_right->hw, lt_of_lt_of_le->hz, lt_trichotomy->hA, blt->hB, ble->hC, add_assoc->hD, zero_add->hE, blt_eq->hF
open Option renaming ite_none_right_eq_some->hG
open Option.some renaming injEq->hH
open Prod.mk renaming injEq->hK
open UInt8 renaming ofNat->hL, lt_iff_toNat_lt->hM
namespace Go.aw
open Go.aw renaming c1->c1_, c2->c2_, c3->c3_, e1->e1_, e2->e2_, e3->e3_
open Go.Proofs
def isLet(c:Int):Bool:=(decide (97<=c)&&decide (c<=122))||(decide (65<=c)&&decide (c<=90))
def je(c:Int):Bool:=decide (48<=c)&&decide (c<=57)
def l6:Nat->List Nat->Bool
 |_,[]=>true
 |i,c::r=>(isLet c||(decide (i≠0)&&(je c||decide ((c:Int)=95))))&&l6 (i+1) r
def isName(s:List Nat):Bool:=decide (1<=s.length)&&decide (s.length<=24)&&l6 0 s
theorem cls(c:Int):(97<=c/\c<=122)\/(¬97<=c/\65<=c/\c<=90)\/(¬97<=c/\¬65<=c/\¬48<=c/\¬c=95)\/(¬97<=c/\¬65<=c/\48<=c/\c<=57/\¬c=95)\/(¬97<=c/\¬65<=c/\48<=c/\¬c<=57/\¬c=95)\/
 (¬97<=c/\65<=c/\¬c<=90/\48<=c/\¬c<=57/\c=95)\/(¬97<=c/\65<=c/\¬c<=90/\48<=c/\¬c<=57/\¬c=95)\/(97<=c/\¬c<=122/\65<=c/\¬c<=90/\48<=c/\¬c<=57/\¬c=95):=o_
theorem D9(c:Int):az prog 235 [.int .i32 c] (.bool (isLet c)):=by
 refine aP nf (i_ func235) mix (by simp[f235]) ?_;rcases cls c with⟨a,b⟩|⟨a,b,d⟩|⟨a,b,d,e⟩|⟨a,b,d,e,f⟩|⟨a,b,d,e,f⟩|⟨a,b,d,e,f,g⟩|⟨a,b,d,e,f,g⟩|⟨a,b,d,e,f,g,h⟩<;>simp[f235,isLet, *]
theorem D4{s:List Nat}{i:Nat}(hi:i<s.length):l6 i (s.drop i)=((isLet s[i]||(decide (i≠0)&&(je s[i]||decide ((s[i]:Int)=95))))&&l6 (i+1) (s.drop (i+1))):=by
 rw[dg hi,l6]
theorem D6(s:List Nat)(h:s.length<=1048576):az prog 64 [.str s] (.bool (isName s)):=by
 refine aP nf (i_ func64) mix (by simp[f64]) ?_;rcases zQ s.length 1 with⟨g1,m⟩|⟨g1,m⟩
 ·have:s.length=0:=by omega
  simp[f64,g1,isName,this]
 rcases zQ 24 s.length with⟨g2,n⟩|⟨g2,n⟩
 ·have:¬s.length<=24:=by omega
  simp[f64,g1,g2,isName,this]
 simp[f64,g1,g2];have e0:isName s=l6 0 s:=by simp[isName];omega
 refine lp (α:=Nat) (fun i=>⟨[(3,.p (.int .i64 i)),(0,.p (.str s))],[]⟩) (fun i=>i<=s.length/\isName s=l6 i (s.drop i)) (fun i=>s.length-i) 0 (by simp[e0]) ?_;rintro i ⟨k1,k2⟩
 by_cases hi:i<s.length
 ·rw[D4 hi]at k2;have k:=b8 (i:=i) o_;generalize hc:(s[i]:Int)=c at*
  by_cases j:i=0
  ·subst j;have l:bo.wrap 1=1:=aN 1 o_ o_;rcases cls c with⟨a,b⟩|⟨a,b,d⟩|⟨a,b,d,e⟩|⟨a,b,d,e,f⟩|⟨a,b,d,e,f⟩|⟨a,b,d,e,f,g⟩|⟨a,b,d,e,f,g⟩|⟨a,b,d,e,f,g,h⟩
   ·simp[isLet,a,b]at k2;simp[hi,hc,a,b,l];exact rd 1 ⟨hi,by simpa using k2⟩
   ·simp[isLet,a,b,d]at k2;simp[hi,hc,a,b,d,l];exact rd 1 ⟨hi,by simpa using k2⟩
   all_goals
    simp[isLet, *]at k2;simp[hi,hc, *]
  ·rcases cls c with⟨a,b⟩|⟨a,b,d⟩|⟨a,b,d,e⟩|⟨a,b,d,e,f⟩|⟨a,b,d,e,f⟩|⟨a,b,d,e,f,g⟩|⟨a,b,d,e,f,g⟩|⟨a,b,d,e,f,g,h⟩
   ·simp[isLet,a,b]at k2;simp[hi,hc,a,b,k];exact rd (i+1) ⟨hi,k2⟩
   ·simp[isLet,a,b,d]at k2;simp[hi,hc,a,b,d,k];exact rd (i+1) ⟨hi,k2⟩
   ·simp[isLet,je,a,b,d,e]at k2;simp[hi,hc,j,a,b,d,e,k2]
   ·simp[isLet,je,a,b,d,e,j]at k2;simp[hi,hc,j,a,b,d,e,k];exact rd (i+1) ⟨hi,k2⟩
   ·simp[isLet,je,a,b,d,e,f]at k2;simp[hi,hc,j,a,b,d,e,f,k2]
   ·subst g;simp[isLet,je,j]at k2;simp[hi,hc,j,k];exact rd (i+1) ⟨hi,k2⟩
   ·simp[isLet,je,a,b,d,e,f,g]at k2;simp[hi,hc,j,a,b,d,e,f,g,k2]
   ·simp[isLet,je,a,b,d,e,f,g,h]at k2;simp[hi,hc,j,a,b,d,e,f,g,h,k2]
 ·have:i=s.length:=by omega
  subst this;simp[l6]at k2;simp[k2]
theorem D3(s:List Nat):(gu s).size=s.length:=by
 show(s.map hL).toArray.size=_;simp
theorem El(s:List Nat)(b:∀c∈s,c<256)(i:Nat)(h:i<s.length)(a:i<(gu s).size):((gu s)[i]'a).toNat=s[i]:=by
 have e:(gu s)[i]'a=hL s[i]:=by
  have:(gu s)[i]'a=(s.map hL).toArray[i]'(by simpa using h):=rfl;rw[this];simp
 rw[e];have:=b s[i] (ee h);simp;omega
theorem X9{s:List Nat}(d:∀c∈s,c<256){i:Nat}(h:i<s.length)(b:s[i]<128):cE (gu s) i=(s[i],1):=by
 have a:i<(gu s).size:=by rw[D3];exact h
 have e:=El s d i h a;rw[decode_ascii (gu s) i a (by rw[e];exact b),e]
theorem X8{s:List Nat}(b:∀c∈s,c<256){i:Nat}(h:i<s.length)(d:¬s[i]<128):128<=(cE (gu s) i).1/\1<=(cE (gu s) i).2:=by
 have a:i<(gu s).size:=by rw[D3];exact h
 have e:=El s b i h a;exact decode_high (gu s) i a (by rw[e];omega)
theorem Eh(s:List Nat)(h:s.length<=1048576):az prog 165 [.str s] (.bool (isName s)):=by
 refine Qv fun l=>?_;have l:∀c∈s,c<256:=by simpa[lN,dQ]using l
 refine aP nf (i_ func165) mix (by simp[f165]) ?_;simp[f165];refine lp (α:=Nat) (fun i=>⟨[(6,.ptr 0 []),(0,.p (.str s))],[.dx s i]⟩) (fun i=>i<=s.length/\l6 0 s=l6 i (s.drop i)) (fun i=>s.length-i) 0 s_ ?_;rintro i ⟨k1,k2⟩
 by_cases hi:i<s.length
 ·rw[D4 hi]at k2
  by_cases n:s[i]<128
  ·have m:=X9 l hi n;simp[hi,m];refine c1 (D9 _) ?_;generalize hc:(s[i]:Int)=c at*
   by_cases j:i=0
   ·rcases cls c with⟨a,b⟩|⟨a,b,d⟩|⟨a,b,d,e⟩|⟨a,b,d,e,f⟩|⟨a,b,d,e,f⟩|⟨a,b,d,e,f,g⟩|⟨a,b,d,e,f,g⟩|⟨a,b,d,e,f,g,h⟩
    ·simp[isLet,a,b]at k2;simp[isLet,a,b];exact rd (i+1) ⟨hi,k2⟩
    ·simp[isLet,a,b,d]at k2;simp[isLet,a,b,d];exact rd (i+1) ⟨hi,k2⟩
    all_goals
     simp[isLet,isName, *]at k2;simp[isLet,isName, *]
   ·rcases cls c with⟨a,b⟩|⟨a,b,d⟩|⟨a,b,d,e⟩|⟨a,b,d,e,f⟩|⟨a,b,d,e,f⟩|⟨a,b,d,e,f,g⟩|⟨a,b,d,e,f,g⟩|⟨a,b,d,e,f,g,h⟩
    ·simp[isLet,a,b]at k2;simp[isLet,a,b];exact rd (i+1) ⟨hi,k2⟩
    ·simp[isLet,a,b,d]at k2;simp[isLet,a,b,d];exact rd (i+1) ⟨hi,k2⟩
    ·simp[isLet,je,a,b,d,e]at k2;have d2:c<48:=by omega
     simp[isLet,isName,a,b,e,j,d2,k2]
    ·simp[isLet,je,a,b,d,e,f,j]at k2;have d2:¬c<48:=by omega
     have e2:¬57<c:=o_
     simp[isLet,a,b,d2,e2,f,j];exact rd (i+1) ⟨hi,k2⟩
    ·simp[isLet,je,a,b,d,e,f]at k2;have d2:¬c<48:=by omega
     have e2:57<c:=o_
     simp[isLet,isName,a,b,d2,e2,f,j,k2]
    ·subst g;simp[isLet,je,j]at k2;simp[isLet,j];exact rd (i+1) ⟨hi,k2⟩
    ·simp[isLet,je,a,b,d,e,f,g]at k2;have d2:¬c<48:=by omega
     have e2:57<c:=o_
     simp[isLet,isName,a,b,d,d2,e2,g,j,k2]
    ·simp[isLet,je,a,b,d,e,f,g,h]at k2;have d2:¬c<48:=by omega
     have e2:57<c:=o_
     simp[isLet,isName,a,b,d,e,d2,e2,h,j,k2]
  ·obtain⟨m,_⟩:=X8 l hi n;have hl:isLet (s[i]:Int)=false:=by simp[isLet];omega
   have x:je (s[i]:Int)=false:=by simp[je];omega
   have w:¬(s[i]:Int)=95:=o_
   simp[hl,x,w]at k2;rcases o:cE (gu s) i with⟨c,d⟩
   rw[o]at m;have q:isLet (c:Int)=false:=by simp[isLet];omega
   have t:¬(c:Int)=95:=o_
   have u:¬(c:Int)<48:=o_
   have v:57<(c:Int):=o_
   simp[hi,o];refine c1 (D9 _) ?_
   by_cases j:i=0
   ·simp[q,j,isName,k2]
   ·simp[q,j,t,u,v,isName,k2]
 ·have:i=s.length:=by omega
  subst this;simp[l6]at k2;cases hs:s with
  |nil=>simp[isName]
  |cons a r=>
   rw[hs]at k2;rcases zQ 24 s.length with⟨g,k⟩|⟨g,k⟩
   ·rw[hs]at g k;have:¬(r.length+1)<=24:=by simp at g;omega
    simp at k;simp[isName,k2,this];omega
   ·rw[hs]at g k;have:(r.length+1)<=24:=by simp at k;omega
    simp at k;simp[isName,k2,this];omega
theorem iF{s:List Nat}(h:bS s=0):cr 2000 (aY s):=by
 obtain⟨b,c⟩:=XE h;have a:(10:Nat)^mD<=2^2000:=by decide+kernel
 exact⟨hz b a,hz c a⟩
theorem aEB:bK 1=[49]:=aEC (n:=1) (by decide)
def dK(q:Rat):Int:=if gX q<0\/0<eU q 1 then 3 else 0
def v8(s:List Nat):Int:=if bS s=0 then dK (aY s)else bS s
theorem Ef(s:List Nat)(hs:jt s):az prog 154 [.str s] (.int .i64 (v8 s)):=by
 have d:=yA s hs;refine aP nf (i_ func154) mix (by simp[f154]) ?_;rw[v8]
 by_cases c:bS s=0
 ·have o:=iF c;have f:=yb (aY s) (o.mono (by decide));have g:=wo (aY s) 1 (o.mono (by decide)) (by exact⟨by decide+kernel,by decide+kernel⟩);rw[(kg c).1]at f g;rw[aEB]at g;rw[if_pos c,dK];rw[c]at d;generalize gX (aY s)=x at*;generalize eU (aY s) 1=y at*
  by_cases a:x<0
  ·simp[f154,ad];refine c1 d ?_;simp[ad];refine c1 f ?_;simp[a,ad]
  ·by_cases b:0<y
   ·simp[f154,ad];refine c1 d ?_;simp[ad];refine c1 f ?_;simp[a,ad];refine c2 g ?_;simp[a,b,ad]
   ·simp[f154,ad];refine c1 d ?_;simp[ad];refine c1 f ?_;simp[a,ad];refine c2 g ?_;simp[a,b,ad]
 ·rw[if_neg c];generalize bS s=e at*;simp[f154,ad];refine c1 d ?_;simp[c,ad]
def fK(o p:dy):Bool:=decide (o.dw=p.dw)&&(decide (eU (aY o.a) (aY p.b)<=0)&&decide (eU (aY p.a) (aY o.b)<=0))
def fL(n:Nat)(c:List dy)(p:dy):Int:=
 if isName p.name=false then 8
 else if c.any (fun o=>decide (o.name=p.name))=true then 9
 else if p.dw<0\/(n:Int)<=p.dw then 10
 else if bS p.a≠0 then bS p.a
 else if bS p.b≠0 then bS p.b
 else if max (dK (aY p.a)) (dK (aY p.b))≠0 then max (dK (aY p.a)) (dK (aY p.b))
 else if 0<eU (aY p.a) (aY p.b)then 11
 else if c.any (fun o=>fK o p)=true then 17 else 0
def ry(p:dy):Prop:=jt p.name/\jt p.a/\jt p.b
def aC.pk(t:aC)(i:Nat):dy:=t.aF.getD i ⟨[],0,[],[]⟩
@[simp] theorem aC.DI{t:aC}{i:Nat}(h:i<t.aF.length):t.aF[i]'h=t.pk i:=by
 rw[aC.pk,gl,db h];rfl
theorem aC.jc{t:aC}{i:Nat}(h:i<t.aF.length):t.aF[i]?=some (t.pk i):=by rw[db h,aC.DI]
theorem zP{α:Type}{f:α->Bool}{l:List α}{i:Nat}{x:α}(h:l[i]?=some x):(l.take (i+1)).any f=((l.take i).any f||f x):=by
 rw[ed,h];simp
theorem P1(t:aC)(i:Nat)(hi:i<t.aF.length)(hl:t.aF.length<=1000000)(hc:t.cs.length<=1000000)(P:∀p∈t.aF,ry p)(Q:∀j,j<i->bS (t.pk j).a=0/\bS (t.pk j).b=0):
 az prog 63 [ct t,.int .i64 i] (.int .i64 (fL t.cs.length (t.aF.take i) (t.pk i))):=by
 have v:=aC.jc hi;obtain⟨R,E,F⟩:=P _ (c7 v);have m:=D6 (t.pk i).name R.1;have N:=yA (t.pk i).a E;have O:=yA (t.pk i).b F;refine aP nf (i_ func63) mix (by simp[f63]) ?_;rw[fL];cases B:isName (t.pk i).name
 ·rw[B]at m;simp[f63,ad,v,hi];refine c1 m ?_;simp[ad]
 rw[B]at m;rw[if_neg (by decide)];simp[f63,ad,v,hi];refine c1 m ?_;simp[ad];refine lp (α:=Nat) (fun j=>⟨[(6,.p (.int .i64 j)),(5,.ptr 1 []),(2,.ptr 0 []),(1,.p (.int .i64 i))],[.box false (.p (ct t)),.box false (.p (bY (t.pk i)))]⟩) (fun j=>j<=i/\(t.aF.take j).any (fun o=>decide (o.name=(t.pk i).name))=false) (fun j=>i-j) 0 s_ ?_;rintro j ⟨U,D⟩
 by_cases q:j<i
 ·have z:j<t.aF.length:=by omega
  have g:=aC.jc z;have f:=b8 (i:=j) o_
  by_cases n:(t.pk j).name=(t.pk i).name
  ·have:(t.aF.take i).any (fun o=>decide (o.name=(t.pk i).name))=true:=by
    rw[dk];exact⟨t.pk j,c7 (i:=j) (by rw[e6,if_pos q];exact g),by simp[n]⟩
   rw[if_pos this];simp[q,z,g,n,ad]
  ·simp[q,z,g,n,f,ad];exact rd (j+1) ⟨q,by rw[zP g,D];simp[n]⟩
 have:j=i:=o_
 subst this;rw[D,if_neg (by decide)];have u:((t.pk j).dw<0\/(t.cs.length:Int)<=(t.pk j).dw)\/(¬(t.pk j).dw<0/\¬(t.cs.length:Int)<=(t.pk j).dw):=o_
 rcases u with u|⟨K,L⟩
 ·rw[if_pos u]
  by_cases e1:(t.pk j).dw<0
  ·simp[e1,ad]
  ·have e2:(t.cs.length:Int)<=(t.pk j).dw:=by omega
   simp[e1,e2,ad]
 rw[if_neg o_];have d0:¬j<j:=o_
 simp[K,L,d0,ad];refine c1 N ?_
 by_cases c:bS (t.pk j).a=0
 case neg=>
  rw[if_pos c];simp[c,ad]
 rw[if_neg (by simp[c])];simp[c,ad];refine c1 O ?_
 by_cases d:bS (t.pk j).b=0
 case neg=>
  rw[if_pos d];simp[d,ad]
 rw[if_neg (by simp[d])];simp[d,ad];have G:=iF c;have H:=iF d;have x:=Ef (t.pk j).a E;have y:=Ef (t.pk j).b F;rw[v8,if_pos c]at x;rw[v8,if_pos d]at y;have A:=wo (aY (t.pk j).a) (aY (t.pk j).b) (G.mono (by decide)) (H.mono (by decide));rw[(kg c).1,(kg d).1]at A;refine e1 x ?_;simp[ad];refine e1 y ?_;have em:max (dK (aY (t.pk j).a)) (dK (aY (t.pk j).b))=if dK (aY (t.pk j).a)<dK (aY (t.pk j).b)then dK (aY (t.pk j).b)else dK (aY (t.pk j).a):=by split<;>omega
 simp[ad,<-em];clear em x y;generalize max (dK (aY (t.pk j).a)) (dK (aY (t.pk j).b))=M at*
 by_cases hm:M=0
 case neg=>
  simp[hm,ad]
 subst hm;simp[ad];refine c2 A ?_
 by_cases s:0<eU (aY (t.pk j).a) (aY (t.pk j).b)
 ·rw[if_pos s];simp[s,ad]
 rw[if_neg s];simp[s,ad];refine lp (α:=Nat) (fun k=>⟨[(8,.p (.int .i64 k)),(5,.ptr 1 []),(2,.ptr 0 []),(1,.p (.int .i64 j))],[.box false (.p (ct t)),.box false (.p (bY (t.pk j)))]⟩) (fun k=>k<=j/\(t.aF.take k).any (fun o=>fK o (t.pk j))=false) (fun k=>j-k) 0 s_ ?_;rintro k ⟨k1,k2⟩
 by_cases hk:k<j
 ·have e:k<t.aF.length:=by omega
  have gk:=aC.jc e;have f:=b8 (i:=k) o_;obtain⟨I,J⟩:=Q k hk;have S:=iF I;have T:=iF J;have l:=wo (aY (t.pk k).a) (aY (t.pk j).b) (S.mono (by decide)) (H.mono (by decide));have w:=wo (aY (t.pk j).a) (aY (t.pk k).b) (G.mono (by decide)) (T.mono (by decide));rw[(kg I).1,(kg d).1]at l;rw[(kg c).1,(kg J).1]at w;have C:fK (t.pk k) (t.pk j)=true->(t.aF.take j).any (fun o=>fK o (t.pk j))=true:=fun h=>by
   rw[dk];exact⟨t.pk k,c7 (i:=k) (by rw[e6,if_pos hk];exact gk),h⟩
  have r:fK (t.pk k) (t.pk j)=false->(t.aF.take (k+1)).any (fun o=>fK o (t.pk j))=false:=fun h=>by
   rw[zP gk,k2,h];rfl
  rw[fK]at C r
  by_cases e1:(t.pk k).dw=(t.pk j).dw
  ·by_cases e2:eU (aY (t.pk k).a) (aY (t.pk j).b)<=0
   ·by_cases e3:eU (aY (t.pk j).a) (aY (t.pk k).b)<=0
    ·rw[if_pos (C (by simp[e1,e2,e3]))];simp[hk,e,gk,e1,ad];refine c2 l ?_;simp[e1,e2,ad];refine c2 w ?_;simp[e1,e2,e3,ad]
    ·simp[hk,e,gk,e1,ad];refine c2 l ?_;simp[e1,e2,ad];refine c2 w ?_;simp[e1,e2,e3,f,ad];exact rd (k+1) ⟨hk,r (by simp[e3])⟩
   ·simp[hk,e,gk,e1,ad];refine c2 l ?_;simp[e1,e2,f,ad];exact rd (k+1) ⟨hk,r (by simp[e2])⟩
  ·simp[hk,e,gk,e1,f,ad];exact rd (k+1) ⟨hk,r (by simp[e1])⟩
 ·have:k=j:=by omega
  subst this;rw[k2,if_neg (by decide)];simp[ad]
structure NV where
 x:NF
 y:NF
def NV.q(v:NV):V2:=⟨v.x.q,v.y.q⟩
def NV.add(v w:NV):NV:=⟨v.x.add w.x,v.y.add w.y⟩
def NV.sub(v w:NV):NV:=⟨v.x.sub w.x,v.y.sub w.y⟩
def NV.times(v:NV)(k:NF):NV:=⟨v.x.mul k,v.y.mul k⟩
def NV.dot(v w:NV):NF:=(v.x.mul w.x).add (v.y.mul w.y)
def NV.gY(v w:NV):NF:=(v.x.mul w.y).sub (v.y.mul w.x)
theorem NV.qD(v w:NV):(v.sub w).q=v.q.sub w.q:=by simp only[NV.sub,NV.q,V2.sub,NF.qD]
theorem NV.Rh(v w:NV):(v.add w).q=v.q.add w.q:=rfl
theorem NV.XF(v w:NV):(v.gY w).q=v.q.gY w.q:=NF.qD _ _
def NV.from(p:im):NV:=⟨⟨aY p.x,false⟩,⟨aY p.y,false⟩⟩
structure NS where
 a:NF
 b:NF
 d:NF
def NS.q(s:NS):S3:=⟨s.a.q,s.b.q,s.d.q⟩
def DA(k:Nat)(s:NS):Prop:=cr k s.a.q/\cr k s.b.q/\cr k s.d.q
def NF.width(r:Int):NF:=.int (4*r*r)
structure NM where
 w:NV
 d:NV
 root:NF
def NM.of(width:NF)(p d b:NV):NM:=⟨b.sub p,d,(((b.sub p).dot d).mul ((b.sub p).dot d)).sub ((d.dot d).mul (((b.sub p).dot (b.sub p)).sub width))⟩
theorem nE:∀l:List Int,bZ l=0↔∀e∈l,e=0
 |[]=>by simp[bZ]
 |e::r=>by
  rw[bZ]
  by_cases h:e=0
  ·rw[if_pos h,nE r];simp[h]
  ·rw[if_neg h];simp[h]
theorem pO{p:im}(h:fV p=0):bS p.x=0/\bS p.y=0:=by
 have:=(nE _).1 h;exact⟨this _ s_,this _ s_⟩
def vP(p:im):V2:=⟨aY p.x,aY p.y⟩
theorem Ys(p:im):(NV.from p).q=vP p:=rfl
theorem Rf{k:Nat}{p:im}(h:fj k (vP p)):fj k (NV.from p).q:=h
structure NB where
 a:NV
 b:NV
 d:NF
def NB.q(n:NB):P4:=⟨⟨n.a.x.q,n.b.x.q,n.d.q⟩,⟨n.a.y.q,n.b.y.q,n.d.q⟩⟩
def okB(k:Nat)(n:NB):Prop:=fj k n.a.q/\fj k n.b.q/\cr k n.d.q
theorem okB.mono{k l:Nat}{n:NB}(h:okB k n)(hl:k<=l):okB l n:=⟨h.1.mono hl,h.2.1.mono hl,h.2.2.mono hl⟩
theorem Nz(e:Int):∀l:List Int,bZ (l++[e])=if bZ l=0 then e else bZ l
 |[]=>by by_cases h:e=0<;>simp[bZ,h]
 |x::l=>by
  simp only[List.cons_append,bZ,Nz e l]
  by_cases hx:x=0
  ·simp[hx]
  ·simp[hx]
def plV(v:V2):im:=⟨bK v.x,bK v.y⟩
def iq{α:Type}(a:List α->α->Int)(l:List α)(i:Nat):Int:=match l[i]? with
 |some x=>a (l.take i) x
 |none=>0
def kP{α:Type}(a:List α->α->Int)(l:List α):Int:=bZ ((gb l.length).map (iq a l))
theorem D5{f:Nat->Int}:∀(n i:Nat),(∀j,j<i->f j=0)->i<n->f i≠0->bZ ((gb n).map f)=f i
 |0,i,_,h,_=>by omega
 |n+1,i,a,g,b=>by
  rw[List.range_succ,gg,dq,ew,Nz]
  by_cases hi:i<n
  ·rw[D5 n i a hi b,if_neg b]
  ·have:i=n:=by omega
   subst this;rw[(nE _).2 (by intro e c;obtain⟨j,d,rfl⟩:=et.1 c;exact a j (gi.1 d)),if_pos rfl]
theorem vY{α:Type}{a:List α->α->Int}{l:List α}{i:Nat}{x:α}(h:∀j,j<i->iq a l j=0)(hx:l[i]?=some x)(b:a (l.take i) x≠0):kP a l=a (l.take i) x:=by
 have hi:=(dz.1 hx).1;have e:iq a l i=a (l.take i) x:=by rw[iq,hx]
 rw[kP,D5 _ i h hi (by rw[e];exact b),e]
theorem n8{α:Type}{b:List α->α->Int}{l:List α}:kP b l=0↔∀j,j<l.length->iq b l j=0:=by
 rw[kP,nE];constructor
 ·intro h j a;exact h _ (et.2 ⟨j,gi.2 a,rfl⟩)
 ·intro h e c;obtain⟨j,a,rfl⟩:=et.1 c;exact h j (gi.1 a)
theorem vX{α:Type}{a:List α->α->Int}{l:List α}{i:Nat}{x:α}(h:∀j,j<i->iq a l j=0)(hx:l[i]?=some x)(c:a (l.take i) x=0):∀j,j<i+1->iq a l j=0:=by
 intro j d
 by_cases b:j=i
 ·subst b;rw[iq,hx];exact c
 ·exact h j o_
def gH(t:aC)(bef:List dP)(s:dP):Int:=
 if isName s.name=false then 8
 else if bef.any (fun o=>decide (o.name=s.name))=true then 9
 else if fV s.pt≠0 then fV s.pt
 else if t.on (vP s.pt)<0 then 16 else 0
def eg(t:aC):Int:=
 if t.cs.length<3 then 2
 else if 12<t.cs.length then 5
 else if t.cs.any fg=true then 3
 else if t.fJ=false then 15
 else if t.bJ<1\/1000<t.bJ then 3
 else if 12<t.aF.length then 5
 else if kP (fL t.cs.length) t.aF≠0 then kP (fL t.cs.length) t.aF
 else if 256<t.au.length then 5
 else kP (gH t) t.au
def tE(p:dP):Prop:=jt p.name/\ru p.pt
def aC.sp(t:aC)(i:Nat):dP:=t.au.getD i ⟨[],⟨[],[]⟩⟩
@[simp] theorem aC.vQ{t:aC}{i:Nat}(h:i<t.au.length):t.au[i]'h=t.sp i:=by
 rw[aC.sp,gl,db h];rfl
theorem aC.iN{t:aC}{i:Nat}(h:i<t.au.length):t.au[i]?=some (t.sp i):=by rw[db h,aC.vQ]
structure jf(t:aC):Prop where
 cl:t.cs.length<=1000000
 pl:t.aF.length<=1000000
 sl:t.au.length<=1000000
 pk:∀p∈t.aF,ry p
 sp:∀s∈t.au,tE s
def mO(t:aC)(name:List Nat):Int:=match t.au.findIdx? (fun s=>decide (s.name=name))with
 |some i=>i
 |none=>-1
theorem Eg{n:Nat}{c:List dy}{p:dy}(h:fL n c p=0):bS p.a=0/\bS p.b=0:=by
 rw[fL]at h
 split at h
 ·omega
 split at h
 ·omega
 split at h
 ·omega
 split at h
 ·contradiction
 split at h
 ·contradiction
 rename_i d e;exact⟨Decidable.not_not.1 d,Decidable.not_not.1 e⟩
theorem W3(t:aC)(name:List Nat)(hl:t.au.length<=1000000):az prog 65 [ct t,.str name] (.int .i64 (mO t name)):=by
 refine aP nf (i_ func65) mix (by simp[f65]) ?_;simp[f65,ad];refine lp (α:=Nat) (fun i=>⟨[(5,.p (.int .i64 i)),(2,.ptr 0 []),(1,.p (.str name))],[.box false (.p (ct t))]⟩) (fun i=>i<=t.au.length/\∀j,j<i->¬(t.sp j).name=name) (fun i=>t.au.length-i) 0 s_ ?_;rintro i ⟨g,c⟩
 by_cases hi:i<t.au.length
 ·have d:=aC.iN hi;have f:=b8 (i:=i) o_
  by_cases a:(t.sp i).name=name
  ·have:mO t name=i:=by
    have:t.au.findIdx? (fun s=>decide (s.name=name))=some i:=by
     rw[gc];refine⟨hi,by rw[aC.vQ];simp[a],fun j b=>?_⟩;rw[aC.vQ];simp[c j b]
    rw[mO,this]
   simp[hi,d,a,this,ad]
  ·simp[hi,d,a,f,ad];exact rd (i+1) ⟨hi,fun j b=>by
    by_cases e:j=i
    ·subst e;exact a
    ·exact c j o_⟩
 ·have:i=t.au.length:=by omega
  subst this;have:mO t name= -1:=by
   have:t.au.findIdx? (fun s=>decide (s.name=name))=none:=by
    rw[gt];intro s hs;obtain⟨j,b,rfl⟩:=eo.1 hs;rw[aC.vQ];simp[c j b]
   rw[mO,this]
  simp[this,ad]
theorem aDy{t:aC}{i:Nat}(hi:i<t.au.length):mO t (t.sp i).name<i↔(t.au.take i).any (fun o=>decide (o.name=(t.sp i).name))=true:=by
 obtain⟨k,hk⟩:∃k,t.au.findIdx? (fun s=>decide (s.name=(t.sp i).name))=some k:=by
  cases h:t.au.findIdx? (fun s=>decide (s.name=(t.sp i).name))with
  |some k=>exact⟨k,rfl⟩
  |none=>
   rw[gt]at h;have:=h _ (c7 (aC.iN hi));simp at this
 rw[mO,hk];rw[gc]at hk;obtain⟨k1,k2,k3⟩:=hk;rw[dk];constructor
 ·intro h;have h:k<i:=by simp only at h;omega
  exact⟨t.au[k],c7 (i:=k) (by rw[e6,if_pos h,db k1]),k2⟩
 ·rintro⟨o,b,a⟩;obtain⟨j,c,rfl⟩:=eo.1 b;simp only[en]at c;simp only;rw[ge]at a;have:¬j<k:=fun d=>by
   have:=k3 j d;rw[a]at this;simp at this
  omega
theorem D2(t:aC)(I:jf t):az prog 13 [ct t] (.int .i64 (eg t)):=by
 obtain⟨r,J,K,G,H⟩:=I;refine aP nf (i_ func13) mix (by simp[f13]) ?_;rw[eg]
 by_cases c1:t.cs.length<3
 ·have cI:(t.cs.length:Int)<3:=by omega
  rw[if_pos c1];simp[f13,ad,cI]
 have u:¬(t.cs.length:Int)<3:=o_
 rw[if_neg c1]
 by_cases c2:12<t.cs.length
 ·have cI:(12:Int)<t.cs.length:=by omega
  rw[if_pos c2];simp[f13,ad,u,cI]
 have x:¬(12:Int)<t.cs.length:=o_
 rw[if_neg c2];simp[f13,ad,u,x];refine lp (α:=Nat) (fun i=>⟨[(3,.p (.int .i64 i)),(1,.ptr 0 [])],[.box false (.p (ct t))]⟩) (fun i=>i<=t.cs.length/\(t.cs.take i).any fg=false) (fun i=>t.cs.length-i) 0 s_ ?_;rintro i ⟨i1,i2⟩
 by_cases hi:i<t.cs.length
 ·have g:=aC.get hi;have e:=b8 (i:=i) o_;have k:=W9 (t.at i);cases hf:fg (t.at i)
  ·rw[hf]at k;simp[hi,g,ad];refine c1_ k ?_;simp[e,ad];exact rd (i+1) ⟨hi,by rw[zP g,i2,hf];rfl⟩
  ·rw[hf]at k;have:t.cs.any fg=true:=dk.2 ⟨t.at i,c7 g,hf⟩;rw[if_pos this];simp[hi,g,ad];refine c1_ k ?_;simp[ad]
 have:i=t.cs.length:=o_
 subst this;rw[c8]at i2;have w:∀p∈t.cs,eZ p:=fun p F=>zS (by
  cases h:fg p
  ·rfl
  ·rw[dk.2 ⟨p,F,h⟩]at i2;cases i2)
 have B:=Qs t r w;rw[i2,if_neg (by decide)];simp[ad];refine c1_ B ?_;cases O:t.fJ
 ·simp[ad]
 rw[if_neg (by decide)];have s:(t.bJ<1\/1000<t.bJ)\/(¬t.bJ<1/\¬1000<t.bJ):=o_
 rcases s with s|⟨r1,r2⟩
 ·rw[if_pos s]
  by_cases e1:t.bJ<1
  ·simp[e1,ad]
  ·have e2:1000<t.bJ:=by omega
   simp[e1,e2,ad]
 rw[if_neg o_]
 by_cases c3:12<t.aF.length
 ·have cI:(12:Int)<t.aF.length:=by omega
  rw[if_pos c3];simp[r1,r2,cI,ad]
 have y:¬(12:Int)<t.aF.length:=o_
 rw[if_neg c3];simp[r1,r2,y,ad];refine lp (α:=Nat) (fun i=>⟨[(4,.p (.int .i64 i)),(1,.ptr 0 [])],[.box false (.p (ct t))]⟩) (fun i=>i<=t.aF.length/\∀j,j<i->iq (fL t.cs.length) t.aF j=0) (fun i=>t.aF.length-i) 0 s_ ?_;rintro i ⟨k1,k2⟩
 by_cases hk:i<t.aF.length
 ·have gk:=aC.jc hk;have e:=b8 (i:=i) o_;have b:=P1 t i hk J r G (fun j E=>by
   have:=k2 j E;rw[iq,aC.jc o_]at this;exact Eg this)
  by_cases he:fL t.cs.length (t.aF.take i) (t.pk i)=0
  ·rw[he]at b;simp[hk,ad];refine c2_ b ?_;simp[e,ad];exact rd (i+1) ⟨hk,vX k2 gk he⟩
  ·have D:=vY k2 gk he;rw[D,if_pos he];simp[hk,ad];refine c2_ b ?_;simp[he,ad]
 have:i=t.aF.length:=o_
 subst this;have C:=n8.2 k2;rw[C,if_neg (by decide)]
 by_cases c4:256<t.au.length
 ·have cI:(256:Int)<t.au.length:=by omega
  rw[if_pos c4];simp[cI,ad]
 have z:¬(256:Int)<t.au.length:=o_
 rw[if_neg c4];simp[z,ad];refine lp (α:=Nat) (fun i=>⟨[(6,.p (.int .i64 i)),(1,.ptr 0 [])],[.box false (.p (ct t))]⟩) (fun i=>i<=t.au.length/\∀j,j<i->iq (gH t) t.au j=0) (fun i=>t.au.length-i) 0 s_ ?_;rintro i ⟨s1,s2⟩
 by_cases hs:i<t.au.length
 ·have a:=aC.iN hs;have e:=b8 (i:=i) o_;obtain⟨M,N⟩:=H _ (c7 a);have c:=D6 (t.sp i).name M.1;have l:=W3 t (t.sp i).name K;have b:=Re (t.sp i).pt N;have v:=aDy hs;have f:gH t (t.au.take i) (t.sp i)≠0->kP (gH t) t.au=gH t (t.au.take i) (t.sp i):=vY s2 a;have L:gH t (t.au.take i) (t.sp i)=0->∀j,j<i+1->iq (gH t) t.au j=0:=vX s2 a;have ev:gH t (t.au.take i) (t.sp i)=if isName (t.sp i).name=false then 8 else if(t.au.take i).any (fun o=>decide (o.name=(t.sp i).name))=true then 9 else if fV (t.sp i).pt≠0 then fV (t.sp i).pt else if t.on (vP (t.sp i).pt)<0 then 16 else 0:=rfl
  cases m:isName (t.sp i).name
  ·rw[m]at c;rw[m,if_pos rfl]at ev;rw[f (by rw[ev];decide),ev];simp[hs,a,ad];refine c1_ c ?_;simp[ad]
  rw[m]at c;rw[m,if_neg (by decide)]at ev
  by_cases d:mO t (t.sp i).name<i
  ·rw[if_pos (v.1 d)]at ev;rw[f (by rw[ev];decide),ev];simp[hs,a,ad];refine c1_ c ?_;simp[ad];refine c2_ l ?_;simp[d,ad]
  rw[if_neg (fun h=>d (v.2 h))]at ev
  by_cases pe:fV (t.sp i).pt=0
  case neg=>
   rw[if_pos pe]at ev;rw[f (by rw[ev];exact pe),ev];simp[hs,a,ad];refine c1_ c ?_;simp[ad];refine c2_ l ?_;simp[d,ad];refine c1_ b ?_;simp[pe,ad]
  rw[if_neg (by simp[pe])]at ev;obtain⟨g1,g2⟩:=pO pe;have q:=WY t (vP (t.sp i).pt) r w ⟨(iF g1).mono (by decide),(iF g2).mono (by decide)⟩;have A:eV (vP (t.sp i).pt)=ff (t.sp i).pt:=by
   rw[eV,vP];dsimp only;rw[(kg g1).1,(kg g2).1]
  rw[A]at q;rw[pe]at b
  by_cases n:t.on (vP (t.sp i).pt)<0
  ·rw[if_pos n]at ev;rw[f (by rw[ev];decide),ev];simp[hs,a,ad];refine c1_ c ?_;simp[ad];refine c2_ l ?_;simp[d,ad];refine c1_ b ?_;simp[ad];refine c2_ q ?_;simp[n,ad]
  ·rw[if_neg n]at ev;simp[hs,a,ad];refine c1_ c ?_;simp[ad];refine c2_ l ?_;simp[d,ad];refine c1_ b ?_;simp[ad];refine c2_ q ?_;simp[n,e,ad];exact rd (i+1) ⟨hs,L ev⟩
 ·have:i=t.au.length:=by omega
  subst this;rw[n8.2 s2];simp[ad]
open Go.Proofs Go.Proofs.YtfdgnogcckoalaaGreatDoor
section
variable{H:Type}{W:a7}{aa:Nat->Prop}
theorem zO:∀d:a8 H,1<=Rows.uptoBulk d:=by
 intro d;cases d with
 |lit l=>cases l<;>simp[Rows.uptoBulk]
 |_=>simp[Rows.uptoBulk]
theorem zV{α:Type}{n:Nat}{t e:TypeId}{F:α->PV}{ok:α->Prop}(g:prog.underlying t=some (.slice e))
 (p:∀(d:a8 H),(∃c,aV prog W aa (bD prog n e d) c)->Rows.uptoBulk d<=1048576->∃a,bD prog n e d=F a/\ok a/\2<=Rows.uptoBulk d)
 {d:a8 H}(h:∃cs,aV prog W aa (bD prog (n+1) t d) cs)(k:Rows.uptoBulk d<=1048576):∃l:List α,bD prog (n+1) t d=.seq (l.map F)/\(∀a∈l,ok a)/\l.length<=1000000:=by
 obtain⟨cs,h⟩:=h;cases d with
 |nil=>exact⟨[],by simp[bD,g],(fun _ h=>nomatch h),s_⟩
 |slice f sp=>
  simp only[bD,g,aV]at h⊢;have i:∀e'∈f.map (bD prog n e),∃c,aV prog W aa e' c:=by
   rcases h with⟨h,_⟩|⟨_,_,_,_,w,h,_⟩
   ·rw[h];intro _ h;cases h
   ·exact Em h
  have key:∀f:List (a8 H),(∀e'∈f.map (bD prog n e),∃c,aV prog W aa e' c)->Rows.uptoBulkAll f<=1048576->∃l:List α,f.map (bD prog n e)=l.map F/\(∀a∈l,ok a)/\2*l.length<=Rows.uptoBulkAll f:=by
   intro f
   induction f with
   |nil=>intro _ _;exact⟨[],rfl,(fun _ h=>nomatch h),s_⟩
   |cons d r v=>
    intro i k;rw[Rows.uptoBulkAll]at k⊢;obtain⟨a,q,u,m⟩:=p d (i _ g9) o_;obtain⟨l,j,o,y⟩:=v (fun e' s=>i e' (ec _ s)) o_;refine⟨a::l,by simp only[dq];rw[q,j],fun x hx=>?_,by rw[e8];omega⟩;rcases fm.1 hx with rfl|hx
    ·exact u
    ·exact o x hx
  rw[Rows.uptoBulk]at k;obtain⟨l,j,m,o⟩:=key f i o_;exact⟨l,by rw[j],m,o_⟩
 |lit l=>simp only[bD,g,aV]at h
 |ptr d=>simp only[bD,g,aV]at h
 |agg l=>simp only[bD,g,aV]at h
 |iface a b=>simp only[bD,g,aV]at h
 |map l=>simp only[bD,g,aV]at h
 |held a=>simp only[bD,g,aV]at h
theorem Ei{n:Nat}{d:a8 H}(h:∃cs,aV prog W aa (bD prog (n+1) 9 d) cs)(a:Rows.uptoBulk d<=1048576):∃s:List Nat,bD prog (n+1) 9 d=.str s/\jt s:=by
 obtain⟨cs,h⟩:=h;cases d with
 |lit l=>
  cases l with
  |string bytes=>
   refine⟨bytes.map (·.toNat),by simp only[bD,tL],?_,?_⟩
   ·rw[Rows.uptoBulk]at a;rw[ej];omega
   ·intro c hc;obtain⟨u,_,rfl⟩:=et.1 hc;exact u.toNat_lt
  |_=>simp only[bD,tL,aV]at h
 |_=>simp only[bD,tL,aV]at h
theorem aEO:∃a b:bi,prog.underlying 64=some (.struct #[a,b])/\a.type=3/\b.type=3:=⟨_,_,underlying64,rfl,rfl⟩
theorem Pz:prog.underlyingId 64=63:=k_
theorem Qu{m n:Nat}(j:m=n+1){d:a8 H}(h:∃cs,aV prog W aa (bD prog (m+1) 64 d) cs)(o:Rows.uptoBulk d<=1048576):∃p:dm,bD prog (m+1) 64 d=bw p/\True/\2<=Rows.uptoBulk d:=by
 obtain⟨cs,h⟩:=h;obtain⟨f0,f1,f,t0,t1⟩:=aEO;cases d with
 |agg l=>
  simp only[bD,f,aV]at h⊢;obtain⟨q,k,e,c,_⟩:=h;rw[Pz,aDX]at e;cases e
  match l,c with
  |[],c=>simp[bc]at c
  |[x],c=>simp[bc]at c
  |x::y::r,c=>
   have:=zO x;simp only[ez,dq,bc,e7,ew,t0,t1]at c⊢;obtain⟨c0,_,_,g1,_,c1,_,_,g2,_⟩:=c;subst j;obtain⟨a,g⟩:=wj (n:=n) x c0 g1;obtain⟨b,i⟩:=wj (n:=n) y c1 g2;refine⟨⟨a,b⟩,by rw[g,i,Pz];rfl,trivial,?_⟩;rw[Rows.uptoBulk,Rows.uptoBulkAll];omega
 |_=>simp only[bD,f,aV]at h
theorem aEM:∃a b f2 f3:bi,prog.underlying 88=some (.struct #[a,b,f2,f3])/\a.type=9/\b.type=3/\f2.type=73/\f3.type=73:=⟨_,_,_,_,underlying88,rfl,rfl,rfl,rfl⟩
theorem Px:prog.underlyingId 88=87:=k_
theorem Qa{m n:Nat}(q:m=n+1){d:a8 H}(h:∃cs,aV prog W aa (bD prog (m+1) 88 d) cs)(o:Rows.uptoBulk d<=1048576):∃p:dy,bD prog (m+1) 88 d=bY p/\ry p/\2<=Rows.uptoBulk d:=by
 obtain⟨cs,h⟩:=h;obtain⟨f0,f1,f2,f3,g,t0,t1,t2,t3⟩:=aEM;cases d with
 |agg l=>
  have e:∀x∈l,Rows.uptoBulk x<=1048576:=fun x hx=>by
   have:=th.yL hx;rw[Rows.uptoBulk]at o;omega
  simp only[bD,g,aV]at h⊢;obtain⟨B,A,f,c,_⟩:=h;rw[Px,aD0]at f;cases f
  match l,c with
  |[],c=>simp[bc]at c
  |[x],c=>simp[bc]at c
  |[x,y],c=>simp[bc]at c
  |[x,y,z],c=>simp[bc]at c
  |x::y::z::w::r,c=>
   have:=zO x;simp only[ez,dq,bc,e7,ew,t0,t1,t2,t3]at c⊢;obtain⟨c0,_,_,g0,_,c1,_,_,g1,_,c2,_,_,g2,_,c3,_,_,g3,_⟩:=c;subst q;obtain⟨a,i,k⟩:=Ei (n:=n) ⟨c0,g0⟩ (e x s_);obtain⟨b,j⟩:=wj (n:=n) y c1 g1;obtain⟨u,eu,s⟩:=yV (n:=n) ⟨c2,g2⟩ (e z s_);obtain⟨v,ev,t⟩:=yV (n:=n) ⟨c3,g3⟩ (e w s_);refine⟨⟨a,b,u,v⟩,by rw[i,j,eu,ev,Px];rfl,⟨k,s,t⟩,?_⟩;rw[Rows.uptoBulk,Rows.uptoBulkAll];omega
 |_=>simp only[bD,g,aV]at h
theorem aEP:∃a b:bi,prog.underlying 97=some (.struct #[a,b])/\a.type=9/\b.type=82:=⟨_,_,underlying97,rfl,rfl⟩
theorem PA:prog.underlyingId 97=84:=k_
theorem Qt{m n:Nat}(s:m=n+2){d:a8 H}(h:∃cs,aV prog W aa (bD prog (m+1) 97 d) cs)(o:Rows.uptoBulk d<=1048576):∃p:dP,bD prog (m+1) 97 d=bO p/\tE p/\2<=Rows.uptoBulk d:=by
 obtain⟨cs,h⟩:=h;obtain⟨f0,f1,g,t0,t1⟩:=aEP;cases d with
 |agg l=>
  have f:∀x∈l,Rows.uptoBulk x<=1048576:=fun x hx=>by
   have:=th.yL hx;rw[Rows.uptoBulk]at o;omega
  simp only[bD,g,aV]at h⊢;obtain⟨u,t,e,c,_⟩:=h;rw[PA,aDZ]at e;cases e
  match l,c with
  |[],c=>simp[bc]at c
  |[x],c=>simp[bc]at c
  |x::y::r,c=>
   have:=zO x;simp only[ez,dq,bc,e7,ew,t0,t1]at c⊢;obtain⟨c0,_,_,g1,_,c1,_,_,g2,_⟩:=c;subst s;obtain⟨a,i,k⟩:=Ei (n:=n+1) ⟨c0,g1⟩ (f x s_);obtain⟨b,j,q⟩:=RH (n:=n) ⟨c1,g2⟩ (f y s_);refine⟨⟨a,b⟩,by rw[i,j,PA];rfl,⟨k,q⟩,?_⟩;rw[Rows.uptoBulk,Rows.uptoBulkAll];omega
 |_=>simp only[bD,g,aV]at h
theorem aEQ:∃a b f2 f3:bi,prog.underlying 26=some (.struct #[a,b,f2,f3])/\a.type=22/\b.type=3/\f2.type=23/\f3.type=24:=⟨_,_,_,_,underlying26,rfl,rfl,rfl,rfl⟩
theorem PB:prog.underlyingId 26=25:=k_
theorem aD2{m n:Nat}(p:m=n+4){d:a8 H}(h:∃cs,aV prog W aa (bD prog (m+1) 26 d) cs)(e:Rows.uptoBulk d<=1048576):∃t:aC,bD prog (m+1) 26 d=ct t/\True/\jf t:=by
 obtain⟨cs,h⟩:=h;obtain⟨f0,f1,f2,f3,j,t0,t1,t2,t3⟩:=aEQ;cases d with
 |agg l=>
  have g:∀x∈l,Rows.uptoBulk x<=1048576:=fun x hx=>by
   have:=th.yL hx;rw[Rows.uptoBulk]at e;omega
  simp only[bD,j,aV]at h⊢;obtain⟨E,D,i,c,_⟩:=h;rw[PB,aDW]at i;cases i
  match l,c with
  |[],c=>simp[bc]at c
  |[x],c=>simp[bc]at c
  |[x,y],c=>simp[bc]at c
  |[x,y,z],c=>simp[bc]at c
  |x::y::z::w::r,c=>
   simp only[ez,dq,bc,e7,ew,t0,t1,t2,t3]at c⊢;obtain⟨c0,_,_,g0,_,c1,_,_,g1,_,c2,_,_,g2,_,c3,_,_,g3,_⟩:=c;subst p;obtain⟨a,k,_,A⟩:=zV (n:=n+3) aEJ (F:=bw) (ok:=fun _=>True) (fun d f e=>Qu (n:=n+1) rfl f e) ⟨c0,g0⟩ (g x s_);obtain⟨b,o⟩:=wj (n:=n+3) y c1 g1;obtain⟨u,eu,q,B⟩:=zV (n:=n+3) aEK (F:=bY) (ok:=ry) (fun d f e=>Qa (n:=n+1) rfl f e) ⟨c2,g2⟩ (g z s_);obtain⟨v,ev,s,C⟩:=zV (n:=n+3) aEL (F:=bO) (ok:=tE) (fun d f e=>Qt (n:=n) rfl f e) ⟨c3,g3⟩ (g w s_);exact⟨⟨a,b,u,v⟩,by rw[k,o,eu,ev,PB];rfl,trivial,A,B,C,q,s⟩
 |_=>simp only[bD,j,aV]at h
theorem aD1{d:a8 H}(h:∃cs,aV prog W aa (bD prog 8 26 d) cs)(a:Rows.uptoBulk d<=1048576):∃t:aC,bD prog 8 26 d=ct t/\True/\jf t:=aD2 (n:=3) rfl h a
end
namespace Hk
mutual
def rE:PV->PV->Bool
 | .int .i64 a,.int .i64 b=>nS a b
 | .int .u64 a,.int .u64 b=>nS a b
 | .bool a,.bool b=>a==b
 | .str a,.str b=>rD a b
 | .aK,.aK=>true
 | .fx,.fx=>true
 | .bE f a,.bE g b=>bif f==g then lg a b else false
 | .seq a,.seq b=>lg a b
 | .eS a,.eS b=>tG a b
 | .st u a,.st v b=>bif ho u v then lg a b else false
 | .aE a,.aE b=>lg a b
 | .func f a b,.func g c d=>bif ho f g then(bif lg a c then lg b d else false)else false
 | .cq a,.cq b=>rE a b
 |_,_=>false
def lg:List PV->List PV->Bool
 |[],[]=>true
 |a::l,b::m=>bif rE a b then lg l m else false
 |_,_=>false
def tG:List (PV×PV)->List (PV×PV)->Bool
 |[],[]=>true
 |(a,c)::l,(b,d)::m=>bif rE a b then(bif rE c d then tG l m else false)else false
 |_,_=>false
end
mutual
theorem uO:∀{a b:PV},rE a b=true->a=b
 |a,b,h=>by
  unfold rE at h
  split at h
  ·rw[yF h]
  ·rw[yF h]
  ·rw[eq_of_beq h]
  ·rw[BV h]
  ·rfl
  ·rfl
  ·rename_i f a g b;cases hf:f==g
   ·rw[hf]at h;cases h
   ·rw[hf,cond_true]at h;rw[eq_of_beq hf,oM h]
  ·rw[oM h]
  ·rw[KB h]
  ·simp only[ap]at h
   split at h
   ·rename_i i;rw[hd i,oM h]
   ·cases h
  ·rw[oM h]
  ·simp only[ap]at h
   split at h
   ·rename_i i
    split at h
    ·rename_i e;rw[hd i,oM e,oM h]
    ·cases h
   ·cases h
  ·rw[uO h]
  ·cases h
theorem oM:∀{a b:List PV},lg a b=true->a=b
 |[],[],_=>rfl
 |[],_::_,h=>by simp[lg]at h
 |_::_,[],h=>by simp[lg]at h
 |a::l,b::m,h=>by
  simp only[lg,ap]at h
  split at h
  ·rename_i e;rw[uO e,oM h]
  ·cases h
theorem KB:∀{a b:List (PV×PV)},tG a b=true->a=b
 |[],[],_=>rfl
 |[],_::_,h=>by simp[tG]at h
 |_::_,[],h=>by simp[tG]at h
 |(a,c)::l,(b,d)::m,h=>by
  simp only[tG,ap]at h
  split at h
  ·rename_i e
   split at h
   ·rename_i j;rw[uO e,uO j,KB h]
   ·cases h
  ·cases h
end
def sT:List (a6×List PV×PV)->a6->List PV->Option PV
 |[],f,vs=>hk f vs
 |(g,us,v)::r,f,vs=>bif ho g f then(bif lg us vs then some v else sT r f vs)else sT r f vs
def il:List (a6×List PV×PV)->Prop
 |[]=>True
 |(g,us,v)::r=>az prog g us v/\il r
theorem AN:∀{l m:List (a6×List PV×PV)},il l->il m->il (l++m)
 |[],_,_,h=>h
 |_::_,_,h,a=>⟨h.1,AN h.2 a⟩
theorem xO:∀{l:List (a6×List PV×PV)},il l->∀f vs v,sT l f vs=some v->az prog f vs v
 |[],_,f,vs,v,h=>YO h
 |(g,us,w)::r,a,f,vs,v,h=>by
  simp only[sT,ap]at h
  split at h
  ·rename_i b
   split at h
   ·rename_i hs;simp only[hH]at h;subst h;rw[<-oM hs,<-hd b];exact a.1
   ·exact xO a.2 f vs v h
  ·exact xO a.2 f vs v h
def Ds(v:PV):Option PV->Bool
 |some w=>rE v w
 |none=>false
theorem Ft{v:PV}{o:Option PV}(h:Ds v o=true):o=some v:=by
 cases o with
 |none=>cases h
 |some w=>rw[uO h]
def aBX:a6->a6->Nat:=fun _ _=>0
theorem gf(l:List (a6×List PV×PV))(hl:il l){f:a6}{vs:List PV}{v:PV}(h:Ds v (Pn (sT l) aBX f vs)=true):az prog f vs v:=K4 (xO hl) (Ft h)
end Hk
end Go.aw
namespace Go.Proofs
open Go.Shelf
def Tryz.EW:cy:=⟨fun|156=>139|165=>221|166=>52|169=>142|240=>138|241=>272|276=>220|277=>328|n=>n,fun|31=>140|9=>9|3=>3|4=>4|0=>0|20=>20|72=>118|76=>121|70=>115|37=>116|75=>120|127=>286|164=>282|5=>5|80=>224|n=>n,fun|n=>n⟩
theorem Tryz.E9:cc prog EW:={
 mixed:=k_
 f156:=func139.trans (congrArg some k_)
 f165:=func221.trans (congrArg some k_)
 f166:=func52.trans (congrArg some k_)
 f169:=func142.trans (congrArg some k_)
 f240:=func138.trans (congrArg some k_)
 f241:=func272.trans (congrArg some k_)
 f276:=func220.trans (congrArg some k_)
 f277:=func328.trans (congrArg some k_)
 t0:=underlying0
 a0:=isAgg0
 z0:=sizeOf0
 v0:=zeroValue0
 t3:=underlying3
 a3:=isAgg3
 z3:=sizeOf3
 v3:=zeroValue3
 t4:=underlying4
 a4:=isAgg4
 z4:=sizeOf4
 v4:=zeroValue4
 t9:=underlying9
 a9:=isAgg9
 z9:=sizeOf9
 v9:=zeroValue9
 t20:=underlying20
 a20:=isAgg20
 z20:=sizeOf20
 v20:=zeroValue20
 t31:=underlying140
 a31:=isAgg140
 z31:=sizeOf140
 v31:=zeroValue140
 t37:=underlying116
 a37:=isAgg116
 z37:=sizeOf116
 v37:=zeroValue116
 t70:=underlying115
 a70:=isAgg115
 z70:=sizeOf115
 v70:=zeroValue115
 t72:=underlying118
 a72:=isAgg118
 z72:=sizeOf118
 v72:=zeroValue118
 t75:=underlying120
 a75:=isAgg120
 z75:=sizeOf120
 v75:=zeroValue120
 t76:=underlying121
 a76:=isAgg121
 z76:=sizeOf121
 v76:=zeroValue121
 t127:=underlying286
 a127:=isAgg286
 z127:=sizeOf286
 v127:=zeroValue286
 t164:=underlying282
 a164:=isAgg282
 z164:=sizeOf282
 v164:=zeroValue282}
theorem Tryz.EA:Builder.Extra prog EW:={
 sizeBuilder:=k_
 liesBuilder:=k_
 t5:=underlying5
 a5:=isAgg5
 z5:=sizeOf5
 v5:=zeroValue5
 infoByte:=k_
 cellsByte:=k_
 sizeByte:=k_
 neB5:=by decide}
open Go.RowKit in
theorem Tryz.strings_Join_none(a:Option Addr)(c:Nat)(sep:ByteArray)(w:a7):
 bb prog 139 #[.slice a 0 c,.string sep] w fun e w'=>e=.returned (.string ⟨#[]⟩)/\w'=w:=Any.strings_Join_none E9 EA a c sep w
open Go.RowKit in
theorem Tryz.strings_Join(bk o c:Nat)(xs:List ByteArray)(sep:ByteArray)(w:a7)(hcells:∀(j:Nat) x,xs[j]?=some x->w.cell? ⟨bk,o+j,none⟩=some (.string x))(hbk:bk<w.heap.size)(hN:xs.length<=140737488355328)(hcap:xs.length<=c)(hlen:(cb (xs.map (·.data.toList)) sep.data.toList).length<=140737488355328):
 bb prog 139 #[.slice (some ⟨bk,o,none⟩) xs.length c,.string sep] w fun e w'=>e=.returned (.string ⟨(cb (xs.map (·.data.toList)) sep.data.toList).toArray⟩)/\Below w.heap.size w w':=Any.strings_Join E9 EA bk o c xs sep w hcells hbk hN hcap hlen
def Tryz.QC:cy:=⟨fun|106=>203|213=>270|265=>326|n=>n,fun|9=>9|3=>3|n=>n,fun|n=>n⟩
theorem Tryz.azU:ck prog QC:={
 mixed:=k_
 f106:=func203.trans (congrArg some k_)
 f213:=func270.trans (congrArg some k_)
 f265:=func326.trans (congrArg some k_)
 t3:=underlying3
 a3:=isAgg3
 z3:=sizeOf3
 v3:=zeroValue3
 t9:=underlying9
 a9:=isAgg9
 z9:=sizeOf9
 v9:=zeroValue9}
open Go.RowKit in
theorem Tryz.strings_Compare(a b:ByteArray)(w:a7):
 bb prog 203 #[.string a,.string b] w fun e w'=>e=.returned (.int .i64 (b2 a.data.toList b.data.toList))/\w'=w:=Any.strings_Compare azU a b w
open Go.RowKit in
theorem Tryz.strconv_Atoi_syntax(s:ByteArray)(hlim:s.size<=281474976710656)(h:(b0 s.data.toList).ctorIdx=1)(ev:be)(w:a7)(hv:w.cell? ⟨4,0,none⟩=some ev)(hev:ev= .nilIface\/∃te pe,ev= .iface te pe):
 bb prog 263 #[.string s] w fun e w'=>∃N,e=.returned (.tuple #[.int .i64 (0),.iface 390 (.pointer (some ⟨N,0,none⟩))])/\w.heap.size<=N/\w'.heap[N]?=some (.cells #[.string ⟨#[65,116,111,105]⟩,.string s,ev] 411 (0,0))/\Below w.heap.size w w':=by
 cases x:b0 s.data.toList<;>rw[x]at h<;>first|exact Any.strconv_Atoi_syntax CZ s hlim x ev w hv hev|exact absurd h Nat.zero_ne_one|exact absurd h (by decide)
open Go.RowKit in
theorem Tryz.strconv_Atoi_range(s:ByteArray)(hlim:s.size<=281474976710656)(h:b0 s.data.toList= .range)(ev:be)(w:a7)(hv:w.cell? ⟨5,0,none⟩=some ev)(hev:ev= .nilIface\/∃te pe,ev= .iface te pe):
 bb prog 263 #[.string s] w fun e w'=>∃N,e=.returned (.tuple #[.int .i64 (b3 s.data.toList),.iface 390 (.pointer (some ⟨N,0,none⟩))])/\w.heap.size<=N/\w'.heap[N]?=some (.cells #[.string ⟨#[65,116,111,105]⟩,.string s,ev] 411 (0,0))/\Below w.heap.size w w':=Any.strconv_Atoi_range CZ s hlim h ev w hv hev
def Tryz.QB:cy:=⟨fun|138=>278|195=>333|218=>335|143=>279|219=>303|217=>353|225=>354|224=>355|267=>356|266=>378|314=>379|n=>n,fun|9=>9|3=>3|4=>4|5=>5|0=>0|46=>322|146=>402|51=>355|n=>n,fun|1=>0|n=>n⟩
theorem Tryz.azX:ce prog QB:={
 mixed:=k_
 f138:=func278.trans (congrArg some k_)
 f143:=func279.trans (congrArg some k_)
 f195:=func333.trans (congrArg some k_)
 f217:=func353.trans (congrArg some k_)
 f218:=func335.trans (congrArg some k_)
 f219:=func303.trans (congrArg some k_)
 f224:=func355.trans (congrArg some k_)
 f225:=func354.trans (congrArg some k_)
 f266:=func378.trans (congrArg some k_)
 f267:=func356.trans (congrArg some k_)
 f314:=func379.trans (congrArg some k_)
 t0:=underlying0
 a0:=isAgg0
 z0:=sizeOf0
 v0:=zeroValue0
 t3:=underlying3
 a3:=isAgg3
 z3:=sizeOf3
 v3:=zeroValue3
 t4:=underlying4
 a4:=isAgg4
 z4:=sizeOf4
 v4:=zeroValue4
 t5:=underlying5
 a5:=isAgg5
 z5:=sizeOf5
 v5:=zeroValue5
 t9:=underlying9
 a9:=isAgg9
 z9:=sizeOf9
 v9:=zeroValue9
 t46:=underlying322
 a46:=isAgg322
 z46:=sizeOf322
 v46:=zeroValue322
 t51:=underlying355
 a51:=isAgg355
 z51:=sizeOf355
 v51:=zeroValue355
 t146:=underlying402
 a146:=isAgg402
 z146:=sizeOf402
 v146:=zeroValue402
 g1:=k_}
open Go.RowKit Go.Lib in
theorem Tryz.strings_Count_one(s:ByteArray)(c:UInt8)(w:a7):
 bb prog 278 #[.string s,.string ⟨#[c]⟩] w fun e w'=>e=.returned (.int .i64 (b1 s.data.toList c))/\w'=w:=Any.strings_Count_one azX s c w
def Tryz.Ra:cy:=⟨fun|100=>58|207=>143|n=>n,fun|9=>9|4=>4|3=>3|n=>n,fun|n=>n⟩
theorem Tryz.azM:cx prog Ra:={
 mixed:=k_
 f100:=func58.trans (congrArg some k_)
 f207:=func143.trans (congrArg some k_)
 t3:=underlying3
 a3:=isAgg3
 z3:=sizeOf3
 v3:=zeroValue3
 t4:=underlying4
 a4:=isAgg4
 z4:=sizeOf4
 v4:=zeroValue4
 t9:=underlying9
 a9:=isAgg9
 z9:=sizeOf9
 v9:=zeroValue9}
open Go.RowKit Go.Lib in
theorem Tryz.strings_HasSuffix(s p:ByteArray)(w:a7)(hs:s.size<=9223372036854775807):
 bb prog 58 #[.string s,.string p] w fun e w'=>e=.returned (.bool (b5 s.data.toList p.data.toList))/\w'=w:=Any.strings_HasSuffix azM s p w hs
def Tryz.Q9:cy:=⟨fun|102=>145|209=>224|207=>143|n=>n,fun|9=>9|4=>4|3=>3|n=>n,fun|n=>n⟩
theorem Tryz.azP:cv prog Q9:={
 mixed:=k_
 f102:=func145.trans (congrArg some k_)
 f207:=func143.trans (congrArg some k_)
 f209:=func224.trans (congrArg some k_)
 t3:=underlying3
 a3:=isAgg3
 z3:=sizeOf3
 v3:=zeroValue3
 t4:=underlying4
 a4:=isAgg4
 z4:=sizeOf4
 v4:=zeroValue4
 t9:=underlying9
 a9:=isAgg9
 z9:=sizeOf9
 v9:=zeroValue9}
open Go.RowKit Go.Lib in
theorem Tryz.strings_TrimSuffix(s p:ByteArray)(w:a7)(hs:s.size<=9223372036854775807):
 bb prog 145 #[.string s,.string p] w fun e w'=>e=.returned (.string ⟨(b4 s.data.toList p.data.toList).toArray⟩)/\w'=w:=Any.strings_TrimSuffix azP s p w hs
end Go.Proofs
namespace Go.Proofs
def Tryz.E8:cy:=⟨fun|4=>265|n=>n,fun|22=>22|25=>64|3=>3|4=>4|9=>9|20=>20|0=>0|2=>3|n=>n,fun|n=>n⟩
theorem Tryz.YK:Go.Proofs.Lays8.n4 prog E8:={
 mixed:=k_
 f4:=⟨f265.name,by decide,func265.trans (congrArg some k_)⟩
 t0:=underlying0
 a0:=isAgg0
 z0:=sizeOf0
 v0:=zeroValue0
 t3:=underlying3
 a3:=isAgg3
 z3:=sizeOf3
 v3:=zeroValue3
 t4:=underlying4
 a4:=isAgg4
 z4:=sizeOf4
 v4:=zeroValue4
 t9:=underlying9
 a9:=isAgg9
 z9:=sizeOf9
 v9:=zeroValue9
 t20:=underlying20
 a20:=isAgg20
 z20:=sizeOf20
 v20:=zeroValue20
 t22:=underlying22
 a22:=isAgg22
 z22:=sizeOf22
 v22:=zeroValue22}
end Go.Proofs
namespace Go.aw
open Go.aw renaming c1->c1_, c2->c2_, c3->c3_, e1->e1_, e2->e2_, e3->e3_
open Go.Proofs
def fk(a:List Nat):List (List Nat)->List Nat
 |[]=>[]
 |[s]=>s
 |s::r=>s++a++fk a r
theorem E7(b:List UInt8):∀(c:List (List UInt8)),fk (cC b) (c.map cC)=cC (cb c b)
 |[]=>by simp[fk,Lib.join_nil,cC]
 |[x]=>by simp[fk,Lib.join_one]
 |x::y::r=>by
  have a:=E7 b (y::r);rw[Lib.join_cons]at a⊢;simp only[dq]at a⊢;rw[fk,a]
  ·simp[cC,Lib.joinTail]
  ·simp
theorem Fc{w:a7}{aa:Nat->Prop}:∀{l:List (List Nat)}{e:List Nat}{a:List (List be)},bc prog w aa e (l.map .str) a->
 ∃d:List ByteArray,a.flatten=d.map .string/\l=d.map (fun b=>cC b.data.toList)
 |[],e,a,h=>by
  have:=ub h;subst this;exact⟨[],s_,s_⟩
 |s::l,[],a,h=>by simp[bc]at h
 |s::l,n::e,a,h=>by
  simp only[dq,bc,aV]at h;obtain⟨c,cs,rfl,⟨bs,rfl,f⟩,_,g⟩:=h;obtain⟨d,g1,g2⟩:=Fc g;exact⟨bs::d,by simp[g1],by simp[g2,f,cC]⟩
theorem GC(full:Bool)(l:List (List Nat))(d:List Nat)(hl:l.length<=140737488355328)(k:(fk d l).length<=140737488355328):az prog 139 [.bE full (l.map .str),.str d] (.str (fk d l)):=by
 refine iJ (gN func139 k_) fun w aa B t E s=>?_;obtain⟨x,y,rfl,f,g⟩:=kV s;simp only[aA]at f g;obtain⟨sp,rfl,rfl⟩:=g;obtain⟨ak,off,cap,ai,C,p,q,h,D,i,o,A,rfl⟩:=f;obtain⟨xs,g1,g2⟩:=Fc p;have b:(l.map PV.str).length=xs.length:=by rw[g2];simp
 cases c:xs with
 |nil=>
  subst c;have v:l=[]:=by simpa using g2
  subst v;refine(strings_Join_none (some ⟨ak,off,o⟩) cap sp w).mono ?_;rintro e w' ⟨rfl,rfl⟩;exact⟨_,rfl,⟨ht _,fun _ _=>rfl,rfl,rfl⟩,fun w aa=>by simpa[fk,cC]using qu (P:=prog) (w:=w) (aa:=aa) []⟩
 |cons F r=>
  have z:l.map PV.str≠[]:=by rw[g2,c];simp
  obtain rfl:o=none:=A.resolve_right (by rw[b,c]at i;simp at i;omega);have m:=E7 sp.data.toList (xs.map (·.data.toList))
  have e2:(xs.map (·.data.toList)).map cC=l:=by rw[g2];simp
  rw[e2]at m;have n:fk (sp.data.toList.map (·.toNat)) l=cC (cb (xs.map (·.data.toList)) sp.data.toList):=m
  rw[b];refine(strings_Join ak off cap xs sp w (fun j x hx=>?_) (t _ (q z)) (by simp at b;omega) o_ ?_).mono ?_
  ·have u:j<xs.length:=(dz.1 hx).1;rw[g1]at h;have:=h j (by simpa using u);rw[this];simp[(dz.1 hx).2]
  ·rw[n]at k;simpa[cC]using k
  ·rintro e w' ⟨rfl,a⟩;exact⟨_,rfl,⟨a.size,a.block,a.os,a.output⟩,fun w aa=>by rw[n];exact qu _⟩
def ic(c:Nat):List Nat->Nat->Nat
 |[],n=>n
 |x::r,n=>bif ho x c then ic c r (n+1)else ic c r n
theorem Ff(c:UInt8):∀(l:List UInt8)(n:Nat),ic c.toNat (cC l) n=n+b1 l c
 |[],n=>by simp[ic,cC,b1]
 |x::r,n=>by
  have a:=Ff c r;simp only[cC]at a;simp only[cC,dq,ic,b1,List.count_cons]
  by_cases hx:x=c
  ·subst hx;simp[a,b1];omega
  ·have d:ho x.toNat c.toNat=false:=by
    cases b:ho x.toNat c.toNat
    ·rfl
    ·exact(hx (UInt8.toNat_inj.1 (hd b))).elim
   simp[d,a,b1,hx]
theorem GD(s:List Nat)(c:Nat):az prog 278 [.str s,.str [c]] (.int .i64 (ic c s 0:Nat)):=by
 refine iJ (gN func278 k_) fun w aa g _ _ f=>?_;obtain⟨x,y,rfl,a,d⟩:=kV f;obtain⟨b,rfl,rfl⟩:=one_byte d;obtain⟨bs,rfl,rfl⟩:=jl a;refine(strings_Count_one bs b w).mono ?_;rintro e w' ⟨rfl,rfl⟩;refine⟨_,rfl,⟨ht _,fun _ _=>rfl,rfl,rfl⟩,fun w aa=>?_⟩;have e1:=Ff b bs.data.toList 0;simp only[aA]at e1⊢;rw[e1];simp
def vx:List Nat->List Nat->Int
 |[],[]=>0
 |[],_::_=>-1
 |_::_,[]=>1
 |a::r,b::t=>bif hB a b then -1 else bif hB b a then 1 else vx r t
theorem Fg:∀a b:List UInt8,vx (cC a) (cC b)=b2 a b
 |[],[]=>rfl
 |[],_::_=>rfl
 |_::_,[]=>rfl
 |a::r,b::t=>by
  have e:=Fg r t;simp only[cC,dq,vx,b2]at e⊢;have e1:hB a.toNat b.toNat=decide (a<b):=by
   rw[aT,hF,decide_eq_true_eq,hM]
  have e2:hB b.toNat a.toNat=decide (b<a):=by
   rw[aT,hF,decide_eq_true_eq,hM]
  rw[e1,e2,e]
  by_cases c:a<b
  ·simp[c]
  ·by_cases d:b<a
   ·simp[c,d]
   ·simp[c,d]
theorem W6(a b:List Nat):az prog 203 [.str a,.str b] (.int .i64 (vx a b)):=by
 refine iJ (gN func203 k_) fun w aa g _ _ f=>?_;obtain⟨x,y,rfl,c,d⟩:=kV f;obtain⟨bs,rfl,rfl⟩:=jl c;obtain⟨cs,rfl,rfl⟩:=jl d;refine(strings_Compare bs cs w).mono ?_;rintro e w' ⟨rfl,rfl⟩;exact⟨_,rfl,⟨ht _,fun _ _=>rfl,rfl,rfl⟩,fun w aa=>by rw[Fg];simp only[aA]⟩
def rI:PV:=.st 63 [.int .i64 0,.int .i64 0]
theorem Yx{H:Heap}(n:Nat)(M:1<=n)(N:n<=1000000):cm prog 265 H [.p .aK,.p (.int .i64 n)] (H++[.arr .grow 0 2 (dl n (.p rI))]) (.sl H.length 0 2 0 0):=by
 refine⟨gN func265 k_,fun w aa ag β J j f O=>?_⟩;simp only[bh,ar,aA]at f;obtain⟨_,_,rfl,rfl,_,_,rfl,rfl,rfl⟩:=f;obtain⟨i,c,hi,F,o,_⟩:=ov (P:=prog) (T:=64) (z:=rI) k_;have hs:i.size=2:=by
  have:(prog.info? 64).map (·.size)=some 2:=k_
  rw[hi]at this;simpa using this
 have u:i.bytes=16:=by
  have:(prog.info? 64).map (·.bytes)=some 16:=k_
  rw[hi]at this;simpa using this
 have q:c.cells.size=2:=by
  have:=(nj (o w aa)).1;have e:bB prog (aL rI)=2:=k_
  rw[e]at this;simpa using this
 have g:=Any8.slices_Grow_grow YK i c hi F o_ none 0 0 n [] w (ht _) o_ (by rw[u];omega) o_ s_ (fun _=>rfl) (fun a h=>by cases h);rw[show E8.t 25=64 from rfl,hE]at g;refine g.mono ?_;rintro e w' ⟨rfl,rfl⟩;have C:=j.mG 1;have D:bX prog w.drew aa β (H++dl 1 .hole) ag:=bX.uD (w:=w) (w':=w.drew) rfl C;have s:(H++dl 1 Obj.hole)[H.length]?=some .hole:=s_
 have y:n<=grownCap w n 0 64:=by simp[grownCap,Question.cut]
 have l:=uf (β:=β) (H:=H++dl 1 .hole) (o w.drew aa) n;rw[show c.cells.toList.length=2 by simpa using q]at l;have G:∀m,(bl c.cells m).toList=(dl m c.cells.toList).flatten:=fun m=>xi c.cells m o_;obtain⟨q1,r⟩:=xt (T:=64) (k:=.grow) (ai:=2) (cap:=grownCap w n 0 64) D s
  (cells:=([]:List be).toArray++bl c.cells (n-0)++bl c.cells (grownCap w n 0 64-n))
  (rest:=(bl c.cells (grownCap w n 0 64-n)).toList)
  s_ (fun h=>by have:=h.2;rw[<-da]at this;simp at this;omega) l
  (by rw[cH];intro v E;rw[List.eq_of_mem_replicate E];simp[aB])
  (by simp[G]) (by simp only[Array.size_append,Hn,q];simp;omega) (by simpa using y) (fun h=>by cases h) (fun h=>by cases h)
 rw[Ck]at q1 r;have aJ:=ou β H 1;have I:bV prog ag aa w β H aa w β (H++dl 1 .hole):=⟨fun _ x=>x,fun _ x=>.inl x,Ext.refl _ _ _,aJ,j.mG _,ml _ _,fun b⟨L,d⟩=>⟨L,by rw[jW,if_pos (dz.1 d).1];exact d⟩⟩
 refine⟨_,_,aa,rfl,I.trans (bV.drew (w1:=w.drew) rfl ⟨rfl,rfl⟩ q1),?_,?_⟩
 ·simp only[ar,bH,bP]at r⊢;refine⟨rfl,fun k K hl=>?_⟩;have A:(H++[Obj.arr .grow 0 2 (dl n (.p rI))])[H.length]?=some (.arr .grow 0 2 (dl n (.p rI))):=by simp
  unfold dT at hl;rw[A]at hl;cases hl;exact⟨o_,fun B=>by have:=B.2;rw[<-da]at this;simp at this;omega,fun _=>by simp[Bd.at]⟩
 ·simp only[aB];exact⟨.arr .grow 0 2 (dl n (.p rI)),s_,ht _⟩
namespace fZ
def tU:List PV->Option (List (List Nat))
 |[]=>some []
 | .str s::r=>match tU r with
  |some l=>some (s::l)
  |none=>none
 |_=>none
theorem E0:∀{l:List PV}{a:List (List Nat)},tU l=some a->l=a.map .str
 |[],a,h=>by simp[tU]at h;subst h;rfl
 |v::r,a,h=>by
  cases v<;>simp only[tU]at h<;>try (cases h;done)
  split at h
  ·rename_i l hl;simp only[hH]at h;subst h;rw[E0 hl];rfl
  ·cases h
def Dj(f:a6)(vs:List PV):Option PV:=
 bif ho f 139 then match vs with
  |[.bE _ l,.str sep]=>match tU l with
   |some d=>bif hC d.length 1000&&hC (fk sep d).length 100000 then some (.str (fk sep d))else none
   |none=>none
  |_=>none
 else bif ho f 278 then match vs with
  |[.str s,.str [c]]=>some (.int .i64 (ic c s 0:Nat))
  |_=>none
 else bif ho f 303 then match vs with
  |[.str s,.str [c]]=>some (.int .i64 (lV c s 0))
  |_=>none
 else bif ho f 203 then match vs with
  |[.str a,.str b]=>some (.int .i64 (vx a b))
  |_=>none
 else bif ho f 54 then match vs with
  |[.int .i64 n]=>bif Hk.nX n then some (.str (bL n))else none
  |_=>none
 else none
theorem YN{f:a6}{vs:List PV}{v:PV}(h:Dj f vs=some v):az prog f vs v:=by
 unfold Dj at h;simp only[ap]at h
 split at h
 ·rename_i hf;rw[hd hf]
  split at h
  ·split at h
   ·rename_i a hs;simp only[hG,hH,ao]at h;obtain⟨⟨g1,g2⟩,rfl⟩:=h;rw[E0 hs];exact GC _ _ _ (hj (hp g1) (by decide)) (hj (hp g2) (by decide))
   ·cases h
  ·cases h
 split at h
 ·rename_i hf;rw[hd hf]
  split at h
  ·simp only[hH]at h;subst h;exact GD _ _
  ·cases h
 split at h
 ·rename_i hf;rw[hd hf]
  split at h
  ·simp only[hH]at h;subst h;exact Ae _ _
  ·cases h
 split at h
 ·rename_i hf;rw[hd hf]
  split at h
  ·simp only[hH]at h;subst h;exact W6 _ _
  ·cases h
 split at h
 ·rename_i hf;rw[hd hf]
  split at h
  ·simp only[hG,hH]at h;obtain⟨g1,rfl⟩:=h;have:=Hk.ym.1 g1;exact pF _ o_ o_
  ·cases h
 ·cases h
def vD(f:a6)(args:List AV)(H:Heap):Option (AV×Heap):=
 bif ho f 138 then match args with
  |[.ptr b []]=>match H[b]? with
   |some (.box false (.p (.st u [.dE,x])))=>bif ho u 117 then some (.p (.aE []),H.set b (.box false (.st 117 [.ptr b [],.p x])))else none
   |some (.box false (.st u [.p .dE,x]))=>bif ho u 117 then some (.p (.aE []),H.set b (.box false (.st 117 [.ptr b [],x])))else none
   |some (.box false (.st u [.ptr b' [],_]))=>bif ho u 117&&ho b' b then some (.p (.aE []),H)else none
   |_=>none
  |_=>none
 else bif ho f 265 then match args with
  |[.p .aK,.p (.int .i64 (.ofNat n))]=>bif hC 1 n&&hC n 1000000 then some (.sl H.length 0 2 0 0,H++[.arr .grow 0 2 (dl n (.p rI))])else none
  |_=>none
 else none
theorem YM{f:a6}{args:List AV}{H H':Heap}{v:AV}(h:vD f args H=some (v,H')):cm prog f H args H' v:=by
 unfold vD at h;simp only[ap]at h
 split at h
 ·rename_i hf;rw[hd hf]
  split at h
  case h_2=>cases h
  split at h
  ·rename_i a;simp only[hG,hH,hK]at h;obtain⟨b,rfl,rfl⟩:=h;rw[hd b]at a;exact Df a (.inl rfl)
  ·rename_i a;simp only[hG,hH,hK]at h;obtain⟨b,rfl,rfl⟩:=h;rw[hd b]at a;exact Df a (.inr rfl)
  ·rename_i a;simp only[hG,hH,hK,ao]at h;obtain⟨⟨b,c⟩,rfl,rfl⟩:=h;rw[hd b,hd c]at a;exact Oa a
  ·cases h
 split at h
 ·rename_i hf;rw[hd hf]
  split at h
  ·simp only[hG,hH,hK,ao]at h;obtain⟨⟨b,c⟩,rfl,rfl⟩:=h;exact Yx _ (hp b) (hp c)
  ·cases h
 ·cases h
def jR(_ f:a6):Nat:=
 bif ho f 53 then 2
 else bif ho f 147 then 3
 else bif ho f 148 then 3
 else bif ho f 149 then 3
 else bif ho f 150 then 3
 else bif ho f 265 then 1 else 0
def facts(l:List (a6×List PV×PV))(f:a6)(vs:List PV):Option PV:=match Dj f vs with
 |some v=>some v
 |none=>Hk.sT l f vs
noncomputable def tV(fs:a6->List PV->Option PV):mb:=⟨tf DR,fs,vD,jR,fun _ _ _=>none⟩
theorem QG{l:List (a6×List PV×PV)}(hl:Hk.il l):mv prog (tV (facts l)):=by
 refine⟨mix,fun f fn hf=>Cu FR hf,fun f vs v hk=>?_,fun f args H v H' hk=>YM hk,fun f args H aj v hk=>by simp only[tV]at hk;cases hk⟩;simp only[tV,facts]at hk
 split at hk
 ·rename_i h;simp only[hH]at hk;subst hk;exact YN h
 ·exact Hk.xO hl f vs v hk
noncomputable def runT(l:List (a6×List PV×PV))(f:a6)(vs:List PV):Option PV:=nW prog nf (tV (facts l)) (jN prog nf (tV (facts l)) 20) f vs
theorem gf(l:List (a6×List PV×PV))(hl:Hk.il l){f:a6}{vs:List PV}{v:PV}(h:Hk.Ds v (runT l f vs)=true):az prog f vs v:=reckon 20 (QG hl) (Hk.Ft h)
end fZ
namespace zN
def T:PV:=.st 35 [.bE true [.st 63 [.int .i64 0,.int .i64 0],.st 63 [.int .i64 2000,.int .i64 0],.st 63 [.int .i64 2000,.int .i64 1000],.st 63 [.int .i64 0,.int .i64 1000]],.int .i64 30,.bE true [.st 87 [.str [97],.int .i64 0,.str [48],.str [49,47,50,48]],.st 87 [.str [98],.int .i64 2,.str [49,57,47,50,48],.str [49]]],.bE true [.st 84 [.str [102,111,111,116],.st 81 [.str [49,53,48,48],.str [53,48,48]]],.st 84 [.str [104,101,97,100],.st 81 [.str [53,48,48],.str [53,48,48]]]]]
def B:PV:=.bE true [.st 84 [.str [99,117,101],.st 81 [.str [53,48,48],.str [53,48,48]]],.st 84 [.str [111,110,101],.st 81 [.str [49,53,48,48],.str [53,48,48]]],.st 84 [.str [116,119,111],.st 81 [.str [49,53,54,48],.str [53,48,48]]]]
def B1:PV:=.bE false [.st 84 [.str [99,117,101],.st 81 [.str [53,48,48],.str [53,48,48]]]]
def M:PV:=.st 35 [.bE false [.st 63 [.int .i64 0,.int .i64 0],.st 63 [.int .i64 0,.int .i64 1000],.st 63 [.int .i64 (-2000),.int .i64 1000],.st 63 [.int .i64 (-2000),.int .i64 0]],.int .i64 30,.bE false [.st 87 [.str [97],.int .i64 3,.str [49,57,47,50,48],.str [49]],.st 87 [.str [98],.int .i64 1,.str [48],.str [49,47,50,48]]],.bE false [.st 84 [.str [102,111,111,116],.st 81 [.str [45,49,53,48,48],.str [53,48,48]]],.st 84 [.str [104,101,97,100],.st 81 [.str [45,53,48,48],.str [53,48,48]]]]]
def k0:List (a6×List PV×PV):=[(263,[.str [51,48]],.aE [.int .i64 30,.fP])]
theorem tT:Hk.il k0:=⟨Af [51,48] 30 (by decide+kernel) (by decide),trivial⟩
theorem c0:az prog 51 [T] (.int .i64 0):=fZ.gf k0 tT k_
theorem c1:az prog 71 [T,B] (.int .i64 0):=fZ.gf k0 tT k_
theorem c2:az prog 71 [T,B1] (.int .i64 0):=fZ.gf k0 tT k_
theorem c3:az prog 51 [M] (.int .i64 0):=fZ.gf k0 tT k_
def k1:List (a6×List PV×PV):=[(51,[T],.int .i64 0),(71,[T,B],.int .i64 0),(71,[T,B1],.int .i64 0),(51,[M],.int .i64 0)]++k0
theorem iH:Hk.il k1:=Hk.AN (l:=[(51,[T],.int .i64 0),(71,[T,B],.int .i64 0),(71,[T,B1],.int .i64 0),(51,[M],.int .i64 0)]) ⟨c0,c1,c2,c3,trivial⟩ tT
theorem d0:az prog 31 [T] (.aE [.str [50,48,48,48,48,48,48],.int .i64 0]):=fZ.gf k1 iH k_
theorem d1:az prog 36 [T,.int .i64 0,.str [49,47,52]] (.aE [.st 81 [.str [53,48,48],.str [48]],.int .i64 0]):=fZ.gf k1 iH k_
theorem d2:az prog 42 [T,.st 81 [.str [50,48,48,48],.str [48]]] (.aE [.int .i64 0,.str [49],.int .i64 0]):=fZ.gf k1 iH k_
theorem d3:az prog 44 [T,.int .i64 0,.str [49,47,50,48]] (.aE [.str [97],.int .i64 0]):=fZ.gf k1 iH k_
theorem d4:az prog 44 [T,.int .i64 0,.str [49,47,49,48]] (.aE [.str [],.int .i64 7]):=fZ.gf k1 iH k_
theorem d5:az prog 45 [T,B,.st 81 [.str [49,52,52,48],.str [53,48,48]]] (.aE [.bool true,.int .i64 0]):=fZ.gf k1 iH k_
theorem d6:az prog 45 [T,B,.st 81 [.str [49,52,53,48],.str [53,48,48]]] (.aE [.bool false,.int .i64 0]):=fZ.gf k1 iH k_
theorem d7:az prog 46 [T,B,.str [102,111,111,116],.st 81 [.str [49,48],.str [48]]] (.aE [.st 81 [.str [49,54,50,48],.str [53,48,48]],.int .i64 0]):=fZ.gf k1 iH k_
theorem d8:az prog 47 [T,B] (.aE [.st 106 [.int .i64 1,.int .i64 2],.str [51,54,48,48],.int .i64 0]):=fZ.gf k1 iH k_
theorem d9:az prog 32 [T,B] (.aE [.bE false [.st 106 [.int .i64 1,.int .i64 2]],.int .i64 0]):=fZ.gf k1 iH k_
theorem d10:az prog 48 [T,.str [102,111,111,116],.str [116,114,105,97,110,103,108,101],.st 106 [.int .i64 2,.int .i64 0]] (.aE [.bE false [.st 81 [.str [49,53,48,48],.str [53,48,48]],.st 81 [.str [51,49,48,53,47,50],.str [52,55,48]],.st 81 [.str [51,49,48,53,47,50],.str [53,51,48]]],.int .i64 0]):=fZ.gf k1 iH k_
theorem d11:az prog 29 [T,.st 65 [.bool true,.int .i64 0,.st 63 [.int .i64 0,.int .i64 0]]] (.aE [.st 35 [.bE false [.st 63 [.int .i64 0,.int .i64 0],.st 63 [.int .i64 0,.int .i64 1000],.st 63 [.int .i64 (-2000),.int .i64 1000],.st 63 [.int .i64 (-2000),.int .i64 0]],.int .i64 30,.bE false [.st 87 [.str [97],.int .i64 3,.str [49,57,47,50,48],.str [49]],.st 87 [.str [98],.int .i64 1,.str [48],.str [49,47,50,48]]],.bE false [.st 84 [.str [102,111,111,116],.st 81 [.str [45,49,53,48,48],.str [53,48,48]]],.st 84 [.str [104,101,97,100],.st 81 [.str [45,53,48,48],.str [53,48,48]]]]],.int .i64 0]):=fZ.gf k1 iH k_
theorem d12:az prog 49 [M] (.aE [.st 35 [.bE false [.st 63 [.int .i64 (-2000),.int .i64 0],.st 63 [.int .i64 0,.int .i64 0],.st 63 [.int .i64 0,.int .i64 1000],.st 63 [.int .i64 (-2000),.int .i64 1000]],.int .i64 30,.bE false [.st 87 [.str [97],.int .i64 0,.str [49,57,47,50,48],.str [49]],.st 87 [.str [98],.int .i64 2,.str [48],.str [49,47,50,48]]],.bE false [.st 84 [.str [102,111,111,116],.st 81 [.str [45,49,53,48,48],.str [53,48,48]]],.st 84 [.str [104,101,97,100],.st 81 [.str [45,53,48,48],.str [53,48,48]]]]],.int .i64 0]):=fZ.gf k1 iH k_
theorem d13:az prog 30 [T,B,.st 65 [.bool false,.int .i64 1,.st 63 [.int .i64 0,.int .i64 0]]] (.aE [.bE false [.st 84 [.str [99,117,101],.st 81 [.str [45,53,48,48],.str [53,48,48]]],.st 84 [.str [111,110,101],.st 81 [.str [45,53,48,48],.str [49,53,48,48]]],.st 84 [.str [116,119,111],.st 81 [.str [45,53,48,48],.str [49,53,54,48]]]],.int .i64 0]):=fZ.gf k1 iH k_
theorem d14:az prog 10 [T] (.aE [.str [114,97,100,105,117,115,32,51,48,10,99,111,114,110,101,114,32,48,32,48,10,99,111,114,110,101,114,32,50,48,48,48,32,48,10,99,111,114,110,101,114,32,50,48,48,48,32,49,48,48,48,10,99,111,114,110,101,114,32,48,32,49,48,48,48,10,112,111,99,107,101,116,32,97,32,48,32,48,32,49,47,50,48,10,112,111,99,107,101,116,32,98,32,50,32,49,57,47,50,48,32,49,10,115,112,111,116,32,102,111,111,116,32,49,53,48,48,32,53,48,48,10,115,112,111,116,32,104,101,97,100,32,53,48,48,32,53,48,48,10],.int .i64 0]):=fZ.gf k1 iH k_
theorem d15:az prog 12 [.str [114,97,100,105,117,115,32,51,48,10,115,112,111,116,32,97,32,48,10]] (.aE [.st 35 [.aK,.int .i64 0,.aK,.aK],.int .i64 2,.int .i64 25]):=fZ.gf k1 iH k_
theorem d16:az prog 19 [T,B1] (.aE [.str [98,97,108,108,32,99,117,101,32,53,48,48,32,53,48,48,10],.int .i64 0]):=fZ.gf k1 iH k_
def k2:List (a6×List PV×PV):=[(31,[T],.aE [.str [50,48,48,48,48,48,48],.int .i64 0]),(36,[T,.int .i64 0,.str [49,47,52]],.aE [.st 81 [.str [53,48,48],.str [48]],.int .i64 0]),(42,[T,.st 81 [.str [50,48,48,48],.str [48]]],.aE [.int .i64 0,.str [49],.int .i64 0]),(44,[T,.int .i64 0,.str [49,47,50,48]],.aE [.str [97],.int .i64 0]),(44,[T,.int .i64 0,.str [49,47,49,48]],.aE [.str [],.int .i64 7]),(45,[T,B,.st 81 [.str [49,52,52,48],.str [53,48,48]]],.aE [.bool true,.int .i64 0]),(45,[T,B,.st 81 [.str [49,52,53,48],.str [53,48,48]]],.aE [.bool false,.int .i64 0]),(46,[T,B,.str [102,111,111,116],.st 81 [.str [49,48],.str [48]]],.aE [.st 81 [.str [49,54,50,48],.str [53,48,48]],.int .i64 0]),(47,[T,B],.aE [.st 106 [.int .i64 1,.int .i64 2],.str [51,54,48,48],.int .i64 0]),(32,[T,B],.aE [.bE false [.st 106 [.int .i64 1,.int .i64 2]],.int .i64 0]),(48,[T,.str [102,111,111,116],.str [116,114,105,97,110,103,108,101],.st 106 [.int .i64 2,.int .i64 0]],.aE [.bE false [.st 81 [.str [49,53,48,48],.str [53,48,48]],.st 81 [.str [51,49,48,53,47,50],.str [52,55,48]],.st 81 [.str [51,49,48,53,47,50],.str [53,51,48]]],.int .i64 0]),(29,[T,.st 65 [.bool true,.int .i64 0,.st 63 [.int .i64 0,.int .i64 0]]],.aE [.st 35 [.bE false [.st 63 [.int .i64 0,.int .i64 0],.st 63 [.int .i64 0,.int .i64 1000],.st 63 [.int .i64 (-2000),.int .i64 1000],.st 63 [.int .i64 (-2000),.int .i64 0]],.int .i64 30,.bE false [.st 87 [.str [97],.int .i64 3,.str [49,57,47,50,48],.str [49]],.st 87 [.str [98],.int .i64 1,.str [48],.str [49,47,50,48]]],.bE false [.st 84 [.str [102,111,111,116],.st 81 [.str [45,49,53,48,48],.str [53,48,48]]],.st 84 [.str [104,101,97,100],.st 81 [.str [45,53,48,48],.str [53,48,48]]]]],.int .i64 0]),(49,[M],.aE [.st 35 [.bE false [.st 63 [.int .i64 (-2000),.int .i64 0],.st 63 [.int .i64 0,.int .i64 0],.st 63 [.int .i64 0,.int .i64 1000],.st 63 [.int .i64 (-2000),.int .i64 1000]],.int .i64 30,.bE false [.st 87 [.str [97],.int .i64 0,.str [49,57,47,50,48],.str [49]],.st 87 [.str [98],.int .i64 2,.str [48],.str [49,47,50,48]]],.bE false [.st 84 [.str [102,111,111,116],.st 81 [.str [45,49,53,48,48],.str [53,48,48]]],.st 84 [.str [104,101,97,100],.st 81 [.str [45,53,48,48],.str [53,48,48]]]]],.int .i64 0]),(30,[T,B,.st 65 [.bool false,.int .i64 1,.st 63 [.int .i64 0,.int .i64 0]]],.aE [.bE false [.st 84 [.str [99,117,101],.st 81 [.str [45,53,48,48],.str [53,48,48]]],.st 84 [.str [111,110,101],.st 81 [.str [45,53,48,48],.str [49,53,48,48]]],.st 84 [.str [116,119,111],.st 81 [.str [45,53,48,48],.str [49,53,54,48]]]],.int .i64 0]),(10,[T],.aE [.str [114,97,100,105,117,115,32,51,48,10,99,111,114,110,101,114,32,48,32,48,10,99,111,114,110,101,114,32,50,48,48,48,32,48,10,99,111,114,110,101,114,32,50,48,48,48,32,49,48,48,48,10,99,111,114,110,101,114,32,48,32,49,48,48,48,10,112,111,99,107,101,116,32,97,32,48,32,48,32,49,47,50,48,10,112,111,99,107,101,116,32,98,32,50,32,49,57,47,50,48,32,49,10,115,112,111,116,32,102,111,111,116,32,49,53,48,48,32,53,48,48,10,115,112,111,116,32,104,101,97,100,32,53,48,48,32,53,48,48,10],.int .i64 0]),(12,[.str [114,97,100,105,117,115,32,51,48,10,115,112,111,116,32,97,32,48,10]],.aE [.st 35 [.aK,.int .i64 0,.aK,.aK],.int .i64 2,.int .i64 25]),(19,[T,B1],.aE [.str [98,97,108,108,32,99,117,101,32,53,48,48,32,53,48,48,10],.int .i64 0])]++k1
theorem azG:Hk.il k2:=Hk.AN (l:=[(31,[T],.aE [.str [50,48,48,48,48,48,48],.int .i64 0]),(36,[T,.int .i64 0,.str [49,47,52]],.aE [.st 81 [.str [53,48,48],.str [48]],.int .i64 0]),(42,[T,.st 81 [.str [50,48,48,48],.str [48]]],.aE [.int .i64 0,.str [49],.int .i64 0]),(44,[T,.int .i64 0,.str [49,47,50,48]],.aE [.str [97],.int .i64 0]),(44,[T,.int .i64 0,.str [49,47,49,48]],.aE [.str [],.int .i64 7]),(45,[T,B,.st 81 [.str [49,52,52,48],.str [53,48,48]]],.aE [.bool true,.int .i64 0]),(45,[T,B,.st 81 [.str [49,52,53,48],.str [53,48,48]]],.aE [.bool false,.int .i64 0]),(46,[T,B,.str [102,111,111,116],.st 81 [.str [49,48],.str [48]]],.aE [.st 81 [.str [49,54,50,48],.str [53,48,48]],.int .i64 0]),(47,[T,B],.aE [.st 106 [.int .i64 1,.int .i64 2],.str [51,54,48,48],.int .i64 0]),(32,[T,B],.aE [.bE false [.st 106 [.int .i64 1,.int .i64 2]],.int .i64 0]),(48,[T,.str [102,111,111,116],.str [116,114,105,97,110,103,108,101],.st 106 [.int .i64 2,.int .i64 0]],.aE [.bE false [.st 81 [.str [49,53,48,48],.str [53,48,48]],.st 81 [.str [51,49,48,53,47,50],.str [52,55,48]],.st 81 [.str [51,49,48,53,47,50],.str [53,51,48]]],.int .i64 0]),(29,[T,.st 65 [.bool true,.int .i64 0,.st 63 [.int .i64 0,.int .i64 0]]],.aE [.st 35 [.bE false [.st 63 [.int .i64 0,.int .i64 0],.st 63 [.int .i64 0,.int .i64 1000],.st 63 [.int .i64 (-2000),.int .i64 1000],.st 63 [.int .i64 (-2000),.int .i64 0]],.int .i64 30,.bE false [.st 87 [.str [97],.int .i64 3,.str [49,57,47,50,48],.str [49]],.st 87 [.str [98],.int .i64 1,.str [48],.str [49,47,50,48]]],.bE false [.st 84 [.str [102,111,111,116],.st 81 [.str [45,49,53,48,48],.str [53,48,48]]],.st 84 [.str [104,101,97,100],.st 81 [.str [45,53,48,48],.str [53,48,48]]]]],.int .i64 0]),(49,[M],.aE [.st 35 [.bE false [.st 63 [.int .i64 (-2000),.int .i64 0],.st 63 [.int .i64 0,.int .i64 0],.st 63 [.int .i64 0,.int .i64 1000],.st 63 [.int .i64 (-2000),.int .i64 1000]],.int .i64 30,.bE false [.st 87 [.str [97],.int .i64 0,.str [49,57,47,50,48],.str [49]],.st 87 [.str [98],.int .i64 2,.str [48],.str [49,47,50,48]]],.bE false [.st 84 [.str [102,111,111,116],.st 81 [.str [45,49,53,48,48],.str [53,48,48]]],.st 84 [.str [104,101,97,100],.st 81 [.str [45,53,48,48],.str [53,48,48]]]]],.int .i64 0]),(30,[T,B,.st 65 [.bool false,.int .i64 1,.st 63 [.int .i64 0,.int .i64 0]]],.aE [.bE false [.st 84 [.str [99,117,101],.st 81 [.str [45,53,48,48],.str [53,48,48]]],.st 84 [.str [111,110,101],.st 81 [.str [45,53,48,48],.str [49,53,48,48]]],.st 84 [.str [116,119,111],.st 81 [.str [45,53,48,48],.str [49,53,54,48]]]],.int .i64 0]),(10,[T],.aE [.str [114,97,100,105,117,115,32,51,48,10,99,111,114,110,101,114,32,48,32,48,10,99,111,114,110,101,114,32,50,48,48,48,32,48,10,99,111,114,110,101,114,32,50,48,48,48,32,49,48,48,48,10,99,111,114,110,101,114,32,48,32,49,48,48,48,10,112,111,99,107,101,116,32,97,32,48,32,48,32,49,47,50,48,10,112,111,99,107,101,116,32,98,32,50,32,49,57,47,50,48,32,49,10,115,112,111,116,32,102,111,111,116,32,49,53,48,48,32,53,48,48,10,115,112,111,116,32,104,101,97,100,32,53,48,48,32,53,48,48,10],.int .i64 0]),(12,[.str [114,97,100,105,117,115,32,51,48,10,115,112,111,116,32,97,32,48,10]],.aE [.st 35 [.aK,.int .i64 0,.aK,.aK],.int .i64 2,.int .i64 25]),(19,[T,B1],.aE [.str [98,97,108,108,32,99,117,101,32,53,48,48,32,53,48,48,10],.int .i64 0])]) ⟨d0,d1,d2,d3,d4,d5,d6,d7,d8,d9,d10,d11,d12,d13,d14,d15,d16,trivial⟩ iH
end zN
theorem QH:az prog 9 [] (.bool true):=fZ.gf zN.k2 zN.azG k_
def gC(c:Nat):List Nat->List Nat->List (List Nat)
 |cur,[]=>[cur]
 |cur,x::s=>if x=c then cur::gC c [] s else gC c (cur++[x]) s
def cU(c:Nat)(s:List Nat):List (List Nat):=gC c [] s
theorem FV(c:Nat):∀(s a:List Nat),gC c a s=(a++(bN c s).1)::if(bN c s).2.2=true then gC c [] (bN c s).2.1 else[]
 |[],a=>by simp[gC,bN]
 |x::r,a=>by
  rw[gC,bN]
  by_cases h:x=c
  ·rw[if_pos h,if_pos h];simp
  ·rw[if_neg h,if_neg h,FV c r];simp
theorem tW(c:Nat)(s:List Nat):cU c s=(bN c s).1::if(bN c s).2.2=true then cU c (bN c s).2.1 else[]:=by
 rw[cU,FV];rfl
theorem tY(c:Nat):∀(s:List Nat)(n:Nat),ic c s n=n+ic c s 0
 |[],n=>by simp[ic]
 |x::r,n=>by
  rw[ic,ic,tY c r (n+1),tY c r (0+1),tY c r n];cases ho x c<;>simp<;>omega
theorem Ai(c:Nat):∀(s a:List Nat),(gC c a s).length=ic c s 0+1
 |[],a=>by simp[gC,ic]
 |x::r,a=>by
  rw[gC,ic]
  by_cases h:x=c
  ·subst h;rw[if_pos rfl,e8,Ai _ r,Nat.beq_refl,cond_true,tY _ r (0+1)];omega
  ·have b:ho x c=false:=by
    cases b:ho x c
    ·rfl
    ·exact(h (hd b)).elim
   rw[if_neg h,Ai c r,b,cond_false]
theorem Al(c:Nat)(s:List Nat):(cU c s).length=ic c s 0+1:=Ai c s []
theorem Aq(c:Nat):∀s:List Nat,ic c s 0<=s.length
 |[]=>by simp[ic]
 |x::r=>by
  rw[ic,tY c r (0+1)];have:=Aq c r;cases ho x c<;>simp<;>omega
theorem Xc(s:List Nat)(c:Nat):az prog 279 [.str s,.str [c]] (.int .i64 (lV c s 0)):=by
 refine aP nf (i_ func279) mix (by simp[f279]) ?_;simp[f279];refine c2 (Ae s c) ?_;simp
theorem QS(s:List Nat)(c:Nat)(h:s.length<=1048576):az prog 223 [.str s,.str [c],.int .i64 0,.int .i64 (-1)] (.seq ((cU c s).map .str)):=by
 refine aP nf (i_ func223) mix (by simp[f223]) ?_;simp[f223];refine c2 (GD s c) ?_;have hc:=Aq c s;have q:=Al c s;generalize ic c s 0=n at*;have u:=b8 (i:=n) o_;have y:=b8 (i:=s.length) o_;have z:bo.wrap (n:Int)=n:=aN _ o_ o_;have e1:¬s.length<n:=o_
 have e2:((n:Int)+1).toNat=n+1:=o_
 simp[u,y,z,e1,e2,cF];refine⟨o_,?_⟩;refine lp (α:=Nat×List Nat×List (List Nat)) (fun(i,r,out)=>⟨[(10,.p (.int .i64 i)),(9,.sl 0 0 1 0 (n+1)),(3,.p (.int .i64 n)),(2,.p (.int .i64 0)),(1,.p (.str [c])),(0,.p (.str r))],[.arr .exact 0 1 (out.map (fun x=>.p (.str x))++dl (n+1-i) (.p (.str [])))]⟩)
  (fun(i,r,out)=>i<=n/\out.length=i/\r.length<=s.length/\out++cU c r=cU c s) (fun(i,_,_)=>n-i) (0,s,[]) s_ ?_
 rintro⟨i,r,out⟩ ⟨l,a,m,b⟩;dsimp only at l a m b⊢;have hl:(cU c r).length=n-i+1:=by have:=congrArg List.length b;rw[ea,q]at this;omega
 have hs:=tW c r;have f:=b8 (i:=i) o_
 by_cases hi:i<n
 ·rcases yI c r 0 with⟨_,g2,g3⟩|⟨k,g1,g2,g3⟩
  ·rw[g3]at hs;rw[hs]at hl;simp at hl;omega
  ·rw[hE]at g2;rw[g3]at hs;simp at hs;have A:=b8 (i:=k) o_;have B:bo.wrap (k:Int)=k:=aN _ o_ o_;have e3:((k:Int)+1).toNat=k+1:=by omega
   simp[hi];refine c2 (Xc r c) ?_;have aG:∀v:AV,(out.map (fun x=>AV.p (.str x))++dl (n+1-i) (AV.p (.str []))).set i v=out.map (fun x=>AV.p (.str x))++v::dl (n-i) (AV.p (.str [])):=by
    intro v;rw[gx _ _ (by simp[a])];have e:n+1-i=(n-i)+1:=o_
    rw[e,List.replicate_succ,ej,a,hu];rfl
   have d:∃v,(out.map (fun x=>AV.p (.str x))++dl (n+1-i) (AV.p (.str [])))[i]?=some (AV.p (.str v)):=by
    refine⟨[],?_⟩;rw[gj (by simp[a]),ej,a,hu,List.getElem?_replicate,if_pos o_]
   obtain⟨v0,d⟩:=d;have o:¬(k:Int)<0:=o_
   simp[g2,A,B,e3,f,a,aG,d,o];refine⟨o_,o_,⟨o_,o_⟩,?_⟩;exact rd (i+1,r.drop (k+1),out++[r.take k]) ⟨hi,by simp[a],by simp;omega,by rw[<-b,tW c r,g3];simp⟩ (h1:=by dsimp only;omega)
    (hh:=by simp[show n+1-(i+1)=n-i by omega]) (hr2:=by simp[DL])
 ·have hi:i=n:=by omega
  subst hi;have aG:∀v w:AV,(out.map (fun x=>AV.p (.str x))++[w]).set i v=out.map (fun x=>AV.p (.str x))++[v]:=by
   intro v w;rw[gx _ _ (by simp[a]),ej,a,hu];rfl
  have d:∀w:AV,(out.map (fun x=>AV.p (.str x))++[w])[i]?=some w:=by
   intro w;rw[gj (by simp[a]),ej,a,hu];rfl
  have t:cU c r=[r]:=by
   rcases yI c r 0 with⟨g1,g2,g3⟩|⟨k,g1,g2,g3⟩
   ·rw[tW,g3];rfl
   ·rw[tW,g3]at hl;simp at hl;have:=Al c (r.drop (k+1));rw[hl]at this;simp at this
  rw[t]at b;simp[a,aG,d,f,e2,<-b];refine⟨o_,?_⟩;rw[c6 (by simp[a])];have g:out.map (fun x=>AV.p (.str x))++[AV.p (.str r)]=(out++[r]).map (fun x=>AV.p (.str x)):=s_
  have j:out.map PV.str++[PV.str r]=(out++[r]).map PV.str:=s_
  rw[g,j];simp only[yo];intro x _;simp
theorem Gj(s:List Nat)(c:Nat)(h:s.length<=1048576):az prog 144 [.str s,.str [c]] (.seq ((cU c s).map .str)):=by
 refine aP nf (i_ func144) mix (by simp[f144]) ?_;simp[f144];refine c4 (QS s c h) ?_;simp
theorem QT{c:Nat}{s:List Nat}{i:Nat}(hi:i<s.length)(a:List Nat):gC c a (s.drop i)=if s[i]=c then a::gC c [] (s.drop (i+1))else gC c (a++[s[i]]) (s.drop (i+1)):=by
 rw[dg hi,gC]
theorem Q3{s:List Nat}{j i:Nat}(a:j<=i)(hi:i<s.length):(s.drop j).take (i-j)++[s[i]]=(s.drop j).take (i+1-j):=by
 have e:i+1-j=(i-j)+1:=o_
 have h:i-j<(s.drop j).length:=by simp;omega
 rw[e,dp h];congr 2;rw[List.getElem_drop];congr 1;omega
theorem Gr(s:List Nat)(c:Nat)(h:s.length<=1048576)(hc:c<256):az prog 159 [.str s,.int .u8 c] (.seq ((cU c s).map .str)):=by
 refine aP nf (i_ func159) mix (by simp[f159]) ?_;simp[f159];refine lp (α:=Nat×Nat×List (List Nat)) (fun(i,j,out)=>⟨[(7,.p (.int .i64 i)),(6,.p (.int .i64 j)),(5,.sl 0 out.length 1 0 out.length),(1,.p (.int .u8 c)),(0,.p (.str s))],[.arr .grow out.length 1 (out.map fun x=>.p (.str x))]⟩)
  (fun(i,j,out)=>j<=i/\out.length<=i/\((i<=s.length/\out++gC c ((s.drop j).take (i-j)) (s.drop i)=cU c s)\/(i=s.length+1/\out=cU c s))) (fun(i,_)=>s.length+1-i) (0,0,[]) (by simp[cU]) ?_
 rintro⟨i,j,out⟩ ⟨d,k,b⟩;dsimp only at d k b⊢;have f:=b8 (i:=i) o_;rcases b with⟨b,a⟩|⟨b,a⟩
 ·have q1:(i:Int)<=(s.length:Int):=by omega
  by_cases hi:i<s.length
  ·have g:¬(i:Int)=(s.length:Int):=by omega
   rw[QT hi]at a;have l:=Q3 d hi
   by_cases he:s[i]=c
   ·rw[if_pos he]at a;have e:((s[i]:Nat):Int)=(c:Int):=by rw[he]
    simp[q1,g,hi,e,f];refine⟨⟨o_,d⟩,by simp only[cF];omega,?_⟩;have m:(s.take i).drop j=(s.drop j).take (i-j):=by rw[List.drop_take]
    exact rd (i+1,i+1,out++[(s.drop j).take (i-j)]) ⟨by dsimp only;omega,by simp;omega,.inl ⟨hi,by simpa using a⟩⟩ (h1:=by dsimp only;omega) (hh:=by simp[m])
   ·rw[if_neg he,l]at a;have e:¬((s[i]:Nat):Int)=(c:Int):=by omega
    simp[q1,g,hi,e,f];exact rd (i+1,j,out) ⟨by dsimp only;omega,by dsimp only;omega,.inl ⟨hi,a⟩⟩ (h1:=by dsimp only;omega)
  ·have hi:i=s.length:=by omega
   subst hi;have g:(s.length:Int)<=(s.length:Int):=o_
   rw[e9,gC,c6 s_]at a;simp[f];refine⟨d,by simp only[cF];omega,?_⟩;exact rd (s.length+1,s.length+1,out++[s.drop j]) ⟨by dsimp only;omega,by simp;omega,.inr ⟨rfl,a⟩⟩ (h1:=by dsimp only;omega)
 ·subst b;have q1:¬((s.length:Int)+1<=(s.length:Int)):=by omega
  simp[q1,a]
def eQ(p:dy):PV:=.st 87 [.str p.name,.int .i64 p.dw,.str p.a,.str p.b]
def gq(p:dP):PV:=.st 84 [.str p.name,ff p.pt]
def dG(t:aC):PV:=.st 35 [.seq (t.cs.map bw),.int .i64 t.bJ,.seq (t.aF.map eQ),.seq (t.au.map gq)]
@[simp] theorem aH8(p:dy):aL (eQ p)=.agg 87:=rfl
@[simp] theorem aGy(p:dy):cA (eQ p)=[.str p.name,.int .i64 p.dw,.str p.a,.str p.b]:=rfl
@[simp] theorem aIc(p:dP):aL (gq p)=.agg 84:=rfl
@[simp] theorem aGE(p:dP):cA (gq p)=[.str p.name,ff p.pt]:=rfl
@[simp] theorem aIg(t:aC):aL (dG t)=.agg 35:=rfl
@[simp] theorem aGH(t:aC):cA (dG t)=[.seq (t.cs.map bw),.int .i64 t.bJ,.seq (t.aF.map eQ),.seq (t.au.map gq)]:=rfl
theorem Xn(p:dm):az prog 132 [bw p] (.bool (fg p)):=by
 obtain⟨x,y⟩:=p;refine aP nf (i_ func132) mix (by simp[f132]) ?_;have e1:max x y=if x<y then y else x:=by split<;>omega
 have e2:min x y=if y<x then y else x:=by split<;>omega
 rw[fg,e1,e2]
 by_cases h:(if x<y then y else x)<=10000
 ·have a:¬10000<(if x<y then y else x):=by omega
  by_cases b:(if y<x then y else x)< -10000
  ·simp[f132,ad,h,a,b]
  ·simp[f132,ad,h,a,b]
 ·have a:10000<(if x<y then y else x):=by omega
  simp[f132,ad,h,a]
def idxFrom{α:Type}(p:α->Bool):List α->Nat->Int
 |[],_=>-1
 |x::r,i=>if p x then(i:Int)else idxFrom p r (i+1)
theorem tQ{α:Type}(p:α->Bool):∀(l:List α)(i:Nat),decide (0<=idxFrom p l i)=l.any p
 |[],i=>by simp[idxFrom]
 |x::r,i=>by
  by_cases h:p x
  ·simp[idxFrom,h]
  ·simp[idxFrom,h,tQ p r]
theorem P8(l:List dm)(h:l.length<=1000000):
 az prog 214 [.seq (l.map bw),.func 132 [] []] (.int .i64 (idxFrom fg l 0)):=by
 refine aP nf (i_ func214) mix (by simp[f214]) ?_;simp[f214];refine lp (α:=Nat) (fun i=>⟨[(8,.p (.int .i64 i)),(7,.p (.int .i64 l.length)),(1,.p (.func 132 [] [])),(0,.p (.seq (l.map bw)))],[]⟩) (fun i=>i<=l.length/\idxFrom fg l 0=idxFrom fg (l.drop i) i) (fun i=>l.length-i) 0 s_ ?_;rintro i ⟨k1,k2⟩
 by_cases hi:i<l.length
 ·rw[dg hi]at k2;have b:=b8 (i:=i) o_;simp[hi];refine c1 (Xn l[i]) ?_
  by_cases a:fg l[i]
  ·simp[idxFrom,a]at k2;simp[a,k2]
  ·simp[idxFrom,a]at k2;simp[a,b];exact rd (i+1) ⟨hi,k2⟩
 ·have:i=l.length:=by omega
  subst this;simp[idxFrom]at k2;simp[k2]
theorem PW(l:List dm)(h:l.length<=1000000):
 az prog 131 [.seq (l.map bw),.func 132 [] []] (.bool (l.any fg)):=by
 refine aP nf (i_ func131) mix (by simp[f131]) ?_;simp[f131];refine c2 (P8 l h) ?_;simp[<-tQ fg l 0]
def me(l:List dm):List (PV×PV):=l.map (fun p=>(bw p,PV.bool true))
theorem Ez{p q:dm}(h:¬p=q):¬(p.x=q.x/\p.y=q.y):=fun⟨a,b⟩=>h (by cases p;cases q;simp_all)
theorem Yp(a b c d:Int):fu prog 9 64 (.st 63 [.int .i64 a,.int .i64 b]) (.st 63 [.int .i64 c,.int .i64 d])=some ((a==c)&&((b==d)&&true)):=k_
@[simp] theorem zW(p q:dm):fu prog 9 64 (bw p) (bw q)=some (decide (p=q)):=by
 rw[bw,bw,Yp]
 by_cases h:p=q
 ·subst h;simp
 ·rw[decide_eq_false h];have:=Ez h
  by_cases a:p.x=q.x
  ·have b:¬p.y=q.y:=fun b=>this ⟨a,b⟩;simp[a,b]
  ·simp[a]
theorem Ey(p q:dm):iC (bw p) (bw q)=some (decide (p=q)):=by
 by_cases h:p=q
 ·subst h;simp[bw,iC,vC]
 ·rw[decide_eq_false h];have:=Ez h
  by_cases a:p.x=q.x
  ·have b:¬p.y=q.y:=fun b=>this ⟨a,b⟩;simp[bw,iC,vC,a,beq_false_of_ne b]
  ·simp[bw,iC,vC,beq_false_of_ne a]
theorem Ym(p q:dm):po prog 64 (bw p) (bw q)=some (decide (p=q)):=by
 have e1:=zW p q;have e2:=Ey p q;rw[bw]at e1 e2⊢;rw[po,e1,e2];simp
@[simp] theorem Ej(q:dm):∀l:List dm,fT prog 64 (me l) (bw q)=some (if q∈l then some (.bool true)else none)
 |[]=>rfl
 |p::r=>by
  rw[me,dq,fT,Ym]
  by_cases h:q=p
  ·simp[h]
  ·have:=Ej q r;rw[me]at this;simp[h,this]
theorem P6{q:dm}{l:List dm}(h:¬q∈l):lM prog 64 (me l) (bw q)=some none:=by
 have:=Ej q l;rw[if_neg h]at this;rw[bw]at this⊢;rw[lM,this]
theorem Ek{q:dm}:∀{l:List dm},¬q∈l->gA (me l) (bw q) (.bool true)=me (l++[q])
 |[],_=>rfl
 |p::r,h=>by
  have a:¬q=p:=fun e=>h (e▸g9);have b:¬q∈r:=fun e=>h (ec _ e);have:=Ek b;rw[me]at this⊢;rw[dq,gA,Ey,this];simp[a,me]
theorem aAf:nR prog 64=true:=k_
@[simp high] theorem aFx(c:Bool)(H:Heap)(p q:dm):jm prog .neq 64 c H (.p (bw p)) (.p (bw q))=some (True,{v:=.p (.bool !(decide (p=q)))}):=by
 have e:=zW p q;rw[bw,bw]at*;simp[jm,e,aAf]
@[simp high] theorem aGs(q:dm):eO prog 64 (bw q)=true:=by
 have e1:=zW q q;rw[bw]at e1⊢;rw[eO];simp[e1]
theorem Qn(a c:dm):lj a a c=0:=by simp[lj]
theorem P7(a b:dm):lj a b a=0:=by simp[lj]
theorem Qi{t:aC}(e:3<=t.cs.length){j k:Nat}(c:j<t.cs.length)(hk:k<t.cs.length)(d:j≠k)(b:t.at j=t.at k):t.fJ=false:=by
 rw[aC.fJ,decide_eq_false_iff_not];intro h
 by_cases hx:k=t.nx j
 ·obtain⟨m,m1,m2,m3⟩:∃m,m<t.cs.length/\m≠j/\m≠k:=by
   rcases hA j k with a|a|a
   ·by_cases e0:j=0
    ·by_cases e1:k=1
     ·exact⟨2,o_,o_,o_⟩
     ·exact⟨1,o_,o_,o_⟩
    ·exact⟨0,o_,o_,o_⟩
   ·exact(d a).elim
   ·by_cases e0:k=0
    ·by_cases e1:j=1
     ·exact⟨2,o_,o_,o_⟩
     ·exact⟨1,o_,o_,o_⟩
    ·exact⟨0,o_,o_,o_⟩
  have:=h j c m m1 m2 (hx▸m3);rw[<-hx,<-b,Qn]at this;omega
 ·have:=h j c k hk (Ne.symm d) hx;rw[<-b,P7]at this;omega
theorem Qq(t:aC)(aj:3<=t.cs.length)(hl:t.cs.length<=1000000)(F:∀p∈t.cs,eZ p):az prog 133 [dG t] (.bool t.fJ):=by
 refine aP nf (i_ func133) mix (by simp[f133]) ?_;generalize q:t.cs.length=n at*;simp[f133,ad,q];refine lp (α:=Nat) (fun i=>⟨[(16,.p (.int .i64 i)),(15,.p (.int .i64 n)),(14,.p (.seq (t.cs.map bw))),(3,.map 1),(1,.ptr 0 [])],[.box false (.p (dG t)),.map false (me (t.cs.take i))]⟩) (fun i=>i<=n/\∀j k,j<k->k<i->t.at j≠t.at k) (fun i=>n-i) 0 s_ ?_ (hh:=by simp[me]);rintro i ⟨ai,E⟩
 by_cases hi:i<n
 ·have H:=aC.get (t:=t) (i:=i) o_;have z:=b8 (i:=i) o_;have W:t.cs.take (i+1)=t.cs.take i++[t.at i]:=by rw[ed,H];rfl
  simp[-eO,hi,q,H,ad]
  by_cases f:t.at i∈t.cs.take i
  ·obtain⟨j,s,r⟩:=eo.1 f;rw[en]at s;rw[ge,aC.aO o_]at r;have Q:=Qi o_ (j:=j) (k:=i) o_ o_ o_ r;simp[f,Q]
  ·have hI:=P6 f;have I:=Ek f;rw[<-W]at I;simp[-eO,-lM,f,hI,I,z];exact rd (i+1) ⟨hi,fun j k w hk=>by
    by_cases T:k=i
    ·subst T;intro r;exact f (r▸c7 (i:=j) (by rw[e6,if_pos w];exact aC.get o_))
    ·exact E j k w o_⟩
 have R:i=n:=o_
 subst R;have inj:∀j k,j<i->k<i->t.at j=t.at k->j=k:=fun j k s hk r=>by
  rcases hA j k with h|h|h
  ·exact(E j k h hk r).elim
  ·exact h
  ·exact(E k j h s r.symm).elim
 simp[q,ad];refine lp (α:=Nat) (fun m=>⟨[(32,.p (.int .i64 m)),(31,.p (.int .i64 i)),(30,.p (.seq (t.cs.map bw))),(6,.p (.int .i64 i)),(1,.ptr 0 [])],[.box false (.p (dG t))]⟩) (fun m=>m<=i/\∀j,j<m->t.mP j i) (fun m=>i-m) 0 s_ ?_;rintro m ⟨g1,g2⟩;have U:¬i=0:=o_
 by_cases f:m<i
 ·have M:=aC.get (t:=t) (i:=m) o_;have z:=b8 (i:=m) o_;have V:t.nx m<i:=by rw[<-q];exact t.n7 o_ m
  have N:=aC.get (t:=t) (i:=t.nx m) o_;have e1:((m:Int)+1).tmod (i:Int)=((t.nx m:Nat):Int):=by
   rw[aC.nx,q,cR,cN o_];rfl
  simp[f,q,M,N,z,e1,U,ad];refine⟨by repeat' first|rfl|apply am,?_⟩;refine lp (α:=Nat) (fun k=>⟨[(48,.p (.int .i64 k)),(47,.p (.int .i64 i)),(46,.p (.seq (t.cs.map bw))),(9,.ptr 2 []),(8,.ptr 1 []),(32,.p (.int .i64 m)),(31,.p (.int .i64 i)),(30,.p (.seq (t.cs.map bw))),(6,.p (.int .i64 i)),(1,.ptr 0 [])],[.box false (.p (dG t)),.box false (.p (bw (t.at m))),.box false (.p (bw (t.at (t.nx m))))]⟩) (fun k=>k<=i/\t.mP m k) (fun k=>i-k) 0 (by simp[aC.mP]) ?_;rintro k ⟨q1,D⟩
  by_cases hk:k<i
  ·have gk:=aC.get (t:=t) (i:=k) o_;have G:=b8 (i:=k) o_
   by_cases c1:t.at k=t.at m
   ·have:=inj _ _ hk f c1;subst this;simp[-jm,jm.eq_1,hk,gk,G,ad];exact rd (k+1) ⟨hk,fun j s=>by
     by_cases w:j=k
     ·intro h;exact(h w).elim
     ·exact D j o_⟩
   ·by_cases c2:t.at k=t.at (t.nx m)
    ·have:=inj _ _ hk V c2;have c3:¬t.at (t.nx m)=t.at m:=by rw[<-c2];exact c1
     simp[-jm,jm.eq_1,hk,gk,G,c2,c3,ad];exact rd (k+1) ⟨hk,fun j s=>by
      by_cases w:j=k
      ·intro _ h;exact(h o_).elim
      ·exact D j o_⟩
    ·have L:k≠m:=fun e=>c1 (by rw[e]);have nx:k≠t.nx m:=fun e=>c2 (by rw[e]);have P:lj (t.at m) (t.at (t.nx m)) (t.at k)=((t.at (t.nx m)).x-(t.at m).x)*((t.at k).y-(t.at m).y)-((t.at (t.nx m)).y-(t.at m).y)*((t.at k).x-(t.at m).x):=rfl;have X:=aC.ij F (i:=m) o_;have Y:=aC.ij F (i:=t.nx m) o_;have Z:=aC.ij F (i:=k) o_;have K:t.mP m (k+1)↔0<lj (t.at m) (t.at (t.nx m)) (t.at k):=⟨fun h=>h k o_ L nx,fun h j s u v=>by
      by_cases w:j=k
      ·subst w;exact h
      ·exact D j o_ u v⟩
     have J:¬0<lj (t.at m) (t.at (t.nx m)) (t.at k)->t.fJ=false:=fun h=>by
      rw[aC.fJ,decide_eq_false_iff_not];intro O;exact h (O m o_ k o_ L nx)
     rw[P]at K J;simp[-jm,jm.eq_1,hk,gk,G,c1,c2,ad];simp only[eZ]at X Y Z;generalize t.at m=A at*;generalize t.at (t.nx m)=B at*;generalize t.at k=C at*;obtain⟨c,d⟩:=A;obtain⟨bx,g⟩:=B;obtain⟨l,o⟩:=C;dsimp only at*;have aa:bo.wrap (bx-c)=bx-c:=aN _ o_ o_;have ab:bo.wrap (o-d)=o-d:=aN _ o_ o_;have ac:bo.wrap (g-d)=g-d:=aN _ o_ o_
     have ae:bo.wrap (l-c)=l-c:=aN _ o_ o_;have ak:=vW (a:=bx-c) (b:=o-d) (A:=20000) (B:=20000) o_ o_ o_ o_;have al:=vW (a:=g-d) (b:=l-c) (A:=20000) (B:=20000) o_ o_ o_ o_;have af:bo.wrap ((bx-c)*(o-d))=(bx-c)*(o-d):=aN _ o_ o_;have ag:bo.wrap ((g-d)*(l-c))=(g-d)*(l-c):=aN _ o_ o_;have ah:bo.wrap ((bx-c)*(o-d)-(g-d)*(l-c))=(bx-c)*(o-d)-(g-d)*(l-c):=aN _ o_ o_;simp[aa,ab,ac,ae,af,ag,ah]
     by_cases hc:(bx-c)*(o-d)-(g-d)*(l-c)<=0
     ·have:=J o_;simp[hc,this]
     ·simp[hc];exact rd (k+1) ⟨hk,K.2 o_⟩
  ·have:k=i:=by omega
   subst this;simp[z];exact rd (m+1) ⟨f,fun j s=>by
    by_cases S:j=m
    ·subst S;exact D
    ·exact g2 j o_⟩
 ·have:m=i:=by omega
  subst this;have:t.fJ=true:=by
   rw[aC.fJ,decide_eq_true_eq,q];exact g2
  simp[this]
noncomputable def jo(v:NV):PV:=.st 166 [eF v.x,eF v.y]
@[simp] theorem aIf(v:NV):aL (jo v)=.agg 166:=rfl
@[simp] theorem aGG(v:NV):cA (jo v)=[eF v.x,eF v.y]:=rfl
@[simp] theorem aFO:prog.cellsOf 166=8:=k_
theorem zX(x y:NF):jo ⟨x,y⟩=.st 166 [eF x,eF y]:=rfl
noncomputable def tq(a b:NV):PV:=.st 178 [jo a,jo b]
@[simp] theorem aHX(a b:NV):aL (tq a b)=.agg 178:=rfl
@[simp] theorem aGt(a b:NV):cA (tq a b)=[jo a,jo b]:=rfl
theorem Xp(p:im)(d:bS p.x=0)(e:bS p.y=0)(a:ru p):az prog 90 [ff p] (jo (.from p)):=by
 have b:=mH p.x d a.1.1;have c:=mH p.y e a.2.1;refine aP nf (i_ func90) mix (by simp[f90]) ?_;rw[NV.from,zX];simp[f90,ad];refine e1 b ?_;simp[ad];refine e1 c ?_;simp[ad]
def fI(p:dm):NV:=⟨.int p.x,.int p.y⟩
theorem D8(p:dm)(h:eZ p):az prog 174 [bw p] (jo (fI p)):=by
 simp only[eZ]at h;have a:=zf p.x o_ o_;have b:=zf p.y o_ o_;refine aP nf (i_ func174) mix (by simp[f174]) ?_;rw[fI,zX];simp[f174,ad];refine e1 a ?_;simp[ad];refine e1 b ?_;simp[ad]
theorem Eu(v w:NV)(a:fj kQ v.q)(b:fj kQ w.q):az prog 108 [jo v,jo w] (jo (v.sub w)):=by
 have c:=yk v.x w.x (jr a.1) (jr b.1);have d:=yk v.y w.y (jr a.2) (jr b.2);refine aP nf (i_ func108) mix (by simp[f108]) ?_;rw[NV.sub,zX];simp[f108,ad];refine e2 c ?_;simp[ad];refine e2 d ?_;simp[ad]
theorem Qj(v w:NV)(a:fj kQ v.q)(b:fj kQ w.q):az prog 97 [jo v,jo w] (eF (v.gY w)):=by
 have c:=xL v.x w.y (jr a.1) (jr b.2);have d:=xL v.y w.x (jr a.2) (jr b.1);have e:=yk (v.x.mul w.y) (v.y.mul w.x) ((rR a.1 b.2).mono (by decide)) ((rR a.2 b.1).mono (by decide));refine aP nf (i_ func97) mix (by simp[f97]) ?_;rw[NV.gY];simp[f97,ad];refine e2 c ?_;simp[ad];refine e2 d ?_;simp[ad];refine e2 e ?_;simp[ad]
theorem Xm(t:aC)(i:Nat)(hi:i<t.cs.length)(hl:t.cs.length<=1000000)(h:∀p∈t.cs,eZ p):az prog 106 [dG t,.int .i64 i] (tq (fI (t.at i)) (fI (t.at (t.nx i)))):=by
 have a:=t.n7 o_ i;have j:=D8 (t.at i) (aC.ij h hi);have k:=D8 (t.at (t.nx i)) (aC.ij h a);have g:=b8 (i:=i) o_;have e1:((i:Int)+1).tmod (t.cs.length:Int)=((t.nx i:Nat):Int):=by
  rw[aC.nx,cR,cN o_];rfl
 have f:¬t.cs.length=0:=o_
 have d:¬t.cs=[]:=by intro e;rw[e]at hi;simp at hi
 have b:=aC.get hi;have c:=aC.get a;refine aP nf (i_ func106) mix (by simp[f106]) ?_;rw[tq];simp[f106,ad,g,e1,f,d,b,c,hi,a];refine e1_ j ?_;simp[ad,g,e1,f,d,b,c,hi,a];refine e1_ k ?_;simp[ad,g,e1,f,d,b,c,hi,a]
theorem Xr(t:aC):az prog 95 [dG t] (.func 179 [] [.cq (dG t)]):=by
 refine aP nf (i_ func95) mix (by simp[f95]) ?_;simp[f95];show gz [.box false (.p (dG t))] 7 (.p (dG t)) (dG t);rw[DJ];exact Wk.refl _
noncomputable def wu(t:aC)(i:Nat):List PV:=[.int .i64 i,tq (fI (t.at i)) (fI (t.at (t.nx i)))]
theorem zR{t:aC}{i:Nat}(h:i<t.cs.length):((gb t.cs.length).map (wu t))[i]?=some (wu t i):=by
 rw[List.getElem?_map,List.getElem?_range h];rfl
theorem aC3(t:aC)(hl:t.cs.length<=1000000)(g:∀p∈t.cs,eZ p):Stream prog 179 [] [.cq (dG t)] ((gb t.cs.length).map (wu t)):=by
 intro b k e H' hk a j d;rw[ej,List.length_range]at hk d;refine fU nf (i_ func179) mix (by simp[f179]) ?_;simp[f179,ad];refine lp (α:=Nat) (fun i=>⟨[(7,.p (.int .i64 i)),(6,.p (.int .i64 t.cs.length)),(1,.p (.cq (dG t))),(0,.map b)],e i⟩) (fun i=>i<=k) (fun i=>k-i) 0 s_ ?_ (hr:=by simp;exact(a 0 o_).2) (hr2:=(a 0 o_).1);rintro i l
 by_cases hi:i<t.cs.length
 ·have f:=Xm t i hi hl g;have h:=b8 (i:=i) o_;simp[hi];refine c2 f ?_;simp
  by_cases c:i<k
  ·refine⟨e (i+1),_,j i _ c (zR hi),?_⟩;simp[h];exact rd (i+1) c (hr:=by simp;exact(a (i+1) c).2) (hr2:=(a (i+1) c).1)
  ·have:i=k:=by omega
   subst this;rcases d with⟨e1,_⟩|⟨y,e1,e2⟩
   ·omega
   ·rw[zR hi]at e1;injection e1 with e1
    subst e1;refine⟨H',_,e2,?_⟩;simp
 ·have:i=t.cs.length:=by omega
  subst this;rcases d with⟨e1,e2⟩|⟨y,e1,e2⟩
  ·have:t.cs.length=k:=by omega
   subst this;simp[e2]
  ·rw[List.getElem?_eq_none (by simp;omega)]at e1;cases e1
noncomputable def vK(t:aC)(v:NV)(L:fo)(i:Nat):Heap:=[.box false (.p (dG t)),.box false (.p (jo v)),.box false (.p (.int .i64 (t.py v.q i))),.loop L]
theorem Xq(t:aC)(v:NV)(hl:t.cs.length<=1000000)(c:∀p∈t.cs,eZ p)(g:fj 3000 v.q):az prog 126 [dG t,jo v] (.int .i64 (t.on v.q)):=by
 refine aP nf (i_ func126) mix (by simp[f126]) ?_;simp[f126,ad];refine c1 (Xr t) ?_;simp;refine rf (aC3 t hl c) rfl s_ (vK t v) t.cs.length s_ (fun L=>rfl) ?_ ?_ ?_
 ·intro L a i hi;refine⟨rfl,by simp[vK],fun _ hx=>?_⟩;simp[vK]at hx⊢;exact hx
 ·intro L a i x hi hx;rw[zR hi]at hx;injection hx with hx
  subst hx;have b:=rJ (aC.ij c hi);have h:=rJ (aC.ij c (t.n7 o_ i));have q1:fj 29 ((fI (t.at (t.nx i))).sub (fI (t.at i))).q:=by rw[NV.qD];exact vi h b
  have m:fj 3015 (v.sub (fI (t.at i))).q:=by rw[NV.qD];exact vi g b
  have j:=Eu (fI (t.at (t.nx i))) (fI (t.at i)) (h.mono (by decide)) (b.mono (by decide));have k:=Eu v (fI (t.at i)) (g.mono (by decide)) (b.mono (by decide));have l:=Qj ((fI (t.at (t.nx i))).sub (fI (t.at i))) (v.sub (fI (t.at i))) (q1.mono (by decide)) (m.mono (by decide));have e:=Cn (((fI (t.at (t.nx i))).sub (fI (t.at i))).gY (v.sub (fI (t.at i))));have d:gX (((fI (t.at (t.nx i))).sub (fI (t.at i))).gY (v.sub (fI (t.at i)))).q=t.side i v.q:=by
   rw[NV.XF,NV.qD,NV.qD];rfl
  rw[gX]at d;rw[d]at e;have hs:=aC.Ea t v.q i;rw[Ep]at hs;refine Ed nf mix a rfl rfl k_ ?_;have f:=congrArg fo.env a;dsimp only at f;clear a d;generalize (fI (t.at (t.nx i))).sub (fI (t.at i))=W at*;generalize v.sub (fI (t.at i))=U at*;generalize W.gY U=C at*;simp[vK,wu,tq,ad];refine e2 j ?_;simp[ad];refine e2 k ?_;simp[ad];refine e2 l ?_;simp[ad];refine e1 e ?_;simp[ad];refine⟨by repeat' first|rfl|apply am,?_⟩;rw[<-hs];refine bC.og s_ s_ s_ s_ ?_;simp;exact aCD f s_
 ·intro L a;refine .inl ⟨s_,?_⟩;simp[vK,aC.on]
theorem Ee(s:List Nat)(hs:jt s)(h:bS s=0):az prog 191 [.str s] (.int .i64 (dK (aY s))):=by
 have o:=iF h;have d:=mH s h hs.1;have c:=Cn ⟨aY s,false⟩;have g:=zf 1 (by decide) (by decide);have e:=vw ⟨aY s,false⟩ (.int 1) (o.mono (by decide)) ((show cr 1 (NF.int 1).q from⟨by decide,by decide⟩).mono (by decide));have e2:(if(⟨aY s,false⟩:NF).q<0 then(-1:Int)else if(⟨aY s,false⟩:NF).q=0 then 0 else 1)=gX (aY s):=rfl;have e4:eU (⟨aY s,false⟩:NF).q (NF.int 1).q=eU (aY s) 1:=rfl;rw[e2]at c;rw[e4]at e;have f:=fun b=>jd b 3;refine aP nf (i_ func191) mix (by simp[f191]) ?_;rw[dK];clear e2 e4 o;generalize gX (aY s)=x at*;generalize eU (aY s) 1=y at*;generalize (⟨aY s,false⟩:NF)=v at*
 by_cases a:x<0
 ·simp[f191,ad];refine c1 d ?_;simp[ad];refine e1_ c ?_;simp[a,ad];refine e2_ (f true) ?_;simp[br];omega
 ·by_cases b:0<y
  ·simp[f191,ad];refine c1 d ?_;simp[ad];refine e1_ c ?_;simp[a,ad];refine e1_ g ?_;simp[a,ad];refine e2_ e ?_;simp[a,b,ad];refine e2_ (f true) ?_;simp[br];omega
  ·simp[f191,ad];refine c1 d ?_;simp[ad];refine e1_ c ?_;simp[a,ad];refine e1_ g ?_;simp[a,ad];refine e2_ e ?_;simp[a,b,ad];refine e2_ (f false) ?_;simp[br];omega
def pE(p:dy):Prop:=ry p/\bS p.a=0/\bS p.b=0
theorem Xo(p o:dy)(r:pE p)(q:pE o):az prog 217 [eQ p,eQ o] (.bool (fK o p)):=by
 obtain⟨⟨_,u,v⟩,l,m⟩:=r;obtain⟨⟨_,s,t⟩,j,k⟩:=q;have d:=mH p.a l u.1;have e:=mH o.b k t.1;have c:=vw ⟨aY p.a,false⟩ ⟨aY o.b,false⟩ ((iF l).mono (by decide)) ((iF k).mono (by decide));have g:=mH o.a j s.1;have i:=mH p.b m v.1;have f:=vw ⟨aY o.a,false⟩ ⟨aY p.b,false⟩ ((iF j).mono (by decide)) ((iF m).mono (by decide));dsimp only at c f;refine aP nf (i_ func217) mix (by simp[f217]) ?_;rw[fK];generalize eU (aY p.a) (aY o.b)=x at*;generalize eU (aY o.a) (aY p.b)=y at*;generalize (⟨aY p.a,false⟩:NF)=v1 at*;generalize (⟨aY p.b,false⟩:NF)=v2 at*;generalize (⟨aY o.a,false⟩:NF)=v3 at*;generalize (⟨aY o.b,false⟩:NF)=v4 at*
 by_cases c1:o.dw=p.dw
 case neg=>
  have n:¬p.dw=o.dw:=fun h=>c1 h.symm;simp[f217,ad,c1,n]
 by_cases c2:x<=0
 ·by_cases c3:y<=0
  ·simp[f217,ad,c1];refine e1_ d ?_;simp[ad,c1];refine e1_ e ?_;simp[ad,c1];refine e2_ c ?_;simp[ad,c1,c2];refine e1_ g ?_;simp[ad,c1,c2];refine e1_ i ?_;simp[ad,c1,c2];refine e2_ f ?_;simp[ad,c1,c2,c3]
  ·simp[f217,ad,c1];refine e1_ d ?_;simp[ad,c1];refine e1_ e ?_;simp[ad,c1];refine e2_ c ?_;simp[ad,c1,c2];refine e1_ g ?_;simp[ad,c1,c2];refine e1_ i ?_;simp[ad,c1,c2];refine e2_ f ?_;simp[ad,c1,c2,c3]
 ·simp[f217,ad,c1];refine e1_ d ?_;simp[ad,c1];refine e1_ e ?_;simp[ad,c1];refine e2_ c ?_;simp[ad,c1,c2]
theorem Qh(p o:dy):cm prog 216 [.box false (.p (eQ p))] [.p (eQ o),.ptr 0 []] [.box false (.p (eQ p))] (.p (.bool (decide (o.name=p.name)))):=by
 refine fU nf (i_ func216) mix (by simp[f216]) ?_
 by_cases h:o.name=p.name
 ·simp[f216,ad,h];exact bC.og s_ s_ s_ s_ s_
 ·simp[f216,ad,h];exact bC.og s_ s_ s_ s_ s_
theorem Qm(p:dy)(l:List dy)(h:l.length<=1000000):
 cm prog 123 [.box false (.p (eQ p))] [.p (.seq (l.map eQ)),.func 216 [] [.ptr 0 []]] [.box false (.p (eQ p))] (.p (.int .i64 (idxFrom (fun o=>decide (o.name=p.name)) l 0))):=by
 refine fU nf (i_ func123) mix (by simp[f123]) ?_;simp[f123];refine lp (α:=Nat) (fun i=>⟨[(8,.p (.int .i64 i)),(7,.p (.int .i64 l.length)),(1,.func 216 [] [.ptr 0 []]),(0,.p (.seq (l.map eQ)))],[.box false (.p (eQ p))]⟩) (fun i=>i<=l.length/\idxFrom (fun o=>decide (o.name=p.name)) l 0=idxFrom (fun o=>decide (o.name=p.name)) (l.drop i) i) (fun i=>l.length-i) 0 s_ ?_;rintro i ⟨k1,k2⟩;have a:=b8 (i:=i) o_
 by_cases hi:i<l.length
 ·rw[dg hi,idxFrom]at k2;simp[hi];refine cf (Qh p l[i]) [0] ?_
  by_cases hk:l[i].name=p.name
  ·simp[hk]at k2;simp[hk,k2,aX]
  ·simp[hk]at k2;simp[hk,a,aX];exact rd (i+1) ⟨hi,k2⟩
 ·have:i=l.length:=by omega
  subst this;simp[idxFrom]at k2;simp[k2]
theorem Qd(p:dy)(l:List dy)(h:l.length<=1000000):
 cm prog 215 [.box false (.p (eQ p))] [.p (.seq (l.map eQ)),.func 216 [] [.ptr 0 []]] [.box false (.p (eQ p))] (.p (.bool (l.any (fun o=>decide (o.name=p.name))))):=by
 refine fU nf (i_ func215) mix (by simp[f215]) ?_;simp[f215];refine cf (Qm p l h) [0] ?_;have:=tQ (fun o=>decide (o.name=p.name)) l 0;simp[aX,<-this]
theorem Qg(p o:dP):cm prog 219 [.box false (.p (gq p))] [.p (gq o),.ptr 0 []] [.box false (.p (gq p))] (.p (.bool (decide (o.name=p.name)))):=by
 refine fU nf (i_ func219) mix (by simp[f219]) ?_
 by_cases h:o.name=p.name
 ·simp[f219,ad,h];exact bC.og s_ s_ s_ s_ s_
 ·simp[f219,ad,h];exact bC.og s_ s_ s_ s_ s_
theorem P2(p:dP)(l:List dP)(h:l.length<=1000000):
 cm prog 208 [.box false (.p (gq p))] [.p (.seq (l.map gq)),.func 219 [] [.ptr 0 []]] [.box false (.p (gq p))] (.p (.int .i64 (idxFrom (fun o=>decide (o.name=p.name)) l 0))):=by
 refine fU nf (i_ func208) mix (by simp[f208]) ?_;simp[f208];refine lp (α:=Nat) (fun i=>⟨[(8,.p (.int .i64 i)),(7,.p (.int .i64 l.length)),(1,.func 219 [] [.ptr 0 []]),(0,.p (.seq (l.map gq)))],[.box false (.p (gq p))]⟩) (fun i=>i<=l.length/\idxFrom (fun o=>decide (o.name=p.name)) l 0=idxFrom (fun o=>decide (o.name=p.name)) (l.drop i) i) (fun i=>l.length-i) 0 s_ ?_;rintro i ⟨k1,k2⟩;have a:=b8 (i:=i) o_
 by_cases hi:i<l.length
 ·rw[dg hi,idxFrom]at k2;simp[hi];refine cf (Qg p l[i]) [0] ?_
  by_cases hk:l[i].name=p.name
  ·simp[hk]at k2;simp[hk,k2,aX]
  ·simp[hk]at k2;simp[hk,a,aX];exact rd (i+1) ⟨hi,k2⟩
 ·have:i=l.length:=by omega
  subst this;simp[idxFrom]at k2;simp[k2]
theorem Qc(p:dP)(l:List dP)(h:l.length<=1000000):
 cm prog 218 [.box false (.p (gq p))] [.p (.seq (l.map gq)),.func 219 [] [.ptr 0 []]] [.box false (.p (gq p))] (.p (.bool (l.any (fun o=>decide (o.name=p.name))))):=by
 refine fU nf (i_ func218) mix (by simp[f218]) ?_;simp[f218];refine cf (P2 p l h) [0] ?_;have:=tQ (fun o=>decide (o.name=p.name)) l 0;simp[aX,<-this]
theorem Qf(p:dy)(b:pE p)(l:List dy)(h:l.length<=1000000)(hl:∀o∈l,pE o):
 az prog 123 [.seq (l.map eQ),.func 217 [eQ p] []] (.int .i64 (idxFrom (fun o=>fK o p) l 0)):=by
 refine aP nf (i_ func123) mix (by simp[f123]) ?_;simp[f123];refine lp (α:=Nat) (fun i=>⟨[(8,.p (.int .i64 i)),(7,.p (.int .i64 l.length)),(1,.p (.func 217 [eQ p] [])),(0,.p (.seq (l.map eQ)))],[]⟩) (fun i=>i<=l.length/\idxFrom (fun o=>fK o p) l 0=idxFrom (fun o=>fK o p) (l.drop i) i) (fun i=>l.length-i) 0 s_ ?_;rintro i ⟨k1,k2⟩;have c:=b8 (i:=i) o_
 by_cases hi:i<l.length
 ·rw[dg hi,idxFrom]at k2;have a:=Xo p l[i] b (hl _ (ee hi));simp[hi];refine c2 a ?_;cases hk:fK l[i] p
  ·simp[hk]at k2;simp[c];exact rd (i+1) ⟨hi,k2⟩
  ·simp[hk]at k2;simp[k2]
 ·have:i=l.length:=by omega
  subst this;simp[idxFrom]at k2;simp[k2]
theorem P0(p:dy)(a:pE p)(l:List dy)(h:l.length<=1000000)(hl:∀o∈l,pE o):
 az prog 215 [.seq (l.map eQ),.func 217 [eQ p] []] (.bool (l.any (fun o=>fK o p))):=by
 refine aP nf (i_ func215) mix (by simp[f215]) ?_;simp[f215];refine c2 (Qf p a l h hl) ?_;have:=tQ (fun o=>fK o p) l 0;simp[<-this]
def kG(n:Nat)(c:List dy)(p:dy):Int:=bZ [br (!isName p.name) 8,br (c.any fun o=>decide (o.name=p.name)) 9,br (decide (p.dw<0\/(n:Int)<=p.dw)) 10,bS p.a,bS p.b]
def zy(c:List dy)(p:dy):Int:=bZ [dK (aY p.a),dK (aY p.b),br (decide (0<eU (aY p.a) (aY p.b))) 11,br (c.any fun o=>fK o p) 17]
theorem vV(q:Rat):dK q=0\/dK q=3:=by
 rw[dK];split
 ·exact .inr rfl
 ·exact .inl rfl
theorem Qb(n:Nat)(e:List dy)(p:dy):fL n e p=if kG n e p=0 then zy e p else kG n e p:=by
 rw[fL,kG,zy];generalize bS p.a=ca;generalize bS p.b=i;have j:=vV (aY p.a);have h:=vV (aY p.b);generalize dK (aY p.a)=r at*;generalize dK (aY p.b)=s at*;generalize eU (aY p.a) (aY p.b)=y;generalize (e.any fun o=>fK o p)=m;generalize (e.any fun o=>decide (o.name=p.name))=a;have k:max (0:Int) 3=3:=rfl;have l:max (3:Int) 0=3:=rfl;cases q:isName p.name
 ·simp[bZ,br]
 cases a
 case true=>simp[bZ,br]
 by_cases c:p.dw<0\/(n:Int)<=p.dw
 ·simp[bZ,br,c]
 by_cases d:ca=0
 case neg=>simp[bZ,br,c,d]
 by_cases f:i=0
 case neg=>simp[bZ,br,c,d,f]
 rcases j with rfl|rfl
 ·rcases h with rfl|rfl
  ·by_cases g:0<y
   ·simp[bZ,br,c,d,f,g]
   ·cases m<;>simp[bZ,br,c,d,f,g]
  ·simp[bZ,br,c,d,f,k]
 ·rcases h with rfl|rfl
  ·simp[bZ,br,c,d,f,l]
  ·simp[bZ,br,c,d,f]
theorem P5{n:Nat}{bef:List dy}{p:dy}(h:kG n bef p=0):bS p.a=0/\bS p.b=0:=by
 rw[kG,nE]at h;exact⟨h _ s_,h _ s_⟩
theorem PZ(t:aC)(p:dy)(d:List dy)(hl:t.cs.length<=1000000)(G:ry p)(m:d.length<=1000000)(F:∀o∈d,pE o):
 az prog 135 [dG t,eQ p,.seq (d.map eQ)] (.int .i64 (fL t.cs.length d p)):=by
 obtain⟨C,j,k⟩:=G;have k1:=Qd p d m;have k2:=Eh p.name C.1;have k3:=jd (!isName p.name) 8;have k4:=jd (d.any fun o=>decide (o.name=p.name)) 9;have k5:=fun b=>jd b 10;have k6:=yO p.a j.1 j.2;have k7:=yO p.b k.1 k.2;have k8:=rK [br (!isName p.name) 8,br (d.any fun o=>decide (o.name=p.name)) 9,br (decide (p.dw<0\/(t.cs.length:Int)<=p.dw)) 10,bS p.a,bS p.b] s_;have g:=P5 (n:=t.cs.length) (bef:=d) (p:=p);rw[Qb];have s:=fun h:kG t.cs.length d p=0=>P0 p ⟨⟨C,j,k⟩,(g h).1,(g h).2⟩ d m F;have u:=fun h:kG t.cs.length d p=0=>Ee p.a j (g h).1;have v:=fun h:kG t.cs.length d p=0=>Ee p.b k (g h).2;have w:=fun h:kG t.cs.length d p=0=>mH p.a (g h).1 j.1;have x:=fun h:kG t.cs.length d p=0=>mH p.b (g h).2 k.1;have q:=fun h:kG t.cs.length d p=0=>vw ⟨aY p.a,false⟩ ⟨aY p.b,false⟩ ((iF (g h).1).mono (by decide)) ((iF (g h).2).mono (by decide));dsimp only at q;have B:=jd (decide (0<eU (aY p.a) (aY p.b))) 11;have z:=jd (d.any fun o=>fK o p) 17;have i:=rK [dK (aY p.a),dK (aY p.b),br (decide (0<eU (aY p.a) (aY p.b))) 11,br (d.any fun o=>fK o p) 17] s_;have d1:kG t.cs.length d p=bZ [br (!isName p.name) 8,br (d.any fun o=>decide (o.name=p.name)) 9,br (decide (p.dw<0\/(t.cs.length:Int)<=p.dw)) 10,bS p.a,bS p.b]:=rfl;have d2:zy d p=bZ [dK (aY p.a),dK (aY p.b),br (decide (0<eU (aY p.a) (aY p.b))) 11,br (d.any fun o=>fK o p) 17]:=rfl;rw[<-d1]at k8;rw[<-d2]at i;clear d1 d2 g;generalize kG t.cs.length d p=l at*;generalize zy d p=K at*;generalize bS p.a=H at*;generalize bS p.b=I at*;generalize dK (aY p.a)=T at*;generalize dK (aY p.b)=U at*;generalize eU (aY p.a) (aY p.b)=A at*;generalize (d.any fun o=>decide (o.name=p.name))=D at*;generalize (d.any fun o=>fK o p)=J at*;generalize isName p.name=E at*;generalize (⟨aY p.a,false⟩:NF)=v1 at*;generalize (⟨aY p.b,false⟩:NF)=v2 at*;refine aP nf (i_ func135) mix (by simp[f135]) ?_;have r:∀b:Bool,decide (p.dw<0\/(t.cs.length:Int)<=p.dw)=b->az prog 57 [.bool b,.int .i64 10] (.int .i64 (br b 10))/\az prog 56 [.seq [.int .i64 (br (!E) 8),.int .i64 (br D 9),.int .i64 (br b 10),.int .i64 H,.int .i64 I]] (.int .i64 l):=fun b m=>by
  rw[m]at k8;exact⟨k5 b,by simpa using k8⟩
 simp at i;have y:az prog 57 [.bool (decide (0<A)),.int .i64 11] (.int .i64 (br (decide (0<A)) 11)):=B;clear k5 k8 B;generalize L:br (!E) 8=P at*;generalize M:br D 9=Q at*;generalize N:br (decide (0<A)) 11=R at*;generalize O:br J 17=S at*;simp[f135,-bn,ad];rw[bn];simp[-bn,ad];rw[bn];simp[-bn,ad];refine cf k1 [1] ?_;simp[-bn,ad,aX,sig]
 by_cases e:p.dw<0
 ·obtain⟨f1,f2⟩:=r true (by simp[e]);rw[bn,bn];simp[-bn,ad];refine e1_ k2 ?_;simp[-bn,ad];refine e2_ k3 ?_;simp[-bn,ad];refine e2_ k4 ?_;simp[-bn,ad,e];refine e2_ f1 ?_;simp[-bn,ad,e];refine e1_ k6 ?_;simp[-bn,ad,e];refine e1_ k7 ?_;simp[-bn,ad,e];refine ep f2 (by simp;first|exact⟨rfl,rfl⟩|rfl) (by simp;first|exact⟨rfl,rfl⟩|rfl) ?_;simp[-bn,ad,e];refine⟨by repeat' first|rfl|apply am,?_⟩
  by_cases c:l=0
  case neg=>simp[c,ad]
  simp[c,ad];refine c2_ (s c) ?_;simp[ad];refine e1_ (u c) ?_;simp[ad];refine e1_ (v c) ?_;simp[ad];refine e1_ (w c) ?_;simp[ad];refine e1_ (x c) ?_;simp[ad];refine e2_ (q c) ?_;simp[ad];refine e2_ y ?_;simp[ad];refine e2_ z ?_;simp[ad];refine ep i (by simp;first|exact⟨rfl,rfl⟩|rfl) (by simp;first|exact⟨rfl,rfl⟩|rfl) ?_;simp[ad];exact⟨by repeat' first|rfl|apply am,fun h=>(h c).elim⟩
 by_cases f:(t.cs.length:Int)<=p.dw
 ·obtain⟨f1,f2⟩:=r true (by simp[e,f]);rw[bn,bn];simp[-bn,ad];refine e1_ k2 ?_;simp[-bn,ad];refine e2_ k3 ?_;simp[-bn,ad];refine e2_ k4 ?_;simp[-bn,ad,e,f];refine e2_ f1 ?_;simp[-bn,ad,e,f];refine e1_ k6 ?_;simp[-bn,ad,e,f];refine e1_ k7 ?_;simp[-bn,ad,e,f];refine ep f2 (by simp;first|exact⟨rfl,rfl⟩|rfl) (by simp;first|exact⟨rfl,rfl⟩|rfl) ?_;simp[-bn,ad,e,f];refine⟨by repeat' first|rfl|apply am,?_⟩
  by_cases c:l=0
  case neg=>simp[c,ad]
  simp[c,ad];refine c2_ (s c) ?_;simp[ad];refine e1_ (u c) ?_;simp[ad];refine e1_ (v c) ?_;simp[ad];refine e1_ (w c) ?_;simp[ad];refine e1_ (x c) ?_;simp[ad];refine e2_ (q c) ?_;simp[ad];refine e2_ y ?_;simp[ad];refine e2_ z ?_;simp[ad];refine ep i (by simp;first|exact⟨rfl,rfl⟩|rfl) (by simp;first|exact⟨rfl,rfl⟩|rfl) ?_;simp[ad];exact⟨by repeat' first|rfl|apply am,fun h=>(h c).elim⟩
 ·obtain⟨f1,f2⟩:=r false (by simp[e,f]);rw[bn,bn];simp[-bn,ad];refine e1_ k2 ?_;simp[-bn,ad];refine e2_ k3 ?_;simp[-bn,ad];refine e2_ k4 ?_;simp[-bn,ad,e,f];refine e2_ f1 ?_;simp[-bn,ad,e,f];refine e1_ k6 ?_;simp[-bn,ad,e,f];refine e1_ k7 ?_;simp[-bn,ad,e,f];refine ep f2 (by simp;first|exact⟨rfl,rfl⟩|rfl) (by simp;first|exact⟨rfl,rfl⟩|rfl) ?_;simp[-bn,ad,e,f];refine⟨by repeat' first|rfl|apply am,?_⟩
  by_cases c:l=0
  case neg=>simp[c,ad]
  simp[c,ad];refine c2_ (s c) ?_;simp[ad];refine e1_ (u c) ?_;simp[ad];refine e1_ (v c) ?_;simp[ad];refine e1_ (w c) ?_;simp[ad];refine e1_ (x c) ?_;simp[ad];refine e2_ (q c) ?_;simp[ad];refine e2_ y ?_;simp[ad];refine e2_ z ?_;simp[ad];refine ep i (by simp;first|exact⟨rfl,rfl⟩|rfl) (by simp;first|exact⟨rfl,rfl⟩|rfl) ?_;simp[ad];exact⟨by repeat' first|rfl|apply am,fun h=>(h c).elim⟩
def nY(a:List dP)(s:dP):Int:=bZ [br (!isName s.name) 8,br (a.any fun o=>decide (o.name=s.name)) 9,fV s.pt]
theorem P9(t:aC)(b:List dP)(s:dP):gH t b s=if nY b s=0 then br (decide (t.on (vP s.pt)<0)) 16 else nY b s:=by
 rw[gH,nY];generalize fV s.pt=c;generalize (b.any fun o=>decide (o.name=s.name))=a;cases e:isName s.name
 ·simp[bZ,br]
 cases a
 case true=>simp[bZ,br]
 by_cases d:c=0
 case neg=>simp[bZ,br,d]
 simp[bZ,br,d]
theorem P3{bef:List dP}{s:dP}(h:nY bef s=0):fV s.pt=0:=by
 rw[nY,nE]at h;exact h _ s_
theorem Qe(t:aC)(s:dP)(a:List dP)(hl:t.cs.length<=1000000)(k:∀p∈t.cs,eZ p)(hs:tE s)(j:a.length<=1000000):
 az prog 137 [dG t,gq s,.seq (a.map gq)] (.int .i64 (gH t a s)):=by
 obtain⟨q,f⟩:=hs;have k1:=Qc s a j;have k2:=Eh s.name q.1;have k3:=jd (!isName s.name) 8;have k4:=jd (a.any fun o=>decide (o.name=s.name)) 9;have k6:=GF s.pt f;have k8:=rK [br (!isName s.name) 8,br (a.any fun o=>decide (o.name=s.name)) 9,fV s.pt] s_;have c:=P3 (bef:=a) (s:=s);rw[P9];have l:=fun h:nY a s=0=>Xp s.pt (pO (c h)).1 (pO (c h)).2 f;have e:=fun h:nY a s=0=>Xq t (.from s.pt) hl k (Rf ⟨(iF (pO (c h)).1).mono (by decide),(iF (pO (c h)).2).mono (by decide)⟩);have m:=jd (decide (t.on (vP s.pt)<0)) 16;rw[Ys]at e;have d1:nY a s=bZ [br (!isName s.name) 8,br (a.any fun o=>decide (o.name=s.name)) 9,fV s.pt]:=rfl;rw[<-d1]at k8;clear d1 c;generalize nY a s=d at*;generalize t.on (vP s.pt)=y at*;generalize fV s.pt=r at*;generalize (a.any fun o=>decide (o.name=s.name))=g at*;generalize isName s.name=i at*;generalize NV.from s.pt=v1 at*;refine aP nf (i_ func137) mix (by simp[f137]) ?_;have n:az prog 56 [.seq [.int .i64 (br (!i) 8),.int .i64 (br g 9),.int .i64 r]] (.int .i64 d):=by simpa using k8
 clear k8;generalize u:br (!i) 8=x at*;generalize v:br g 9=z at*;generalize w:br (decide (y<0)) 16=A at*;simp[f137,ad];refine cf k1 [1] ?_;simp[ad,aX,sig];refine e1_ k2 ?_;simp[ad];refine e2_ k3 ?_;simp[ad];refine e2_ k4 ?_;simp[ad];refine e1_ k6 ?_;simp[ad];refine ep n (by simp;first|exact⟨rfl,rfl⟩|rfl) (by simp;first|exact⟨rfl,rfl⟩|rfl) ?_;simp[ad];refine⟨by repeat' first|rfl|apply am,?_⟩
 by_cases b:d=0
 case neg=>simp[b,ad]
 simp[b,ad];refine e1_ (l b) ?_;simp[ad];refine e2_ (e b) ?_;simp[ad];refine e2_ m ?_;simp[ad];exact fun h=>(h b).elim
def jv{α:Type}(b:Nat)(a:List α->α->Int)(l:List α):Int:=if b<l.length then 5 else kP a l
theorem BQ{α:Type}{n:Nat}{f:α->PV}(h:∀a,ad (.p (f a))≠.bad/\bB prog (ad (.p (f a)))=n)(l:List α):fc prog n (l.map (AV.p∘f)):=uk.2 fun v b=>by
 obtain⟨a,_,rfl⟩:=et.1 b;exact h a
theorem IM(l:List dy):fc prog 4 (l.map (AV.p∘eQ)):=BQ (fun r=>⟨by simp[ad],by simp[ad]⟩) l
theorem IP(l:List dP):fc prog 3 (l.map (AV.p∘gq)):=BQ (fun r=>⟨by simp[ad],by simp[ad]⟩) l
theorem Qp(t:aC)(a:Nat)(hl:t.cs.length<=1000000)(l:t.aF.length<=1000000)(c:∀p∈t.aF,ry p):
 az prog 134 [.seq (t.aF.map eQ),.int .i64 a,.func 135 [dG t] []] (.int .i64 (jv a (fL t.cs.length) t.aF)):=by
 refine aP nf (i_ func134) mix (by simp[f134]) ?_;rw[jv]
 by_cases c1:a<t.aF.length
 ·have cI:(a:Int)<t.aF.length:=by omega
  rw[if_pos c1];simp[f134,cI]
 have d:¬(a:Int)<t.aF.length:=o_
 rw[if_neg c1];simp[f134,d];refine lp (α:=Nat) (fun i=>⟨[(16,.p (.int .i64 i)),(15,.p (.int .i64 t.aF.length)),(14,.p (.seq (t.aF.map eQ))),(0,.p (.seq (t.aF.map eQ))),(2,.p (.func 135 [dG t] []))],[]⟩) (fun i=>i<=t.aF.length/\∀j,j<i->iq (fL t.cs.length) t.aF j=0) (fun i=>t.aF.length-i) 0 s_ ?_;rintro i ⟨k1,k2⟩
 by_cases hk:i<t.aF.length
 ·have gk:=aC.jc hk;have k:=b8 (i:=i) o_;have b:=PZ t (t.pk i) (t.aF.take i) hl (c _ (c7 gk)) (by rw[en];omega) (fun o h=>by
   obtain⟨j,f,rfl⟩:=eo.1 h;rw[en]at f;rw[ge];have:=k2 j o_;have g:=aC.jc (t:=t) (i:=j) o_;rw[iq,g]at this;rw[aC.DI o_];exact⟨c _ (c7 g),Eg this⟩)
  rw[fv]at b
  by_cases he:fL t.cs.length (t.aF.take i) (t.pk i)=0
  ·rw[he]at b;have:=vX k2 gk he;simp[hk,gk,ad];refine⟨⟨k1,IM _⟩,?_⟩;refine e3_ b ?_;simp[k,ad];exact rd (i+1) ⟨hk,this⟩
  ·have e:=vY k2 gk he;rw[e];simp[hk,gk,ad];refine⟨⟨k1,IM _⟩,?_⟩;refine e3_ b ?_;simp[he,ad]
 ·have:i=t.aF.length:=by omega
  subst this;rw[n8.2 k2];simp
theorem Qo(t:aC)(a:Nat)(hl:t.cs.length<=1000000)(e:∀p∈t.cs,eZ p)(h:t.au.length<=1000000)(f:∀p∈t.au,tE p):
 az prog 136 [.seq (t.au.map gq),.int .i64 a,.func 137 [dG t] []] (.int .i64 (jv a (gH t) t.au)):=by
 refine aP nf (i_ func136) mix (by simp[f136]) ?_;rw[jv]
 by_cases c1:a<t.au.length
 ·have cI:(a:Int)<t.au.length:=by omega
  rw[if_pos c1];simp[f136,cI]
 have c:¬(a:Int)<t.au.length:=o_
 rw[if_neg c1];simp[f136,c];refine lp (α:=Nat) (fun i=>⟨[(16,.p (.int .i64 i)),(15,.p (.int .i64 t.au.length)),(14,.p (.seq (t.au.map gq))),(0,.p (.seq (t.au.map gq))),(2,.p (.func 137 [dG t] []))],[]⟩) (fun i=>i<=t.au.length/\∀j,j<i->iq (gH t) t.au j=0) (fun i=>t.au.length-i) 0 s_ ?_;rintro i ⟨k1,k2⟩
 by_cases hk:i<t.au.length
 ·have gk:=aC.iN hk;have g:=b8 (i:=i) o_;have b:=Qe t (t.sp i) (t.au.take i) hl e (f _ (c7 gk)) (by rw[en];omega);rw[fv]at b
  by_cases he:gH t (t.au.take i) (t.sp i)=0
  ·rw[he]at b;have:=vX k2 gk he;simp[hk,gk,ad];refine⟨⟨k1,IP _⟩,?_⟩;refine e3_ b ?_;simp[g,ad];exact rd (i+1) ⟨hk,this⟩
  ·have d:=vY k2 gk he;rw[d];simp[hk,gk,ad];refine⟨⟨k1,IP _⟩,?_⟩;refine e3_ b ?_;simp[he,ad]
 ·have:i=t.au.length:=by omega
  subst this;rw[n8.2 k2];simp
def mc(t:aC):Int:=bZ [br (decide ((t.cs.length:Int)<3)) 2,br (decide (12<(t.cs.length:Int))) 5,br (t.cs.any fg) 3]
def oh(t:aC):Int:=bZ [br (!t.fJ) 15,br (decide (t.bJ<1\/1000<t.bJ)) 3,jv 12 (fL t.cs.length) t.aF]
theorem D7{t:aC}(h:mc t=0):3<=t.cs.length/\t.cs.length<=12/\∀p∈t.cs,eZ p:=by
 rw[mc,nE]at h;have b:=h (br (decide ((t.cs.length:Int)<3)) 2) s_;have d:=h (br (decide (12<(t.cs.length:Int))) 5) s_;have a:=h (br (t.cs.any fg) 3) s_;refine⟨?_,?_,fun p e=>zS ?_⟩
 ·by_cases c:(t.cs.length:Int)<3
  ·simp[br,c]at b
  ·omega
 ·by_cases c:12<(t.cs.length:Int)
  ·simp[br,c]at d
  ·omega
 ·cases hf:fg p
  ·rfl
  ·have:t.cs.any fg=true:=dk.2 ⟨p,e,hf⟩;rw[this]at a;simp[br]at a
theorem vZ(t:aC):eg t=if mc t=0 then(if oh t=0 then jv 256 (gH t) t.au else oh t)else mc t:=by
 rw[eg,mc,oh,jv,jv]
 by_cases c1:t.cs.length<3
 ·have:(t.cs.length:Int)<3:=by omega
  simp[bZ,br,c1,this]
 have b:¬(t.cs.length:Int)<3:=o_
 by_cases c2:12<t.cs.length
 ·have:(12:Int)<t.cs.length:=by omega
  simp[bZ,br,c1,c2,b,this]
 have c:¬(12:Int)<t.cs.length:=o_
 generalize t.cs.any fg=a;cases a
 case true=>simp[bZ,br,c1,c2,b,c]
 cases t.fJ
 ·simp[bZ,br,c1,c2,b,c]
 by_cases c3:t.bJ<1\/1000<t.bJ
 ·simp[bZ,br,c1,c2,b,c,c3]
 by_cases c4:12<t.aF.length
 ·simp[bZ,br,c1,c2,b,c,c3,c4]
 generalize kP (fL t.cs.length) t.aF=e
 by_cases c5:e=0
 ·simp[bZ,br,c1,c2,b,c,c3,c4,c5]
 ·simp[bZ,br,c1,c2,b,c,c3,c4,c5]
theorem Eb(t:aC)(s:jf t):az prog 51 [dG t] (.int .i64 (eg t)):=by
 obtain⟨i,x,y,q,r⟩:=s;have k1:=jd (decide ((t.cs.length:Int)<3)) 2;have k2:=jd (decide (12<(t.cs.length:Int))) 5;have k3:=PW t.cs i;have k4:=jd (t.cs.any fg) 3;have k5:=rK [br (decide ((t.cs.length:Int)<3)) 2,br (decide (12<(t.cs.length:Int))) 5,br (t.cs.any fg) 3] s_;have j:=D7 (t:=t);rw[vZ];have u:=fun h:mc t=0=>Qq t (j h).1 i (j h).2.2;have v:=jd (!t.fJ) 15;have o:=fun b=>jd b 3;have l:=Qp t 12 i x q;have g:=rK [br (!t.fJ) 15,br (decide (t.bJ<1\/1000<t.bJ)) 3,jv 12 (fL t.cs.length) t.aF] s_;have m:=fun h:mc t=0=>Qo t 256 i (j h).2.2 y r;have d1:mc t=bZ [br (decide ((t.cs.length:Int)<3)) 2,br (decide (12<(t.cs.length:Int))) 5,br (t.cs.any fg) 3]:=rfl;have d2:oh t=bZ [br (!t.fJ) 15,br (decide (t.bJ<1\/1000<t.bJ)) 3,jv 12 (fL t.cs.length) t.aF]:=rfl;rw[<-d1]at k5;rw[<-d2]at g;clear d1 d2 j;generalize mc t=n at*;generalize oh t=f at*;generalize jv 12 (fL t.cs.length) t.aF=D at*;generalize jv 256 (gH t) t.au=K at*;generalize t.cs.any fg=E at*;generalize t.fJ=F at*;generalize G:br (decide ((t.cs.length:Int)<3)) 2=z at*;generalize H:br (decide (12<(t.cs.length:Int))) 5=A at*;generalize I:br E 3=B at*;generalize J:br (!F) 15=C at*;have k:∀b:Bool,decide (t.bJ<1\/1000<t.bJ)=b->az prog 57 [.bool b,.int .i64 3] (.int .i64 (br b 3))/\az prog 56 [.seq [.int .i64 C,.int .i64 (br b 3),.int .i64 D]] (.int .i64 f):=fun b p=>by
  rw[p]at g;exact⟨o b,by simpa using g⟩
 have w:az prog 56 [.seq [.int .i64 z,.int .i64 A,.int .i64 B]] (.int .i64 n):=by simpa using k5
 clear g o k5;refine aP nf (i_ func51) mix (by simp[f51]) ?_;simp[f51,ad];refine e2_ k1 ?_;simp[ad];refine e2_ k2 ?_;simp[ad];refine e2_ k3 ?_;simp[ad];refine e2_ k4 ?_;simp[ad];refine ep w (by simp;first|exact⟨rfl,rfl⟩|rfl) (by simp;first|exact⟨rfl,rfl⟩|rfl) ?_;simp[ad];refine⟨by repeat' first|rfl|apply am,?_⟩
 by_cases a:n=0
 case neg=>simp[a,ad]
 simp[a,ad];refine e1_ (u a) ?_;simp[ad];refine e2_ v ?_;simp[ad]
 by_cases r1:t.bJ<1
 ·have c:¬1<=t.bJ:=by omega
  obtain⟨f1,f2⟩:=k true (by simp[r1]);simp[r1,c,ad];refine e2_ f1 ?_;simp[r1,c,ad];refine e3_ l ?_;simp[r1,c,ad];refine ep f2 (by simp;first|exact⟨rfl,rfl⟩|rfl) (by simp;first|exact⟨rfl,rfl⟩|rfl) ?_;simp[r1,c,ad];refine⟨by repeat' first|rfl|apply am,?_⟩
  by_cases d:f=0
  case neg=>simp[a,d,ad]
  simp[a,d,ad];refine c3_ (m a) ?_;simp[a,d,ad]
 have c:1<=t.bJ:=o_
 by_cases r2:1000<t.bJ
 ·have e:¬t.bJ<=1000:=by omega
  obtain⟨f1,f2⟩:=k true (by simp[r1,r2]);simp[r1,c,r2,e,ad];refine e2_ f1 ?_;simp[r1,c,r2,e,ad];refine e3_ l ?_;simp[r1,c,r2,e,ad];refine ep f2 (by simp;first|exact⟨rfl,rfl⟩|rfl) (by simp;first|exact⟨rfl,rfl⟩|rfl) ?_;simp[r1,c,r2,e,ad];refine⟨by repeat' first|rfl|apply am,?_⟩
  by_cases d:f=0
  case neg=>simp[a,d,ad]
  simp[a,d,ad];refine c3_ (m a) ?_;simp[a,d,ad]
 ·have e:t.bJ<=1000:=by omega
  obtain⟨f1,f2⟩:=k false (by simp[r1,r2]);simp[r1,c,r2,e,ad];refine e2_ f1 ?_;simp[r1,c,r2,e,ad];refine e3_ l ?_;simp[r1,c,r2,e,ad];refine ep f2 (by simp;first|exact⟨rfl,rfl⟩|rfl) (by simp;first|exact⟨rfl,rfl⟩|rfl) ?_;simp[r1,c,r2,e,ad];refine⟨by repeat' first|rfl|apply am,?_⟩
  by_cases d:f=0
  case neg=>simp[a,d,ad]
  simp[a,d,ad];refine c3_ (m a) ?_;simp[a,d,ad]
def aC.aE3(t:aC)(i:Nat):NV:=(fI (t.at (t.nx i))).sub (fI (t.at i))
def NS.add(s t:NS):NS:=⟨s.a.add t.a,s.b.add t.b,s.d⟩
def NS.neg(s:NS):NS:=⟨s.a.neg,s.b.neg,s.d⟩
def NS.times(s:NS)(k:NF):NS:=⟨s.a.mul k,s.b.mul k,s.d⟩
def NB.gY(n:NB)(e:NV):NS:=⟨e.gY n.a,e.gY n.b,n.d⟩
def NS.plain(a d:NF):NS:=⟨a,.int 0,d⟩
def NS.norm(s:NS):NF:=(s.a.mul s.a).sub ((s.b.mul s.b).mul s.d)
open Classical in
noncomputable def NS.under(s:NS)(k:NF):NS:=if s.norm.q=0 then .plain (k.div (s.a.add s.a)) s.d else⟨(k.mul s.a).div s.norm,(k.mul s.b).neg.div s.norm,s.d⟩
theorem DA.mono{k l:Nat}{s:NS}(h:DA k s)(hl:k<=l):DA l s:=⟨h.1.mono hl,h.2.1.mono hl,h.2.2.mono hl⟩
def aC.pos(t:aC)(n:NB)(i:Nat):Bool:=decide (0<sgS ((n.gY (t.aE3 i)).neg).q)
theorem PY{t:aC}(h:eg t=0):3<=t.cs.length/\t.cs.length<=12/\(∀p∈t.cs,eZ p)/\t.fJ=true:=by
 rw[vZ]at h
 by_cases d:mc t=0
 ·rw[if_pos d]at h
  by_cases e:oh t=0
  ·obtain⟨a,b,c⟩:=D7 d;refine⟨a,b,c,?_⟩;rw[oh,nE]at e;have f:=e (br (!t.fJ) 15) s_;cases hc:t.fJ
   ·rw[hc]at f;simp[br]at f
   ·rfl
  ·rw[if_neg e]at h;exact(e h).elim
 ·rw[if_neg d]at h;exact(d h).elim
def aFh:PV:=.st 81 [.str [],.str []]
theorem n6(s:List Nat)(n:Int):az prog 39 [.str s,.int .i64 n] (.bool (decide ((s.length:Int)<=n))):=by
 refine aP nf (i_ func39) mix (by simp[f39]) ?_;simp[f39]
def jF(p:dy):Bool:=decide (p.name.length<=40)&&(decide (p.a.length<=40)&&decide (p.b.length<=40))
def jH(s:dP):Bool:=decide (s.name.length<=40)&&(decide (s.pt.x.length<=40)&&decide (s.pt.y.length<=40))
def n9(t:aC):Bool:=!(decide (14<t.cs.length)||(decide (14<t.aF.length)||((decide (8<t.au.length)&&decide (t.au.length<=256))||decide (258<t.au.length))))&&(t.aF.all jF&&t.au.all jH)
theorem v7{α:Type}{f:α->Bool}{l:List α}{i:Nat}{x:α}(h:l[i]?=some x):(l.take (i+1)).all f=((l.take i).all f&&f x):=by
 rw[ed,h];simp
theorem kO{α:Type}{f:α->Bool}{l:List α}{i:Nat}{x:α}(h:l[i]?=some x)(hf:f x=false):l.all f=false:=by
 cases a:l.all f
 ·rfl
 ·rw[fb]at a;rw[a x (c7 h)]at hf;cases hf
theorem Ql(t:aC)(B:t.cs.length<=1000000)(C:t.aF.length<=1000000)(D:t.au.length<=1000000):az prog 7 [ct t] (.bool (n9 t)):=by
 refine aP nf (i_ func7) mix (by simp[f7]) ?_;have s:n9 t=(!(decide (14<t.cs.length)||(decide (14<t.aF.length)||((decide (8<t.au.length)&&decide (t.au.length<=256))||decide (258<t.au.length))))&&(t.aF.all jF&&t.au.all jH)):=rfl
 by_cases c1:14<t.cs.length
 ·have q:(14:Int)<t.cs.length:=by omega
  have o:n9 t=false:=by rw[s];simp[c1]
  simp[f7,ad,q,o]
 have q:¬(14:Int)<t.cs.length:=o_
 by_cases c2:14<t.aF.length
 ·have r:(14:Int)<t.aF.length:=by omega
  have o:n9 t=false:=by rw[s];simp[c2]
  simp[f7,ad,q,r,o]
 have r:¬(14:Int)<t.aF.length:=o_
 have tail:(8<t.au.length->¬t.au.length<=256)->¬258<t.au.length->n9 t=(t.aF.all jF&&t.au.all jH):=fun A z=>by
  rw[s]
  by_cases h:8<t.au.length
  ·have:=A h;simp[c1,c2,h,this,z]
  ·simp[c1,c2,h,z]
 by_cases c3:8<t.au.length
 ·have u:(8:Int)<t.au.length:=by omega
  by_cases c4:t.au.length<=256
  ·have w:(t.au.length:Int)<=256:=by omega
   have o:n9 t=false:=by rw[s];simp[c3,c4]
   simp[f7,ad,q,r,u,w,o]
  ·have w:¬(t.au.length:Int)<=256:=by omega
   by_cases c5:258<t.au.length
   ·have v:(258:Int)<t.au.length:=by omega
    have o:n9 t=false:=by rw[s];simp[c5]
    simp[f7,ad,q,r,u,w,v,o]
   ·have v:¬(258:Int)<t.au.length:=by omega
    rw[tail (fun _=>c4) c5];simp[f7,ad,q,r,u,w,v];refine lp (α:=Nat) (fun i=>⟨[(3,.p (.int .i64 i)),(1,.ptr 0 [])],[.box false (.p (ct t))]⟩) (fun i=>i<=t.aF.length/\(t.aF.take i).all jF=true) (fun i=>t.aF.length-i) 0 s_ ?_;rintro i ⟨k1,k2⟩
    by_cases hi:i<t.aF.length
    ·have c:=aC.jc hi;have n:=b8 (i:=i) o_;have f:=n6 (t.pk i).a 40;have j:=n6 (t.pk i).b 40;have g:jF (t.pk i)=(decide ((t.pk i).name.length<=40)&&(decide ((t.pk i).a.length<=40)&&decide ((t.pk i).b.length<=40))):=rfl
     by_cases m:(t.pk i).name.length<=40
     ·have d:¬(40:Int)<(t.pk i).name.length:=by omega
      by_cases a2:(t.pk i).a.length<=40
      ·have k:((t.pk i).a.length:Int)<=40:=by omega
       rw[decide_eq_true k]at f
       by_cases a3:(t.pk i).b.length<=40
       ·have l:((t.pk i).b.length:Int)<=40:=by omega
        rw[decide_eq_true l]at j;have e:jF (t.pk i)=true:=by rw[g];simp[m,a2,a3]
        simp[hi,c,d,ad];refine c2_ f ?_;simp[hi,c,d,ad];refine c2_ j ?_;simp[hi,c,d,n,ad];exact rd (i+1) ⟨hi,by rw[v7 c,k2,e];rfl⟩
       ·have l:¬((t.pk i).b.length:Int)<=40:=by omega
        rw[decide_eq_false l]at j;have e:jF (t.pk i)=false:=by rw[g];simp[a3]
        rw[kO c e];simp[hi,c,d,ad];refine c2_ f ?_;simp[hi,c,d,ad];refine c2_ j ?_;simp[hi,c,d,n,ad]
      ·have k:¬((t.pk i).a.length:Int)<=40:=by omega
       rw[decide_eq_false k]at f;have e:jF (t.pk i)=false:=by rw[g];simp[a2]
       rw[kO c e];simp[hi,c,d,ad];refine c2_ f ?_;simp[hi,c,d,ad]
     ·have d:(40:Int)<(t.pk i).name.length:=by omega
      have e:jF (t.pk i)=false:=by rw[g];simp[m]
      rw[kO c e];simp[hi,c,d,ad]
    have:i=t.aF.length:=o_
    subst this;rw[c8]at k2;rw[k2,a1];simp[ad];refine lp (α:=Nat) (fun i=>⟨[(4,.p (.int .i64 i)),(1,.ptr 0 [])],[.box false (.p (ct t))]⟩) (fun i=>i<=t.au.length/\(t.au.take i).all jH=true) (fun i=>t.au.length-i) 0 s_ ?_;rintro i ⟨k1,k2⟩
    by_cases hi:i<t.au.length
    ·have c:=aC.iN hi;have n:=b8 (i:=i) o_;have f:=n6 (t.sp i).pt.x 40;have j:=n6 (t.sp i).pt.y 40;have g:jH (t.sp i)=(decide ((t.sp i).name.length<=40)&&(decide ((t.sp i).pt.x.length<=40)&&decide ((t.sp i).pt.y.length<=40))):=rfl
     by_cases m:(t.sp i).name.length<=40
     ·have d:¬(40:Int)<(t.sp i).name.length:=by omega
      by_cases a2:(t.sp i).pt.x.length<=40
      ·have k:((t.sp i).pt.x.length:Int)<=40:=by omega
       rw[decide_eq_true k]at f
       by_cases a3:(t.sp i).pt.y.length<=40
       ·have l:((t.sp i).pt.y.length:Int)<=40:=by omega
        rw[decide_eq_true l]at j;have e:jH (t.sp i)=true:=by rw[g];simp[m,a2,a3]
        simp[hi,c,d,ad];refine c2_ f ?_;simp[hi,c,d,ad];refine c2_ j ?_;simp[hi,c,d,n,ad];exact rd (i+1) ⟨hi,by rw[v7 c,k2,e];rfl⟩
       ·have l:¬((t.sp i).pt.y.length:Int)<=40:=by omega
        rw[decide_eq_false l]at j;have e:jH (t.sp i)=false:=by rw[g];simp[a3]
        rw[kO c e];simp[hi,c,d,ad];refine c2_ f ?_;simp[hi,c,d,ad];refine c2_ j ?_;simp[hi,c,d,n,ad]
      ·have k:¬((t.sp i).pt.x.length:Int)<=40:=by omega
       rw[decide_eq_false k]at f;have e:jH (t.sp i)=false:=by rw[g];simp[a2]
       rw[kO c e];simp[hi,c,d,ad];refine c2_ f ?_;simp[hi,c,d,ad]
     ·have d:(40:Int)<(t.sp i).name.length:=by omega
      have e:jH (t.sp i)=false:=by rw[g];simp[m]
      rw[kO c e];simp[hi,c,d,ad]
    have:i=t.au.length:=o_
    subst this;rw[c8]at k2;rw[k2];simp[ad]
 ·have u:¬(8:Int)<t.au.length:=by omega
  have v:¬(258:Int)<t.au.length:=o_
  rw[tail (fun h=>absurd h c3) o_];simp[f7,ad,q,r,u,v];refine lp (α:=Nat) (fun i=>⟨[(3,.p (.int .i64 i)),(1,.ptr 0 [])],[.box false (.p (ct t))]⟩) (fun i=>i<=t.aF.length/\(t.aF.take i).all jF=true) (fun i=>t.aF.length-i) 0 s_ ?_;rintro i ⟨k1,k2⟩
  by_cases hi:i<t.aF.length
  ·have c:=aC.jc hi;have n:=b8 (i:=i) o_;have f:=n6 (t.pk i).a 40;have j:=n6 (t.pk i).b 40;have g:jF (t.pk i)=(decide ((t.pk i).name.length<=40)&&(decide ((t.pk i).a.length<=40)&&decide ((t.pk i).b.length<=40))):=rfl
   by_cases m:(t.pk i).name.length<=40
   ·have d:¬(40:Int)<(t.pk i).name.length:=by omega
    by_cases a2:(t.pk i).a.length<=40
    ·have k:((t.pk i).a.length:Int)<=40:=by omega
     rw[decide_eq_true k]at f
     by_cases a3:(t.pk i).b.length<=40
     ·have l:((t.pk i).b.length:Int)<=40:=by omega
      rw[decide_eq_true l]at j;have e:jF (t.pk i)=true:=by rw[g];simp[m,a2,a3]
      simp[hi,c,d,ad];refine c2_ f ?_;simp[hi,c,d,ad];refine c2_ j ?_;simp[hi,c,d,n,ad];exact rd (i+1) ⟨hi,by rw[v7 c,k2,e];rfl⟩
     ·have l:¬((t.pk i).b.length:Int)<=40:=by omega
      rw[decide_eq_false l]at j;have e:jF (t.pk i)=false:=by rw[g];simp[a3]
      rw[kO c e];simp[hi,c,d,ad];refine c2_ f ?_;simp[hi,c,d,ad];refine c2_ j ?_;simp[hi,c,d,n,ad]
    ·have k:¬((t.pk i).a.length:Int)<=40:=by omega
     rw[decide_eq_false k]at f;have e:jF (t.pk i)=false:=by rw[g];simp[a2]
     rw[kO c e];simp[hi,c,d,ad];refine c2_ f ?_;simp[hi,c,d,ad]
   ·have d:(40:Int)<(t.pk i).name.length:=by omega
    have e:jF (t.pk i)=false:=by rw[g];simp[m]
    rw[kO c e];simp[hi,c,d,ad]
  have:i=t.aF.length:=o_
  subst this;rw[c8]at k2;rw[k2,a1];simp[ad];refine lp (α:=Nat) (fun i=>⟨[(4,.p (.int .i64 i)),(1,.ptr 0 [])],[.box false (.p (ct t))]⟩) (fun i=>i<=t.au.length/\(t.au.take i).all jH=true) (fun i=>t.au.length-i) 0 s_ ?_;rintro i ⟨k1,k2⟩
  by_cases hi:i<t.au.length
  ·have c:=aC.iN hi;have n:=b8 (i:=i) o_;have f:=n6 (t.sp i).pt.x 40;have j:=n6 (t.sp i).pt.y 40;have g:jH (t.sp i)=(decide ((t.sp i).name.length<=40)&&(decide ((t.sp i).pt.x.length<=40)&&decide ((t.sp i).pt.y.length<=40))):=rfl
   by_cases m:(t.sp i).name.length<=40
   ·have d:¬(40:Int)<(t.sp i).name.length:=by omega
    by_cases a2:(t.sp i).pt.x.length<=40
    ·have k:((t.sp i).pt.x.length:Int)<=40:=by omega
     rw[decide_eq_true k]at f
     by_cases a3:(t.sp i).pt.y.length<=40
     ·have l:((t.sp i).pt.y.length:Int)<=40:=by omega
      rw[decide_eq_true l]at j;have e:jH (t.sp i)=true:=by rw[g];simp[m,a2,a3]
      simp[hi,c,d,ad];refine c2_ f ?_;simp[hi,c,d,ad];refine c2_ j ?_;simp[hi,c,d,n,ad];exact rd (i+1) ⟨hi,by rw[v7 c,k2,e];rfl⟩
     ·have l:¬((t.sp i).pt.y.length:Int)<=40:=by omega
      rw[decide_eq_false l]at j;have e:jH (t.sp i)=false:=by rw[g];simp[a3]
      rw[kO c e];simp[hi,c,d,ad];refine c2_ f ?_;simp[hi,c,d,ad];refine c2_ j ?_;simp[hi,c,d,n,ad]
    ·have k:¬((t.sp i).pt.x.length:Int)<=40:=by omega
     rw[decide_eq_false k]at f;have e:jH (t.sp i)=false:=by rw[g];simp[a2]
     rw[kO c e];simp[hi,c,d,ad];refine c2_ f ?_;simp[hi,c,d,ad]
   ·have d:(40:Int)<(t.sp i).name.length:=by omega
    have e:jH (t.sp i)=false:=by rw[g];simp[m]
    rw[kO c e];simp[hi,c,d,ad]
  have:i=t.au.length:=o_
  subst this;rw[c8]at k2;rw[k2];simp[ad]
theorem R7(l:List dm):fc prog 2 (l.map (AV.p∘bw)):=BQ (fun r=>⟨by simp[ad],by simp[ad]⟩) l
theorem mQ{α:Type}{f:α->AV}{l:List α}{j:Nat}{x:α}(h:l[j+1]?=some x):(l.take (j+1+1)).map f=(l.map f).take (j+1)++[f x]:=by
 rw[ed (i:=j+1),h,gg,fv];rfl
theorem iG{N:Nat×Nat->Prop}{α:Type}{f:α->PV}{k:Nat}{l:List α}:aR N ((l.map (AV.p∘f)).take k)=True:=by
 rw[cH,eq_iff_iff,iff_true];intro x hx;obtain⟨a,_,rfl⟩:=et.1 (eb hx);trivial
theorem od:eQ=bY:=rfl
theorem oc:gq=bO:=rfl
theorem mR{α:Type}{l:List α}{x:α}(h:l[0]?=some x):l.take 1=[x]:=by
 rw[ed (i:=0),h];rfl
theorem Qr(t:aC)(u:t.cs.length<=1000000)(v:t.aF.length<=1000000)(w:t.au.length<=1000000):az prog 11 [ct t] (dG t):=by
 have s:(1000000:Nat)<cF:=by decide
 have o:bo.wrap 1=1:=by decide
 refine aP nf (i_ func11) mix (by simp[f11]) ?_;simp[f11,ad];refine⟨⟨R7 _,o_⟩,?_⟩
 by_cases hc:t.cs=[]
 ·simp[hc];refine⟨⟨by repeat' first|rfl|apply am,by repeat' first|rfl|apply am⟩,?_⟩;refine lp (α:=Nat) (fun i=>match i with
    |0=>⟨[(18,.p (.int .i64 0)),(17,.p (.int .i64 t.aF.length)),(16,.p (.seq (t.aF.map bY))),(3,.ptr 3 []),(2,.ptr 1 []),(1,.ptr 0 [])],[.box false (.p (ct t)),.box false (.p (.st 35 [.aK,.int .i64 0,.aK,.aK])),.arr .exact 0 2 [],.box false (.st 35 [.sl 2 0 2 0 0,.p (.int .i64 t.bJ),.p .aK,.p .aK])]⟩
    |m+1=>⟨[(18,.p (.int .i64 ((m+1:Nat):Int))),(17,.p (.int .i64 t.aF.length)),(16,.p (.seq (t.aF.map bY))),(3,.ptr 3 []),(2,.ptr 1 []),(1,.ptr 0 [])],[.box false (.p (ct t)),.box false (.p (.st 35 [.aK,.int .i64 0,.aK,.aK])),.arr .exact 0 2 [],.box false (.st 35 [.sl 2 0 2 0 0,.p (.int .i64 t.bJ),.sl 6 m 4 0 (m+1),.p .aK]),.hole,.hole,.arr .grow m 4 ((t.aF.take (m+1)).map (AV.p∘bY))]⟩) (fun i=>i<=t.aF.length) (fun i=>t.aF.length-i) 0 s_ ?_
  rintro i q
  by_cases hi:i<t.aF.length
  ·have a:=aC.jc hi;rcases i with _|j
   ·have b:=mR a;simp[hi,a,o,ad];exact⟨o_,rd 1 hi (hh:=by simp[b]) (hr2:=by simp[iG])⟩
   ·have h:bo.wrap ((j:Int)+1+1)=(j:Int)+1+1:=aN _ o_ o_;have hI:(j:Int)+1<t.aF.length:=by omega
    have b:=mQ (f:=AV.p∘bY) a;simp[hi,hI,a,h,ad];exact⟨o_,⟨o_,o_⟩,rd (j+2) hi (hh:=by simp at b;simp[b]) (hr2:=by simp[iG])⟩
  have r:i=t.aF.length:=o_
  rcases i with _|j
  ·have n:t.aF=[]:=da.1 r.symm;simp[n,ad];refine lp (α:=Nat) (fun i=>match i with
     |0=>⟨[(32,.p (.int .i64 0)),(31,.p (.int .i64 t.au.length)),(30,.p (.seq (t.au.map bO))),(3,.ptr 3 []),(2,.ptr 1 []),(1,.ptr 0 [])],[.box false (.p (ct t)),.box false (.p (.st 35 [.aK,.int .i64 0,.aK,.aK])),.arr .exact 0 2 [],.box false (.st 35 [.sl 2 0 2 0 0,.p (.int .i64 t.bJ),.p .aK,.p .aK])]⟩
     |m+1=>⟨[(32,.p (.int .i64 ((m+1:Nat):Int))),(31,.p (.int .i64 t.au.length)),(30,.p (.seq (t.au.map bO))),(3,.ptr 3 []),(2,.ptr 1 []),(1,.ptr 0 [])],[.box false (.p (ct t)),.box false (.p (.st 35 [.aK,.int .i64 0,.aK,.aK])),.arr .exact 0 2 [],.box false (.st 35 [.sl 2 0 2 0 0,.p (.int .i64 t.bJ),.p .aK,.sl 6 m 3 0 (m+1)]),.hole,.hole,.arr .grow m 3 ((t.au.take (m+1)).map (AV.p∘bO))]⟩) (fun i=>i<=t.au.length) (fun i=>t.au.length-i) 0 s_ ?_
   rintro i q
   by_cases hi:i<t.au.length
   ·have a:=aC.iN hi;rcases i with _|j
    ·have b:=mR a;simp[hi,a,o,ad];exact⟨o_,rd 1 hi (hh:=by simp[b]) (hr2:=by simp[iG])⟩
    ·have h:bo.wrap ((j:Int)+1+1)=(j:Int)+1+1:=aN _ o_ o_;have hI:(j:Int)+1<t.au.length:=by omega
     have b:=mQ (f:=AV.p∘bO) a;simp[hi,hI,a,h,ad];exact⟨o_,⟨o_,o_⟩,rd (j+2) hi (hh:=by simp at b;simp[b]) (hr2:=by simp[iG])⟩
   have d:i=t.au.length:=o_
   rcases i with _|c
   ·have e:t.au=[]:=da.1 d.symm;simp[e,ad];simp[dG,hc,n,e,od,oc]
   ·have hI:¬((c:Int)+1<t.au.length):=by omega
    have g:t.au.take (c+1)=t.au:=by rw[d,c8]
    simp[hI,g,ad];have l:(t.au.map (AV.p∘bO)).take (c+1)=t.au.map (AV.p∘bO):=c6 (by simp;omega);simp[dG,hc,n,l,od,oc];omega
  ·have hI:¬((j:Int)+1<t.aF.length):=by omega
   have g:t.aF.take (j+1)=t.aF:=by rw[r,c8]
   simp[hI,g,ad];refine lp (α:=Nat) (fun i=>match i with
    |0=>⟨[(32,.p (.int .i64 0)),(31,.p (.int .i64 t.au.length)),(30,.p (.seq (t.au.map bO))),(3,.ptr 3 []),(2,.ptr 1 []),(1,.ptr 0 [])],[.box false (.p (ct t)),.box false (.p (.st 35 [.aK,.int .i64 0,.aK,.aK])),.arr .exact 0 2 [],.box false (.st 35 [.sl 2 0 2 0 0,.p (.int .i64 t.bJ),.sl 6 j 4 0 (j+1),.p .aK]),.hole,.hole,.arr .grow j 4 (t.aF.map (AV.p∘bY))]⟩
    |m+1=>⟨[(32,.p (.int .i64 ((m+1:Nat):Int))),(31,.p (.int .i64 t.au.length)),(30,.p (.seq (t.au.map bO))),(3,.ptr 3 []),(2,.ptr 1 []),(1,.ptr 0 [])],[.box false (.p (ct t)),.box false (.p (.st 35 [.aK,.int .i64 0,.aK,.aK])),.arr .exact 0 2 [],.box false (.st 35 [.sl 2 0 2 0 0,.p (.int .i64 t.bJ),.sl 6 j 4 0 (j+1),.sl 9 m 3 0 (m+1)]),.hole,.hole,.arr .grow j 4 (t.aF.map (AV.p∘bY)),.hole,.hole,.arr .grow m 3 ((t.au.take (m+1)).map (AV.p∘bO))]⟩) (fun i=>i<=t.au.length) (fun i=>t.au.length-i) 0 s_ ?_
   rintro i q
   by_cases hi:i<t.au.length
   ·have a:=aC.iN hi;rcases i with _|j
    ·have b:=mR a;simp[hi,a,o,ad];exact⟨o_,rd 1 hi (hh:=by simp[b]) (hr2:=by simp[iG])⟩
    ·have h:bo.wrap ((j:Int)+1+1)=(j:Int)+1+1:=aN _ o_ o_;have hI:(j:Int)+1<t.au.length:=by omega
     have b:=mQ (f:=AV.p∘bO) a;simp[hi,hI,a,h,ad];exact⟨o_,⟨o_,o_⟩,rd (j+2) hi (hh:=by simp at b;simp[b]) (hr2:=by simp[iG])⟩
   have d:i=t.au.length:=o_
   rcases i with _|c
   ·have e:t.au=[]:=da.1 d.symm;simp[e,ad];have k:(t.aF.map (AV.p∘bY)).take (j+1)=t.aF.map (AV.p∘bY):=c6 (by simp;omega);simp[dG,hc,k,e,od,oc];omega
   ·have hI:¬((c:Int)+1<t.au.length):=by omega
    have g:t.au.take (c+1)=t.au:=by rw[d,c8]
    simp[hI,g,ad];have k:(t.aF.map (AV.p∘bY)).take (j+1)=t.aF.map (AV.p∘bY):=c6 (by simp;omega);have l:(t.au.map (AV.p∘bO)).take (c+1)=t.au.map (AV.p∘bO):=c6 (by simp;omega);simp[dG,hc,k,l,od,oc];omega
 ·simp[hc];refine⟨⟨by repeat' first|rfl|apply am,by repeat' first|rfl|apply am⟩,?_⟩;refine lp (α:=Nat) (fun i=>match i with
    |0=>⟨[(18,.p (.int .i64 0)),(17,.p (.int .i64 t.aF.length)),(16,.p (.seq (t.aF.map bY))),(3,.ptr 4 []),(2,.ptr 1 []),(1,.ptr 0 [])],[.box false (.p (ct t)),.box false (.p (.st 35 [.aK,.int .i64 0,.aK,.aK])),.arr .exact 0 2 [],.arr .grow 0 2 (t.cs.map (AV.p∘bw)),.box false (.st 35 [.sl 3 0 2 0 t.cs.length,.p (.int .i64 t.bJ),.p .aK,.p .aK])]⟩
    |m+1=>⟨[(18,.p (.int .i64 ((m+1:Nat):Int))),(17,.p (.int .i64 t.aF.length)),(16,.p (.seq (t.aF.map bY))),(3,.ptr 4 []),(2,.ptr 1 []),(1,.ptr 0 [])],[.box false (.p (ct t)),.box false (.p (.st 35 [.aK,.int .i64 0,.aK,.aK])),.arr .exact 0 2 [],.arr .grow 0 2 (t.cs.map (AV.p∘bw)),.box false (.st 35 [.sl 3 0 2 0 t.cs.length,.p (.int .i64 t.bJ),.sl 7 m 4 0 (m+1),.p .aK]),.hole,.hole,.arr .grow m 4 ((t.aF.take (m+1)).map (AV.p∘bY))]⟩) (fun i=>i<=t.aF.length) (fun i=>t.aF.length-i) 0 s_ ?_
  rintro i q
  by_cases hi:i<t.aF.length
  ·have a:=aC.jc hi;rcases i with _|j
   ·have b:=mR a;simp[hi,a,o,ad];exact⟨o_,rd 1 hi (hh:=by simp[b]) (hr2:=by simp[iG])⟩
   ·have h:bo.wrap ((j:Int)+1+1)=(j:Int)+1+1:=aN _ o_ o_;have hI:(j:Int)+1<t.aF.length:=by omega
    have b:=mQ (f:=AV.p∘bY) a;simp[hi,hI,a,h,ad];exact⟨o_,⟨o_,o_⟩,rd (j+2) hi (hh:=by simp at b;simp[b]) (hr2:=by simp[iG])⟩
  have r:i=t.aF.length:=o_
  rcases i with _|j
  ·have n:t.aF=[]:=da.1 r.symm;simp[n,ad];refine lp (α:=Nat) (fun i=>match i with
     |0=>⟨[(32,.p (.int .i64 0)),(31,.p (.int .i64 t.au.length)),(30,.p (.seq (t.au.map bO))),(3,.ptr 4 []),(2,.ptr 1 []),(1,.ptr 0 [])],[.box false (.p (ct t)),.box false (.p (.st 35 [.aK,.int .i64 0,.aK,.aK])),.arr .exact 0 2 [],.arr .grow 0 2 (t.cs.map (AV.p∘bw)),.box false (.st 35 [.sl 3 0 2 0 t.cs.length,.p (.int .i64 t.bJ),.p .aK,.p .aK])]⟩
     |m+1=>⟨[(32,.p (.int .i64 ((m+1:Nat):Int))),(31,.p (.int .i64 t.au.length)),(30,.p (.seq (t.au.map bO))),(3,.ptr 4 []),(2,.ptr 1 []),(1,.ptr 0 [])],[.box false (.p (ct t)),.box false (.p (.st 35 [.aK,.int .i64 0,.aK,.aK])),.arr .exact 0 2 [],.arr .grow 0 2 (t.cs.map (AV.p∘bw)),.box false (.st 35 [.sl 3 0 2 0 t.cs.length,.p (.int .i64 t.bJ),.p .aK,.sl 7 m 3 0 (m+1)]),.hole,.hole,.arr .grow m 3 ((t.au.take (m+1)).map (AV.p∘bO))]⟩) (fun i=>i<=t.au.length) (fun i=>t.au.length-i) 0 s_ ?_
   rintro i q
   by_cases hi:i<t.au.length
   ·have a:=aC.iN hi;rcases i with _|j
    ·have b:=mR a;simp[hi,a,o,ad];exact⟨o_,rd 1 hi (hh:=by simp[b]) (hr2:=by simp[iG])⟩
    ·have h:bo.wrap ((j:Int)+1+1)=(j:Int)+1+1:=aN _ o_ o_;have hI:(j:Int)+1<t.au.length:=by omega
     have b:=mQ (f:=AV.p∘bO) a;simp[hi,hI,a,h,ad];exact⟨o_,⟨o_,o_⟩,rd (j+2) hi (hh:=by simp at b;simp[b]) (hr2:=by simp[iG])⟩
   have d:i=t.au.length:=o_
   rcases i with _|c
   ·have e:t.au=[]:=da.1 d.symm;simp[e,ad];simp[dG,hc,n,e,od,oc]
   ·have hI:¬((c:Int)+1<t.au.length):=by omega
    have g:t.au.take (c+1)=t.au:=by rw[d,c8]
    simp[hI,g,ad];have l:(t.au.map (AV.p∘bO)).take (c+1)=t.au.map (AV.p∘bO):=c6 (by simp;omega);simp[dG,hc,n,l,od,oc];omega
  ·have hI:¬((j:Int)+1<t.aF.length):=by omega
   have g:t.aF.take (j+1)=t.aF:=by rw[r,c8]
   simp[hI,g,ad];refine lp (α:=Nat) (fun i=>match i with
    |0=>⟨[(32,.p (.int .i64 0)),(31,.p (.int .i64 t.au.length)),(30,.p (.seq (t.au.map bO))),(3,.ptr 4 []),(2,.ptr 1 []),(1,.ptr 0 [])],[.box false (.p (ct t)),.box false (.p (.st 35 [.aK,.int .i64 0,.aK,.aK])),.arr .exact 0 2 [],.arr .grow 0 2 (t.cs.map (AV.p∘bw)),.box false (.st 35 [.sl 3 0 2 0 t.cs.length,.p (.int .i64 t.bJ),.sl 7 j 4 0 (j+1),.p .aK]),.hole,.hole,.arr .grow j 4 (t.aF.map (AV.p∘bY))]⟩
    |m+1=>⟨[(32,.p (.int .i64 ((m+1:Nat):Int))),(31,.p (.int .i64 t.au.length)),(30,.p (.seq (t.au.map bO))),(3,.ptr 4 []),(2,.ptr 1 []),(1,.ptr 0 [])],[.box false (.p (ct t)),.box false (.p (.st 35 [.aK,.int .i64 0,.aK,.aK])),.arr .exact 0 2 [],.arr .grow 0 2 (t.cs.map (AV.p∘bw)),.box false (.st 35 [.sl 3 0 2 0 t.cs.length,.p (.int .i64 t.bJ),.sl 7 j 4 0 (j+1),.sl 10 m 3 0 (m+1)]),.hole,.hole,.arr .grow j 4 (t.aF.map (AV.p∘bY)),.hole,.hole,.arr .grow m 3 ((t.au.take (m+1)).map (AV.p∘bO))]⟩) (fun i=>i<=t.au.length) (fun i=>t.au.length-i) 0 s_ ?_
   rintro i q
   by_cases hi:i<t.au.length
   ·have a:=aC.iN hi;rcases i with _|j
    ·have b:=mR a;simp[hi,a,o,ad];exact⟨o_,rd 1 hi (hh:=by simp[b]) (hr2:=by simp[iG])⟩
    ·have h:bo.wrap ((j:Int)+1+1)=(j:Int)+1+1:=aN _ o_ o_;have hI:(j:Int)+1<t.au.length:=by omega
     have b:=mQ (f:=AV.p∘bO) a;simp[hi,hI,a,h,ad];exact⟨o_,⟨o_,o_⟩,rd (j+2) hi (hh:=by simp at b;simp[b]) (hr2:=by simp[iG])⟩
   have d:i=t.au.length:=o_
   rcases i with _|c
   ·have e:t.au=[]:=da.1 d.symm;simp[e,ad];have k:(t.aF.map (AV.p∘bY)).take (j+1)=t.aF.map (AV.p∘bY):=c6 (by simp;omega);simp[dG,hc,k,e,od,oc];omega
   ·have hI:¬((c:Int)+1<t.au.length):=by omega
    have g:t.au.take (c+1)=t.au:=by rw[d,c8]
    simp[hI,g,ad];have k:(t.aF.map (AV.p∘bY)).take (j+1)=t.aF.map (AV.p∘bY):=c6 (by simp;omega);have l:(t.au.map (AV.p∘bO)).take (c+1)=t.au.map (AV.p∘bO):=c6 (by simp;omega);simp[dG,hc,k,l,od,oc];omega
theorem Qy{t:aC}(h:eg t=0):1<=t.bJ/\t.bJ<=1000:=by
 rw[eg]at h
 split at h
 ·omega
 split at h
 ·omega
 split at h
 ·omega
 split at h
 ·omega
 split at h
 ·omega
 omega
theorem aES{s:im}(h:fV s=0):eV (vP s)=ff s/\fj 2000 (vP s):=by
 obtain⟨g1,g2⟩:=pO h;refine⟨?_,iF g1,iF g2⟩;rw[eV,vP];dsimp only;rw[(kg g1).1,(kg g2).1]
def aAg(p:dP):Prop:=tE p/\fV p.pt=0
def N9(l:List dP)(n:List Nat):Option dP:=l.find? (fun s=>decide (s.name=n))
structure okL(b:aC):Prop where
 sl:b.au.length<=24
 sp:∀s∈b.au,aAg s
 ne:∀i,i<b.au.length->N9 (b.au.take i) (b.sp i).name=none
def hasB(b:aC)(name:List Nat)(i:Nat):Prop:=mO b name=i/\i<b.au.length/\N9 b.au name=some (b.sp i)
structure O6(t b:aC)(Da C4:List Nat)(i j:Nat):Prop where
 rG:eg t=0
 tl:t.cs.length<=1000000
 L:okL b
 WM:∀s∈b.au,fj 60 (vP s.pt)
 ci:hasB b Da i
 bj:hasB b C4 j
theorem O6.at{t b:aC}{Da C4:List Nat}{i j:Nat}(h:O6 t b Da C4 i j){k:Nat}(hk:k<b.au.length):eV (vP (b.sp k).pt)=ff (b.sp k).pt/\fj 60 (vP (b.sp k).pt):=by
 have m:=c7 (aC.iN hk);exact⟨(aES (h.L.sp _ m).2).1,h.WM _ m⟩
def aC.shr(t:aC)(i:Nat)(v:V2):Rat:=((v.sub (jG (t.at i))).dot (t.kK i))/((t.kK i).dot (t.kK i))
def aC.pv(t:aC)(i:Nat):Nat:=(i+t.cs.length-1)% t.cs.length
theorem aBL{t:aC}(h:eg t=0){j:Nat}(c:j<t.aF.length):fL t.cs.length (t.aF.take j) (t.pk j)=0:=by
 rw[vZ]at h
 split at h
 case isFalse=>contradiction
 split at h
 case isFalse=>contradiction
 rename_i d b;rw[oh,nE]at b;have a:=b (jv 12 (fL t.cs.length) t.aF) s_;rw[jv]at a
 split at a
 ·cases a
 have:=n8.1 a j c
 rwa [iq,aC.jc c]at this
theorem aDv{t:aC}(h:eg t=0){j:Nat}(a:j<t.au.length):gH t (t.au.take j) (t.sp j)=0:=by
 rw[vZ]at h
 split at h
 case isFalse=>contradiction
 split at h
 case isFalse=>contradiction
 rw[jv]at h
 split at h
 ·cases h
 have:=n8.1 h j a
 rwa [iq,aC.iN a]at this
@[simp] theorem aIs:aL aFh=.agg 81:=rfl
def zL:PV:=.st 162 [.int .i64 0,.aK]
def zTV:PV:=.st 166 [.st 164 [zL,zL],.st 164 [zL,zL]]
@[simp] theorem aIr:aL zTV=.agg 166:=rfl
def DM(v:V2):Nat->V2
 |0=>v
 |k+1=>⟨-(DM v k).y,(DM v k).x⟩
structure ga where
 rr:Bool
 qs:Int
 kK:dm
def N6(m:ga):PV:=.st 65 [.bool m.rr,.int .i64 m.qs,bw m.kK]
@[simp] theorem aH3(m:ga):aL (N6 m)=.agg 65:=rfl
@[simp] theorem aGw(m:ga):cA (N6 m)=[.bool m.rr,.int .i64 m.qs,bw m.kK]:=rfl
def ga.n(m:ga):Nat:=((m.qs.tmod 4+4).tmod 4).toNat
def zD(p:dm):Nat->dm
 |0=>p
 |k+1=>⟨-(zD p k).y,(zD p k).x⟩
def ga.O0(m:ga)(p:dm):dm:=if m.rr then⟨-p.x,p.y⟩else p
def ga.pt(m:ga)(p:dm):dm:=⟨(zD (m.O0 p) m.n).x+m.kK.x,(zD (m.O0 p) m.n).y+m.kK.y⟩
def ga.az7(m:ga)(v:V2):V2:=if m.rr then⟨-v.x,v.y⟩else v
def ga.pl(m:ga)(v:V2):V2:=(DM (m.az7 v) m.n).add (jG m.kK)
def ga.sp(m:ga)(s:dP):dP:=⟨s.name,plV (m.pl (vP s.pt))⟩
def aCP(n:Nat)(p:dy):dy:=⟨p.name,n-1-p.dw,bK (1-aY p.b),bK (1-aY p.a)⟩
def ga.src(m:ga)(n i:Nat):Nat:=if m.rr then(if i=0 then 0 else n-i)else i
def ga.cs(m:ga)(t:aC):List dm:=(gb t.cs.length).map (fun i=>m.pt (t.at (m.src t.cs.length i)))
def ga.aF(m:ga)(t:aC):List dy:=if m.rr then t.aF.map (aCP t.cs.length)else t.aF
def az3(a b:dm):Bool:=decide (a.x<b.x)||(decide (a.x=b.x)&&decide (a.y<b.y))
def aC.bE(t:aC):Nat->Nat
 |0=>0
 |i+1=>if az3 (t.at i) (t.at (t.bE i))=true then i else t.bE i
def aC.L(t:aC):Nat:=t.bE t.cs.length
theorem aBP{t:aC}(h:eg t=0):t.aF.length<=12/\t.au.length<=256:=by
 rw[eg]at h
 split at h
 ·cases h
 split at h
 ·cases h
 split at h
 ·cases h
 split at h
 ·cases h
 split at h
 ·cases h
 split at h
 ·cases h
 rename_i b
 split at h
 ·rename_i a;exact absurd h a
 split at h
 ·cases h
 ·omega
theorem Xi(t:aC)(v:t.aF.length<=1000000)(w:t.au.length<=1000000):az prog 17 [dG t] (ct t):=by
 have u:(1000000:Nat)<cF:=by decide
 have o:bo.wrap 1=1:=by decide
 rw[show dG t=.st 35 [.seq (t.cs.map bw),.int .i64 t.bJ,.seq (t.aF.map bY),.seq (t.au.map bO)]from rfl];refine aP nf (i_ func17) mix (by simp[f17]) ?_;simp[f17,ad];refine lp (α:=Nat) (fun i=>match i with
  |0=>⟨[(16,.p (.int .i64 0)),(15,.p (.int .i64 t.aF.length)),(14,.p (.seq (t.aF.map bY))),(3,.ptr 2 []),(2,.ptr 1 []),(1,.ptr 0 [])],[.box false (.p (.st 35 [.seq (t.cs.map bw),.int .i64 t.bJ,.seq (t.aF.map bY),.seq (t.au.map bO)])),.box false (.p (.st 25 [.aK,.int .i64 0,.aK,.aK])),.box false (.p (.st 25 [.seq (t.cs.map bw),.int .i64 t.bJ,.aK,.aK]))]⟩
  |m+1=>⟨[(16,.p (.int .i64 ((m+1:Nat):Int))),(15,.p (.int .i64 t.aF.length)),(14,.p (.seq (t.aF.map bY))),(3,.ptr 2 []),(2,.ptr 1 []),(1,.ptr 0 [])],[.box false (.p (.st 35 [.seq (t.cs.map bw),.int .i64 t.bJ,.seq (t.aF.map bY),.seq (t.au.map bO)])),.box false (.p (.st 25 [.aK,.int .i64 0,.aK,.aK])),.box false (.st 25 [.p (.seq (t.cs.map bw)),.p (.int .i64 t.bJ),.sl 5 m 4 0 (m+1),.p .aK]),.hole,.hole,.arr .grow m 4 ((t.aF.take (m+1)).map (AV.p∘bY))]⟩) (fun i=>i<=t.aF.length) (fun i=>t.aF.length-i) 0 s_ ?_
 rintro i r
 by_cases hi:i<t.aF.length
 ·have a:=aC.jc hi;rcases i with _|j
  ·have b:=mR a;simp[hi,a,o,ad];exact⟨o_,rd 1 hi (hh:=by simp[b]) (hr2:=by simp[iG])⟩
  ·have h:bo.wrap ((j:Int)+1+1)=(j:Int)+1+1:=aN _ o_ o_;have hI:(j:Int)+1<t.aF.length:=by omega
   have b:=mQ (f:=AV.p∘bY) a;simp[hi,hI,a,h,ad];exact⟨o_,⟨o_,o_⟩,rd (j+2) hi (hh:=by simp at b;simp[b]) (hr2:=by simp[iG])⟩
 have s:i=t.aF.length:=o_
 rcases i with _|j
 ·have k:t.aF=[]:=da.1 s.symm;simp[k,ad];refine lp (α:=Nat) (fun i=>match i with
    |0=>⟨[(30,.p (.int .i64 0)),(29,.p (.int .i64 t.au.length)),(28,.p (.seq (t.au.map bO))),(3,.ptr 2 []),(2,.ptr 1 [])],[.box false (.p (.st 35 [.seq (t.cs.map bw),.int .i64 t.bJ,.seq (t.aF.map bY),.seq (t.au.map bO)])),.box false (.p (.st 25 [.aK,.int .i64 0,.aK,.aK])),.box false (.p (.st 25 [.seq (t.cs.map bw),.int .i64 t.bJ,.aK,.aK]))]⟩
    |m+1=>⟨[(30,.p (.int .i64 ((m+1:Nat):Int))),(29,.p (.int .i64 t.au.length)),(28,.p (.seq (t.au.map bO))),(3,.ptr 2 []),(2,.ptr 1 [])],[.box false (.p (.st 35 [.seq (t.cs.map bw),.int .i64 t.bJ,.seq (t.aF.map bY),.seq (t.au.map bO)])),.box false (.p (.st 25 [.aK,.int .i64 0,.aK,.aK])),.box false (.st 25 [.p (.seq (t.cs.map bw)),.p (.int .i64 t.bJ),.p .aK,.sl 5 m 3 0 (m+1)]),.hole,.hole,.arr .grow m 3 ((t.au.take (m+1)).map (AV.p∘bO))]⟩) (fun i=>i<=t.au.length) (fun i=>t.au.length-i) 0 s_ ?_ (hh:=by simp[k])
  rintro i r
  by_cases hi:i<t.au.length
  ·have a:=aC.iN hi;rcases i with _|q
   ·have b:=mR a;simp[hi,a,o,ad];exact⟨o_,rd 1 hi (hh:=by simp[b]) (hr2:=by simp[iG])⟩
   ·have h:bo.wrap ((q:Int)+1+1)=(q:Int)+1+1:=aN _ o_ o_;have hI:(q:Int)+1<t.au.length:=by omega
    have b:=mQ (f:=AV.p∘bO) a;simp[hi,hI,a,h,ad];exact⟨o_,⟨o_,o_⟩,rd (q+2) hi (hh:=by simp at b;simp[b]) (hr2:=by simp[iG])⟩
  have d:i=t.au.length:=o_
  rcases i with _|c
  ·have e:t.au=[]:=da.1 d.symm;simp[e,ad]
   skip
   simp[ct,k,e]
   skip
  ·have hI:¬((c:Int)+1<t.au.length):=by omega
   have g:t.au.take (c+1)=t.au:=by rw[d,c8]
   simp[hI,g,ad]
   skip
   have n:(t.au.map (AV.p∘bO)).take (c+1)=t.au.map (AV.p∘bO):=c6 (by simp;omega);simp[ct,k,n];omega
 ·have hI:¬((j:Int)+1<t.aF.length):=by omega
  have g:t.aF.take (j+1)=t.aF:=by rw[s,c8]
  simp[hI,g,ad];refine lp (α:=Nat) (fun i=>match i with
   |0=>⟨[(30,.p (.int .i64 0)),(29,.p (.int .i64 t.au.length)),(28,.p (.seq (t.au.map bO))),(3,.ptr 2 []),(2,.ptr 1 [])],[.box false (.p (.st 35 [.seq (t.cs.map bw),.int .i64 t.bJ,.seq (t.aF.map bY),.seq (t.au.map bO)])),.box false (.p (.st 25 [.aK,.int .i64 0,.aK,.aK])),.box false (.st 25 [.p (.seq (t.cs.map bw)),.p (.int .i64 t.bJ),.sl 5 j 4 0 (j+1),.p .aK]),.hole,.hole,.arr .grow j 4 (t.aF.map (AV.p∘bY))]⟩
   |m+1=>⟨[(30,.p (.int .i64 ((m+1:Nat):Int))),(29,.p (.int .i64 t.au.length)),(28,.p (.seq (t.au.map bO))),(3,.ptr 2 []),(2,.ptr 1 [])],[.box false (.p (.st 35 [.seq (t.cs.map bw),.int .i64 t.bJ,.seq (t.aF.map bY),.seq (t.au.map bO)])),.box false (.p (.st 25 [.aK,.int .i64 0,.aK,.aK])),.box false (.st 25 [.p (.seq (t.cs.map bw)),.p (.int .i64 t.bJ),.sl 5 j 4 0 (j+1),.sl 8 m 3 0 (m+1)]),.hole,.hole,.arr .grow j 4 (t.aF.map (AV.p∘bY)),.hole,.hole,.arr .grow m 3 ((t.au.take (m+1)).map (AV.p∘bO))]⟩) (fun i=>i<=t.au.length) (fun i=>t.au.length-i) 0 s_ ?_
  rintro i r
  by_cases hi:i<t.au.length
  ·have a:=aC.iN hi;rcases i with _|q
   ·have b:=mR a;simp[hi,a,o,ad];exact⟨o_,rd 1 hi (hh:=by simp[b]) (hr2:=by simp[iG])⟩
   ·have h:bo.wrap ((q:Int)+1+1)=(q:Int)+1+1:=aN _ o_ o_;have hI:(q:Int)+1<t.au.length:=by omega
    have b:=mQ (f:=AV.p∘bO) a;simp[hi,hI,a,h,ad];exact⟨o_,⟨o_,o_⟩,rd (q+2) hi (hh:=by simp at b;simp[b]) (hr2:=by simp[iG])⟩
  have d:i=t.au.length:=o_
  rcases i with _|c
  ·have e:t.au=[]:=da.1 d.symm;simp[e,ad];have l:(t.aF.map (AV.p∘bY)).take (j+1)=t.aF.map (AV.p∘bY):=c6 (by simp;omega);simp[ct,l,e];omega
  ·have hI:¬((c:Int)+1<t.au.length):=by omega
   have g:t.au.take (c+1)=t.au:=by rw[d,c8]
   simp[hI,g,ad];have l:(t.aF.map (AV.p∘bY)).take (j+1)=t.aF.map (AV.p∘bY):=c6 (by simp;omega);have n:(t.au.map (AV.p∘bO)).take (c+1)=t.au.map (AV.p∘bO):=c6 (by simp;omega);simp[ct,l,n];omega
@[simp] theorem aF5:nR prog 88=true:=k_
@[simp] theorem aF8:nR prog 97=true:=k_
@[simp] theorem aF6:nR prog 64=true:=k_
theorem aDp:prog.stoodInHeld 88=false:=k_
theorem aDt:prog.stoodInHeld 97=false:=k_
theorem aDs:prog.stoodInHeld 64=false:=k_
@[simp] theorem aGb{a b:Int}:fu prog 9 64 (.st 63 [.int .i64 a,.int .i64 b]) (.st 63 [.int .i64 a,.int .i64 b])=some true:=by
 have c:=underlying64;simp[fu,c,aDs,ie,aL]
@[simp] theorem aF9{a c d:List Nat}{b:Int}:fu prog 9 88 (.st 87 [.str a,.int .i64 b,.str c,.str d]) (.st 87 [.str a,.int .i64 b,.str c,.str d])=some true:=by
 have e:=underlying88;simp[fu,e,aDp,ie,aL]
theorem Yn{a b:List Nat}:fu prog 8 82 (.st 81 [.str a,.str b]) (.st 81 [.str a,.str b])=some true:=by
 have c:=underlying82;simp[fu,c,U1,ie,aL]
theorem Yo{a:List Nat}:fu prog 8 9 (.str a) (.str a)=some true:=by
 simp[fu]
@[simp] theorem aGc{a b c:List Nat}:fu prog 9 97 (.st 84 [.str a,.st 81 [.str b,.str c]]) (.st 84 [.str a,.st 81 [.str b,.str c]])=some true:=by
 have d:=underlying97;rw[fu.eq_def];simp[d,aDt,ie,aL,Yn,Yo]
theorem W0(t:aC)(g:t.cs.length<=1000000)(h:t.aF.length<=1000000)(j:t.au.length<=1000000):az prog 16 [ct t,ct t] (.bool true):=by
 refine aP nf (i_ func16) mix (by simp[f16]) ?_;simp[f16,ad];refine lp (α:=Nat) (fun i=>⟨[(5,.p (.int .i64 i)),(3,.ptr 1 []),(2,.ptr 0 [])],[.box false (.p (ct t)),.box false (.p (ct t))]⟩) (fun i=>i<=t.cs.length) (fun i=>t.cs.length-i) 0 s_ ?_;rintro i i1
 by_cases hi:i<t.cs.length
 ·have e:=aC.get hi;have f:=b8 (i:=i) o_;generalize t.at i=x at*;obtain⟨a,b⟩:=x;simp[hi,e,f,ad,bw];exact rd (i+1) hi
 obtain rfl:i=t.cs.length:=o_
 simp[ad];refine lp (α:=Nat) (fun i=>⟨[(6,.p (.int .i64 i)),(3,.ptr 1 []),(2,.ptr 0 [])],[.box false (.p (ct t)),.box false (.p (ct t))]⟩) (fun i=>i<=t.aF.length) (fun i=>t.aF.length-i) 0 s_ ?_;rintro i i1
 by_cases hi:i<t.aF.length
 ·have e:=aC.jc hi;have f:=b8 (i:=i) o_;generalize t.pk i=x at*;obtain⟨a,b,c,d⟩:=x;simp[hi,e,f,ad,bY];exact rd (i+1) hi
 obtain rfl:i=t.aF.length:=o_
 simp[ad];refine lp (α:=Nat) (fun i=>⟨[(7,.p (.int .i64 i)),(3,.ptr 1 []),(2,.ptr 0 [])],[.box false (.p (ct t)),.box false (.p (ct t))]⟩) (fun i=>i<=t.au.length) (fun i=>t.au.length-i) 0 s_ ?_;rintro i i1
 by_cases hi:i<t.au.length
 ·have e:=aC.iN hi;have f:=b8 (i:=i) o_;generalize t.sp i=x at*;obtain⟨a,b,c⟩:=x;simp[hi,e,f,ad,bO,ff];exact rd (i+1) hi
 obtain rfl:i=t.au.length:=o_
 simp[ad]
def zT:aC:=⟨[],0,[],[]⟩
def hl(J:Heap):Nat:=J.length
def vE(J r:Heap):Heap:=J++r
@[simp] theorem aGM:hl []=0:=rfl
def aC.vc(t:aC)(j:Nat):V2:=(jG (t.at j)).sub (jG (t.at 0))
def aC.lf(t:aC)(u:V2)(i j:Nat):Rat:=(t.vc j).gY u-(t.vc i).gY u+(t.vc i).gY (t.vc j)
theorem Qx{t:aC}(h:eg t=0):3<=t.cs.length/\t.cs.length<=12/\(∀p∈t.cs,fg p=false)/\t.fJ=true/\1<=t.bJ/\t.bJ<=1000:=by
 obtain⟨a,b,_,c⟩:=PY h;obtain⟨r1,r2⟩:=Qy h;refine⟨a,b,?_,c,r1,r2⟩;rw[eg]at h
 split at h
 ·cases h
 split at h
 ·cases h
 split at h
 ·cases h
 rename_i q;intro p d;cases hq:fg p
 ·rfl
 ·exact absurd (dk.2 ⟨p,d,hq⟩) q
def ga.em(m:ga)(n i:Nat):Nat:=if m.rr then n-1-i else i
theorem Qw{n:Nat}{c:List dy}{p:dy}:fL n c p=0↔isName p.name=true/\(∀o∈c,o.name≠p.name)/\0<=p.dw/\p.dw<n/\bS p.a=0/\bS p.b=0/\dK (aY p.a)=0/\dK (aY p.b)=0/\¬0<eU (aY p.a) (aY p.b)/\(∀o∈c,fK o p=false):=by
 rw[fL];have m:=vV (aY p.a);have q:=vV (aY p.b)
 by_cases c1:isName p.name=false
 ·simp[c1]
 rw[if_neg c1]
 by_cases c2:(c.any fun o=>decide (o.name=p.name))=true
 ·rw[if_pos c2];rw[dk]at c2;obtain⟨o,d,g⟩:=c2;constructor
  ·intro h;cases h
  ·intro h;exact absurd (of_decide_eq_true g) (h.2.1 o d)
 rw[if_neg c2];have k:∀o∈c,o.name≠p.name:=fun o d e=>c2 (dk.2 ⟨o,d,decide_eq_true e⟩)
 by_cases c3:p.dw<0\/(n:Int)<=p.dw
 ·rw[if_pos c3];constructor
  ·intro h;cases h
  ·intro h;omega
 rw[if_neg c3]
 by_cases c4:bS p.a=0
 case neg=>simp[c4]
 by_cases c5:bS p.b=0
 case neg=>simp[c4,c5]
 simp only[c4,c5,ne_eq,not_true_eq_false,if_false]
 by_cases i:dK (aY p.a)=0
 case neg=>
  have:max (dK (aY p.a)) (dK (aY p.b))=3:=o_
  simp[this,i]
 by_cases j:dK (aY p.b)=0
 case neg=>
  have:max (dK (aY p.a)) (dK (aY p.b))=3:=o_
  simp[this,j]
 have:max (dK (aY p.a)) (dK (aY p.b))=0:=o_
 simp only[this,not_true_eq_false,if_false]
 by_cases f:0<eU (aY p.a) (aY p.b)
 ·rw[if_pos f];constructor
  ·intro h;cases h
  ·intro h;exact absurd f h.2.2.2.2.2.2.2.2.1
 rw[if_neg f]
 by_cases c9:(c.any fun o=>fK o p)=true
 ·rw[if_pos c9];rw[dk]at c9;obtain⟨o,d,g⟩:=c9;constructor
  ·intro h;cases h
  ·intro h;have:=h.2.2.2.2.2.2.2.2.2 o d;rw[this]at g;cases g
 rw[if_neg c9];have l:∀o∈c,fK o p=false:=fun o d=>by
  cases e:fK o p
  ·rfl
  ·exact absurd (dk.2 ⟨o,d,e⟩) c9
 exact⟨fun _=>⟨by simpa using c1,k,o_,o_,trivial,trivial,i,j,f,l⟩,fun _=>rfl⟩
theorem Qz{t:aC}{a:List dP}{s:dP}:gH t a s=0↔isName s.name=true/\(∀o∈a,o.name≠s.name)/\fV s.pt=0/\0<=t.on (vP s.pt):=by
 rw[gH]
 by_cases c1:isName s.name=false
 ·simp[c1]
 rw[if_neg c1]
 by_cases c2:(a.any fun o=>decide (o.name=s.name))=true
 ·rw[if_pos c2];rw[dk]at c2;obtain⟨o,b,d⟩:=c2;constructor
  ·intro h;cases h
  ·intro h;exact absurd (of_decide_eq_true d) (h.2.1 o b)
 rw[if_neg c2];have c:∀o∈a,o.name≠s.name:=fun o b e=>c2 (dk.2 ⟨o,b,decide_eq_true e⟩)
 by_cases c3:fV s.pt=0
 case neg=>simp[c3]
 simp only[c3,ne_eq,not_true_eq_false,if_false]
 by_cases c4:t.on (vP s.pt)<0
 ·rw[if_pos c4];constructor
  ·intro h;cases h
  ·intro h;omega
 ·rw[if_neg c4];exact⟨fun _=>⟨by simpa using c1,c,trivial,o_⟩,fun _=>rfl⟩
theorem XD{t:aC}:eg t=0↔3<=t.cs.length/\t.cs.length<=12/\(∀p∈t.cs,fg p=false)/\t.fJ=true/\1<=t.bJ/\t.bJ<=1000/\t.aF.length<=12/\(∀j p,t.aF[j]?=some p->fL t.cs.length (t.aF.take j) p=0)/\t.au.length<=256/\(∀j s,t.au[j]?=some s->gH t (t.au.take j) s=0):=by
 constructor
 ·intro h;obtain⟨a,b,c,d,e,f⟩:=Qx h;obtain⟨g,i⟩:=aBP h;refine⟨a,b,c,d,e,f,g,?_,i,?_⟩
  ·intro j p m;obtain⟨l,rfl⟩:=dz.1 m;rw[aC.DI l];exact aBL h l
  ·intro j s hs;obtain⟨l,rfl⟩:=dz.1 hs;rw[aC.vQ l];exact aDv h l
 ·rintro⟨a,b,c,d,e,f,g,h,i,k⟩;have n:kP (fL t.cs.length) t.aF=0:=by
   rw[n8];intro j l;rw[iq,db l];exact h j _ (db l)
  have o:kP (gH t) t.au=0:=by
   rw[n8];intro j l;rw[iq,db l];exact k j _ (db l)
  have q:¬t.cs.any fg=true:=fun h=>by
   rw[dk]at h;obtain⟨p,m,hf⟩:=h;rw[c p m]at hf;cases hf
  rw[eg,if_neg o_,if_neg o_,if_neg q,if_neg (by rw[d];simp),if_neg o_,if_neg o_,if_neg (by rw[n];simp),if_neg o_,o]
def kC(neg:Bool)(d:List Nat):Int×Bool:=if cS d=true/\d.length<=9/\¬(neg=true/\d=[48])then(if neg=true then -(aM d:Int)else aM d,true)else(0,false)
def b7(s:List Nat):Int×Bool:=kC (bI s) (bQ s)
theorem mg{neg:Bool}{d:List Nat}(h:cS d=true->d.length<=9->neg=true/\d=[48]):kC neg d=(0,false):=by
 rw[kC,if_neg];rintro⟨a,b,c⟩;exact c (h a b)
theorem wG{d:List Nat}{i:Nat}(hi:i<d.length)(h:bF d[i]=false):cS d=false:=by
 cases a:cS d
 ·rfl
 ·have:=iY a;rw[fb]at this;rw[this _ (ee hi)]at h;cases h
theorem tX{c:Nat}(h:bF c=true):48<=c/\c<=57:=by
 simp only[bF,ao,decide_eq_true_eq]at h;exact h
theorem wM{c:Nat}(h:bF c=false):c<48\/57<c:=by
 simp only[bF,ax,decide_eq_false_iff_not]at h;omega
theorem zK(n:Int)(h:0<=n)(a:n<=255):bv.wrap n=n:=IntWalk.u8_in n ⟨h,a⟩
theorem mT{d:List Nat}(h:d.all bF=true)(a:d.length<=9):aM d<1000000000:=by
 have:=jg _ d rfl h;have b:10^d.length<=10^9:=hw o_ a;omega
theorem QR(s:List Nat)(h:s.length<=1048576):az prog 160 [.str s] (.aE [.int .i64 (b7 s).1,.bool (b7 s).2]):=by
 refine aP nf (i_ func160) mix (by simp[f160]) ?_;rcases s with _|⟨x,r⟩
 ·simp[f160,b7,bQ,bI,kC,cS]
 by_cases hx:x=45
 ·subst hx;have e:b7 (45::r)=kC true r:=by simp[b7,bQ,bI]
  rw[e];clear e;simp only[e8]at h
  by_cases k0:r=[]
  ·subst k0;rw[mg (fun a _=>by simp[cS]at a)];simp[f160]
  obtain⟨y,n⟩:∃y,r.head?=some y:=by
   cases r with
   |nil=>exact(k0 rfl).elim
   |cons y q=>exact⟨y,rfl⟩
  have o:0<r.length:=g7.2 k0;have m:r[0]=y:=by
   cases r with
   |nil=>exact(k0 rfl).elim
   |cons y q=>simpa using n
  by_cases k9:9<r.length
  ·have k:(9:Int)<(r.length:Int):=by omega
   rw[mg (fun _ b=>by omega)];simp[f160,k0,k9,k]
  have k:¬(9:Int)<(r.length:Int):=o_
  by_cases k1:1<r.length/\y=48
  ·have J:(1:Int)<(r.length:Int):=by omega
   have L:(y:Int)=48:=o_
   rw[mg (fun a _=>by
    simp only[cS,ao,av,decide_eq_true_eq,n]at a;rcases a.2 with a|a
    ·exact(a (by rw[k1.2])).elim
    ·rw[a]at k1;simp at k1)]
   simp[f160,k0,k9,k,k1.1,J,o,m,L]
  by_cases C:r=[48]
  ·rw[mg (fun _ _=>⟨rfl,C⟩)];simp[f160,C]
  have K:¬(1<r.length)\/¬y=48:=by
   by_cases a:1<r.length
   ·exact .inr fun b=>k1 ⟨a,b⟩
   ·exact .inl a
  have B:r.all bF=true->kC true r=(-(aM r:Int),true):=fun I=>by
   rw[kC,if_pos ⟨by
    simp only[cS,ao,av,decide_eq_true_eq,n,I,ay,gm];refine⟨⟨k0,trivial⟩,?_⟩;rcases K with a|a
    ·by_cases b:y=48
     ·right;obtain⟨q,hq⟩:=fd.1 n;rw[hq]at a⊢;simp at a;rw[a,b]
     ·left;intro c;injection c with c;exact b c
    ·left;intro c;injection c with c;exact a c,o_,by simp[C]⟩]
   simp
  have N:¬((1:Int)<(r.length:Int)/\(y:Int)=48):=o_
  by_cases l:1<r.length
  ·have t:(1:Int)<(r.length:Int):=by omega
   have H:¬(y:Int)=48:=o_
   simp[f160,k0,k9,k,l,t,o,m,H,C];refine lp (α:=Nat) (fun i=>⟨[(6,.p (.int .i64 i)),(5,.p (.int .i64 (aM (r.take i):Nat))),(4,.p (.int .i64 (-1))),(0,.p (.str r))],[]⟩) (fun i=>i<=r.length/\(r.take i).all bF=true) (fun i=>r.length-i) 0 s_ ?_ (he:=by simp[aM]);rintro i ⟨k2,k3⟩;have w:=b8 (i:=i) o_
   by_cases hi:i<r.length
   ·obtain⟨c,hc⟩:∃c,r[i]=c:=⟨_,rfl⟩
    by_cases d:bF c=true
    ·obtain⟨l,G⟩:=tX d;have c1:¬(c:Int)<48:=by omega
     have c2:¬(57:Int)<(c:Int):=o_
     have j:=vm hi;have v:=mT k3 (by simp;omega);rw[hc]at j;have f:bv.wrap ((c:Int)-48)=(c:Int)-48:=zK _ o_ o_;have g:bo.wrap ((c:Int)-48)=(c:Int)-48:=aN _ o_ o_;have z:bo.wrap (10*(aM (r.take i):Int))=10*(aM (r.take i):Int):=aN _ o_ o_;have A:bo.wrap (10*(aM (r.take i):Int)+((c:Int)-48))=((aM (r.take (i+1)):Nat):Int):=by
      rw[aN _ o_ o_,j];omega
     simp[hi,hc,c1,c2,w,f,g,z,A];exact rd (i+1) ⟨hi,by rw[dp hi,eq,k3,hc];simp[d]⟩
    ·have d:bF c=false:=by simpa using d
     have u:=wG (i:=i) hi (by rw[hc];exact d);rw[mg (fun a _=>by rw[u]at a;cases a)]
     by_cases c1:(c:Int)<48
     ·simp[hi,hc,c1]
     ·have c2:(57:Int)<(c:Int):=by rcases wM d with a|a<;>omega
      simp[hi,hc,c1,c2]
   ·obtain rfl:i=r.length:=by omega
    rw[c8]at k3⊢;have v:=mT k3 o_;have f:bo.wrap (aM r:Int)=(aM r:Int):=aN _ o_ o_;have g:bo.wrap (-(aM r:Int))= -(aM r:Int):=aN _ o_ o_;rw[B k3];simp[f,g]
  ·have t:¬(1:Int)<(r.length:Int):=by omega
   simp[f160,k0,k9,k,l,t,o,m,C];refine lp (α:=Nat) (fun i=>⟨[(6,.p (.int .i64 i)),(5,.p (.int .i64 (aM (r.take i):Nat))),(4,.p (.int .i64 (-1))),(0,.p (.str r))],[]⟩) (fun i=>i<=r.length/\(r.take i).all bF=true) (fun i=>r.length-i) 0 s_ ?_ (he:=by simp[aM]);rintro i ⟨k2,k3⟩;have w:=b8 (i:=i) o_
   by_cases hi:i<r.length
   ·obtain⟨c,hc⟩:∃c,r[i]=c:=⟨_,rfl⟩
    by_cases d:bF c=true
    ·obtain⟨l,G⟩:=tX d;have c1:¬(c:Int)<48:=by omega
     have c2:¬(57:Int)<(c:Int):=o_
     have j:=vm hi;have v:=mT k3 (by simp;omega);rw[hc]at j;have f:bv.wrap ((c:Int)-48)=(c:Int)-48:=zK _ o_ o_;have g:bo.wrap ((c:Int)-48)=(c:Int)-48:=aN _ o_ o_;have z:bo.wrap (10*(aM (r.take i):Int))=10*(aM (r.take i):Int):=aN _ o_ o_;have A:bo.wrap (10*(aM (r.take i):Int)+((c:Int)-48))=((aM (r.take (i+1)):Nat):Int):=by
      rw[aN _ o_ o_,j];omega
     simp[hi,hc,c1,c2,w,f,g,z,A];exact rd (i+1) ⟨hi,by rw[dp hi,eq,k3,hc];simp[d]⟩
    ·have d:bF c=false:=by simpa using d
     have u:=wG (i:=i) hi (by rw[hc];exact d);rw[mg (fun a _=>by rw[u]at a;cases a)]
     by_cases c1:(c:Int)<48
     ·simp[hi,hc,c1]
     ·have c2:(57:Int)<(c:Int):=by rcases wM d with a|a<;>omega
      simp[hi,hc,c1,c2]
   ·obtain rfl:i=r.length:=by omega
    rw[c8]at k3⊢;have v:=mT k3 o_;have f:bo.wrap (aM r:Int)=(aM r:Int):=aN _ o_ o_;have g:bo.wrap (-(aM r:Int))= -(aM r:Int):=aN _ o_ o_;rw[B k3];simp[f,g]
 ·obtain⟨s,hs⟩:∃s,s=x::r:=⟨_,rfl⟩
  rw[<-hs]at h⊢;have e:b7 s=kC false s:=by rw[hs];simp[b7,bQ,bI,hx]
  rw[e];clear e;obtain⟨y,M⟩:∃y,y=x:=⟨_,rfl⟩
  rw[<-M]at hs hx;clear M x;have k0:¬s=[]:=by rw[hs];simp
  have n:s.head?=some y:=by rw[hs];rfl
  have o:0<s.length:=g7.2 k0;have m:s[0]=y:=by simp[hs]
  have D:¬(y:Int)=45:=o_
  have E:=o;have F:=m;clear hs
  by_cases k9:9<s.length
  ·have k:(9:Int)<(s.length:Int):=by omega
   rw[mg (fun _ b=>by omega)];simp[f160,D,E,F,k0,k9,k]
  have k:¬(9:Int)<(s.length:Int):=o_
  by_cases k1:1<s.length/\y=48
  ·have J:(1:Int)<(s.length:Int):=by omega
   have L:(y:Int)=48:=o_
   rw[mg (fun a _=>by
    simp only[cS,ao,av,decide_eq_true_eq,n]at a;rcases a.2 with a|a
    ·exact(a (by rw[k1.2])).elim
    ·rw[a]at k1;simp at k1)]
   simp[f160,D,E,F,k0,k9,k,k1.1,J,o,m,L]
  have K:¬(1<s.length)\/¬y=48:=by
   by_cases a:1<s.length
   ·exact .inr fun b=>k1 ⟨a,b⟩
   ·exact .inl a
  have B:s.all bF=true->kC false s=((aM s:Int),true):=fun I=>by
   rw[kC,if_pos ⟨by
    simp only[cS,ao,av,decide_eq_true_eq,n,I,ay,gm];refine⟨⟨k0,trivial⟩,?_⟩;rcases K with a|a
    ·by_cases b:y=48
     ·right;obtain⟨q,hq⟩:=fd.1 n;rw[hq]at a⊢;simp at a;rw[a,b]
     ·left;intro c;injection c with c;exact b c
    ·left;intro c;injection c with c;exact a c,o_,s_⟩]
   simp
  have N:¬((1:Int)<(s.length:Int)/\(y:Int)=48):=o_
  by_cases l:1<s.length
  ·have t:(1:Int)<(s.length:Int):=by omega
   have H:¬(y:Int)=48:=o_
   simp[f160,D,E,F,k0,k9,k,l,t,o,m,H];refine lp (α:=Nat) (fun i=>⟨[(6,.p (.int .i64 i)),(5,.p (.int .i64 (aM (s.take i):Nat))),(4,.p (.int .i64 1)),(0,.p (.str s))],[]⟩) (fun i=>i<=s.length/\(s.take i).all bF=true) (fun i=>s.length-i) 0 s_ ?_ (he:=by simp[aM]);rintro i ⟨k2,k3⟩;have w:=b8 (i:=i) o_
   by_cases hi:i<s.length
   ·obtain⟨c,hc⟩:∃c,s[i]=c:=⟨_,rfl⟩
    by_cases d:bF c=true
    ·obtain⟨l,G⟩:=tX d;have c1:¬(c:Int)<48:=by omega
     have c2:¬(57:Int)<(c:Int):=o_
     have j:=vm hi;have v:=mT k3 (by simp;omega);rw[hc]at j;have f:bv.wrap ((c:Int)-48)=(c:Int)-48:=zK _ o_ o_;have g:bo.wrap ((c:Int)-48)=(c:Int)-48:=aN _ o_ o_;have z:bo.wrap (10*(aM (s.take i):Int))=10*(aM (s.take i):Int):=aN _ o_ o_;have A:bo.wrap (10*(aM (s.take i):Int)+((c:Int)-48))=((aM (s.take (i+1)):Nat):Int):=by
      rw[aN _ o_ o_,j];omega
     simp[hi,hc,c1,c2,w,f,g,z,A];exact rd (i+1) ⟨hi,by rw[dp hi,eq,k3,hc];simp[d]⟩
    ·have d:bF c=false:=by simpa using d
     have u:=wG (i:=i) hi (by rw[hc];exact d);rw[mg (fun a _=>by rw[u]at a;cases a)]
     by_cases c1:(c:Int)<48
     ·simp[hi,hc,c1]
     ·have c2:(57:Int)<(c:Int):=by rcases wM d with a|a<;>omega
      simp[hi,hc,c1,c2]
   ·obtain rfl:i=s.length:=by omega
    rw[c8]at k3⊢;have v:=mT k3 o_;have f:bo.wrap (aM s:Int)=(aM s:Int):=aN _ o_ o_;have g:bo.wrap (-(aM s:Int))= -(aM s:Int):=aN _ o_ o_;rw[B k3];simp[f,g]
  ·have t:¬(1:Int)<(s.length:Int):=by omega
   simp[f160,D,E,F,k0,k9,k,l,t,o,m];refine lp (α:=Nat) (fun i=>⟨[(6,.p (.int .i64 i)),(5,.p (.int .i64 (aM (s.take i):Nat))),(4,.p (.int .i64 1)),(0,.p (.str s))],[]⟩) (fun i=>i<=s.length/\(s.take i).all bF=true) (fun i=>s.length-i) 0 s_ ?_ (he:=by simp[aM]);rintro i ⟨k2,k3⟩;have w:=b8 (i:=i) o_
   by_cases hi:i<s.length
   ·obtain⟨c,hc⟩:∃c,s[i]=c:=⟨_,rfl⟩
    by_cases d:bF c=true
    ·obtain⟨l,G⟩:=tX d;have c1:¬(c:Int)<48:=by omega
     have c2:¬(57:Int)<(c:Int):=o_
     have j:=vm hi;have v:=mT k3 (by simp;omega);rw[hc]at j;have f:bv.wrap ((c:Int)-48)=(c:Int)-48:=zK _ o_ o_;have g:bo.wrap ((c:Int)-48)=(c:Int)-48:=aN _ o_ o_;have z:bo.wrap (10*(aM (s.take i):Int))=10*(aM (s.take i):Int):=aN _ o_ o_;have A:bo.wrap (10*(aM (s.take i):Int)+((c:Int)-48))=((aM (s.take (i+1)):Nat):Int):=by
      rw[aN _ o_ o_,j];omega
     simp[hi,hc,c1,c2,w,f,g,z,A];exact rd (i+1) ⟨hi,by rw[dp hi,eq,k3,hc];simp[d]⟩
    ·have d:bF c=false:=by simpa using d
     have u:=wG (i:=i) hi (by rw[hc];exact d);rw[mg (fun a _=>by rw[u]at a;cases a)]
     by_cases c1:(c:Int)<48
     ·simp[hi,hc,c1]
     ·have c2:(57:Int)<(c:Int):=by rcases wM d with a|a<;>omega
      simp[hi,hc,c1,c2]
   ·obtain rfl:i=s.length:=by omega
    rw[c8]at k3⊢;have v:=mT k3 o_;have f:bo.wrap (aM s:Int)=(aM s:Int):=aN _ o_ o_;have g:bo.wrap (-(aM s:Int))= -(aM s:Int):=aN _ o_ o_;rw[B k3];simp[f,g]
theorem QO{d:List Nat}(h:d.all bF=true)(b:d≠[])(c:d.length<=9):b0 ((45::d).map hL)=.ok (-(aM d:Int)):=by
 have g:=mT h c;have a:=BS d 0 h (by change aM d<_;omega);change Lib.parseUint10 0 _=.ok (aM d)at a;have e:(hL 45).toNat=45:=rfl;have f:d.map hL≠[]:=by simpa using b
 rw[dq,b0];simp only[e];simp only[or_true,if_true];rw[Lib.parseMag,if_neg f,a];dsimp only;rw[if_neg s_,if_neg o_]
theorem Ap{s:List Nat}(h:(b7 s).2=true):cS (bQ s)=true/\(bQ s).length<=9/\¬(bI s=true/\bQ s=[48])/\(b7 s).1=if bI s=true then -(aM (bQ s):Int)else aM (bQ s):=by
 rw[b7,kC]at h⊢
 split at h
 ·rename_i hc;rw[if_pos hc];exact⟨hc.1,hc.2.1,hc.2.2,rfl⟩
 ·cases h
theorem Ge{s:List Nat}(h:bI s=true):s=45::bQ s:=by
 simp only[bI,decide_eq_true_eq]at h;obtain⟨q,rfl⟩:=fd.1 h;simp[bQ,bI]
theorem wK{s:List Nat}(h:(b7 s).2=true):b0 (s.map hL)=.ok (b7 s).1:=by
 obtain⟨c,f,_,g⟩:=Ap h;have d:=iY c;have b:bQ s≠[]:=by intro e;rw[e]at c;simp[cS]at c
 rw[g]
 by_cases a:bI s=true
 ·rw[if_pos a];have e:=Ge a;have:=QO d b f;rw[<-e]at this;exact this
 ·rw[if_neg a];have e:bQ s=s:=by rw[bQ,if_neg a]
  rw[e]at d b f⊢;exact LZ d b o_
theorem aEa{v:Int}{s:List Nat}(h:bL v=s)(a:(bQ s).length<=9):b7 s=(v,true):=by
 rw[bL]at h
 by_cases f:v<0
 ·rw[if_pos f]at h;have d:bI s=true:=by rw[<-h];simp[bI]
  have c:bQ s=bd v.natAbs:=by rw[bQ,if_pos d,<-h];rfl
  rw[c]at a;rw[b7,d,c,kC,if_pos ⟨vU _,a,fun⟨_,e⟩=>by
   have:=oZ v.natAbs;rw[e]at this;simp[aM]at this;omega⟩,if_pos rfl,oZ]
  congr 1;omega
 ·rw[if_neg f]at h;have b:=xZ (vU v.natAbs);rw[h]at b;rw[b.2,<-h]at a;rw[b7,b.1,b.2,<-h,kC,if_pos ⟨vU _,a,fun⟨e,_⟩=>by cases e⟩,if_neg s_,oZ];congr 1;omega
theorem YY{s:List Nat}(h:(b7 s).2=true):bL (b7 s).1=s:=by
 obtain⟨b,g,d,f⟩:=Ap h;rw[f]
 by_cases a:bI s=true
 ·rw[if_pos a];have c:bQ s≠[48]:=fun e=>d ⟨a,e⟩;have:=uG b c;rw[Gc this,qC b];exact(Ge a).symm
 ·rw[if_neg a,rW,qC b,bQ,if_neg a]
def fG(s:List Nat):Int:=match b0 (s.map hL)with
 | .ok v=>v
 | .range=>b3 (s.map hL)
 |_=>0
theorem wz{s:List Nat}(h:(b7 s).2=true):fG s=(b7 s).1:=by
 rw[fG,wK h]
theorem aAa:dA prog 120 true (.p .fP)=some .iface:=k_
theorem Q8(s:List Nat)(h:s.length<=1048576)(v:Int)(b:b0 (s.map hL)=.ok v):az prog 226 [.str s] (.aE [.int .i64 (fG s),.bool (b7 s).2]):=by
 have g:=Lib.atoiAll_bounds b;have e:fG s=v:=by rw[fG,b]
 rw[e];refine aP nf (i_ func226) mix (by simp[f226]) ?_;simp[f226];refine c1 (Af s v b o_) ?_;simp[aAa,cV];refine c2 (BX s) ?_
 by_cases k9:(bQ s).length<=9
 ·have d:((bQ s).length:Int)<=9:=by omega
  simp[k9,d];refine c1 (pF v g.1 g.2) ?_
  by_cases c:bL v=s
  ·have hi:=aEa c k9;simp[c,hi]
  ·have hi:(b7 s).2=false:=by
    cases hq:(b7 s).2
    ·rfl
    ·have a:=wK hq;rw[b]at a;injection a with a
     have f:=YY hq;rw[<-a]at f;exact(c f).elim
   simp[c,hi]
 ·have d:¬((bQ s).length:Int)<=9:=by omega
  have hi:(b7 s).2=false:=by
   cases hq:(b7 s).2
   ·rfl
   ·exact(k9 (Ap hq).2.1).elim
  simp[k9,d,hi]
theorem Gi{w:a7}{aa:Nat->Prop}{g:Nat}(a:lL prog w aa)(h:Gl.tz g=true):∃te pe,w.cell? ⟨g,0,none⟩=some (.iface te pe):=by
 obtain⟨_,te,pe,T,b⟩:=a.tz g h;exact⟨te,pe,by simp[World.cell?,b]⟩
theorem FT(bs:ByteArray)(n:Int)(w:a7)(te:TypeId)(Q:a7->Prop)(hc:bb prog 263 #[.string bs] w fun e w'=>∃N,e= .returned (.tuple #[.int .i64 n,.iface te (.pointer (some ⟨N,0,none⟩))])/\Q w'):
 bb prog 226 #[.string bs] w fun e w'=>e=.returned (.tuple #[.int .i64 n,.bool false])/\Q w':=by
 go_enter func226,ntmps226
 go_wp2_with (go_at_fn 263)
 refine hc.mono ?_;rintro e w' ⟨N,rfl,a⟩
 go_wp2
 go_ret2
 exact⟨rfl,a⟩
theorem wE(s:List Nat)(h:s.length<=1048576):az prog 226 [.str s] (.aE [.int .i64 (fG s),.bool (b7 s).2]):=by
 rcases b:b0 (s.map hL)with v|_|_
 ·exact Q8 s h v b
 ·have hi:(b7 s).2=false:=by
   cases hq:(b7 s).2
   ·rfl
   ·have:=wK hq;rw[b]at this;cases this
  have i:fG s=0:=by rw[fG,b]
  rw[hi,i];refine iJ (gN func226 k_) fun w aa j _ f d=>?_;obtain⟨x,rfl,c⟩:=sN d;obtain⟨bs,rfl,rfl⟩:=jl c;rw[qS]at b;obtain⟨te,pe,hc⟩:=Gi f (g:=4) rfl;refine(FT bs 0 w 390 (fun w'=>RowKit.Below w.heap.size w w') ((strconv_Atoi_syntax bs (by simp[cC]at h;omega) (by rw[b];rfl) _ w hc (.inr ⟨te,pe,rfl⟩)).mono ?_)).mono ?_
  ·rintro e w' ⟨N,rfl,_,_,a⟩;exact⟨N,rfl,a⟩
  ·rintro e w' ⟨rfl,a⟩;exact⟨_,rfl,⟨a.size,a.block,a.os,a.output⟩,fun w aa=>by simp[aA,bf]⟩
 ·have hi:(b7 s).2=false:=by
   cases hq:(b7 s).2
   ·rfl
   ·have:=wK hq;rw[b]at this;cases this
  have i:fG s=b3 (s.map hL):=by rw[fG,b]
  rw[hi,i];refine iJ (gN func226 k_) fun w aa j _ f d=>?_;obtain⟨x,rfl,c⟩:=sN d;obtain⟨bs,rfl,rfl⟩:=jl c;rw[qS]at b⊢;obtain⟨te,pe,hc⟩:=Gi f (g:=5) rfl;refine(FT bs (b3 bs.data.toList) w 390 (fun w'=>RowKit.Below w.heap.size w w') ((strconv_Atoi_range bs (by simp[cC]at h;omega) b _ w hc (.inr ⟨te,pe,rfl⟩)).mono ?_)).mono ?_
  ·rintro e w' ⟨N,rfl,_,_,a⟩;exact⟨N,rfl,a⟩
  ·rintro e w' ⟨rfl,a⟩;exact⟨_,rfl,⟨a.size,a.block,a.os,a.output⟩,fun w aa=>by simp[aA,bf]⟩
def fO(a:List (List Nat)):List Nat:=fk [32] a++[10]
def rA(n:Int):List Nat:=fO [[114,97,100,105,117,115],bL n]
def lU(p:dm):List Nat:=fO [[99,111,114,110,101,114],bL p.x,bL p.y]
def l7(p:dy):List Nat:=fO [[112,111,99,107,101,116],p.name,bL p.dw,p.a,p.b]
def l9(s:dP):List Nat:=fO [[115,112,111,116],s.name,s.pt.x,s.pt.y]
def dH(t:aC)(i j k:Nat):List Nat:=rA t.bJ++((t.cs.take i).flatMap lU++((t.aF.take j).flatMap l7++(t.au.take k).flatMap l9))
def mU(t:aC):List Nat:=dH t t.cs.length t.aF.length t.au.length
def rq(s:List Nat):List Nat×Int:=if 4096<s.length then([],26)else(s,0)
theorem Ac{α:Type}{l:List α}{i:Nat}{f:α->List Nat}{x:α}(h:l[i]?=some x):(l.take (i+1)).flatMap f=(l.take i).flatMap f++f x:=by
 rw[ed,h];simp
theorem aC.CN{t:aC}{i:Nat}(h:i<t.cs.length):t.cs[i]?=some (t.at i):=by rw[db h,aC.aO]
theorem Gt{t:aC}{i:Nat}(h:i<t.cs.length):dH t (i+1) 0 0=dH t i 0 0++lU (t.at i):=by
 rw[dH,dH,Ac (aC.CN h)];simp
theorem Ga{t:aC}{i n:Nat}(h:i<t.aF.length):dH t n (i+1) 0=dH t n i 0++l7 (t.pk i):=by
 rw[dH,dH,Ac (aC.jc h)];simp
theorem F9{t:aC}{i n m:Nat}(h:i<t.au.length):dH t n m (i+1)=dH t n m i++l9 (t.sp i):=by
 rw[dH,dH,Ac (aC.iN h)];simp
theorem wJ{α:Type}{f:α->List Nat}{m:Nat}:∀{l:List α},(∀x∈l,(f x).length<=m)->(l.flatMap f).length<=l.length*m
 |[],_=>by simp
 |x::l,h=>by
  have b:=h x s_;have c:=wJ (f:=f) (m:=m) (l:=l) fun y a=>h y (by simp[a]);simp only[List.flatMap_cons,ea,e8,Nat.add_mul]at*;omega
theorem Ad{α:Type}{f:α->List Nat}{l:List α}(h:∀x∈l,∀c∈f x,c<256):∀c∈l.flatMap f,c<256:=by
 intro c hc;obtain⟨x,hx,hc⟩:=List.mem_flatMap.1 hc;exact h x hx c hc
theorem Gb{n c:Nat}(h:c∈bd n):48<=c/\c<=57:=by
 have:=iY (vU n);rw[fb]at this;exact tX (this c h)
theorem aEb{n:Int}{c:Nat}(h:c∈bL n):c=45\/(48<=c/\c<=57):=by
 rw[bL]at h
 split at h
 ·rcases fm.1 h with h|h
  ·exact .inl h
  ·exact .inr (Gb h)
 ·exact .inr (Gb h)
theorem wF{n:Int}:∀c∈bL n,c<256:=fun c h=>by rcases aEb h with h|h<;>omega
theorem Gk{n k:Nat}(hk:0<k)(h:n<10^k):(bd n).length<=k:=by
 rcases Nat.eq_zero_or_pos n with rfl|b
 ·rw[ny];exact hk
 ·obtain⟨a,f,g⟩:=DY b;rcases Nat.lt_or_ge k (bd n).length with hl|hl
  ·exfalso;have d:=oZ n;cases e:bd n with
   |nil=>rw[e]at hl;simp at hl
   |cons c r=>
    rw[e]at d hl a;simp at a hl;have hc:49<=c:=o_
    have:=Ia c r hc;have i:10^k<=10^r.length:=hw o_ o_;omega
  ·exact hl
theorem pG{n:Int}{k:Nat}(hk:0<k)(h:n.natAbs<10^k):(bL n).length<=k+1:=by
 rw[bL]
 split
 ·have:=Gk hk h;simp;omega
 ·have:=Gk hk h;omega
theorem wC{l:List (List Nat)}(h:∀x∈l,∀c∈x,c<256):∀c∈fO l,c<256:=by
 have key:∀(l:List (List Nat)),(∀x∈l,∀c∈x,c<256)->∀c∈fk [32] l,c<256:=by
  intro l
  induction l with
  |nil=>intro _ c hc;simp[fk]at hc
  |cons x l b=>
   intro h c hc;cases l with
   |nil=>exact h x s_ c (by simpa[fk]using hc)
   |cons y l=>
    rw[fk]at hc
    ·simp only[ei]at hc;rcases hc with(hc|hc)|hc
     ·exact h x s_ c hc
     ·simp at hc;omega
     ·exact b (fun z a=>h z (by simp[a])) c hc
    ·intro e;cases e
 intro c hc;rw[fO]at hc;rcases ei.1 hc with hc|hc
 ·exact key l h c hc
 ·simp at hc;omega
theorem wN{s:List Nat}(h:bS s=0):s.length<=1203:=by
 obtain⟨_,c,d,_⟩:=Ma h;have e1:=nH 47 (bQ s);have e2:(bQ s).length<=1201:=by
  rcases e1 with⟨_,e⟩|⟨_,e,_⟩
  ·rw[e];have a:(bN 47 (bQ s)).1=bA s:=rfl;have b:(bN 47 (bQ s)).2.1=bM s:=rfl;rw[a,b];simp;omega
  ·rw[<-e];have a:(bN 47 (bQ s)).1=bA s:=rfl;rw[a];omega
 rw[bQ]at e2
 split at e2
 ·simp at e2;omega
 ·omega
theorem wO(full:Bool)(l:List (List Nat))(hl:l.length<=1000)(a:(fk [32] l).length<=1048576):az prog 53 [.bE full (l.map .str)] (.str (fO l)):=by
 refine aP nf (i_ func53) mix (by simp[f53]) ?_;simp[f53];refine c2 (GC full l [32] o_ o_) ?_;simp[fO];omega
theorem Ob(a:List Nat)(v n:Nat)(b:n=a.length):cm prog 141 [.box false (.st 117 [.ptr 0 [],.sl 1 v 1 0 n]),.arr .bytes v 1 (bU a)] [.ptr 0 []]
 [.box false (.st 117 [.ptr 0 [],.sl 1 v 1 0 n]),.arr .bytes v 1 (bU a)] (.p (.int .i64 n)):=by
 refine fU nf (i_ func141) mix (by simp[f141]) ?_;simp[f141]
theorem Yz(a:List Nat)(v n:Nat)(b:n=a.length)(c:4096<a.length):cm prog 55 [.box false (.st 117 [.ptr 0 [],.sl 1 v 1 0 n]),.arr .bytes v 1 (bU a)] [.ptr 0 []]
 [.box false (.st 117 [.ptr 0 [],.sl 1 v 1 0 n]),.arr .bytes v 1 (bU a)] (.p (.aE [.str [],.int .i64 26])):=by
 refine fU nf (i_ func55) mix (by simp[f55]) ?_;simp[f55];refine cf (Ob a v n b) [0,1] ?_ (aj:=by simp[sig,bU]) (aG:=by simp[sig]) (hr:=by simp[bU]);have d:(4096:Int)<(a.length:Int):=o_
 simp[aX,sig,bU,b,c,d]
theorem YA(a:List Nat)(v n:Nat)(b:n=a.length)(d:a≠[])(e:¬4096<a.length)(g:∀c∈a,c<256):cm prog 55 [.box false (.st 117 [.ptr 0 [],.sl 1 v 1 0 n]),.arr .bytes v 1 (bU a)] [.ptr 0 []]
 [.box false (.st 117 [.ptr 0 [],.sl 1 v 1 0 n]),.dead] (.p (.aE [.str a,.int .i64 0])):=by
 refine fU nf (i_ func55) mix (by simp[f55]) ?_;simp[f55];refine cf (Ob a v n b) [0,1] ?_ (aj:=by simp[sig,bU]) (aG:=by simp[sig]) (hr:=by simp[bU]);have f:¬(4096:Int)<(a.length:Int):=o_
 simp[aX,sig,bU,b,e,f];refine cf (Oc a v a.length rfl d o_ g) [0,1] ?_ (aj:=by simp[sig,bU,b]) (aG:=by simp[sig]) (hr:=by simp[bU]);simp[aX,sig,bU,b]
theorem Gp{s:List Nat}(h:isName s=true):s.length<=24:=by
 simp only[isName,ao,decide_eq_true_eq]at h;exact h.1.2
theorem Ak{p:dm}(h:eZ p):(lU p).length<=30:=by
 have a:=pG (n:=p.x) (k:=5) o_ (by have:=h.1;have:=h.2.1;simp;omega);have b:=pG (n:=p.y) (k:=5) o_ (by have:=h.2.2.1;have:=h.2.2.2;simp;omega);simp[lU,fO,fk];omega
theorem Ao{p:dy}(e:isName p.name=true)(f:0<=p.dw)(h1:p.dw<12)(c:bS p.a=0)(d:bS p.b=0):(l7 p).length<=2500:=by
 have k1:=pG (n:=p.dw) (k:=2) o_ o_;have k2:=wN c;have k3:=wN d;have k4:=Gp e;simp[l7,fO,fk];omega
theorem Am{p:dP}(c:isName p.name=true)(a:bS p.pt.x=0)(b:bS p.pt.y=0):(l9 p).length<=2500:=by
 have k2:=wN a;have k3:=wN b;have k4:=Gp c;simp[l9,fO,fk];omega
theorem Gm{n:Int}(a:1<=n)(h1:n<=1000):(rA n).length<=20:=by
 have k1:=pG (n:=n) (k:=4) o_ o_;simp[rA,fO,fk];omega
structure DQ(t:aC):Prop where
 ij:∀p∈t.cs,eZ p
 r1:1<=t.bJ
 r2:t.bJ<=1000
 cl:t.cs.length<=12
 pl:t.aF.length<=12
 sl:t.au.length<=256
 pk:∀p∈t.aF,isName p.name=true/\0<=p.dw/\p.dw<12/\bS p.a=0/\bS p.b=0
 sp:∀s∈t.au,isName s.name=true/\bS s.pt.x=0/\bS s.pt.y=0
theorem Pv{t:aC}(h:eg t=0):DQ t:=by
 obtain⟨m,a,e,n,f,g,i,k,l,d⟩:=XD.1 h;refine⟨fun p c=>zS (e p c),f,g,a,i,l,fun p c=>?_,fun s hs=>?_⟩
 ·obtain⟨j,b⟩:=gy.1 c;have:=Qw.1 (k j p b);exact⟨this.1,this.2.2.1,by have:=this.2.2.2.1;omega,this.2.2.2.2.1,this.2.2.2.2.2.1⟩
 ·obtain⟨j,b⟩:=gy.1 hs;have:=Qz.1 (d j s b);have a:=pO this.2.2.1;exact⟨this.1,a.1,a.2⟩
theorem Gd{t:aC}(h:DQ t)(i j k:Nat):(dH t i j k).length<=800000:=by
 have n:=Gm h.r1 h.r2;have o:=wJ (f:=lU) (m:=30) (l:=t.cs.take i) fun p a=>Ak (h.ij p (eb a));have q:=wJ (f:=l7) (m:=2500) (l:=t.aF.take j) fun p a=>by
  obtain⟨b,c,d,e,g⟩:=h.pk p (eb a);exact Ao b c d e g
 have r:=wJ (f:=l9) (m:=2500) (l:=t.au.take k) fun p a=>by
  obtain⟨b,c,d⟩:=h.sp p (eb a);exact Am b c d
 have c1:=h.cl;have c2:=h.pl;have c3:=h.sl;have d1:(t.cs.take i).length<=12:=by simp;omega
 have d2:(t.aF.take j).length<=12:=by simp;omega
 have d3:(t.au.take k).length<=256:=by simp;omega
 simp only[dH,ea];omega
theorem QY{t:aC}(b:jf t)(i j k:Nat):∀c∈dH t i j k,c<256:=by
 intro c hc;simp only[dH,ei]at hc;rcases hc with hc|hc|hc|hc
 ·exact wC (by intro x hx;simp at hx;rcases hx with rfl|rfl;(·decide);(·exact wF)) c hc
 ·exact Ad (f:=lU) (l:=t.cs.take i) (fun p a=>wC (by intro x hx;simp at hx;rcases hx with rfl|rfl|rfl;(·decide);(·exact wF);(·exact wF))) c hc
 ·exact Ad (f:=l7) (l:=t.aF.take j) (fun p a=>by
   have:=b.pk p (eb a);exact wC (by intro x hx;simp at hx;rcases hx with rfl|rfl|rfl|rfl|rfl;(·decide);(·exact this.1.2);(·exact wF);(·exact this.2.1.2);(·exact this.2.2.2))) c hc
 ·exact Ad (f:=l9) (l:=t.au.take k) (fun p a=>by
   have:=b.sp p (eb a);exact wC (by intro x hx;simp at hx;rcases hx with rfl|rfl|rfl|rfl;(·decide);(·exact this.1.2);(·exact this.2.1.2);(·exact this.2.2.2))) c hc
theorem aCn{t:aC}(i j k:Nat):dH t i j k≠[]:=by simp[dH,rA,fO]
theorem Q5(t:aC)(D:jf t):az prog 10 [dG t] (.aE [.str (if eg t≠0 then[]else(rq (mU t)).1),.int .i64 (if eg t≠0 then eg t else(rq (mU t)).2)]):=by
 have G:=Eb t D;refine aP nf (i_ func10) mix (by simp[f10]) ?_;simp[f10,ad];refine c1_ G ?_
 by_cases r:eg t=0
 case neg=>simp[r]
 have f:=Pv r;have k:=Gd f;have E:=QY D;have A:=aCn (t:=t);have r1:=f.r1;have r2:=f.r2;have e0:fO [[114,97,100,105,117,115],bL t.bJ]=dH t 0 0 0:=by simp[dH,rA]
 have J:(fk [32] [[114,97,100,105,117,115],bL t.bJ]).length<=2000:=by
  have:=Gm r1 r2;simp only[rA,fO,ea]at this;omega
 simp[r,ad];refine c1_ (pF t.bJ o_ o_) ?_;simp[ad];refine cp (h1:=?g1) (wO true [[114,97,100,105,117,115],bL t.bJ] s_ o_) (by simp;exact⟨rfl,rfl⟩) ?_
 case g1=>simp
 simp;rw[e0];refine cf (Dg (dH t 0 0 0) (A 0 0 0) (by have:=k 0 0 0;omega)) [1] ?_;simp[aX,sig];refine lp (α:=Nat) (fun i=>⟨[(26,.p (.int .i64 i)),(25,.p (.int .i64 t.cs.length)),(24,.p (.seq (t.cs.map bw))),(5,.ptr 1 []),(1,.ptr 0 [])],[.box false (.p (dG t)),.box false (.st 117 [.ptr 1 [],.sl 3 i 1 0 (dH t i 0 0).length]),.hole,.arr .bytes i 1 (bU (dH t i 0 0))]⟩)
  (fun i=>i<=t.cs.length) (fun i=>t.cs.length-i) 0 s_ ?_ (hh:=by simp[bU]) (hr2:=by simp[bU])
 intro i hi;have cl:=f.cl;have pl:=f.pl;have sl:=f.sl
 by_cases d:i<t.cs.length
 ·have g:=aC.CN d;have o:=b8 (i:=i) o_;have h:=f.ij _ (c7 g);have l:=Ak h;have j:=Gt d;have v:=k i 0 0;generalize hc:t.at i=c at*;have s:=h.1;have w:=h.2.1;have z:=h.2.2.1;have e:=h.2.2.2;have C:(fk [32] [[99,111,114,110,101,114],bL c.x,bL c.y]).length<=2000:=by
   simp only[lU,fO,ea]at l;omega
  simp[d,g,hc,ad];refine e1_ (pF c.x o_ o_) ?_;simp[ad];refine e1_ (pF c.y o_ o_) ?_;simp[ad];refine ep (h1:=?g2) (wO true [[99,111,114,110,101,114],bL c.x,bL c.y] s_ o_) (by simp;exact⟨rfl,rfl⟩) (by simp;exact⟨rfl,rfl⟩) ?_
  case g2=>simp
  simp;rw[<-lU];refine ef (tZ (dH t i 0 0) (lU c) i _ rfl (by simp[lU,fO]) o_ o_) [1,3] ?_ (aj:=by simp[sig,bU]) (aG:=by simp[sig]) (hr:=by simp[bU]);simp[sig,bU,aX,kq,o];refine⟨rfl,?_⟩;exact rd (i+1) d (he:=by simp[j]) (hh:=by simp[j]) (hr2:=s_)
 obtain rfl:i=t.cs.length:=o_
 obtain⟨n,h⟩:∃n,t.cs.length=n:=⟨_,rfl⟩
 simp[ad];rw[h];refine lp (α:=Nat) (fun i=>⟨[(43,.p (.int .i64 i)),(42,.p (.int .i64 t.aF.length)),(41,.p (.seq (t.aF.map eQ))),(5,.ptr 1 []),(1,.ptr 0 [])],[.box false (.p (dG t)),.box false (.st 117 [.ptr 1 [],.sl 3 (n+i) 1 0 (dH t n i 0).length]),.hole,.arr .bytes (n+i) 1 (bU (dH t n i 0))]⟩)
  (fun i=>i<=t.aF.length) (fun i=>t.aF.length-i) 0 s_ ?_ (hh:=by simp[bU]) (hr2:=by simp[bU])
 clear hi d;intro i hi
 by_cases d:i<t.aF.length
 ·have g:=aC.jc d;have o:=b8 (i:=i) o_;obtain⟨s,w,z,e,u⟩:=f.pk _ (c7 g);have l:=Ao s w z e u;have j:=Ga (n:=n) d;have v:=k n i 0;generalize hc:t.pk i=c at*;have C:(fk [32] [[112,111,99,107,101,116],c.name,bL c.dw,c.a,c.b]).length<=5000:=by
   simp only[l7,fO,ea]at l;omega
  simp[d,g,hc,ad];refine e1_ (pF c.dw o_ o_) ?_;simp[ad];refine ep (h1:=?g2) (wO true [[112,111,99,107,101,116],c.name,bL c.dw,c.a,c.b] s_ o_) (by simp;exact⟨rfl,rfl⟩) (by simp;exact⟨rfl,rfl⟩) ?_
  case g2=>simp
  simp;rw[<-l7];refine ef (tZ (dH t n i 0) (l7 c) (n+i) _ rfl (by simp[l7,fO]) o_ o_) [1,3] ?_ (aj:=by simp[sig,bU]) (aG:=by simp[sig]) (hr:=by simp[bU]);simp[sig,bU,aX,kq,o];refine⟨rfl,?_⟩;exact rd (i+1) d (he:=by simp[j]) (hh:=by simp[j,hD]) (hr2:=s_)
 obtain rfl:i=t.aF.length:=o_
 obtain⟨m,B⟩:∃m,t.aF.length=m:=⟨_,rfl⟩
 simp[ad];rw[B];refine lp (α:=Nat) (fun i=>⟨[(63,.p (.int .i64 i)),(62,.p (.int .i64 t.au.length)),(61,.p (.seq (t.au.map gq))),(5,.ptr 1 [])],[.hole,.box false (.st 117 [.ptr 1 [],.sl 3 (n+m+i) 1 0 (dH t n m i).length]),.hole,.arr .bytes (n+m+i) 1 (bU (dH t n m i))]⟩)
  (fun i=>i<=t.au.length) (fun i=>t.au.length-i) 0 s_ ?_ (hh:=by simp[bU]) (hr2:=by simp[bU])
 clear hi d;intro i hi
 by_cases d:i<t.au.length
 ·have g:=aC.iN d;have o:=b8 (i:=i) o_;obtain⟨s,e,u⟩:=f.sp _ (c7 g);have l:=Am s e u;have j:=F9 (n:=n) (m:=m) d;have v:=k n m i;generalize hc:t.sp i=c at*;have C:(fk [32] [[115,112,111,116],c.name,c.pt.x,c.pt.y]).length<=5000:=by
   simp only[l9,fO,ea]at l;omega
  simp[d,g,hc,ad];refine cp (h1:=?g2) (wO true [[115,112,111,116],c.name,c.pt.x,c.pt.y] s_ o_) (by simp;exact⟨rfl,rfl⟩) ?_
  case g2=>simp
  simp;rw[<-l9];refine cf (tZ (dH t n m i) (l9 c) (n+m+i) _ rfl (by simp[l9,fO]) o_ o_) [1,3] ?_ (aj:=by simp[sig,bU]) (aG:=by simp[sig]) (hr:=by simp[bU]);simp[sig,bU,aX,kq,o];exact rd (i+1) d (he:=by simp[j]) (hh:=by simp[j,hD]) (hr2:=s_)
 obtain rfl:i=t.au.length:=o_
 obtain⟨q,hq⟩:∃q,t.au.length=q:=⟨_,rfl⟩
 have I:mU t=dH t n m q:=by rw[mU,h,B,hq]
 have v:=k n m q;have F:=E n m q;have H:=A n m q;rw[I,hq,rq];simp;generalize dH t n m q=T at*
 by_cases e:4096<T.length
 ·refine cf (Yz T (n+m+q) T.length rfl e) [1,3] ?_ (aj:=by simp[sig,bU]) (aG:=by simp[sig]) (hr:=by simp[bU]);simp[e,r]
 ·refine cf (YA T (n+m+q) T.length rfl H e F) [1,3] ?_ (aj:=by simp[sig,bU]) (aG:=by simp[sig]) (hr:=by simp[bU]);simp[e,r]
theorem wD(n:Int)(a:-9223372036854775808<=n)(b:n<=9223372036854775807):az prog 68 [.int .i64 n] (.str (bL n)):=by
 have hq:bK (n:Rat)=bL n:=by simp[bK]
 have hf:=Cv n a b;rw[hq]at hf;refine aP nf (i_ func68) mix (by simp[f68]) ?_;simp[f68];refine c1_ hf ?_;simp
theorem QM(t:aC)(d:DQ t):az prog 14 [ct t] (.aE [.str (rq (mU t)).1,.int .i64 (rq (mU t)).2]):=by
 refine aP nf (i_ func14) mix (by simp[f14]) ?_;have s:=Gd d;have r1:=d.r1;have r2:=d.r2;have cl:=d.cl;have pl:=d.pl;have sl:=d.sl;have e0:[114,97,100,105,117,115,32]++bL t.bJ++[10]=dH t 0 0 0:=by simp[dH,rA,fO,fk]
 have B:(bL t.bJ).length<=5:=pG (k:=4) o_ o_;simp at e0;simp[f14,ad];refine c1_ (wD t.bJ o_ o_) ?_;simp[ad];refine⟨o_,o_,?_⟩;rw[e0];refine lp (α:=Nat) (fun i=>⟨[(5,.p (.int .i64 i)),(4,.p (.str (dH t i 0 0))),(1,.ptr 0 [])],[.box false (.p (ct t))]⟩)
  (fun i=>i<=t.cs.length) (fun i=>t.cs.length-i) 0 s_ ?_
 intro i hi
 by_cases a:i<t.cs.length
 ·have b:=aC.CN a;have g:=b8 (i:=i) o_;have e:=d.ij _ (c7 b);have l:=Ak e;have f:=Gt a;have w:=s i 0 0;generalize hc:t.at i=c at*;have j:=e.1;have u:=e.2.1;have v:=e.2.2.1;have h:=e.2.2.2;simp[lU,fO,fk]at f;have k1:=pG (n:=c.x) (k:=5) o_ (by simp;omega);have k2:=pG (n:=c.y) (k:=5) o_ (by simp;omega);simp[a,b,hc,g,ad];refine⟨o_,?_⟩;refine e1_ (wD c.x o_ o_) ?_;simp[ad,a,b,hc];refine⟨o_,o_,?_⟩;refine e1_ (wD c.y o_ o_) ?_;simp[ad];refine⟨o_,o_,?_⟩;exact rd (i+1) a (he:=by simp[f,g])
 obtain rfl:i=t.cs.length:=o_
 obtain⟨n,e⟩:∃n,t.cs.length=n:=⟨_,rfl⟩
 simp[ad];rw[e];refine lp (α:=Nat) (fun i=>⟨[(6,.p (.int .i64 i)),(4,.p (.str (dH t n i 0))),(1,.ptr 0 [])],[.box false (.p (ct t))]⟩)
  (fun i=>i<=t.aF.length) (fun i=>t.aF.length-i) 0 s_ ?_
 clear hi a;intro i hi
 by_cases a:i<t.aF.length
 ·have b:=aC.jc a;have g:=b8 (i:=i) o_;obtain⟨j,u,v,h,r⟩:=d.pk _ (c7 b);have l:=Ao j u v h r;have f:=Ga (n:=n) a;have w:=s n i 0;generalize hc:t.pk i=c at*;simp[l7,fO,fk]at f l;simp[a,b,hc,g,ad];refine⟨o_,o_,o_,?_⟩;refine e1_ (wD c.dw o_ o_) ?_;simp[ad];refine⟨o_,o_,o_,o_,o_,o_,?_⟩;exact rd (i+1) a (he:=by simp[f,g])
 obtain rfl:i=t.aF.length:=o_
 obtain⟨m,z⟩:∃m,t.aF.length=m:=⟨_,rfl⟩
 simp[ad];rw[z];refine lp (α:=Nat) (fun i=>⟨[(8,.p (.int .i64 i)),(4,.p (.str (dH t n m i))),(1,.ptr 0 [])],[.box false (.p (ct t))]⟩)
  (fun i=>i<=t.au.length) (fun i=>t.au.length-i) 0 s_ ?_
 clear hi a;intro i hi
 by_cases a:i<t.au.length
 ·have b:=aC.iN a;have g:=b8 (i:=i) o_;obtain⟨j,h,r⟩:=d.sp _ (c7 b);have l:=Am j h r;have f:=F9 (n:=n) (m:=m) a;have w:=s n m i;generalize hc:t.sp i=c at*;simp[l9,fO,fk]at f l;simp[a,b,hc,g,ad];refine⟨o_,o_,o_,o_,o_,o_,o_,?_⟩;exact rd (i+1) a (he:=by simp[f,g])
 obtain rfl:i=t.au.length:=o_
 obtain⟨q,hq⟩:∃q,t.au.length=q:=⟨_,rfl⟩
 have A:mU t=dH t n m q:=by rw[mU,e,z,hq]
 rw[A,hq,rq];simp;generalize dH t n m q=T at*
 by_cases h:4096<T.length
 ·have o:(4096:Int)<(T.length:Int):=by omega
  simp[h,o,hq]
 ·have o:¬(4096:Int)<(T.length:Int):=by omega
  simp[h,o,hq]
def eD(a:List (List Nat)):Bool:=a.all fun w=>decide (w≠[])
def fR(s:List Nat):List (List Nat):=if eD (cU 32 s)=true then cU 32 s else[]
def ig(s:List Nat):Int:=if 4096<s.length then 26 else if s.getLast?=some 10 then 0 else 28
theorem aDw(c:Nat)(s:List Nat):cU c s≠[]:=by
 rw[tW];simp
theorem Ah{c:Nat}:∀{s a:List Nat}{x:List Nat},x∈gC c a s->x.length<=a.length+s.length
 |[],a,x,h=>by simp[gC]at h;subst h;simp
 |y::s,a,x,h=>by
  rw[gC]at h
  split at h
  ·rcases fm.1 h with rfl|h
   ·simp
   ·have:=Ah h;simp at this⊢;omega
  ·have:=Ah h;simp at this⊢;omega
theorem pH{c:Nat}{s x:List Nat}(h:x∈cU c s):x.length<=s.length:=by
 have:=Ah h;simpa using this
theorem rM(c:Nat)(s:List Nat):(cU c s).length<=s.length+1:=by
 rw[Al];have:=Aq c s;omega
theorem Xs(s:List Nat)(h:s.length<=1000000):az prog 74 [.str s] (.seq ((fR s).map .str)):=by
 have hs:=Gr s 32 o_ o_;have g:=rM 32 s;refine aP nf (i_ func74) mix (by simp[f74]) ?_;simp[f74];refine c2_ hs ?_;have c:fR s=if eD (cU 32 s)=true then cU 32 s else[]:=rfl
 generalize cU 32 s=ws at*;simp;refine lp (α:=Nat) (fun i=>⟨[(4,.p (.int .i64 i)),(3,.p (.seq (ws.map .str)))],[]⟩) (fun i=>i<=ws.length/\eD (ws.take i)=true) (fun i=>ws.length-i) 0 (by simp[eD]) ?_;rintro i ⟨f,a⟩;have e:=b8 (i:=i) o_
 by_cases hi:i<ws.length
 ·by_cases b:ws[i]=[]
  ·have d:eD ws=false:=by
    cases hq:eD ws
    ·rfl
    ·rw[eD,fb]at hq;have:=hq _ (ee hi);simp[b]at this
   rw[c,if_neg (by rw[d];simp)];simp[hi,b]
  ·simp[hi,b,e];exact rd (i+1) ⟨hi,by
    rw[eD]at a⊢;rw[dp hi,eq,a];simp[b]⟩
 ·obtain rfl:i=ws.length:=by omega
  rw[c8]at a;rw[c,if_pos a];simp
theorem QJ(s:List Nat)(h:s.length<=1000000):az prog 69 [.str s] (.aE [.seq ((if ig s=0 then cU 10 s.dropLast else[]).map .str),.int .i64 (ig s)]):=by
 refine aP nf (i_ func69) mix (by simp[f69]) ?_
 by_cases a:4096<s.length
 ·have d:(4096:Int)<(s.length:Int):=by omega
  have e:ig s=26:=by rw[ig,if_pos a]
  simp[f69,a,d,e]
 have d:¬(4096:Int)<(s.length:Int):=o_
 rcases g4 s with rfl|⟨t,x,rfl⟩
 ·simp[f69,ig]
 rw[g5]at*;have hl:(t++[x]).length=t.length+1:=s_
 have i:bo.wrap (((t.length:Int)+1)-1)=t.length:=by rw[aN _ o_ o_];omega
 have j:bo.wrap (t.length:Int)=t.length:=aN _ o_ o_;have k:(t++[x])[t.length]?=some x:=s_
 have c:¬(t.length:Int)+1=0:=o_
 have f:¬4096<t.length+1:=o_
 have g:¬(4096:Int)<(t.length:Int)+1:=o_
 by_cases hx:x=10
 ·have e:ig (t++[x])=0:=by rw[ig,if_neg a,if_pos (by simp[hx])]
  have b:(x:Int)=10:=o_
  rw[e];have hs:=Gr t 10 o_ o_;simp[f69,f,g,c,i,j,b];refine c2_ hs ?_;simp
 ·have e:ig (t++[x])=28:=by rw[ig,if_neg a,if_neg (by simp[hx])]
  have b:¬(x:Int)=10:=o_
  rw[e];simp[f69,f,g,c,i,j,b]
def dd(t:aC)(st:Int):List (List Nat)->aC×Int×Bool
 |[]=>(t,st,false)
 |w::r=>
  if w=[114,97,100,105,117,115]then
   match r with
   |[a]=>if st=0 then({t with bJ:=(b7 a).1},1,(b7 a).2)else(t,st,false)
   |_=>(t,st,false)
  else if w=[99,111,114,110,101,114]then
   match r with
   |[a,b]=>if st=1 then({t with cs:=t.cs++[⟨(b7 a).1,(b7 b).1⟩]},st,(b7 a).2&&(b7 b).2)else(t,st,false)
   |_=>(t,st,false)
  else if w=[112,111,99,107,101,116]then
   match r with
   |[n,e,a,b]=>if st=1\/st=2 then({t with aF:=t.aF++[⟨n,(b7 e).1,a,b⟩]},2,(b7 e).2)else(t,st,false)
   |_=>(t,st,false)
  else if w=[115,112,111,116]then
   match r with
   |[n,x,y]=>if st=0 then(t,st,false)else({t with au:=t.au++[⟨n,⟨x,y⟩⟩]},3,true)
   |_=>(t,st,false)
  else(t,st,false)
def eK(t:aC)(st:Int):Heap:=
 [.box false (.st 144 [.st 25 [.sl 1 t.cs.length 2 0 t.cs.length,.p (.int .i64 t.bJ),.sl 2 t.aF.length 4 0 t.aF.length,.sl 3 t.au.length 3 0 t.au.length],.p (.int .i64 st)]),
  .arr .grow t.cs.length 2 (t.cs.map (AV.p∘bw)),.arr .grow t.aF.length 4 (t.aF.map (AV.p∘bY)),.arr .grow t.au.length 3 (t.au.map (AV.p∘bO))]
theorem YC(t:aC)(st:Int)(s:List Nat)(hs:s.length<=1000000)(hc:t.cs.length<=1000000)(y:t.aF.length<=1000000)(hq:t.au.length<=1000000):
 cm prog 70 (eK t st) [.ptr 0 [],.p (.str s)] (eK (dd t st (fR s)).1 (dd t st (fR s)).2.1) (.p (.bool (dd t st (fR s)).2.2)):=by
 have g:=Xs s hs;have hl:∀w∈fR s,w.length<=1000000:=by
  intro w h;rw[fR]at h
  split at h
  ·have:=pH h;omega
  ·simp at h
 refine fU nf (i_ func70) mix (by simp[f70,eK]) ?_;generalize fR s=ws at*;rcases ws with _|⟨w,r⟩
 ·simp[f70,eK,dd];refine c1_ g ?_;simp
 have k:∀x∈r,az prog 160 [.str x] (.aE [.int .i64 (b7 x).1,.bool (b7 x).2]):=fun x hx=>QR x (by have:=hl x (by simp[hx]);omega)
 by_cases m:w=[114,97,100,105,117,115]
 ·subst m;clear hl;rcases r with _|⟨a,_|⟨b,r⟩⟩
  ·skip
   simp[f70,eK,dd];refine c1_ g ?_
   by_cases f:st=0<;>simp[f,ad]
  ·skip
   have l:=k a s_
   by_cases f:st=0
   ·subst f;simp[f70,eK,dd];refine c1_ g ?_;simp[ad];refine c1_ l ?_;simp[ad]
   ·simp[f70,eK,dd,f];refine c1_ g ?_;simp[f,ad]
  ·have e2:¬((r.length:Int)+1+1+1=2):=by omega
   simp[f70,eK,dd];refine c1_ g ?_
   by_cases f:st=0<;>simp[f,e2,ad]
 by_cases n:w=[99,111,114,110,101,114]
 ·subst n;clear hl;rcases r with _|⟨a,_|⟨b,_|⟨c,r⟩⟩⟩
  ·skip
   simp[f70,eK,dd];refine c1_ g ?_
   by_cases f:st=1<;>simp[f,ad]
  ·skip
   simp[f70,eK,dd];refine c1_ g ?_
   by_cases f:st=1<;>simp[f,ad]
  ·skip
   have l:=k a s_;have j:=k b s_
   by_cases f:st=1
   ·subst f;simp[f70,eK,dd];refine c1_ g ?_;simp[ad];refine c1_ l ?_;simp[ad];refine c1_ j ?_;generalize b7 a=A at*;generalize b7 b=B at*;obtain⟨A,u⟩:=A;obtain⟨B,v⟩:=B;cases u<;>simp[ad]
    all_goals exact⟨by simp only[cF];omega,bC.og (by simp[bw,bY,bO,ff]) s_ (by simp[bw,bY,bO,ff]) s_ s_⟩
   ·simp[f70,eK,dd,f];refine c1_ g ?_;simp[f,ad]
  ·have e2:¬((r.length:Int)+1+1+1+1=3):=by omega
   simp[f70,eK,dd];refine c1_ g ?_
   by_cases f:st=1<;>simp[f,e2,ad]
 by_cases o:w=[112,111,99,107,101,116]
 ·subst o;clear hl;rcases r with _|⟨a,_|⟨b,_|⟨c,_|⟨d,_|⟨e,r⟩⟩⟩⟩⟩
  ·skip
   simp[f70,eK,dd];refine c1_ g ?_
   by_cases f:st=1
   ·simp[f,ad]
   ·by_cases i:st=2<;>simp[f,i,ad]
  ·skip
   simp[f70,eK,dd];refine c1_ g ?_
   by_cases f:st=1
   ·simp[f,ad]
   ·by_cases i:st=2<;>simp[f,i,ad]
  ·skip
   simp[f70,eK,dd];refine c1_ g ?_
   by_cases f:st=1
   ·simp[f,ad]
   ·by_cases i:st=2<;>simp[f,i,ad]
  ·skip
   simp[f70,eK,dd];refine c1_ g ?_
   by_cases f:st=1
   ·simp[f,ad]
   ·by_cases i:st=2<;>simp[f,i,ad]
  ·skip
   have j:=k b s_
   by_cases f:st=1
   ·subst f;simp[f70,eK,dd];refine c1_ g ?_;simp[ad];refine c1_ j ?_;simp[ad];exact⟨by simp only[cF];omega,by repeat' first|rfl|apply am,bC.og (by simp[bw,bY,bO,ff]) s_ (by simp[bw,bY,bO,ff]) s_ s_⟩
   by_cases i:st=2
   ·subst i;simp[f70,eK,dd];refine c1_ g ?_;simp[ad];refine c1_ j ?_;simp[ad];exact⟨by simp only[cF];omega,by repeat' first|rfl|apply am,bC.og (by simp[bw,bY,bO,ff]) s_ (by simp[bw,bY,bO,ff]) s_ s_⟩
   simp[f70,eK,dd,f,i];refine c1_ g ?_;simp[f,i,ad]
  ·have e2:¬((r.length:Int)+1+1+1+1+1+1=5):=by omega
   simp[f70,eK,dd];refine c1_ g ?_
   by_cases f:st=1
   ·simp[f,e2,ad]
   ·by_cases i:st=2<;>simp[f,i,e2,ad]
 by_cases q:w=[115,112,111,116]
 ·subst q;clear hl;rcases r with _|⟨a,_|⟨b,_|⟨c,_|⟨d,r⟩⟩⟩⟩
  ·skip
   simp[f70,eK,dd];refine c1_ g ?_
   by_cases f:st=0<;>simp[f,ad]
  ·skip
   simp[f70,eK,dd];refine c1_ g ?_
   by_cases f:st=0<;>simp[f,ad]
  ·skip
   simp[f70,eK,dd];refine c1_ g ?_
   by_cases f:st=0<;>simp[f,ad]
  ·skip
   by_cases f:st=0
   ·subst f;simp[f70,eK,dd];refine c1_ g ?_;simp[ad]
   ·simp[f70,eK,dd,f];refine c1_ g ?_;simp[f,ad];exact⟨by simp only[cF];omega,by repeat' first|rfl|apply am,bC.og (by simp[bw,bY,bO,ff]) s_ (by simp[bw,bY,bO,ff]) s_ s_⟩
  ·have e2:¬((r.length:Int)+1+1+1+1+1=4):=by omega
   simp[f70,eK,dd];refine c1_ g ?_
   by_cases f:st=0<;>simp[f,e2,ad]
 simp[f70,eK,dd,m,n,o,q];refine c1_ g ?_;simp[m,n,o,q,ad]
def jx:List (List Nat)->aC->Int->Nat->Option aC×Nat
 |[],t,_,_=>(some t,0)
 |l::ls,t,st,i=>if(dd t st (fR l)).2.2=true then jx ls (dd t st (fR l)).1 (dd t st (fR l)).2.1 (i+1)else(none,i+1)
def iA(s:List Nat):aC×Int×Int:=
 if ig s≠0 then(zT,0,ig s)
 else match jx (cU 10 s.dropLast) zT 0 0 with
  |(none,k)=>(zT,k,25)
  |(some t,_)=>if eg t≠0 then(zT,0,eg t)else(t,0,0)
theorem Gs:il []:=fun b o h=>by simp at h
theorem rL{k:AK}{an z:Nat}{c:List PV}{H:Heap}(h:il H):il (.arr k an z (c.map AV.p)::H):=fun b o a=>by
 rcases b with _|b
 ·simp at a;exact⟨k,an,z,c,a.symm⟩
 ·exact h b o (by simpa using a)
theorem tD{α:Type}{f:α->PV}{l:List α}:l.map (AV.p∘f)=(l.map f).map AV.p:=by rw[hb]
theorem wL{α:Type}{f:α->PV}{l:List α}{H:Heap}{n:Nat}:kM H n (l.map (AV.p∘f)) (l.map f):=by
 rw[yo];intro x _;cases n<;>simp
theorem An(t:aC)(st:Int)(a:List (List Nat)):(dd t st a).1.cs.length<=t.cs.length+1/\(dd t st a).1.aF.length<=t.aF.length+1/\(dd t st a).1.au.length<=t.au.length+1/\t.cs.length<=(dd t st a).1.cs.length/\t.aF.length<=(dd t st a).1.aF.length/\t.au.length<=(dd t st a).1.au.length:=by
 unfold dd
 repeat' split
 all_goals simp
def jT(t:aC):Heap:=[.arr .grow t.cs.length 2 (t.cs.map (AV.p∘bw)),.arr .grow t.aF.length 4 (t.aF.map (AV.p∘bY)),.arr .grow t.au.length 3 (t.au.map (AV.p∘bO))]
def zk(a:List AV):AK:=bif a.isEmpty then .grow else .frozen
theorem Gq(v z:Nat)(a:List AV):iZ (.arr .grow v z a)=.arr (zk a) v z a:=by cases a<;>rfl
def pC(t:aC):Heap:=[.arr (zk (t.cs.map (AV.p∘bw))) t.cs.length 2 (t.cs.map (AV.p∘bw)),.arr (zk (t.aF.map (AV.p∘bY))) t.aF.length 4 (t.aF.map (AV.p∘bY)),.arr (zk (t.au.map (AV.p∘bO))) t.au.length 3 (t.au.map (AV.p∘bO))]
theorem Yw(t:aC)(e:jf t):cm prog 13 (jT t) [.st 25 [.sl 0 t.cs.length 2 0 t.cs.length,.p (.int .i64 t.bJ),.sl 1 t.aF.length 4 0 t.aF.length,.sl 2 t.au.length 3 0 t.au.length]] (pC t) (.p (.int .i64 (eg t))):=by
 have hf:pC t=(jT t).map iZ:=by simp[pC,jT,Gq]
 rw[hf];have d:il (jT t):=by
  rw[jT,tD,tD,tD];exact rL (rL (rL Gs))
 refine az.OY 9 (D2 t e) (i_ func13).enters d ?_;have a:fl t.cs.length (t.cs.map (AV.p∘bw))=t.cs.map (AV.p∘bw):=c6 s_;have b:fl t.aF.length (t.aF.map (AV.p∘bY))=t.aF.map (AV.p∘bY):=c6 s_;have c:fl t.au.length (t.au.map (AV.p∘bO))=t.au.map (AV.p∘bO):=c6 s_;simp[jT,ct,a,b,c,wL]
theorem Ag{c:Nat}:∀{s a:List Nat}{x:List Nat},x∈gC c a s->∀y∈x,y∈a\/y∈s
 |[],a,x,h,y,hy=>by simp[gC]at h;subst h;exact .inl hy
 |z::s,a,x,h,y,hy=>by
  rw[gC]at h
  split at h
  ·rcases fm.1 h with rfl|h
   ·exact .inl hy
   ·rcases Ag h y hy with h|h
    ·cases h
    ·exact .inr (by simp[h])
  ·rcases Ag h y hy with h|h
   ·rcases ei.1 h with h|h
    ·exact .inl h
    ·simp at h;exact .inr (by simp[h])
   ·exact .inr (by simp[h])
theorem wA{c:Nat}{s x:List Nat}(h:x∈cU c s):∀y∈x,y∈s:=fun y a=>by
 rcases Ag h y a with h|h
 ·cases h
 ·exact h
theorem F7{l:List Nat}(hl:l.length<=1000000)(a:∀c∈l,c<256):∀w∈fR l,jt w:=by
 intro w h;rw[fR]at h
 split at h
 ·have:=pH h;exact⟨o_,fun c hc=>a c (wA h c hc)⟩
 ·cases h
theorem F8{t:aC}{st:Int}{d:List (List Nat)}(c:jf t)(hc:t.cs.length<1000000)(a:t.aF.length<1000000)(hq:t.au.length<1000000)(b:∀w∈d,jt w):jf (dd t st d).1:=by
 have hl:=An t st d;refine⟨o_,o_,o_,?_,?_⟩
 ·intro p a;unfold dd at a
  repeat' split at a
  all_goals try exact c.pk p a
  simp only[ei,g8]at a;rcases a with a|rfl
  ·exact c.pk p a
  ·exact⟨b _ s_,b _ s_,b _ s_⟩
 ·intro p a;unfold dd at a
  repeat' split at a
  all_goals try exact c.sp p a
  simp only[ei,g8]at a;rcases a with a|rfl
  ·exact c.sp p a
  ·exact⟨b _ s_,b _ s_,b _ s_⟩
theorem rN:jf zT:=⟨by simp[zT],by simp[zT],by simp[zT],by simp[zT],by simp[zT]⟩
theorem QN(s:List Nat)(hs:s.length<=100000)(z:∀c∈s,c<256):az prog 15 [.str s] (.aE [ct (iA s).1,.int .i64 (iA s).2.1,.int .i64 (iA s).2.2]):=by
 have hl:=QJ s o_;refine aP nf (i_ func15) mix (by simp[f15]) ?_;simp[f15];refine c1_ hl ?_
 by_cases d:ig s=0
 case neg=>
  have e:iA s=(zT,0,ig s):=by rw[iA,if_pos d]
  rw[e];have b:ct zT=.st 25 [.seq [],.int .i64 0,.seq [],.seq []]:=rfl;simp[d,b,ad]
 simp[d,ad]
 have n:iA s=match jx (cU 10 s.dropLast) zT 0 0 with
   |(none,k)=>(zT,(k:Int),25)
   |(some t,_)=>if eg t≠0 then(zT,0,eg t)else(t,0,0):=by rw[iA,if_neg (by simp[d])]
 have j:=rM 10 s.dropLast;have E:(cU 10 s.dropLast).length<=100001:=by simp at j;omega
 have A:∀l∈cU 10 s.dropLast,l.length<=100000/\∀c∈l,c<256:=fun l h=>by
  have:=pH h;exact⟨by simp at this;omega,fun c hc=>z c (g6 _ (wA h c hc))⟩
 have b:ct zT=.st 25 [.seq [],.int .i64 0,.seq [],.seq []]:=rfl;rw[n];clear n j hl;generalize cU 10 s.dropLast=ls at*
 refine lp (α:=Nat×aC×Int) (fun(i,t,st)=>⟨[(8,.p (.int .i64 i)),(7,.ptr 1 []),(5,.p (.seq (ls.map .str))),(2,.ptr 0 [])],
  [.box false (.p (.st 25 [.aK,.int .i64 0,.aK,.aK])),.box false (.st 144 [.st 25 [.sl 2 t.cs.length 2 0 t.cs.length,.p (.int .i64 t.bJ),.sl 3 t.aF.length 4 0 t.aF.length,.sl 4 t.au.length 3 0 t.au.length],.p (.int .i64 st)]),
   .arr .grow t.cs.length 2 (t.cs.map (AV.p∘bw)),.arr .grow t.aF.length 4 (t.aF.map (AV.p∘bY)),.arr .grow t.au.length 3 (t.au.map (AV.p∘bO))]⟩)
  (fun(i,t,st)=>i<=ls.length/\jf t/\t.cs.length<=i/\t.aF.length<=i/\t.au.length<=i/\jx ls zT 0 0=jx (ls.drop i) t st i) (fun(i,_,_)=>ls.length-i) (0,zT,0) (by simp[rN];simp[zT]) ?_ (hh:=by simp[zT]) (hr2:=by simp[zT])
 rintro⟨i,t,st⟩ ⟨v,g,w,x,y,a⟩;dsimp only at v g w x y a⊢;have o:=b8 (i:=i) o_
 by_cases hi:i<ls.length
 ·rw[dg hi,jx]at a;obtain⟨D,r⟩:=A _ (ee hi);have B:=An t st (fR ls[i]);have m:=F8 (st:=st) g o_ o_ o_ (F7 (l:=ls[i]) o_ r);have f:=YC t st ls[i] o_ o_ o_ o_;simp[hi,ad];generalize dd t st (fR ls[i])=R at*;obtain⟨t2,C,ok⟩:=R;dsimp only at B m f a;rw[eK,eK]at f;refine cf f [1,2,3,4] ?_ (aj:=by simp[sig,fE]) (aG:=by simp[sig]) (hr:=s_);rcases ok with _|_
  ·rw[if_neg s_]at a;rw[a];simp[aX,sig,eK,o,b,ad,fE]
  ·rw[if_pos rfl]at a;simp[aX,sig,eK,o,ad,fE];exact rd (i+1,t2,C) ⟨hi,m,by dsimp only;omega,by dsimp only;omega,by dsimp only;omega,a⟩ (h1:=by dsimp only;omega)
 ·obtain rfl:i=ls.length:=by omega
  rw[e9,jx]at a;rw[a];dsimp only;simp[ad];have gk:=Yw t g;rw[jT,pC]at gk;refine cf gk [2,3,4] ?_ (aj:=by simp[sig,fE]) (aG:=by simp[sig]) (hr:=s_);have k1:fl t.cs.length (t.cs.map (AV.p∘bw))=t.cs.map (AV.p∘bw):=c6 s_;have k2:fl t.aF.length (t.aF.map (AV.p∘bY))=t.aF.map (AV.p∘bY):=c6 s_;have k3:fl t.au.length (t.au.map (AV.p∘bO))=t.au.map (AV.p∘bO):=c6 s_;have u:ct t=.st 25 [.seq (t.cs.map bw),.int .i64 t.bJ,.seq (t.aF.map bY),.seq (t.au.map bO)]:=rfl
  by_cases q:eg t=0
  ·simp[aX,sig,q,ad,fE,u,k1,k2,k3,wL]
  ·simp[aX,sig,q,ad,fE,b]
def fX(t:aC)(a:Int):Heap:=
 [.box false (.st 131 [.st 35 [.sl 1 t.cs.length 2 0 t.cs.length,.p (.int .i64 t.bJ),.sl 2 t.aF.length 4 0 t.aF.length,.sl 3 t.au.length 3 0 t.au.length],.p .aK,.p (.int .i64 a)]),
  .arr .grow t.cs.length 2 (t.cs.map (AV.p∘bw)),.arr .grow t.aF.length 4 (t.aF.map (AV.p∘bY)),.arr .grow t.au.length 3 (t.au.map (AV.p∘bO))]
theorem Q0(t:aC)(b:Int)(a:List Nat)(d:a.length<=1000000):
 cm prog 147 (fX t b) [.ptr 0 [],.p (.seq [.str a])] (fX {t with bJ:=fG a} b) (.p (.bool (b7 a).2)):=by
 have c:=wE a o_;refine fU nf (i_ func147) mix (by simp[f147,fX]) ?_;simp[f147,fX];refine c1_ c ?_;simp[ad]
theorem Q2(t:aC)(c:Int)(a b:List Nat)(f:a.length<=1000000)(g:b.length<=1000000)(hc:t.cs.length<=1000000):
 cm prog 148 (fX t c) [.ptr 0 [],.p (.seq [.str a,.str b])] (fX {t with cs:=t.cs++[⟨fG a,fG b⟩]} c) (.p (.bool ((b7 a).2&&(b7 b).2))):=by
 have d:=wE a o_;have e:=wE b o_;refine fU nf (i_ func148) mix (by simp[f148,fX]) ?_;simp[f148,fX];refine c1_ d ?_;simp[ad];refine c1_ e ?_;generalize (b7 a).2=A at*;generalize (b7 b).2=B at*;cases A<;>simp[ad]
 all_goals exact⟨by simp only[cF];omega,bC.og (by simp[bw]) s_ (by simp[bw]) s_ s_⟩
theorem Q1(t:aC)(c:Int)(n e a b:List Nat)(f:e.length<=1000000)(hc:t.aF.length<=1000000):
 cm prog 149 (fX t c) [.ptr 0 [],.p (.seq [.str n,.str e,.str a,.str b])] (fX {t with aF:=t.aF++[⟨n,fG e,a,b⟩]} c) (.p (.bool (b7 e).2)):=by
 have d:=wE e o_;refine fU nf (i_ func149) mix (by simp[f149,fX]) ?_;simp[f149,fX];refine c1_ d ?_;simp[ad];exact⟨by simp only[cF];omega,by repeat' first|rfl|apply am,bC.og (by simp[bY]) s_ (by simp[bY]) s_ s_⟩
theorem YF(t:aC)(a:Int)(n x y:List Nat)(hc:t.au.length<=1000000):
 cm prog 150 (fX t a) [.ptr 0 [],.p (.seq [.str n,.str x,.str y])] (fX {t with au:=t.au++[⟨n,⟨x,y⟩⟩]} a) (.p (.bool true)):=by
 refine fU nf (i_ func150) mix (by simp[f150,fX]) ?_;simp[f150,fX,ad];exact⟨by simp only[cF];omega,by repeat' first|rfl|apply am,bC.og (by simp[bO,ff]) s_ (by simp[bO,ff]) s_ s_⟩
def nT:List (List Nat)->Nat->Int
 |[],_=>-1
 |w::r,i=>if w=[]then i else nT r (i+1)
theorem Gg:∀(a:List (List Nat))(i:Nat),decide (0<=nT a i)=!eD a
 |[],i=>by simp[nT,eD]
 |w::r,i=>by
  have:=Gg r (i+1);rw[nT]
  by_cases h:w=[]
  ·rw[if_pos h];simp[eD,h]
  ·rw[if_neg h,this];simp[eD,h]
theorem QK(a:List (List Nat))(hl:a.length<=1000000):az prog 225 [.seq (a.map .str),.str []] (.int .i64 (nT a 0)):=by
 refine aP nf (i_ func225) mix (by simp[f225]) ?_;simp[f225];refine lp (α:=Nat) (fun i=>⟨[(8,.p (.int .i64 i)),(7,.p (.int .i64 a.length)),(1,.p (.str [])),(0,.p (.seq (a.map .str)))],[]⟩) (fun i=>i<=a.length/\nT a 0=nT (a.drop i) i) (fun i=>a.length-i) 0 s_ ?_;rintro i ⟨g,b⟩;have f:=b8 (i:=i) o_
 by_cases hi:i<a.length
 ·rw[dg hi,nT]at b
  by_cases c:a[i]=[]
  ·rw[if_pos c]at b;rw[b];simp[hi,c]
  ·rw[if_neg c]at b;have d:¬[]=a[i]:=fun e=>c e.symm;simp[hi,c,d,f];exact rd (i+1) ⟨hi,b⟩
 ·obtain rfl:i=a.length:=by omega
  rw[e9,nT]at b;rw[b];simp
theorem Rc(a:List (List Nat))(hl:a.length<=1000000):az prog 146 [.seq (a.map .str),.str []] (.bool (!eD a)):=by
 have b:=QK a hl;rw[<-Gg a 0];refine aP nf (i_ func146) mix (by simp[f146]) ?_;simp[f146];refine c2_ b ?_;simp
def fh:List PV:=[.str [114,97,100,105,117,115],.str [99,111,114,110,101,114],.str [112,111,99,107,101,116],.str [115,112,111,116]]
def eB(b:Nat):List AV:=[.st 229 [.p (.int .i64 0),.p (.int .i64 1),.func 147 [.ptr b []] []],.st 229 [.p (.int .i64 1),.p (.int .i64 2),.func 148 [.ptr b []] []],
 .st 229 [.p (.int .i64 2),.p (.int .i64 4),.func 149 [.ptr b []] []],.st 229 [.p (.int .i64 3),.p (.int .i64 3),.func 150 [.ptr b []] []]]
def nZ:PV:=.st 131 [.st 35 [.aK,.int .i64 0,.aK,.aK],.aK,.int .i64 0]
theorem Q7:cm prog 60 [.box false (.p nZ)] [.ptr 0 []] [.box false (.p nZ),.cT fh (eB 0)] (.map 1):=by
 refine fU nf (i_ func60) mix (by simp[f60]) ?_;simp[f60,iC,fh,eB]
 done
theorem Pu(s:List Nat)(a:∀c∈s,c<256):b5 (s.map hL) (([10]:List Nat).map hL)=decide (s.getLast?=some 10):=by
 rw[b5];rcases g4 s with rfl|⟨t,x,rfl⟩
 ·rfl
 ·simp only[g5]at a⊢;have hx:=a x s_;rw[List.getLast?_append,List.getLast?_singleton]
  by_cases h:x=10
  ·subst h;simp[ha]
  ·have b:¬(10:UInt8)=hL x:=by
    intro e;have:=congrArg UInt8.toNat e;simp at this;omega
   have e1:decide ((some x).or t.getLast?=some 10)=false:=by simp[h]
   rw[e1];simp only[ha,gg,dq,ew,List.reverse_append,List.reverse_cons,List.reverse_nil,List.nil_append,List.singleton_append,List.isPrefixOf,ax,beq_eq_false_iff_ne,ne_eq];exact .inl b
theorem Gn{x:List Nat}(a:∀c∈x,c<256):cC (x.map hL)=x:=by
 rw[cC,hb]
 conv=>rhs;rw[<-List.map_id x]
 apply List.map_congr_left;intro c hc;have:=a c hc;simp;omega
def lZ(s:List Nat):List Nat:=if s.getLast?=some 10 then s.dropLast else s
theorem QP{s:List Nat}(a:∀c∈s,c<256):cC (b4 (s.map hL) (([10]:List Nat).map hL))=lZ s:=by
 rw[b4,Pu s a,lZ]
 by_cases h:s.getLast?=some 10
 ·rw[if_pos h];simp only[h,decide_true,if_true];have:=Gn (x:=s.dropLast) fun c hc=>a c (g6 _ hc);rw[<-this];congr 1;rw[List.dropLast_eq_take,fv];simp
 ·rw[if_neg h];simp only[h,decide_false];simpa using Gn a
theorem QL(s:List Nat)(h:s.length<=1048576)(g:∀c∈s,c<256):az prog 58 [.str s,.str [10]] (.bool (decide (s.getLast?=some 10))):=by
 have a:=Pu s g;refine iJ (gN func58 k_) fun w aa i _ j f=>?_;obtain⟨x,y,rfl,h1,b⟩:=kV f;obtain⟨bs,rfl,rfl⟩:=jl h1;obtain⟨cs,rfl,d⟩:=jl b;have e1:=qS bs.data.toList;have e2:=qS cs.data.toList;rw[d,e1,e2]at a;refine(strings_HasSuffix bs cs w (by simp[cC]at h;omega)).mono ?_;rintro e w' ⟨rfl,rfl⟩;exact⟨_,rfl,⟨ht _,fun _ _=>rfl,rfl,rfl⟩,fun w aa=>by rw[a];simp[aA]⟩
theorem QW(s:List Nat)(h:s.length<=1048576)(i:∀c∈s,c<256):az prog 145 [.str s,.str [10]] (.str (lZ s)):=by
 have a:=QP i;refine iJ (gN func145 k_) fun w aa j _ k g=>?_;obtain⟨x,y,rfl,b,d⟩:=kV g;obtain⟨bs,rfl,rfl⟩:=jl b;obtain⟨cs,rfl,f⟩:=jl d;have e1:=qS bs.data.toList;have e2:=qS cs.data.toList;rw[f,e1,e2]at a;refine(strings_TrimSuffix bs cs w (by simp[cC]at h;omega)).mono ?_;rintro e w' ⟨rfl,rfl⟩;exact⟨_,rfl,⟨ht _,fun _ _=>rfl,rfl,rfl⟩,fun w aa=>by rw[<-a];exact qu _⟩
def dL(d:Bool)(t:aC)(c:Int)(f:List (List Nat)):aC×Int×Bool:=
 if eD f=false then(t,c,false)else
 match f with
 |[]=>(t,c,false)
 |w::r=>
  if w=[114,97,100,105,117,115]then
   match r with
   |[a]=>if c<=0/\d=true then({t with bJ:=fG a},if(b7 a).2=true then 0 else c,(b7 a).2)else(t,c,false)
   |_=>(t,c,false)
  else if w=[99,111,114,110,101,114]then
   match r with
   |[a,b]=>if c<=1/\d=false then({t with cs:=t.cs++[⟨fG a,fG b⟩]},if((b7 a).2&&(b7 b).2)=true then 1 else c,(b7 a).2&&(b7 b).2)else(t,c,false)
   |_=>(t,c,false)
  else if w=[112,111,99,107,101,116]then
   match r with
   |[n,e,a,b]=>if c<=2/\d=false then({t with aF:=t.aF++[⟨n,fG e,a,b⟩]},if(b7 e).2=true then 2 else c,(b7 e).2)else(t,c,false)
   |_=>(t,c,false)
  else if w=[115,112,111,116]then
   match r with
   |[n,x,y]=>if c<=3/\d=false then({t with au:=t.au++[⟨n,⟨x,y⟩⟩]},3,true)else(t,c,false)
   |_=>(t,c,false)
  else(t,c,false)
def iQ:List (List Nat)->Nat->aC->Int->aC×Int×Nat
 |[],_,t,a=>(t,a,0)
 |l::ls,i,t,a=>if(dL (decide (i=0)) t a (cU 32 l)).2.2=true then iQ ls (i+1) (dL (decide (i=0)) t a (cU 32 l)).1 (dL (decide (i=0)) t a (cU 32 l)).2.1 else((dL (decide (i=0)) t a (cU 32 l)).1,(dL (decide (i=0)) t a (cU 32 l)).2.1,i+1)
def eJ(t:aC)(a:Int):Heap:=
 [.box false (.st 131 [.st 35 [.sl 2 t.cs.length 2 0 t.cs.length,.p (.int .i64 t.bJ),.sl 3 t.aF.length 4 0 t.aF.length,.sl 4 t.au.length 3 0 t.au.length],.p .aK,.p (.int .i64 a)]),.cT fh (eB 0),
  .arr .grow t.cs.length 2 (t.cs.map (AV.p∘bw)),.arr .grow t.aF.length 4 (t.aF.map (AV.p∘bY)),.arr .grow t.au.length 3 (t.au.map (AV.p∘bO))]
theorem aA1{i0:Bool}{t:aC}{a:Int}{ws:List (List Nat)}(b:0<=a)(c:a<=3):(dL i0 t a ws).1.cs.length<=t.cs.length+1/\(dL i0 t a ws).1.aF.length<=t.aF.length+1/\(dL i0 t a ws).1.au.length<=t.au.length+1/\0<=(dL i0 t a ws).2.1/\(dL i0 t a ws).2.1<=3:=by
 unfold dL
 repeat' split
 all_goals simp
 all_goals (try omega)
theorem aBb{e:Bool}{t:aC}{d:Int}{r:List (List Nat)}(h:¬(eD ([114,97,100,105,117,115]::r)=true/\d<=0/\r.length=1/\e=true)):dL e t d ([114,97,100,105,117,115]::r)=(t,d,false):=by
 unfold dL
 split
 ·rfl
 ·rename_i c;have c:eD ([114,97,100,105,117,115]::r)=true:=by simpa using c
  simp
  split
  ·rw[if_neg];rintro⟨a,b⟩;exact h ⟨c,a,rfl,b⟩
  ·rfl
theorem aBg{e:Bool}{t:aC}{d:Int}{r:List (List Nat)}(h:¬(eD ([99,111,114,110,101,114]::r)=true/\d<=1/\r.length=2/\e=false)):dL e t d ([99,111,114,110,101,114]::r)=(t,d,false):=by
 unfold dL
 split
 ·rfl
 ·rename_i c;have c:eD ([99,111,114,110,101,114]::r)=true:=by simpa using c
  simp
  split
  ·rw[if_neg];rintro⟨a,b⟩;exact h ⟨c,a,rfl,b⟩
  ·rfl
theorem aBh{e:Bool}{t:aC}{d:Int}{r:List (List Nat)}(h:¬(eD ([112,111,99,107,101,116]::r)=true/\d<=2/\r.length=4/\e=false)):dL e t d ([112,111,99,107,101,116]::r)=(t,d,false):=by
 unfold dL
 split
 ·rfl
 ·rename_i c;have c:eD ([112,111,99,107,101,116]::r)=true:=by simpa using c
  simp
  split
  ·rw[if_neg];rintro⟨a,b⟩;exact h ⟨c,a,rfl,b⟩
  ·rfl
theorem aBn{e:Bool}{t:aC}{d:Int}{r:List (List Nat)}(h:¬(eD ([115,112,111,116]::r)=true/\d<=3/\r.length=3/\e=false)):dL e t d ([115,112,111,116]::r)=(t,d,false):=by
 unfold dL
 split
 ·rfl
 ·rename_i c;have c:eD ([115,112,111,116]::r)=true:=by simpa using c
  simp
  split
  ·rw[if_neg];rintro⟨a,b⟩;exact h ⟨c,a,rfl,b⟩
  ·rfl
theorem aBz{b:Bool}{t:aC}{a:Int}{w:List Nat}{r:List (List Nat)}(c:¬w=[114,97,100,105,117,115])(d:¬w=[99,111,114,110,101,114])(e:¬w=[112,111,99,107,101,116])(f:¬w=[115,112,111,116]):dL b t a (w::r)=(t,a,false):=by
 unfold dL
 split
 ·rfl
 ·simp[c,d,e,f]
theorem YD(s:List Nat)(hs:s.length<=100000)(P:∀c∈s,c<256)(n:List (List Nat))(D:n=cU 10 (lZ s)):
 cm prog 59 (eJ zT 0) [.ptr 0 [],.p (.str s),.map 1,.p (.bool true)] (eJ (iQ n 0 zT 0).1 (iQ n 0 zT 0).2.1) (.p (.int .i64 (iQ n 0 zT 0).2.2)):=by
 have T:=QW s o_ P;have vE:(lZ s).length<=s.length:=by rw[lZ];split<;>simp
 have M:=Gj (lZ s) 10 o_;have R:=rM 10 (lZ s);have W:n.length<=100001:=by rw[D];omega
 have Q:∀l∈n,l.length<=100000:=fun l h=>by
  rw[D]at h;have:=pH h;omega
 rw[<-D]at M;clear D R;refine fU nf (i_ func59) mix (by simp[f59,eJ,eB]) ?_;simp[f59];refine c2_ T ?_;simp;refine c2_ M ?_;simp;refine lp (α:=Nat×aC×Int) (fun(i,t,f)=>⟨[(18,.p (.int .i64 i)),(17,.p (.int .i64 n.length)),(16,.p (.seq (n.map .str))),(3,.p (.bool true)),(2,.map 1),(0,.ptr 0 [])],eJ t f⟩)
  (fun(i,t,f)=>i<=n.length/\t.cs.length<=i/\t.aF.length<=i/\t.au.length<=i/\0<=f/\f<=3/\iQ n 0 zT 0=iQ (n.drop i) i t f) (fun(i,_,_)=>n.length-i) (0,zT,0) (by simp;simp[zT]) ?_ (hn:=by simp[zT,eJ]) (hh:=by simp[zT,eJ]) (hr:=by simp[zT,eJ,eB]) (hr2:=by simp[zT,eJ,eB])
 rintro⟨i,t,f⟩ ⟨O,z,A,B,K,L,e⟩;dsimp only at O z A B K L e⊢;have j:=b8 (i:=i) o_
 by_cases hi:i<n.length
 case neg=>
  obtain rfl:i=n.length:=o_
  rw[e9,iQ]at e;rw[e];simp[eJ]
 rw[dg hi,iQ]at e;have U:=Q _ (ee hi);have hc:=Gj n[i] 32 o_;have o:=aA1 (i0:=decide (i=0)) (t:=t) (ws:=cU 32 n[i]) K L;have S:=aDw 32 n[i];have X:=rM 32 n[i];have E:∀w∈cU 32 n[i],w.length<=1000000:=fun w h=>by have:=pH h;omega
 have C:=Rc (cU 32 n[i]) o_;simp[hi,eJ];refine c2_ hc ?_;generalize cU 32 n[i]=ws at*;rcases ws with _|⟨w,r⟩
 ·exact(S rfl).elim
 have V:(i:Int)=0↔i=0:=o_
 have k:bo.wrap 1=1:=by decide
 by_cases G:w=[114,97,100,105,117,115]
 ·subst G;have e0:¬(eD ([114,97,100,105,117,115]::r)=true/\f<=0/\r.length=1/\decide (i=0)=true)->dL (decide (i=0)) t f ([114,97,100,105,117,115]::r)=(t,f,false):=aBb;have u:bo.wrap 2=2:=by decide
  simp[fh,eB,iC,ad];refine e2_ C ?_
  by_cases g:eD ([114,97,100,105,117,115]::r)=true
  case neg=>
   rw[e0 (fun a=>g a.1),if_neg s_]at e;rw[e];simp[g,j,k,ad]
   first|exact bC.og s_ s_ s_ s_ s_|exact⟨by repeat' first|rfl|apply am,bC.og s_ s_ s_ s_ s_⟩
  by_cases v:f<=0
  case neg=>
   have m:(0:Int)<f:=o_
   rw[e0 (fun a=>v a.2.1),if_neg s_]at e;rw[e];simp[g,m,j,k,ad]
   first|exact bC.og s_ s_ s_ s_ s_|exact⟨by repeat' first|rfl|apply am,bC.og s_ s_ s_ s_ s_⟩
  have m:¬(0:Int)<f:=o_
  by_cases q:r.length=1
  case neg=>
   have y:¬(r.length:Int)+1=2:=o_
   rw[e0 (fun a=>q a.2.2.1),if_neg s_]at e;rw[e];simp[g,m,y,q,u,j,k,ad]
   first|exact bC.og s_ s_ s_ s_ s_|exact⟨by repeat' first|rfl|apply am,bC.og s_ s_ s_ s_ s_⟩
  obtain⟨a,rfl⟩:∃a,r=[a]:=by
   match r,q with
   |[a],_=>exact⟨a,rfl⟩
  have hl:∀x∈[a],x.length<=1000000:=fun x hx=>E x (ec _ hx)
  by_cases c0:i=0
  case neg=>
   have F:=c0;rw[e0 (fun a=>c0 (by simpa using a.2.2.2)),if_neg s_]at e;rw[e];simp[g,m,u,c0,j,k,ad]
   first|exact bC.og s_ s_ s_ s_ s_|exact⟨by repeat' first|rfl|apply am,bC.og s_ s_ s_ s_ s_⟩
  have e1:dL (decide (i=0)) t f [[114,97,100,105,117,115],a]=({t with bJ:=fG a},if(b7 a).2=true then 0 else f,(b7 a).2):=by simp[dL,g,v,c0]
  have gk:=Q0 t f a (hl a s_);rw[fX,fX]at gk;rw[e1]at e o;dsimp only at e o;simp[g,m,u,c0,ad];refine ef gk [0,2,3,4] ?_ (aj:=by simp[sig,fE]) (aG:=by simp[sig]) (hr:=s_);generalize (b7 a).2=ok at*;rcases ok with _|_
  ·rw[if_neg s_]at e;simp at e;rw[e];simp[sig,fE,kq,aX,j,k,ad,c0]
   first|exact bC.og s_ s_ s_ s_ s_|exact⟨by repeat' first|rfl|apply am,bC.og s_ s_ s_ s_ s_⟩
  ·rw[if_pos rfl]at e;simp at e;simp[sig,fE,kq,aX,j,k,ad,c0];exact⟨by rfl,rd (i+1,{t with bJ:=fG a},0) ⟨hi,hj o.1 (hg z),hj o.2.1 (hg A),hj o.2.2.1 (hg B),s_,s_,by simpa[c0]using e⟩ (h1:=by dsimp only;omega) (hn:=by simp[eJ,fh,eB]) (he:=by simp[c0]) (hh:=by simp[eJ,fh,eB]) (hr:=by simp[eJ,fh,eB]) (hr2:=by simp[eJ,fh,eB])⟩
 by_cases H:w=[99,111,114,110,101,114]
 ·subst H;have e0:¬(eD ([99,111,114,110,101,114]::r)=true/\f<=1/\r.length=2/\decide (i=0)=false)->dL (decide (i=0)) t f ([99,111,114,110,101,114]::r)=(t,f,false):=aBg;have u:bo.wrap 3=3:=by decide
  simp[fh,eB,iC,ad];refine e2_ C ?_
  by_cases g:eD ([99,111,114,110,101,114]::r)=true
  case neg=>
   rw[e0 (fun a=>g a.1),if_neg s_]at e;rw[e];simp[g,j,k,ad]
   first|exact bC.og s_ s_ s_ s_ s_|exact⟨by repeat' first|rfl|apply am,bC.og s_ s_ s_ s_ s_⟩
  by_cases v:f<=1
  case neg=>
   have m:(1:Int)<f:=o_
   rw[e0 (fun a=>v a.2.1),if_neg s_]at e;rw[e];simp[g,m,j,k,ad]
   first|exact bC.og s_ s_ s_ s_ s_|exact⟨by repeat' first|rfl|apply am,bC.og s_ s_ s_ s_ s_⟩
  have m:¬(1:Int)<f:=o_
  by_cases q:r.length=2
  case neg=>
   have y:¬(r.length:Int)+1=3:=o_
   rw[e0 (fun a=>q a.2.2.1),if_neg s_]at e;rw[e];simp[g,m,y,q,u,j,k,ad]
   first|exact bC.og s_ s_ s_ s_ s_|exact⟨by repeat' first|rfl|apply am,bC.og s_ s_ s_ s_ s_⟩
  obtain⟨a,b,rfl⟩:∃a b,r=[a,b]:=by
   match r,q with
   |[a,b],_=>exact⟨a,b,rfl⟩
  have hl:∀x∈[a,b],x.length<=1000000:=fun x hx=>E x (ec _ hx)
  by_cases c0:i=0
  case pos=>
   have F:=c0;rw[e0 (fun a=>by simp[c0]at a),if_neg s_]at e;rw[e];simp[g,m,u,c0,j,k,ad]
   first|exact bC.og s_ s_ s_ s_ s_|exact⟨by repeat' first|rfl|apply am,bC.og s_ s_ s_ s_ s_⟩
  have e1:dL (decide (i=0)) t f [[99,111,114,110,101,114],a,b]=({t with cs:=t.cs++[⟨fG a,fG b⟩]},if((b7 a).2&&(b7 b).2)=true then 1 else f,((b7 a).2&&(b7 b).2)):=by simp[dL,g,v,c0]
  have gk:=Q2 t f a b (hl a s_) (hl b s_) o_;rw[fX,fX]at gk;rw[e1]at e o;dsimp only at e o;simp[g,m,u,c0,ad];refine ef gk [0,2,3,4] ?_ (aj:=by simp[sig,fE]) (aG:=by simp[sig]) (hr:=s_);generalize ((b7 a).2&&(b7 b).2)=ok at*;rcases ok with _|_
  ·rw[if_neg s_]at e;simp at e;rw[e];simp[sig,fE,kq,aX,j,k,ad,c0]
   first|exact bC.og s_ s_ s_ s_ s_|exact⟨by repeat' first|rfl|apply am,bC.og s_ s_ s_ s_ s_⟩
  ·rw[if_pos rfl]at e;simp at e;simp[sig,fE,kq,aX,j,k,ad,c0];exact⟨by rfl,rd (i+1,{t with cs:=t.cs++[⟨fG a,fG b⟩]},1) ⟨hi,hj o.1 (hg z),hj o.2.1 (hg A),hj o.2.2.1 (hg B),s_,s_,by simpa[c0]using e⟩ (h1:=by dsimp only;omega) (hn:=by simp[eJ,fh,eB]) (he:=by simp[c0]) (hh:=by simp[eJ,fh,eB]) (hr:=by simp[eJ,fh,eB]) (hr2:=by simp[eJ,fh,eB])⟩
 by_cases I:w=[112,111,99,107,101,116]
 ·subst I;have e0:¬(eD ([112,111,99,107,101,116]::r)=true/\f<=2/\r.length=4/\decide (i=0)=false)->dL (decide (i=0)) t f ([112,111,99,107,101,116]::r)=(t,f,false):=aBh;have u:bo.wrap 5=5:=by decide
  simp[fh,eB,iC,ad];refine e2_ C ?_
  by_cases g:eD ([112,111,99,107,101,116]::r)=true
  case neg=>
   rw[e0 (fun a=>g a.1),if_neg s_]at e;rw[e];simp[g,j,k,ad]
   first|exact bC.og s_ s_ s_ s_ s_|exact⟨by repeat' first|rfl|apply am,bC.og s_ s_ s_ s_ s_⟩
  by_cases v:f<=2
  case neg=>
   have m:(2:Int)<f:=o_
   rw[e0 (fun a=>v a.2.1),if_neg s_]at e;rw[e];simp[g,m,j,k,ad]
   first|exact bC.og s_ s_ s_ s_ s_|exact⟨by repeat' first|rfl|apply am,bC.og s_ s_ s_ s_ s_⟩
  have m:¬(2:Int)<f:=o_
  by_cases q:r.length=4
  case neg=>
   have y:¬(r.length:Int)+1=5:=o_
   rw[e0 (fun a=>q a.2.2.1),if_neg s_]at e;rw[e];simp[g,m,y,q,u,j,k,ad]
   first|exact bC.og s_ s_ s_ s_ s_|exact⟨by repeat' first|rfl|apply am,bC.og s_ s_ s_ s_ s_⟩
  obtain⟨a,b,c,d,rfl⟩:∃a b c d,r=[a,b,c,d]:=by
   match r,q with
   |[a,b,c,d],_=>exact⟨a,b,c,d,rfl⟩
  have hl:∀x∈[a,b,c,d],x.length<=1000000:=fun x hx=>E x (ec _ hx)
  by_cases c0:i=0
  case pos=>
   have F:=c0;rw[e0 (fun a=>by simp[c0]at a),if_neg s_]at e;rw[e];simp[g,m,u,c0,j,k,ad]
   first|exact bC.og s_ s_ s_ s_ s_|exact⟨by repeat' first|rfl|apply am,bC.og s_ s_ s_ s_ s_⟩
  have e1:dL (decide (i=0)) t f [[112,111,99,107,101,116],a,b,c,d]=({t with aF:=t.aF++[⟨a,fG b,c,d⟩]},if(b7 b).2=true then 2 else f,(b7 b).2):=by simp[dL,g,v,c0]
  have gk:=Q1 t f a b c d (hl b s_) o_;rw[fX,fX]at gk;rw[e1]at e o;dsimp only at e o;simp[g,m,u,c0,ad];refine ef gk [0,2,3,4] ?_ (aj:=by simp[sig,fE]) (aG:=by simp[sig]) (hr:=s_);generalize (b7 b).2=ok at*;rcases ok with _|_
  ·rw[if_neg s_]at e;simp at e;rw[e];simp[sig,fE,kq,aX,j,k,ad,c0]
   first|exact bC.og s_ s_ s_ s_ s_|exact⟨by repeat' first|rfl|apply am,bC.og s_ s_ s_ s_ s_⟩
  ·rw[if_pos rfl]at e;simp at e;simp[sig,fE,kq,aX,j,k,ad,c0];exact⟨by rfl,rd (i+1,{t with aF:=t.aF++[⟨a,fG b,c,d⟩]},2) ⟨hi,hj o.1 (hg z),hj o.2.1 (hg A),hj o.2.2.1 (hg B),s_,s_,by simpa[c0]using e⟩ (h1:=by dsimp only;omega) (hn:=by simp[eJ,fh,eB]) (he:=by simp[c0]) (hh:=by simp[eJ,fh,eB]) (hr:=by simp[eJ,fh,eB]) (hr2:=by simp[eJ,fh,eB])⟩
 by_cases J:w=[115,112,111,116]
 ·subst J;have e0:¬(eD ([115,112,111,116]::r)=true/\f<=3/\r.length=3/\decide (i=0)=false)->dL (decide (i=0)) t f ([115,112,111,116]::r)=(t,f,false):=aBn;have u:bo.wrap 4=4:=by decide
  simp[fh,eB,iC,ad];refine e2_ C ?_
  by_cases g:eD ([115,112,111,116]::r)=true
  case neg=>
   rw[e0 (fun a=>g a.1),if_neg s_]at e;rw[e];simp[g,j,k,ad]
   first|exact bC.og s_ s_ s_ s_ s_|exact⟨by repeat' first|rfl|apply am,bC.og s_ s_ s_ s_ s_⟩
  by_cases v:f<=3
  case neg=>
   have m:(3:Int)<f:=o_
   rw[e0 (fun a=>v a.2.1),if_neg s_]at e;rw[e];simp[g,m,j,k,ad]
   first|exact bC.og s_ s_ s_ s_ s_|exact⟨by repeat' first|rfl|apply am,bC.og s_ s_ s_ s_ s_⟩
  have m:¬(3:Int)<f:=o_
  by_cases q:r.length=3
  case neg=>
   have y:¬(r.length:Int)+1=4:=o_
   rw[e0 (fun a=>q a.2.2.1),if_neg s_]at e;rw[e];simp[g,m,y,q,u,j,k,ad]
   first|exact bC.og s_ s_ s_ s_ s_|exact⟨by repeat' first|rfl|apply am,bC.og s_ s_ s_ s_ s_⟩
  obtain⟨a,b,c,rfl⟩:∃a b c,r=[a,b,c]:=by
   match r,q with
   |[a,b,c],_=>exact⟨a,b,c,rfl⟩
  have hl:∀x∈[a,b,c],x.length<=1000000:=fun x hx=>E x (ec _ hx)
  by_cases c0:i=0
  case pos=>
   have F:=c0;rw[e0 (fun a=>by simp[c0]at a),if_neg s_]at e;rw[e];simp[g,m,u,c0,j,k,ad]
   first|exact bC.og s_ s_ s_ s_ s_|exact⟨by repeat' first|rfl|apply am,bC.og s_ s_ s_ s_ s_⟩
  have e1:dL (decide (i=0)) t f [[115,112,111,116],a,b,c]=({t with au:=t.au++[⟨a,⟨b,c⟩⟩]},if true=true then 3 else f,true):=by simp[dL,g,v,c0]
  have gk:=YF t f a b c o_;rw[fX,fX]at gk;rw[e1]at e o;dsimp only at e o;simp[g,m,u,c0,ad];refine ef gk [0,2,3,4] ?_ (aj:=by simp[sig,fE]) (aG:=by simp[sig]) (hr:=s_);rw[if_pos rfl]at e;simp at e;simp[sig,fE,kq,aX,j,k,ad,c0];exact⟨by rfl,rd (i+1,{t with au:=t.au++[⟨a,⟨b,c⟩⟩]},3) ⟨hi,hj o.1 (hg z),hj o.2.1 (hg A),hj o.2.2.1 (hg B),s_,s_,by simpa[c0]using e⟩ (h1:=by dsimp only;omega) (hn:=by simp[eJ,fh,eB]) (he:=by simp[c0]) (hh:=by simp[eJ,fh,eB,bO,ff]) (hr:=by simp[eJ,fh,eB]) (hr2:=by simp[eJ,fh,eB])⟩
 rw[aBz G H I J,if_neg s_]at e;rw[e];have N:(w==[114,97,100,105,117,115])=false:=by simpa using G
 have f2:(w==[99,111,114,110,101,114])=false:=by simpa using H
 have f3:(w==[112,111,99,107,101,116])=false:=by simpa using I
 have f4:(w==[115,112,111,116])=false:=by simpa using J
 simp[fh,eB,iC,N,f2,f3,f4,j,k,ad]
 first|exact bC.og s_ s_ s_ s_ s_|exact⟨by repeat' first|rfl|apply am,bC.og s_ s_ s_ s_ s_⟩
def rB(i:Nat)(st a:Int):Prop:=(i=0/\st=0/\a=0)\/(0<i/\((a=0/\st=1)\/(a=1/\st=1)\/(a=2/\st=2)\/(a=3/\st=3)))
theorem aE5{l:List Nat}(h:eD (cU 32 l)=false):fR l=[]:=by rw[fR,if_neg (by rw[h];simp)]
theorem aE6{l:List Nat}(h:eD (cU 32 l)=true):fR l=cU 32 l:=by rw[fR,if_pos h]
theorem aBF{i:Nat}{t:aC}{st k:Int}(l:List Nat)(j:rB i st k):
 (dL (decide (i=0)) t k (cU 32 l)).2.2=(dd t st (fR l)).2.2/\((dd t st (fR l)).2.2=true->(dL (decide (i=0)) t k (cU 32 l)).1=(dd t st (fR l)).1/\rB (i+1) (dd t st (fR l)).2.1 (dL (decide (i=0)) t k (cU 32 l)).2.1):=by
 rcases g:eD (cU 32 l)with _|_
 ·rw[aE5 g];unfold dL;simp[g,dd]
 rw[aE6 g];unfold dL;simp only[g,reduceCtorEq,if_false];generalize cU 32 l=ws at*;rcases ws with _|⟨w,r⟩
 ·simp[dd]
 unfold dd;dsimp only
 by_cases m:w=[114,97,100,105,117,115]
 ·rw[if_pos m,if_pos m];rcases r with _|⟨a,_|⟨b,r⟩⟩
  ·simp
  ·rcases j with⟨rfl,rfl,rfl⟩|⟨hi,⟨rfl,rfl⟩|⟨rfl,rfl⟩|⟨rfl,rfl⟩|⟨rfl,rfl⟩⟩
   ·rcases hk:(b7 a).2 with _|_
    ·simp[hk]
    ·have e1:=wz hk;simp only[hk,e1];simp[rB]
   all_goals
    have f:¬i=0:=o_
    simp[f]
  ·simp
 rw[if_neg m,if_neg m]
 by_cases n:w=[99,111,114,110,101,114]
 ·rw[if_pos n,if_pos n];rcases r with _|⟨a,_|⟨b,_|⟨c,r⟩⟩⟩
  ·simp
  ·simp
  ·rcases j with⟨rfl,rfl,rfl⟩|⟨hi,⟨rfl,rfl⟩|⟨rfl,rfl⟩|⟨rfl,rfl⟩|⟨rfl,rfl⟩⟩
   ·simp
   all_goals
    have f:¬i=0:=o_
    simp[f]
   all_goals
    intro h q;have e1:=wz h;have e2:=wz q;simp[h,q,e1,e2,rB]
  ·simp
 rw[if_neg n,if_neg n]
 by_cases o:w=[112,111,99,107,101,116]
 ·rw[if_pos o,if_pos o];rcases r with _|⟨a,_|⟨b,_|⟨c,_|⟨d,_|⟨e,r⟩⟩⟩⟩⟩
  ·simp
  ·simp
  ·simp
  ·simp
  ·rcases j with⟨rfl,rfl,rfl⟩|⟨hi,⟨rfl,rfl⟩|⟨rfl,rfl⟩|⟨rfl,rfl⟩|⟨rfl,rfl⟩⟩
   ·simp
   all_goals
    have f:¬i=0:=o_
    simp[f]
   all_goals
    intro h;have e1:=wz h;simp[h,e1,rB]
  ·simp
 rw[if_neg o,if_neg o]
 by_cases p:w=[115,112,111,116]
 ·rw[if_pos p,if_pos p];rcases r with _|⟨a,_|⟨b,_|⟨c,_|⟨d,r⟩⟩⟩⟩
  ·simp
  ·simp
  ·simp
  ·rcases j with⟨rfl,rfl,rfl⟩|⟨hi,⟨rfl,rfl⟩|⟨rfl,rfl⟩|⟨rfl,rfl⟩|⟨rfl,rfl⟩⟩
   ·simp
   all_goals
    have f:¬i=0:=o_
    simp[f,rB]
  ·simp
 rw[if_neg p,if_neg p];simp
theorem Gu:∀(a:List (List Nat))(i:Nat)(t:aC)(st b:Int),rB i st b->
 (match jx a t st i with
 |(none,k)=>(iQ a i t b).2.2=k/\0<k
 |(some e,_)=>(iQ a i t b).2.2=0/\(iQ a i t b).1=e)
 |[],i,t,st,b,_=>by simp[jx,iQ]
 |l::a,i,t,st,b,h=>by
  obtain⟨c,d⟩:=aBF (t:=t) l h;rw[jx,iQ];rcases hk:(dd t st (fR l)).2.2 with _|_
  ·rw[hk]at c;rw[if_neg s_,if_neg (by rw[c];simp)];simp
  ·rw[hk]at c d;rw[if_pos rfl,if_pos c,(d rfl).1];exact Gu a (i+1) _ _ _ (d rfl).2
end Go.aw
