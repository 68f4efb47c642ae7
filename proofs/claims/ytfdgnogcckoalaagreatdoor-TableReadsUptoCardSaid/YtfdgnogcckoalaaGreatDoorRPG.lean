import Derived.Test.YtfdgnogcckoalaaGreatDoorRPF
import Derived.Test.YtfdgnogcckoalaaGreatDoorRThC
import Derived.Test.YtfdgnogcckoalaaGreatDoorRPE
import Derived.Shelf.Strings.Builder1
import Derived.Shelf.Strings.Builder2
import Derived.Shelf.Strings.OnBuilder
import Derived.Shelf.Strings.Trim
import Derived.Shelf.Small.Utf8
import Derived.Shelf.Small.Bits
import Derived.Shelf.Small.Strs
import Derived.Shelf.Small.Wraps
import Derived.Shelf.Strings.BuilderF
import Derived.Shelf.Strings.Builder2Cap
import Derived.Shelf.Strconv.Atoi
import Derived.Shelf.Strconv.Itoa0
import Derived.Shelf.Strconv.Itoa1
import Derived.Shelf.LaysM
import Derived.Shelf.Strconv.Itoa2
import Derived.Shelf.Strconv.Itoa3
import Derived.Shelf.Strconv.AtoiErrFast
import Derived.Shelf.Strconv.ParseIntEmpty
import Derived.Shelf.Strconv.AtoiFail
import Derived.Shelf.Strconv.Clone
import Derived.Shelf.Strconv.SyntaxError
import Derived.Shelf.LaysC
import Derived.Shelf.Strconv.ToError
import Derived.Shelf.Strconv.Lower
import Derived.Shelf.Strconv.ParseUint10
import Derived.Shelf.Strconv.ParseUint10Empty
import Derived.Shelf.Strconv.ParseUint10Any
import Derived.Shelf.Strconv.ParseInt10
import Derived.Shelf.Strconv.AtoiLong
import Derived.Shelf.Strconv.AtoiInnerAll
import Derived.Shelf.Strconv.RangeError
import Derived.Shelf.Strconv.ToErrorRange
import Derived.Shelf.Strconv.AtoiAll
import Derived.Shelf.Strconv.ParseUintEmpty
import Derived.Shelf.Strings.Search1
import Derived.Shelf.Strings.Search2
import Derived.Shelf.Strings.Search3
import Derived.Shelf.Strings.Cut
import Derived.Shelf.Strings.Count
import Derived.Shelf.Strings.Shaped
import Derived.Shelf.Strings.Prefix
import Derived.Shelf.Strings.Split
import Derived.Shelf.Unicode.Decode
import Derived.Shelf.Strings.Runes
import Derived.Shelf.Strings.AsciiSet
import Derived.Shelf.Bits.Mul64
import Derived.Shelf.Strings.Repeat
import Derived.Shelf.Unicode.DecodeSlow
import Derived.Shelf.Unicode.DecodeAny
import Derived.Shelf.Unicode.DecodeLast
import Derived.Shelf.Slices.Turned
import Derived.Test.YtfdgnogcckoalaaGreatDoorProg
import Derived.Shelf.SlGeneric
import Derived.Shelf.Spec.SlicesGrow
import Derived.Lib.AtoiAllCases
import Derived.WalkKit
/- Parts of a proof. -/
set_option maxRecDepth 100000
set_option maxHeartbeats 4000000
set_option linter.unusedSimpArgs false
set_option linter.unusedVariables false
set_option linter.unusedSectionVars false
open Go.Proofs.Tryz
open And renaming intro->am
open Bool renaming cond_eq_ite->ao, and_eq_true->ap, eq_iff_iff->av, true_and->ax
open Decidable renaming not_not->ay
open Go renaming FuncId->aT, World->a1, DataW->a6, Calls->a7, Field->a8
open Go.Builtin renaming zeroCells->bb
open Go.IntKind renaming i64->be
open Go.Lib renaming countByte->bi, atoiAll->bl, compareBytes->bo, join->bv, atoiSat->b0
open Go.Proofs.Lays renaming n156->b1, n138->b2, n106->b3, n102->b4, n100->b5
open Go.Shelf renaming Ren->cb
open Go.Utf8 renaming decode->cc
open Int renaming tmod_eq_emod_of_nonneg->ce, natCast_emod->ck
open List renaming mem_of_getElem?->cv, take_of_length_le->cx, take_length->cy, getElem?_eq_getElem->cE, length_eq_zero_iff->cN, any_eq_true->cR, drop_eq_getElem_cons->c6, replicate->c7, map_cons->c8, getElem?_eq_some_iff->da, length_append->db, take_add_one->dg, mem_of_mem_take->dk, length_take->dl, mem_iff_getElem->dp, mem_append->dq, length_map->dz, zip_cons_cons->ea, getElem?_take->eb, zip_nil_left->ec, mem_cons->ed, mem_map->ee, map_nil->ei, mem_cons_self->ej, getElem_take->en, getElem_mem->eo, range->eq, mem_cons_of_mem->er, map_take->et, findIdx?_eq_some_iff_getElem->ew, take_succ_eq_append_getElem->ez, length_cons->eL, all_eq_true->e6, mem_range->e7, getElem?_append_right->e8, getD_eq_getElem?_getD->e9, findIdx?_eq_none_iff->fb, set_append_right->fd, mem_iff_getElem?->fl, mem_singleton->fm, getElem?_map->fv, drop_length->gb, cons_append->gc, range_succ->ge, map_append->gg
open Nat renaming eq_of_beq_eq_true->gi, beq->gj, le_of_ble_eq_true->gm, le_refl->gt, sub_self->gx, pow_le_pow_right->gy, lt_of_lt_of_le->g4, lt_trichotomy->g5, blt->g6, ble->g7, add_assoc->g8, zero_add->g9, le_trans->ha, blt_eq->hb
open Option renaming ite_none_right_eq_some->hd
open Option.some renaming injEq->hg
open Prod.mk renaming injEq->hj
open UInt8 renaming ofNat->hn, lt_iff_toNat_lt->ho
namespace Go.au
open Go.au renaming c1->c1_, c2->c2_, c3->c3_, e1->e1_, e2->e2_, e3->e3_
open Go.Proofs
def az.nM(t:az)(i:Nat)(m:Nat):Prop:=∀k,k<m->k≠i->k≠t.nx i->0<l6 (t.at i) (t.at (t.nx i)) (t.at k)
instance(t:az)(i m:Nat):Decidable (t.nM i m):=inferInstanceAs (Decidable (∀k,k<m->_))
def az.ga(t:az):Bool:=decide (∀i,i<t.cs.length->t.nM i t.cs.length)
theorem az.iD{t:az}(h:∀p∈t.cs,fe p){i:Nat}(hi:i<t.cs.length):fe (t.at i):=h _ (cv (az.get hi))
theorem TQ(t:az)(hl:t.cs.length<=1000000)(m:∀p∈t.cs,fe p):aA prog 62 [cd t] (.bool t.ga):=by
 refine aM nf (i_ func62) mix (by simp[f62]) ?_;generalize a:t.cs.length=n at*;simp[f62,ad,a];refine lp (α:=Nat) (fun i=>⟨[(4,.p (.int .i64 i)),(3,.p (.int .i64 n)),(1,.ptr 0 [])],[.box false (.p (cd t))]⟩) (fun i=>i<=n/\∀j,j<i->t.nM j n) (fun i=>n-i) 0 s_ ?_;rintro i ⟨v,q⟩
 by_cases hi:i<n
 ·simp[hi];refine lp (α:=Nat) (fun k=>⟨[(5,.p (.int .i64 k)),(4,.p (.int .i64 i)),(3,.p (.int .i64 n)),(1,.ptr 0 [])],[.box false (.p (cd t))]⟩) (fun k=>k<=n/\t.nM i k) (fun k=>n-k) 0 (by simp[az.nM]) ?_;rintro k ⟨g1,g2⟩
  by_cases hk:k<n
  ·have r:=GL t i o_ o_;have x:t.nx i<n:=by rw[<-a];exact t.oY o_ i
   have d:=bY (i:=i) o_;have e:=bY (i:=k) o_;have e1:((i:Int)+1).tmod (n:Int)=((t.nx i:Nat):Int):=by
    rw[az.nx,a,ck,ce o_];rfl
   have s:=TK (t.at i) (t.at (t.nx i)) (t.at k) (az.iD m o_) (az.iD m o_) (az.iD m o_);have f:=az.get (t:=t) (i:=i) o_;have gk:=az.get (t:=t) (i:=k) o_;have o:¬n=0:=o_
   by_cases c1:k=i
   ·subst c1;simp[hk,e];exact rd (k+1) ⟨hk,fun j g=>by
     by_cases l:j=k
     ·intro h;exact(h l).elim
     ·exact g2 j o_⟩
   ·have b:¬(k:Int)=(i:Int):=by omega
    by_cases c2:k=t.nx i
    ·rw[<-c2]at e1;simp[hk,b,d,e,e1,o];exact rd (k+1) ⟨hk,fun j g=>by
      by_cases l:j=k
      ·intro _ h;exact(h o_).elim
      ·exact g2 j o_⟩
    ·have c:¬(k:Int)=((t.nx i:Nat):Int):=by omega
     by_cases c3:l6 (t.at i) (t.at (t.nx i)) (t.at k)<=0
     ·simp[hk,b,c,d,e,e1,o,f,gk,a,ad];refine e2_ r ?_;simp[hk,a,f,gk,b,c,ad];refine e3_ s ?_;simp[c3,b,c];have:t.ga=false:=by
       rw[az.ga,decide_eq_false_iff_not];intro h;have:=h i o_ k o_ c1 c2;omega
      rw[this]
     ·simp[hk,b,c,d,e,e1,o,f,gk,a,ad];refine e2_ r ?_;simp[hk,a,f,gk,b,c,ad];refine e3_ s ?_;simp[c3,e,b,c];exact rd (k+1) ⟨hk,fun j g=>by
       by_cases l:j=k
       ·subst l;intro _ _;omega
       ·exact g2 j o_⟩
  ·have:k=n:=by omega
   subst this;have d:=bY (i:=i) o_;simp[d];exact rd (i+1) ⟨hi,fun j g=>by
    by_cases u:j=i
    ·subst u;exact g2
    ·exact q j o_⟩
 ·have w:i=n:=by omega
  have:t.ga=true:=by
   rw[az.ga,decide_eq_true_eq,a];intro j g;exact q j o_
  simp[hi,this]
def kn(p:dm):V2:=⟨(p.x:Rat),(p.y:Rat)⟩
theorem sM{p:dm}(h:fe p):dG 14 (kn p):=by
 simp only[fe]at h;exact⟨Da o_ (by decide),Da o_ (by decide)⟩
theorem Gs(p:dm)(h:fe p):aA prog 114 [bN p] (eV (kn p)):=by
 have c:=h;simp only[fe]at h;have a:=DY p.x o_ o_;have b:=DY p.y o_ o_;refine aM nf (i_ func114) mix (by simp[f114]) ?_;rw[kn,Rd];simp[f114,ad];refine e1 a ?_;simp[ad];refine e1 b ?_;simp[ad]
def az.lI(t:az)(i:Nat):V2:=(kn (t.at (t.nx i))).sub (kn (t.at i))
def az.side(t:az)(i:Nat)(v:V2):Int:=iF ((t.lI i).iI (v.sub (kn (t.at i))))
theorem az.okW{t:az}(h:∀p∈t.cs,fe p){i:Nat}(hi:i<t.cs.length):dG 29 (t.lI i):=rT (sM (az.iD h (t.oY o_ i))) (sM (az.iD h hi))
theorem afO(t:az)(i:Nat)(v:V2)(hl:t.cs.length<=1000000)(b:∀p∈t.cs,fe p)(hi:i<t.cs.length)(d:dG 3000 v):aA prog 157 [cd t,.int .i64 i,eV v] (.int .i64 (t.side i v)):=by
 have a:=az.get hi;have c:=sM (az.iD b hi);have m:=sM (az.iD b (t.oY o_ i));have e:=Gs (t.at i) (az.iD b hi);have f:=GL t i hi hl;have g:=Gs (t.at (t.nx i)) (az.iD b (t.oY o_ i));have h:=EC (kn (t.at (t.nx i))) (kn (t.at i)) (m.mono (by decide)) (c.mono (by decide));have j:=EC v (kn (t.at i)) (d.mono (by decide)) (c.mono (by decide));have k:=Tn (t.lI i) (v.sub (kn (t.at i))) ((az.okW b hi).mono (by decide)) ((rT d c).mono (by decide));have l:=zp ((t.lI i).iI (v.sub (kn (t.at i)))) ((Tl (az.okW b hi) (rT d c)).mono (by decide));refine aM nf (i_ func157) mix (by simp[f157]) ?_;rw[az.side];simp[f157,ad,a,hi];refine e1 e ?_;simp[ad,a,hi];refine e2 f ?_;simp[ad,a,hi];refine e1 g ?_;simp[ad,a,hi];refine⟨by repeat' first|rfl|apply am,?_⟩;refine e2 h ?_;simp[ad,a,hi];refine e2 j ?_;simp[ad,a,hi];refine e2 k ?_;simp[ad,a,hi];refine e1 l ?_;simp[ad,a,hi]
def az.qu(t:az)(v:V2)(m:Nat):Int:=(eq m).foldl (fun o i=>min o (t.side i v)) 1
theorem az.Gr(t:az)(v:V2)(m:Nat):t.qu v (m+1)=min (t.qu v m) (t.side m v):=by
 rw[az.qu,ge,List.foldl_append];rfl
def az.on(t:az)(v:V2):Int:=t.qu v t.cs.length
theorem GG(a b:Int):min a b=if b<a then b else a:=by split<;>omega
theorem QP(t:az)(v:V2)(hl:t.cs.length<=1000000)(b:∀p∈t.cs,fe p)(c:dG 3000 v):aA prog 67 [cd t,eV v] (.int .i64 (t.on v)):=by
 refine aM nf (i_ func67) mix (by simp[f67]) ?_;simp[f67,ad];refine lp (α:=Nat) (fun i=>⟨[(6,.p (.int .i64 i)),(5,.p (.int .i64 (t.qu v i))),(3,.ptr 1 []),(2,.ptr 0 [])],[.box false (.p (cd t)),.box false (.p (eV v))]⟩) (fun i=>i<=t.cs.length) (fun i=>t.cs.length-i) 0 s_ ?_ (hh:=by simp[az.qu]) (he:=by simp[az.qu]);rintro i e
 by_cases hi:i<t.cs.length
 ·have a:=afO t i v hl b hi c;have d:=bY (i:=i) o_;have hs:=az.Gr t v i;rw[GG]at hs;simp[hi,ad];refine c3 a ?_;simp[d,<-hs];exact rd (i+1) hi
 ·have:i=t.cs.length:=by omega
  subst this;simp[az.on,ad]
def isLet(c:Int):Bool:=(decide (97<=c)&&decide (c<=122))||(decide (65<=c)&&decide (c<=90))
def jt(c:Int):Bool:=decide (48<=c)&&decide (c<=57)
def lA:Nat->List Nat->Bool
 |_,[]=>true
 |i,c::r=>(isLet c||(decide (i≠0)&&(jt c||decide ((c:Int)=95))))&&lA (i+1) r
def isName(s:List Nat):Bool:=decide (1<=s.length)&&decide (s.length<=24)&&lA 0 s
theorem cls(c:Int):(97<=c/\c<=122)\/(¬97<=c/\65<=c/\c<=90)\/(¬97<=c/\¬65<=c/\¬48<=c/\¬c=95)\/(¬97<=c/\¬65<=c/\48<=c/\c<=57/\¬c=95)\/(¬97<=c/\¬65<=c/\48<=c/\¬c<=57/\¬c=95)\/
 (¬97<=c/\65<=c/\¬c<=90/\48<=c/\¬c<=57/\c=95)\/(¬97<=c/\65<=c/\¬c<=90/\48<=c/\¬c<=57/\¬c=95)\/(97<=c/\¬c<=122/\65<=c/\¬c<=90/\48<=c/\¬c<=57/\¬c=95):=o_
theorem Gq(c:Int):aA prog 235 [.int .i32 c] (.bool (isLet c)):=by
 refine aM nf (i_ func235) mix (by simp[f235]) ?_;rcases cls c with⟨a,b⟩|⟨a,b,d⟩|⟨a,b,d,e⟩|⟨a,b,d,e,f⟩|⟨a,b,d,e,f⟩|⟨a,b,d,e,f,g⟩|⟨a,b,d,e,f,g⟩|⟨a,b,d,e,f,g,h⟩<;>simp[f235,isLet, *]
theorem Gk{s:List Nat}{i:Nat}(hi:i<s.length):lA i (s.drop i)=((isLet s[i]||(decide (i≠0)&&(jt s[i]||decide ((s[i]:Int)=95))))&&lA (i+1) (s.drop (i+1))):=by
 rw[c6 hi,lA]
theorem Bg(s:List Nat)(h:s.length<=1048576):aA prog 64 [.str s] (.bool (isName s)):=by
 refine aM nf (i_ func64) mix (by simp[f64]) ?_;rcases Bh s.length 1 with⟨g1,m⟩|⟨g1,m⟩
 ·have:s.length=0:=by omega
  simp[f64,g1,isName,this]
 rcases Bh 24 s.length with⟨g2,n⟩|⟨g2,n⟩
 ·have:¬s.length<=24:=by omega
  simp[f64,g1,g2,isName,this]
 simp[f64,g1,g2];have e0:isName s=lA 0 s:=by simp[isName];omega
 refine lp (α:=Nat) (fun i=>⟨[(3,.p (.int .i64 i)),(0,.p (.str s))],[]⟩) (fun i=>i<=s.length/\isName s=lA i (s.drop i)) (fun i=>s.length-i) 0 (by simp[e0]) ?_;rintro i ⟨k1,k2⟩
 by_cases hi:i<s.length
 ·rw[Gk hi]at k2;have k:=bY (i:=i) o_;generalize hc:(s[i]:Int)=c at*
  by_cases j:i=0
  ·subst j;have l:be.wrap 1=1:=aO 1 o_ o_;rcases cls c with⟨a,b⟩|⟨a,b,d⟩|⟨a,b,d,e⟩|⟨a,b,d,e,f⟩|⟨a,b,d,e,f⟩|⟨a,b,d,e,f,g⟩|⟨a,b,d,e,f,g⟩|⟨a,b,d,e,f,g,h⟩
   ·simp[isLet,a,b]at k2;simp[hi,hc,a,b,l];exact rd 1 ⟨hi,by simpa using k2⟩
   ·simp[isLet,a,b,d]at k2;simp[hi,hc,a,b,d,l];exact rd 1 ⟨hi,by simpa using k2⟩
   all_goals
    simp[isLet, *]at k2;simp[hi,hc, *]
  ·rcases cls c with⟨a,b⟩|⟨a,b,d⟩|⟨a,b,d,e⟩|⟨a,b,d,e,f⟩|⟨a,b,d,e,f⟩|⟨a,b,d,e,f,g⟩|⟨a,b,d,e,f,g⟩|⟨a,b,d,e,f,g,h⟩
   ·simp[isLet,a,b]at k2;simp[hi,hc,a,b,k];exact rd (i+1) ⟨hi,k2⟩
   ·simp[isLet,a,b,d]at k2;simp[hi,hc,a,b,d,k];exact rd (i+1) ⟨hi,k2⟩
   ·simp[isLet,jt,a,b,d,e]at k2;simp[hi,hc,j,a,b,d,e,k2]
   ·simp[isLet,jt,a,b,d,e,j]at k2;simp[hi,hc,j,a,b,d,e,k];exact rd (i+1) ⟨hi,k2⟩
   ·simp[isLet,jt,a,b,d,e,f]at k2;simp[hi,hc,j,a,b,d,e,f,k2]
   ·subst g;simp[isLet,jt,j]at k2;simp[hi,hc,j,k];exact rd (i+1) ⟨hi,k2⟩
   ·simp[isLet,jt,a,b,d,e,f,g]at k2;simp[hi,hc,j,a,b,d,e,f,g,k2]
   ·simp[isLet,jt,a,b,d,e,f,g,h]at k2;simp[hi,hc,j,a,b,d,e,f,g,h,k2]
 ·have:i=s.length:=by omega
  subst this;simp[lA]at k2;simp[k2]
theorem Gj(s:List Nat):(gM s).size=s.length:=by
 show(s.map hn).toArray.size=_;simp
theorem GA(s:List Nat)(b:∀c∈s,c<256)(i:Nat)(h:i<s.length)(a:i<(gM s).size):((gM s)[i]'a).toNat=s[i]:=by
 have e:(gM s)[i]'a=hn s[i]:=by
  have:(gM s)[i]'a=(s.map hn).toArray[i]'(by simpa using h):=rfl;rw[this];simp
 rw[e];have:=b s[i] (eo h);simp;omega
theorem axw{s:List Nat}(d:∀c∈s,c<256){i:Nat}(h:i<s.length)(b:s[i]<128):cc (gM s) i=(s[i],1):=by
 have a:i<(gM s).size:=by rw[Gj];exact h
 have e:=GA s d i h a;rw[decode_ascii (gM s) i a (by rw[e];exact b),e]
theorem axv{s:List Nat}(b:∀c∈s,c<256){i:Nat}(h:i<s.length)(d:¬s[i]<128):128<=(cc (gM s) i).1/\1<=(cc (gM s) i).2:=by
 have a:i<(gM s).size:=by rw[Gj];exact h
 have e:=GA s b i h a;exact decode_high (gM s) i a (by rw[e];omega)
theorem Bl(s:List Nat)(h:s.length<=1048576):aA prog 165 [.str s] (.bool (isName s)):=by
 refine TT fun l=>?_;have l:∀c∈s,c<256:=by simpa[mw,dX]using l
 refine aM nf (i_ func165) mix (by simp[f165]) ?_;simp[f165];refine lp (α:=Nat) (fun i=>⟨[(6,.ptr 0 []),(0,.p (.str s))],[.dD s i]⟩) (fun i=>i<=s.length/\lA 0 s=lA i (s.drop i)) (fun i=>s.length-i) 0 s_ ?_;rintro i ⟨k1,k2⟩
 by_cases hi:i<s.length
 ·rw[Gk hi]at k2
  by_cases n:s[i]<128
  ·have m:=axw l hi n;simp[hi,m];refine c1 (Gq _) ?_;generalize hc:(s[i]:Int)=c at*
   by_cases j:i=0
   ·rcases cls c with⟨a,b⟩|⟨a,b,d⟩|⟨a,b,d,e⟩|⟨a,b,d,e,f⟩|⟨a,b,d,e,f⟩|⟨a,b,d,e,f,g⟩|⟨a,b,d,e,f,g⟩|⟨a,b,d,e,f,g,h⟩
    ·simp[isLet,a,b]at k2;simp[isLet,a,b];exact rd (i+1) ⟨hi,k2⟩
    ·simp[isLet,a,b,d]at k2;simp[isLet,a,b,d];exact rd (i+1) ⟨hi,k2⟩
    all_goals
     simp[isLet,isName, *]at k2;simp[isLet,isName, *]
   ·rcases cls c with⟨a,b⟩|⟨a,b,d⟩|⟨a,b,d,e⟩|⟨a,b,d,e,f⟩|⟨a,b,d,e,f⟩|⟨a,b,d,e,f,g⟩|⟨a,b,d,e,f,g⟩|⟨a,b,d,e,f,g,h⟩
    ·simp[isLet,a,b]at k2;simp[isLet,a,b];exact rd (i+1) ⟨hi,k2⟩
    ·simp[isLet,a,b,d]at k2;simp[isLet,a,b,d];exact rd (i+1) ⟨hi,k2⟩
    ·simp[isLet,jt,a,b,d,e]at k2;have d2:c<48:=by omega
     simp[isLet,isName,a,b,e,j,d2,k2]
    ·simp[isLet,jt,a,b,d,e,f,j]at k2;have d2:¬c<48:=by omega
     have e2:¬57<c:=o_
     simp[isLet,a,b,d2,e2,f,j];exact rd (i+1) ⟨hi,k2⟩
    ·simp[isLet,jt,a,b,d,e,f]at k2;have d2:¬c<48:=by omega
     have e2:57<c:=o_
     simp[isLet,isName,a,b,d2,e2,f,j,k2]
    ·subst g;simp[isLet,jt,j]at k2;simp[isLet,j];exact rd (i+1) ⟨hi,k2⟩
    ·simp[isLet,jt,a,b,d,e,f,g]at k2;have d2:¬c<48:=by omega
     have e2:57<c:=o_
     simp[isLet,isName,a,b,d,d2,e2,g,j,k2]
    ·simp[isLet,jt,a,b,d,e,f,g,h]at k2;have d2:¬c<48:=by omega
     have e2:57<c:=o_
     simp[isLet,isName,a,b,d,e,d2,e2,h,j,k2]
  ·obtain⟨m,_⟩:=axv l hi n;have hl:isLet (s[i]:Int)=false:=by simp[isLet];omega
   have x:jt (s[i]:Int)=false:=by simp[jt];omega
   have w:¬(s[i]:Int)=95:=o_
   simp[hl,x,w]at k2;rcases o:cc (gM s) i with⟨c,d⟩
   rw[o]at m;have q:isLet (c:Int)=false:=by simp[isLet];omega
   have t:¬(c:Int)=95:=o_
   have u:¬(c:Int)<48:=o_
   have v:57<(c:Int):=o_
   simp[hi,o];refine c1 (Gq _) ?_
   by_cases j:i=0
   ·simp[q,j,isName,k2]
   ·simp[q,j,t,u,v,isName,k2]
 ·have:i=s.length:=by omega
  subst this;simp[lA]at k2;cases hs:s with
  |nil=>simp[isName]
  |cons a r=>
   rw[hs]at k2;rcases Bh 24 s.length with⟨g,k⟩|⟨g,k⟩
   ·rw[hs]at g k;have:¬(r.length+1)<=24:=by simp at g;omega
    simp at k;simp[isName,k2,this];omega
   ·rw[hs]at g k;have:(r.length+1)<=24:=by simp at k;omega
    simp at k;simp[isName,k2,this];omega
theorem gR{s:List Nat}(h:bM s=0):cj 2000 (aZ s):=by
 obtain⟨b,c⟩:=GU h;have a:(10:Nat)^mD<=2^2000:=by decide+kernel
 exact⟨g4 b a,g4 c a⟩
theorem aMp:bC 1=[49]:=aMq (n:=1) (by decide)
def dQ(q:Rat):Int:=if iF q<0\/0<eU q 1 then 3 else 0
def xL(s:List Nat):Int:=if bM s=0 then dQ (aZ s)else bM s
theorem Gv(s:List Nat)(hs:jF s):aA prog 154 [.str s] (.int .i64 (xL s)):=by
 have d:=wS s hs;refine aM nf (i_ func154) mix (by simp[f154]) ?_;rw[xL]
 by_cases c:bM s=0
 ·have o:=gR c;have f:=zp (aZ s) (o.mono (by decide));have g:=uY (aZ s) 1 (o.mono (by decide)) (by exact⟨by decide+kernel,by decide+kernel⟩);rw[(kC c).1]at f g;rw[aMp]at g;rw[if_pos c,dQ];rw[c]at d;generalize iF (aZ s)=x at*;generalize eU (aZ s) 1=y at*
  by_cases a:x<0
  ·simp[f154,ad];refine c1 d ?_;simp[ad];refine c1 f ?_;simp[a,ad]
  ·by_cases b:0<y
   ·simp[f154,ad];refine c1 d ?_;simp[ad];refine c1 f ?_;simp[a,ad];refine c2 g ?_;simp[a,b,ad]
   ·simp[f154,ad];refine c1 d ?_;simp[ad];refine c1 f ?_;simp[a,ad];refine c2 g ?_;simp[a,b,ad]
 ·rw[if_neg c];generalize bM s=e at*;simp[f154,ad];refine c1 d ?_;simp[c,ad]
def gd(o p:dy):Bool:=decide (o.dh=p.dh)&&(decide (eU (aZ o.a) (aZ p.b)<=0)&&decide (eU (aZ p.a) (aZ o.b)<=0))
def gf(n:Nat)(c:List dy)(p:dy):Int:=
 if isName p.name=false then 8
 else if c.any (fun o=>decide (o.name=p.name))=true then 9
 else if p.dh<0\/(n:Int)<=p.dh then 10
 else if bM p.a≠0 then bM p.a
 else if bM p.b≠0 then bM p.b
 else if max (dQ (aZ p.a)) (dQ (aZ p.b))≠0 then max (dQ (aZ p.a)) (dQ (aZ p.b))
 else if 0<eU (aZ p.a) (aZ p.b)then 11
 else if c.any (fun o=>gd o p)=true then 17 else 0
def sx(p:dy):Prop:=jF p.name/\jF p.a/\jF p.b
def az.pk(t:az)(i:Nat):dy:=t.aF.getD i ⟨[],0,[],[]⟩
@[simp] theorem az.FO{t:az}{i:Nat}(h:i<t.aF.length):t.aF[i]'h=t.pk i:=by
 rw[az.pk,e9,cE h];rfl
theorem az.jG{t:az}{i:Nat}(h:i<t.aF.length):t.aF[i]?=some (t.pk i):=by rw[cE h,az.FO]
theorem uX{α:Type}{f:α->Bool}{l:List α}{i:Nat}{x:α}(h:l[i]?=some x):(l.take (i+1)).any f=((l.take i).any f||f x):=by
 rw[dg,h];simp
theorem Tq(t:az)(i:Nat)(hi:i<t.aF.length)(hl:t.aF.length<=1000000)(hc:t.cs.length<=1000000)(P:∀p∈t.aF,sx p)(Q:∀j,j<i->bM (t.pk j).a=0/\bM (t.pk j).b=0):
 aA prog 63 [cd t,.int .i64 i] (.int .i64 (gf t.cs.length (t.aF.take i) (t.pk i))):=by
 have v:=az.jG hi;obtain⟨R,E,F⟩:=P _ (cv v);have m:=Bg (t.pk i).name R.1;have N:=wS (t.pk i).a E;have O:=wS (t.pk i).b F;refine aM nf (i_ func63) mix (by simp[f63]) ?_;rw[gf];cases B:isName (t.pk i).name
 ·rw[B]at m;simp[f63,ad,v,hi];refine c1 m ?_;simp[ad]
 rw[B]at m;rw[if_neg (by decide)];simp[f63,ad,v,hi];refine c1 m ?_;simp[ad];refine lp (α:=Nat) (fun j=>⟨[(6,.p (.int .i64 j)),(5,.ptr 1 []),(2,.ptr 0 []),(1,.p (.int .i64 i))],[.box false (.p (cd t)),.box false (.p (cG (t.pk i)))]⟩) (fun j=>j<=i/\(t.aF.take j).any (fun o=>decide (o.name=(t.pk i).name))=false) (fun j=>i-j) 0 s_ ?_;rintro j ⟨U,D⟩
 by_cases q:j<i
 ·have z:j<t.aF.length:=by omega
  have g:=az.jG z;have f:=bY (i:=j) o_
  by_cases n:(t.pk j).name=(t.pk i).name
  ·have:(t.aF.take i).any (fun o=>decide (o.name=(t.pk i).name))=true:=by
    rw[cR];exact⟨t.pk j,cv (i:=j) (by rw[eb,if_pos q];exact g),by simp[n]⟩
   rw[if_pos this];simp[q,z,g,n,ad]
  ·simp[q,z,g,n,f,ad];exact rd (j+1) ⟨q,by rw[uX g,D];simp[n]⟩
 have:j=i:=o_
 subst this;rw[D,if_neg (by decide)];have u:((t.pk j).dh<0\/(t.cs.length:Int)<=(t.pk j).dh)\/(¬(t.pk j).dh<0/\¬(t.cs.length:Int)<=(t.pk j).dh):=o_
 rcases u with u|⟨K,L⟩
 ·rw[if_pos u]
  by_cases e1:(t.pk j).dh<0
  ·simp[e1,ad]
  ·have e2:(t.cs.length:Int)<=(t.pk j).dh:=by omega
   simp[e1,e2,ad]
 rw[if_neg o_];have d0:¬j<j:=o_
 simp[K,L,d0,ad];refine c1 N ?_
 by_cases c:bM (t.pk j).a=0
 case neg=>
  rw[if_pos c];simp[c,ad]
 rw[if_neg (by simp[c])];simp[c,ad];refine c1 O ?_
 by_cases d:bM (t.pk j).b=0
 case neg=>
  rw[if_pos d];simp[d,ad]
 rw[if_neg (by simp[d])];simp[d,ad];have G:=gR c;have H:=gR d;have x:=Gv (t.pk j).a E;have y:=Gv (t.pk j).b F;rw[xL,if_pos c]at x;rw[xL,if_pos d]at y;have A:=uY (aZ (t.pk j).a) (aZ (t.pk j).b) (G.mono (by decide)) (H.mono (by decide));rw[(kC c).1,(kC d).1]at A;refine e1 x ?_;simp[ad];refine e1 y ?_;have em:max (dQ (aZ (t.pk j).a)) (dQ (aZ (t.pk j).b))=if dQ (aZ (t.pk j).a)<dQ (aZ (t.pk j).b)then dQ (aZ (t.pk j).b)else dQ (aZ (t.pk j).a):=by split<;>omega
 simp[ad,<-em];clear em x y;generalize max (dQ (aZ (t.pk j).a)) (dQ (aZ (t.pk j).b))=M at*
 by_cases hm:M=0
 case neg=>
  simp[hm,ad]
 subst hm;simp[ad];refine c2 A ?_
 by_cases s:0<eU (aZ (t.pk j).a) (aZ (t.pk j).b)
 ·rw[if_pos s];simp[s,ad]
 rw[if_neg s];simp[s,ad];refine lp (α:=Nat) (fun k=>⟨[(8,.p (.int .i64 k)),(5,.ptr 1 []),(2,.ptr 0 []),(1,.p (.int .i64 j))],[.box false (.p (cd t)),.box false (.p (cG (t.pk j)))]⟩) (fun k=>k<=j/\(t.aF.take k).any (fun o=>gd o (t.pk j))=false) (fun k=>j-k) 0 s_ ?_;rintro k ⟨k1,k2⟩
 by_cases hk:k<j
 ·have e:k<t.aF.length:=by omega
  have gk:=az.jG e;have f:=bY (i:=k) o_;obtain⟨I,J⟩:=Q k hk;have S:=gR I;have T:=gR J;have l:=uY (aZ (t.pk k).a) (aZ (t.pk j).b) (S.mono (by decide)) (H.mono (by decide));have w:=uY (aZ (t.pk j).a) (aZ (t.pk k).b) (G.mono (by decide)) (T.mono (by decide));rw[(kC I).1,(kC d).1]at l;rw[(kC c).1,(kC J).1]at w;have C:gd (t.pk k) (t.pk j)=true->(t.aF.take j).any (fun o=>gd o (t.pk j))=true:=fun h=>by
   rw[cR];exact⟨t.pk k,cv (i:=k) (by rw[eb,if_pos hk];exact gk),h⟩
  have r:gd (t.pk k) (t.pk j)=false->(t.aF.take (k+1)).any (fun o=>gd o (t.pk j))=false:=fun h=>by
   rw[uX gk,k2,h];rfl
  rw[gd]at C r
  by_cases e1:(t.pk k).dh=(t.pk j).dh
  ·by_cases e2:eU (aZ (t.pk k).a) (aZ (t.pk j).b)<=0
   ·by_cases e3:eU (aZ (t.pk j).a) (aZ (t.pk k).b)<=0
    ·rw[if_pos (C (by simp[e1,e2,e3]))];simp[hk,e,gk,e1,ad];refine c2 l ?_;simp[e1,e2,ad];refine c2 w ?_;simp[e1,e2,e3,ad]
    ·simp[hk,e,gk,e1,ad];refine c2 l ?_;simp[e1,e2,ad];refine c2 w ?_;simp[e1,e2,e3,f,ad];exact rd (k+1) ⟨hk,r (by simp[e3])⟩
   ·simp[hk,e,gk,e1,ad];refine c2 l ?_;simp[e1,e2,f,ad];exact rd (k+1) ⟨hk,r (by simp[e2])⟩
  ·simp[hk,e,gk,e1,f,ad];exact rd (k+1) ⟨hk,r (by simp[e1])⟩
 ·have:k=j:=by omega
  subst this;rw[k2,if_neg (by decide)];simp[ad]
structure NV where
 x:NF
 y:NF
def NV.q(v:NV):V2:=⟨v.x.q,v.y.q⟩
def NV.add(v w:NV):NV:=⟨v.x.add w.x,v.y.add w.y⟩
def NV.sub(v w:NV):NV:=⟨v.x.sub w.x,v.y.sub w.y⟩
def NV.times(v:NV)(k:NF):NV:=⟨v.x.mul k,v.y.mul k⟩
def NV.dot(v w:NV):NF:=(v.x.mul w.x).add (v.y.mul w.y)
def NV.iI(v w:NV):NF:=(v.x.mul w.y).sub (v.y.mul w.x)
theorem NV.oM(v w:NV):(v.sub w).q=v.q.sub w.q:=by simp only[NV.sub,NV.q,V2.sub,NF.oM]
theorem NV.UY(v w:NV):(v.add w).q=v.q.add w.q:=rfl
theorem NV.Q8(v w:NV):(v.dot w).q=v.q.dot w.q:=rfl
theorem NV.arN(v w:NV):(v.iI w).q=v.q.iI w.q:=NF.oM _ _
def NV.from(p:gZ):NV:=⟨⟨aZ p.x,false⟩,⟨aZ p.y,false⟩⟩
structure NS where
 a:NF
 b:NF
 d:NF
def NS.q(s:NS):S3:=⟨s.a.q,s.b.q,s.d.q⟩
def FG(k:Nat)(s:NS):Prop:=cj k s.a.q/\cj k s.b.q/\cj k s.d.q
def NF.width(r:Int):NF:=.int (4*r*r)
structure NM where
 w:NV
 d:NV
 root:NF
def NM.of(width:NF)(p d b:NV):NM:=⟨b.sub p,d,(((b.sub p).dot d).mul ((b.sub p).dot d)).sub ((d.dot d).mul (((b.sub p).dot (b.sub p)).sub width))⟩
theorem oC:∀l:List Int,bI l=0↔∀e∈l,e=0
 |[]=>by simp[bI]
 |e::r=>by
  rw[bI]
  by_cases h:e=0
  ·rw[if_pos h,oC r];simp[h]
  ·rw[if_neg h];simp[h]
theorem ka{p:gZ}(h:dV p=0):bM p.x=0/\bM p.y=0:=by
 have:=(oC _).1 h;exact⟨this _ s_,this _ s_⟩
def vP(p:gZ):V2:=⟨aZ p.x,aZ p.y⟩
theorem Ab(p:gZ):(NV.from p).q=vP p:=rfl
theorem B6{k:Nat}{p:gZ}(h:dG k (vP p)):dG k (NV.from p).q:=h
structure NB where
 a:NV
 b:NV
 d:NF
def NB.q(n:NB):P4:=⟨⟨n.a.x.q,n.b.x.q,n.d.q⟩,⟨n.a.y.q,n.b.y.q,n.d.q⟩⟩
def okB(k:Nat)(n:NB):Prop:=dG k n.a.q/\dG k n.b.q/\cj k n.d.q
theorem okB.mono{k l:Nat}{n:NB}(h:okB k n)(hl:k<=l):okB l n:=⟨h.1.mono hl,h.2.1.mono hl,h.2.2.mono hl⟩
theorem QJ(e:Int):∀l:List Int,bI (l++[e])=if bI l=0 then e else bI l
 |[]=>by by_cases h:e=0<;>simp[bI,h]
 |x::l=>by
  simp only[gc,bI,QJ e l]
  by_cases hx:x=0
  ·simp[hx]
  ·simp[hx]
def plV(v:V2):gZ:=⟨bC v.x,bC v.y⟩
def fR{α:Type}(a:List α->α->Int)(l:List α)(i:Nat):Int:=match l[i]? with
 |some x=>a (l.take i) x
 |none=>0
def jJ{α:Type}(a:List α->α->Int)(l:List α):Int:=bI ((eq l.length).map (fR a l))
theorem Gm{f:Nat->Int}:∀(n i:Nat),(∀j,j<i->f j=0)->i<n->f i≠0->bI ((eq n).map f)=f i
 |0,i,_,h,_=>by omega
 |n+1,i,a,g,b=>by
  rw[ge,gg,c8,ei,QJ]
  by_cases hi:i<n
  ·rw[Gm n i a hi b,if_neg b]
  ·have:i=n:=by omega
   subst this;rw[(oC _).2 (by intro e c;obtain⟨j,d,rfl⟩:=ee.1 c;exact a j (e7.1 d)),if_pos rfl]
theorem sO{α:Type}{a:List α->α->Int}{l:List α}{i:Nat}{x:α}(h:∀j,j<i->fR a l j=0)(hx:l[i]?=some x)(b:a (l.take i) x≠0):jJ a l=a (l.take i) x:=by
 have hi:=(da.1 hx).1;have e:fR a l i=a (l.take i) x:=by rw[fR,hx]
 rw[jJ,Gm _ i h hi (by rw[e];exact b),e]
theorem l7{α:Type}{b:List α->α->Int}{l:List α}:jJ b l=0↔∀j,j<l.length->fR b l j=0:=by
 rw[jJ,oC];constructor
 ·intro h j a;exact h _ (ee.2 ⟨j,e7.2 a,rfl⟩)
 ·intro h e c;obtain⟨j,a,rfl⟩:=ee.1 c;exact h j (e7.1 a)
theorem sN{α:Type}{a:List α->α->Int}{l:List α}{i:Nat}{x:α}(h:∀j,j<i->fR a l j=0)(hx:l[i]?=some x)(c:a (l.take i) x=0):∀j,j<i+1->fR a l j=0:=by
 intro j d
 by_cases b:j=i
 ·subst b;rw[fR,hx];exact c
 ·exact h j o_
def hJ(t:az)(bef:List bD)(s:bD):Int:=
 if isName s.name=false then 8
 else if bef.any (fun o=>decide (o.name=s.name))=true then 9
 else if dV s.pt≠0 then dV s.pt
 else if t.on (vP s.pt)<0 then 16 else 0
def cB(t:az):Int:=
 if t.cs.length<3 then 2
 else if 12<t.cs.length then 5
 else if t.cs.any fA=true then 3
 else if t.ga=false then 15
 else if t.aX<1\/1000<t.aX then 3
 else if 12<t.aF.length then 5
 else if jJ (gf t.cs.length) t.aF≠0 then jJ (gf t.cs.length) t.aF
 else if 256<t.aj.length then 5
 else jJ (hJ t) t.aj
def ki(p:bD):Prop:=jF p.name/\qt p.pt
def az.sp(t:az)(i:Nat):bD:=t.aj.getD i ⟨[],⟨[],[]⟩⟩
@[simp] theorem az.uN{t:az}{i:Nat}(h:i<t.aj.length):t.aj[i]'h=t.sp i:=by
 rw[az.sp,e9,cE h];rfl
theorem az.fH{t:az}{i:Nat}(h:i<t.aj.length):t.aj[i]?=some (t.sp i):=by rw[cE h,az.uN]
structure gF(t:az):Prop where
 cl:t.cs.length<=1000000
 pl:t.aF.length<=1000000
 sl:t.aj.length<=1000000
 pk:∀p∈t.aF,sx p
 sp:∀s∈t.aj,ki s
def nL(t:az)(name:List Nat):Int:=match t.aj.findIdx? (fun s=>decide (s.name=name))with
 |some i=>i
 |none=>-1
theorem Gw{n:Nat}{c:List dy}{p:dy}(h:gf n c p=0):bM p.a=0/\bM p.b=0:=by
 rw[gf]at h
 split at h
 ·omega
 split at h
 ·omega
 split at h
 ·omega
 split at h
 ·contradiction
 split at h
 ·contradiction
 rename_i d e;exact⟨ay.1 d,ay.1 e⟩
theorem afQ(t:az)(name:List Nat)(hl:t.aj.length<=1000000):aA prog 65 [cd t,.str name] (.int .i64 (nL t name)):=by
 refine aM nf (i_ func65) mix (by simp[f65]) ?_;simp[f65,ad];refine lp (α:=Nat) (fun i=>⟨[(5,.p (.int .i64 i)),(2,.ptr 0 []),(1,.p (.str name))],[.box false (.p (cd t))]⟩) (fun i=>i<=t.aj.length/\∀j,j<i->¬(t.sp j).name=name) (fun i=>t.aj.length-i) 0 s_ ?_;rintro i ⟨g,c⟩
 by_cases hi:i<t.aj.length
 ·have d:=az.fH hi;have f:=bY (i:=i) o_
  by_cases a:(t.sp i).name=name
  ·have:nL t name=i:=by
    have:t.aj.findIdx? (fun s=>decide (s.name=name))=some i:=by
     rw[ew];refine⟨hi,by rw[az.uN];simp[a],fun j b=>?_⟩;rw[az.uN];simp[c j b]
    rw[nL,this]
   simp[hi,d,a,this,ad]
  ·simp[hi,d,a,f,ad];exact rd (i+1) ⟨hi,fun j b=>by
    by_cases e:j=i
    ·subst e;exact a
    ·exact c j o_⟩
 ·have:i=t.aj.length:=by omega
  subst this;have:nL t name= -1:=by
   have:t.aj.findIdx? (fun s=>decide (s.name=name))=none:=by
    rw[fb];intro s hs;obtain⟨j,b,rfl⟩:=dp.1 hs;rw[az.uN];simp[c j b]
   rw[nL,this]
  simp[this,ad]
theorem aL0{t:az}{i:Nat}(hi:i<t.aj.length):nL t (t.sp i).name<i↔(t.aj.take i).any (fun o=>decide (o.name=(t.sp i).name))=true:=by
 obtain⟨k,hk⟩:∃k,t.aj.findIdx? (fun s=>decide (s.name=(t.sp i).name))=some k:=by
  cases h:t.aj.findIdx? (fun s=>decide (s.name=(t.sp i).name))with
  |some k=>exact⟨k,rfl⟩
  |none=>
   rw[fb]at h;have:=h _ (cv (az.fH hi));simp at this
 rw[nL,hk];rw[ew]at hk;obtain⟨k1,k2,k3⟩:=hk;rw[cR];constructor
 ·intro h;have h:k<i:=by simp only at h;omega
  exact⟨t.aj[k],cv (i:=k) (by rw[eb,if_pos h,cE k1]),k2⟩
 ·rintro⟨o,b,a⟩;obtain⟨j,c,rfl⟩:=dp.1 b;simp only[dl]at c;simp only;rw[en]at a;have:¬j<k:=fun d=>by
   have:=k3 j d;rw[a]at this;simp at this
  omega
theorem Gi(t:az)(I:gF t):aA prog 13 [cd t] (.int .i64 (cB t)):=by
 obtain⟨r,J,K,G,H⟩:=I;refine aM nf (i_ func13) mix (by simp[f13]) ?_;rw[cB]
 by_cases c1:t.cs.length<3
 ·have cI:(t.cs.length:Int)<3:=by omega
  rw[if_pos c1];simp[f13,ad,cI]
 have u:¬(t.cs.length:Int)<3:=o_
 rw[if_neg c1]
 by_cases c2:12<t.cs.length
 ·have cI:(12:Int)<t.cs.length:=by omega
  rw[if_pos c2];simp[f13,ad,u,cI]
 have x:¬(12:Int)<t.cs.length:=o_
 rw[if_neg c2];simp[f13,ad,u,x];refine lp (α:=Nat) (fun i=>⟨[(3,.p (.int .i64 i)),(1,.ptr 0 [])],[.box false (.p (cd t))]⟩) (fun i=>i<=t.cs.length/\(t.cs.take i).any fA=false) (fun i=>t.cs.length-i) 0 s_ ?_;rintro i ⟨i1,i2⟩
 by_cases hi:i<t.cs.length
 ·have g:=az.get hi;have e:=bY (i:=i) o_;have k:=ahU (t.at i);cases hf:fA (t.at i)
  ·rw[hf]at k;simp[hi,g,ad];refine c1_ k ?_;simp[e,ad];exact rd (i+1) ⟨hi,by rw[uX g,i2,hf];rfl⟩
  ·rw[hf]at k;have:t.cs.any fA=true:=cR.2 ⟨t.at i,cv g,hf⟩;rw[if_pos this];simp[hi,g,ad];refine c1_ k ?_;simp[ad]
 have:i=t.cs.length:=o_
 subst this;rw[cy]at i2;have w:∀p∈t.cs,fe p:=fun p F=>Bj (by
  cases h:fA p
  ·rfl
  ·rw[cR.2 ⟨p,F,h⟩]at i2;cases i2)
 have B:=TQ t r w;rw[i2,if_neg (by decide)];simp[ad];refine c1_ B ?_;cases O:t.ga
 ·simp[ad]
 rw[if_neg (by decide)];have s:(t.aX<1\/1000<t.aX)\/(¬t.aX<1/\¬1000<t.aX):=o_
 rcases s with s|⟨r1,r2⟩
 ·rw[if_pos s]
  by_cases e1:t.aX<1
  ·simp[e1,ad]
  ·have e2:1000<t.aX:=by omega
   simp[e1,e2,ad]
 rw[if_neg o_]
 by_cases c3:12<t.aF.length
 ·have cI:(12:Int)<t.aF.length:=by omega
  rw[if_pos c3];simp[r1,r2,cI,ad]
 have y:¬(12:Int)<t.aF.length:=o_
 rw[if_neg c3];simp[r1,r2,y,ad];refine lp (α:=Nat) (fun i=>⟨[(4,.p (.int .i64 i)),(1,.ptr 0 [])],[.box false (.p (cd t))]⟩) (fun i=>i<=t.aF.length/\∀j,j<i->fR (gf t.cs.length) t.aF j=0) (fun i=>t.aF.length-i) 0 s_ ?_;rintro i ⟨k1,k2⟩
 by_cases hk:i<t.aF.length
 ·have gk:=az.jG hk;have e:=bY (i:=i) o_;have b:=Tq t i hk J r G (fun j E=>by
   have:=k2 j E;rw[fR,az.jG o_]at this;exact Gw this)
  by_cases he:gf t.cs.length (t.aF.take i) (t.pk i)=0
  ·rw[he]at b;simp[hk,ad];refine c2_ b ?_;simp[e,ad];exact rd (i+1) ⟨hk,sN k2 gk he⟩
  ·have D:=sO k2 gk he;rw[D,if_pos he];simp[hk,ad];refine c2_ b ?_;simp[he,ad]
 have:i=t.aF.length:=o_
 subst this;have C:=l7.2 k2;rw[C,if_neg (by decide)]
 by_cases c4:256<t.aj.length
 ·have cI:(256:Int)<t.aj.length:=by omega
  rw[if_pos c4];simp[cI,ad]
 have z:¬(256:Int)<t.aj.length:=o_
 rw[if_neg c4];simp[z,ad];refine lp (α:=Nat) (fun i=>⟨[(6,.p (.int .i64 i)),(1,.ptr 0 [])],[.box false (.p (cd t))]⟩) (fun i=>i<=t.aj.length/\∀j,j<i->fR (hJ t) t.aj j=0) (fun i=>t.aj.length-i) 0 s_ ?_;rintro i ⟨s1,s2⟩
 by_cases hs:i<t.aj.length
 ·have a:=az.fH hs;have e:=bY (i:=i) o_;obtain⟨M,N⟩:=H _ (cv a);have c:=Bg (t.sp i).name M.1;have l:=afQ t (t.sp i).name K;have b:=Jw (t.sp i).pt N;have v:=aL0 hs;have f:hJ t (t.aj.take i) (t.sp i)≠0->jJ (hJ t) t.aj=hJ t (t.aj.take i) (t.sp i):=sO s2 a;have L:hJ t (t.aj.take i) (t.sp i)=0->∀j,j<i+1->fR (hJ t) t.aj j=0:=sN s2 a;have ev:hJ t (t.aj.take i) (t.sp i)=if isName (t.sp i).name=false then 8 else if(t.aj.take i).any (fun o=>decide (o.name=(t.sp i).name))=true then 9 else if dV (t.sp i).pt≠0 then dV (t.sp i).pt else if t.on (vP (t.sp i).pt)<0 then 16 else 0:=rfl
  cases m:isName (t.sp i).name
  ·rw[m]at c;rw[m,if_pos rfl]at ev;rw[f (by rw[ev];decide),ev];simp[hs,a,ad];refine c1_ c ?_;simp[ad]
  rw[m]at c;rw[m,if_neg (by decide)]at ev
  by_cases d:nL t (t.sp i).name<i
  ·rw[if_pos (v.1 d)]at ev;rw[f (by rw[ev];decide),ev];simp[hs,a,ad];refine c1_ c ?_;simp[ad];refine c2_ l ?_;simp[d,ad]
  rw[if_neg (fun h=>d (v.2 h))]at ev
  by_cases pe:dV (t.sp i).pt=0
  case neg=>
   rw[if_pos pe]at ev;rw[f (by rw[ev];exact pe),ev];simp[hs,a,ad];refine c1_ c ?_;simp[ad];refine c2_ l ?_;simp[d,ad];refine c1_ b ?_;simp[pe,ad]
  rw[if_neg (by simp[pe])]at ev;obtain⟨g1,g2⟩:=ka pe;have q:=QP t (vP (t.sp i).pt) r w ⟨(gR g1).mono (by decide),(gR g2).mono (by decide)⟩;have A:eV (vP (t.sp i).pt)=fE (t.sp i).pt:=by
   rw[eV,vP];dsimp only;rw[(kC g1).1,(kC g2).1]
  rw[A]at q;rw[pe]at b
  by_cases n:t.on (vP (t.sp i).pt)<0
  ·rw[if_pos n]at ev;rw[f (by rw[ev];decide),ev];simp[hs,a,ad];refine c1_ c ?_;simp[ad];refine c2_ l ?_;simp[d,ad];refine c1_ b ?_;simp[ad];refine c2_ q ?_;simp[n,ad]
  ·rw[if_neg n]at ev;simp[hs,a,ad];refine c1_ c ?_;simp[ad];refine c2_ l ?_;simp[d,ad];refine c1_ b ?_;simp[ad];refine c2_ q ?_;simp[n,e,ad];exact rd (i+1) ⟨hs,L ev⟩
 ·have:i=t.aj.length:=by omega
  subst this;rw[l7.2 s2];simp[ad]
open Go.Proofs Go.Proofs.YtfdgnogcckoalaaGreatDoor
section
variable{H:Type}{W:a1}{aa:Nat->Prop}
theorem xG:∀d:a6 H,1<=Rows.uptoBulk d:=by
 intro d;cases d with
 |lit l=>cases l<;>simp[Rows.uptoBulk]
 |_=>simp[Rows.uptoBulk]
theorem xN{α:Type}{n:Nat}{t e:TypeId}{F:α->PV}{ok:α->Prop}(g:prog.underlying t=some (.slice e))
 (p:∀(d:a6 H),(∃c,aV prog W aa (bH prog n e d) c)->Rows.uptoBulk d<=1048576->∃a,bH prog n e d=F a/\ok a/\2<=Rows.uptoBulk d)
 {d:a6 H}(h:∃cs,aV prog W aa (bH prog (n+1) t d) cs)(k:Rows.uptoBulk d<=1048576):∃l:List α,bH prog (n+1) t d=.seq (l.map F)/\(∀a∈l,ok a)/\l.length<=1000000:=by
 obtain⟨cs,h⟩:=h;cases d with
 |nil=>exact⟨[],by simp[bH,g],(fun _ h=>nomatch h),s_⟩
 |slice f sp=>
  simp only[bH,g,aV]at h⊢;have i:∀e'∈f.map (bH prog n e),∃c,aV prog W aa e' c:=by
   rcases h with⟨h,_⟩|⟨_,_,_,_,w,h,_⟩
   ·rw[h];intro _ h;cases h
   ·exact GB h
  have key:∀f:List (a6 H),(∀e'∈f.map (bH prog n e),∃c,aV prog W aa e' c)->Rows.uptoBulkAll f<=1048576->∃l:List α,f.map (bH prog n e)=l.map F/\(∀a∈l,ok a)/\2*l.length<=Rows.uptoBulkAll f:=by
   intro f
   induction f with
   |nil=>intro _ _;exact⟨[],rfl,(fun _ h=>nomatch h),s_⟩
   |cons d r v=>
    intro i k;rw[Rows.uptoBulkAll]at k⊢;obtain⟨a,q,u,m⟩:=p d (i _ ej) o_;obtain⟨l,j,o,y⟩:=v (fun e' s=>i e' (er _ s)) o_;refine⟨a::l,by simp only[c8];rw[q,j],fun x hx=>?_,by rw[eL];omega⟩;rcases ed.1 hx with rfl|hx
    ·exact u
    ·exact o x hx
  rw[Rows.uptoBulk]at k;obtain⟨l,j,m,o⟩:=key f i o_;exact⟨l,by rw[j],m,o_⟩
 |lit l=>simp only[bH,g,aV]at h
 |ptr d=>simp only[bH,g,aV]at h
 |agg l=>simp only[bH,g,aV]at h
 |iface a b=>simp only[bH,g,aV]at h
 |map l=>simp only[bH,g,aV]at h
 |held a=>simp only[bH,g,aV]at h
theorem Bm{n:Nat}{d:a6 H}(h:∃cs,aV prog W aa (bH prog (n+1) 9 d) cs)(a:Rows.uptoBulk d<=1048576):∃s:List Nat,bH prog (n+1) 9 d=.str s/\jF s:=by
 obtain⟨cs,h⟩:=h;cases d with
 |lit l=>
  cases l with
  |string bytes=>
   refine⟨bytes.map (·.toNat),by simp only[bH,uR],?_,?_⟩
   ·rw[Rows.uptoBulk]at a;rw[dz];omega
   ·intro c hc;obtain⟨u,_,rfl⟩:=ee.1 hc;exact u.toNat_lt
  |_=>simp only[bH,uR,aV]at h
 |_=>simp only[bH,uR,aV]at h
theorem aMB:∃a b:a8,prog.underlying 64=some (.struct #[a,b])/\a.type=3/\b.type=3:=⟨_,_,underlying64,rfl,rfl⟩
theorem S0:prog.underlyingId 64=63:=k_
theorem TS{m n:Nat}(j:m=n+1){d:a6 H}(h:∃cs,aV prog W aa (bH prog (m+1) 64 d) cs)(o:Rows.uptoBulk d<=1048576):∃p:dm,bH prog (m+1) 64 d=bN p/\True/\2<=Rows.uptoBulk d:=by
 obtain⟨cs,h⟩:=h;obtain⟨f0,f1,f,t0,t1⟩:=aMB;cases d with
 |agg l=>
  simp only[bH,f,aV]at h⊢;obtain⟨q,k,e,c,_⟩:=h;rw[S0,aMd]at e;cases e
  match l,c with
  |[],c=>simp[bg]at c
  |[x],c=>simp[bg]at c
  |x::y::r,c=>
   have:=xG x;simp only[ea,c8,bg,ec,ei,t0,t1]at c⊢;obtain⟨c0,_,_,g1,_,c1,_,_,g2,_⟩:=c;subst j;obtain⟨a,g⟩:=xM (n:=n) x c0 g1;obtain⟨b,i⟩:=xM (n:=n) y c1 g2;refine⟨⟨a,b⟩,by rw[g,i,S0];rfl,trivial,?_⟩;rw[Rows.uptoBulk,Rows.uptoBulkAll];omega
 |_=>simp only[bH,f,aV]at h
theorem aMz:∃a b f2 f3:a8,prog.underlying 88=some (.struct #[a,b,f2,f3])/\a.type=9/\b.type=3/\f2.type=73/\f3.type=73:=⟨_,_,_,_,underlying88,rfl,rfl,rfl,rfl⟩
theorem SY:prog.underlyingId 88=87:=k_
theorem Tz{m n:Nat}(q:m=n+1){d:a6 H}(h:∃cs,aV prog W aa (bH prog (m+1) 88 d) cs)(o:Rows.uptoBulk d<=1048576):∃p:dy,bH prog (m+1) 88 d=cG p/\sx p/\2<=Rows.uptoBulk d:=by
 obtain⟨cs,h⟩:=h;obtain⟨f0,f1,f2,f3,g,t0,t1,t2,t3⟩:=aMz;cases d with
 |agg l=>
  have e:∀x∈l,Rows.uptoBulk x<=1048576:=fun x hx=>by
   have:=qf.wZ hx;rw[Rows.uptoBulk]at o;omega
  simp only[bH,g,aV]at h⊢;obtain⟨B,A,f,c,_⟩:=h;rw[SY,aMf]at f;cases f
  match l,c with
  |[],c=>simp[bg]at c
  |[x],c=>simp[bg]at c
  |[x,y],c=>simp[bg]at c
  |[x,y,z],c=>simp[bg]at c
  |x::y::z::w::r,c=>
   have:=xG x;simp only[ea,c8,bg,ec,ei,t0,t1,t2,t3]at c⊢;obtain⟨c0,_,_,g0,_,c1,_,_,g1,_,c2,_,_,g2,_,c3,_,_,g3,_⟩:=c;subst q;obtain⟨a,i,k⟩:=Bm (n:=n) ⟨c0,g0⟩ (e x s_);obtain⟨b,j⟩:=xM (n:=n) y c1 g1;obtain⟨u,eu,s⟩:=Ak (n:=n) ⟨c2,g2⟩ (e z s_);obtain⟨v,ev,t⟩:=Ak (n:=n) ⟨c3,g3⟩ (e w s_);refine⟨⟨a,b,u,v⟩,by rw[i,j,eu,ev,SY];rfl,⟨k,s,t⟩,?_⟩;rw[Rows.uptoBulk,Rows.uptoBulkAll];omega
 |_=>simp only[bH,g,aV]at h
theorem aMC:∃a b:a8,prog.underlying 97=some (.struct #[a,b])/\a.type=9/\b.type=82:=⟨_,_,underlying97,rfl,rfl⟩
theorem S1:prog.underlyingId 97=84:=k_
theorem TR{m n:Nat}(s:m=n+2){d:a6 H}(h:∃cs,aV prog W aa (bH prog (m+1) 97 d) cs)(o:Rows.uptoBulk d<=1048576):∃p:bD,bH prog (m+1) 97 d=aP p/\ki p/\2<=Rows.uptoBulk d:=by
 obtain⟨cs,h⟩:=h;obtain⟨f0,f1,g,t0,t1⟩:=aMC;cases d with
 |agg l=>
  have f:∀x∈l,Rows.uptoBulk x<=1048576:=fun x hx=>by
   have:=qf.wZ hx;rw[Rows.uptoBulk]at o;omega
  simp only[bH,g,aV]at h⊢;obtain⟨u,t,e,c,_⟩:=h;rw[S1,SV]at e;cases e
  match l,c with
  |[],c=>simp[bg]at c
  |[x],c=>simp[bg]at c
  |x::y::r,c=>
   have:=xG x;simp only[ea,c8,bg,ec,ei,t0,t1]at c⊢;obtain⟨c0,_,_,g1,_,c1,_,_,g2,_⟩:=c;subst s;obtain⟨a,i,k⟩:=Bm (n:=n+1) ⟨c0,g1⟩ (f x s_);obtain⟨b,j,q⟩:=K1 (n:=n) ⟨c1,g2⟩ (f y s_);refine⟨⟨a,b⟩,by rw[i,j,S1];rfl,⟨k,q⟩,?_⟩;rw[Rows.uptoBulk,Rows.uptoBulkAll];omega
 |_=>simp only[bH,g,aV]at h
theorem aMD:∃a b f2 f3:a8,prog.underlying 26=some (.struct #[a,b,f2,f3])/\a.type=22/\b.type=3/\f2.type=23/\f3.type=24:=⟨_,_,_,_,underlying26,rfl,rfl,rfl,rfl⟩
theorem S2:prog.underlyingId 26=25:=k_
theorem aMg{m n:Nat}(p:m=n+4){d:a6 H}(h:∃cs,aV prog W aa (bH prog (m+1) 26 d) cs)(e:Rows.uptoBulk d<=1048576):∃t:az,bH prog (m+1) 26 d=cd t/\True/\gF t:=by
 obtain⟨cs,h⟩:=h;obtain⟨f0,f1,f2,f3,j,t0,t1,t2,t3⟩:=aMD;cases d with
 |agg l=>
  have g:∀x∈l,Rows.uptoBulk x<=1048576:=fun x hx=>by
   have:=qf.wZ hx;rw[Rows.uptoBulk]at e;omega
  simp only[bH,j,aV]at h⊢;obtain⟨E,D,i,c,_⟩:=h;rw[S2,aMc]at i;cases i
  match l,c with
  |[],c=>simp[bg]at c
  |[x],c=>simp[bg]at c
  |[x,y],c=>simp[bg]at c
  |[x,y,z],c=>simp[bg]at c
  |x::y::z::w::r,c=>
   simp only[ea,c8,bg,ec,ei,t0,t1,t2,t3]at c⊢;obtain⟨c0,_,_,g0,_,c1,_,_,g1,_,c2,_,_,g2,_,c3,_,_,g3,_⟩:=c;subst p;obtain⟨a,k,_,A⟩:=xN (n:=n+3) aMu (F:=bN) (ok:=fun _=>True) (fun d f e=>TS (n:=n+1) rfl f e) ⟨c0,g0⟩ (g x s_);obtain⟨b,o⟩:=xM (n:=n+3) y c1 g1;obtain⟨u,eu,q,B⟩:=xN (n:=n+3) aMv (F:=cG) (ok:=sx) (fun d f e=>Tz (n:=n+1) rfl f e) ⟨c2,g2⟩ (g z s_);obtain⟨v,ev,s,C⟩:=xN (n:=n+3) aMw (F:=aP) (ok:=ki) (fun d f e=>TR (n:=n) rfl f e) ⟨c3,g3⟩ (g w s_);exact⟨⟨a,b,u,v⟩,by rw[k,o,eu,ev,S2];rfl,trivial,A,B,C,q,s⟩
 |_=>simp only[bH,j,aV]at h
theorem Ih{d:a6 H}(h:∃cs,aV prog W aa (bH prog 8 26 d) cs)(a:Rows.uptoBulk d<=1048576):∃t:az,bH prog 8 26 d=cd t/\True/\gF t:=aMg (n:=3) rfl h a
end
def fp(p:dy):PV:=.st 87 [.str p.name,.int .i64 p.dh,.str p.a,.str p.b]
def gL(p:bD):PV:=.st 84 [.str p.name,fE p.pt]
def cz(t:az):PV:=.st 35 [.seq (t.cs.map bN),.int .i64 t.aX,.seq (t.aF.map fp),.seq (t.aj.map gL)]
@[simp] theorem aPk(p:dy):aL (fp p)=.agg 87:=rfl
@[simp] theorem aN5(p:dy):cH (fp p)=[.str p.name,.int .i64 p.dh,.str p.a,.str p.b]:=rfl
@[simp] theorem aPp(p:bD):aL (gL p)=.agg 84:=rfl
@[simp] theorem aN9(p:bD):cH (gL p)=[.str p.name,fE p.pt]:=rfl
@[simp] theorem aPs(t:az):aL (cz t)=.agg 35:=rfl
@[simp] theorem aOb(t:az):cH (cz t)=[.seq (t.cs.map bN),.int .i64 t.aX,.seq (t.aF.map fp),.seq (t.aj.map gL)]:=rfl
theorem amY(p:dm):aA prog 132 [bN p] (.bool (fA p)):=by
 obtain⟨x,y⟩:=p;refine aM nf (i_ func132) mix (by simp[f132]) ?_;have e1:max x y=if x<y then y else x:=by split<;>omega
 have e2:min x y=if y<x then y else x:=by split<;>omega
 rw[fA,e1,e2]
 by_cases h:(if x<y then y else x)<=10000
 ·have a:¬10000<(if x<y then y else x):=by omega
  by_cases b:(if y<x then y else x)< -10000
  ·simp[f132,ad,h,a,b]
  ·simp[f132,ad,h,a,b]
 ·have a:10000<(if x<y then y else x):=by omega
  simp[f132,ad,h,a]
def idxFrom{α:Type}(p:α->Bool):List α->Nat->Int
 |[],_=>-1
 |x::r,i=>if p x then(i:Int)else idxFrom p r (i+1)
theorem qB{α:Type}(p:α->Bool):∀(l:List α)(i:Nat),decide (0<=idxFrom p l i)=l.any p
 |[],i=>by simp[idxFrom]
 |x::r,i=>by
  by_cases h:p x
  ·simp[idxFrom,h]
  ·simp[idxFrom,h,qB p r]
theorem Tx(l:List dm)(h:l.length<=1000000):
 aA prog 214 [.seq (l.map bN),.func 132 [] []] (.int .i64 (idxFrom fA l 0)):=by
 refine aM nf (i_ func214) mix (by simp[f214]) ?_;simp[f214];refine lp (α:=Nat) (fun i=>⟨[(8,.p (.int .i64 i)),(7,.p (.int .i64 l.length)),(1,.p (.func 132 [] [])),(0,.p (.seq (l.map bN)))],[]⟩) (fun i=>i<=l.length/\idxFrom fA l 0=idxFrom fA (l.drop i) i) (fun i=>l.length-i) 0 s_ ?_;rintro i ⟨k1,k2⟩
 by_cases hi:i<l.length
 ·rw[c6 hi]at k2;have b:=bY (i:=i) o_;simp[hi];refine c1 (amY l[i]) ?_
  by_cases a:fA l[i]
  ·simp[idxFrom,a]at k2;simp[a,k2]
  ·simp[idxFrom,a]at k2;simp[a,b];exact rd (i+1) ⟨hi,k2⟩
 ·have:i=l.length:=by omega
  subst this;simp[idxFrom]at k2;simp[k2]
theorem Tm(l:List dm)(h:l.length<=1000000):
 aA prog 131 [.seq (l.map bN),.func 132 [] []] (.bool (l.any fA)):=by
 refine aM nf (i_ func131) mix (by simp[f131]) ?_;simp[f131];refine c2 (Tx l h) ?_;simp[<-qB fA l 0]
def mR(l:List dm):List (PV×PV):=l.map (fun p=>(bN p,PV.bool true))
theorem GS{p q:dm}(h:¬p=q):¬(p.x=q.x/\p.y=q.y):=fun⟨a,b⟩=>h (by cases p;cases q;simp_all)
theorem axU(a b c d:Int):fy prog 9 64 (.st 63 [.int .i64 a,.int .i64 b]) (.st 63 [.int .i64 c,.int .i64 d])=some ((a==c)&&((b==d)&&true)):=k_
@[simp] theorem Bn(p q:dm):fy prog 9 64 (bN p) (bN q)=some (decide (p=q)):=by
 rw[bN,bN,axU]
 by_cases h:p=q
 ·subst h;simp
 ·rw[decide_eq_false h];have:=GS h
  by_cases a:p.x=q.x
  ·have b:¬p.y=q.y:=fun b=>this ⟨a,b⟩;simp[a,b]
  ·simp[a]
theorem GR(p q:dm):gU (bN p) (bN q)=some (decide (p=q)):=by
 by_cases h:p=q
 ·subst h;simp[bN,gU,xj]
 ·rw[decide_eq_false h];have:=GS h
  by_cases a:p.x=q.x
  ·have b:¬p.y=q.y:=fun b=>this ⟨a,b⟩;simp[bN,gU,xj,a,beq_false_of_ne b]
  ·simp[bN,gU,xj,beq_false_of_ne a]
theorem axK(p q:dm):qj prog 64 (bN p) (bN q)=some (decide (p=q)):=by
 have e1:=Bn p q;have e2:=GR p q;rw[bN]at e1 e2⊢;rw[qj,e1,e2];simp
@[simp] theorem Gy(q:dm):∀l:List dm,gu prog 64 (mR l) (bN q)=some (if q∈l then some (.bool true)else none)
 |[]=>rfl
 |p::r=>by
  rw[mR,c8,gu,axK]
  by_cases h:q=p
  ·simp[h]
  ·have:=Gy q r;rw[mR]at this;simp[h,this]
theorem Tv{q:dm}{l:List dm}(h:¬q∈l):mu prog 64 (mR l) (bN q)=some none:=by
 have:=Gy q l;rw[if_neg h]at this;rw[bN]at this⊢;rw[mu,this]
theorem Gz{q:dm}:∀{l:List dm},¬q∈l->gS (mR l) (bN q) (.bool true)=mR (l++[q])
 |[],_=>rfl
 |p::r,h=>by
  have a:¬q=p:=fun e=>h (e▸ej);have b:¬q∈r:=fun e=>h (er _ e);have:=Gz b;rw[mR]at this⊢;rw[c8,gS,GR,this];simp[a,mR]
theorem aKw:nG prog 64=true:=k_
@[simp high] theorem aNd(c:Bool)(H:Heap)(p q:dm):jR prog .neq 64 c H (.p (bN p)) (.p (bN q))=some (True,{v:=.p (.bool !(decide (p=q)))}):=by
 have e:=Bn p q;rw[bN,bN]at*;simp[jR,e,aKw]
@[simp high] theorem aNZ(q:dm):fj prog 64 (bN q)=true:=by
 have e1:=Bn q q;rw[bN]at e1⊢;rw[fj];simp[e1]
theorem TM(a c:dm):l6 a a c=0:=by simp[l6]
theorem Tw(a b:dm):l6 a b a=0:=by simp[l6]
theorem TI{t:az}(e:3<=t.cs.length){j k:Nat}(c:j<t.cs.length)(hk:k<t.cs.length)(d:j≠k)(b:t.at j=t.at k):t.ga=false:=by
 rw[az.ga,decide_eq_false_iff_not];intro h
 by_cases hx:k=t.nx j
 ·obtain⟨m,m1,m2,m3⟩:∃m,m<t.cs.length/\m≠j/\m≠k:=by
   rcases g5 j k with a|a|a
   ·by_cases e0:j=0
    ·by_cases e1:k=1
     ·exact⟨2,o_,o_,o_⟩
     ·exact⟨1,o_,o_,o_⟩
    ·exact⟨0,o_,o_,o_⟩
   ·exact(d a).elim
   ·by_cases e0:k=0
    ·by_cases e1:j=1
     ·exact⟨2,o_,o_,o_⟩
     ·exact⟨1,o_,o_,o_⟩
    ·exact⟨0,o_,o_,o_⟩
  have:=h j c m m1 m2 (hx▸m3);rw[<-hx,<-b,TM]at this;omega
 ·have:=h j c k hk (Ne.symm d) hx;rw[<-b,Tw]at this;omega
theorem TP(t:az)(aj:3<=t.cs.length)(hl:t.cs.length<=1000000)(F:∀p∈t.cs,fe p):aA prog 133 [cz t] (.bool t.ga):=by
 refine aM nf (i_ func133) mix (by simp[f133]) ?_;generalize q:t.cs.length=n at*;simp[f133,ad,q];refine lp (α:=Nat) (fun i=>⟨[(16,.p (.int .i64 i)),(15,.p (.int .i64 n)),(14,.p (.seq (t.cs.map bN))),(3,.map 1),(1,.ptr 0 [])],[.box false (.p (cz t)),.map false (mR (t.cs.take i))]⟩) (fun i=>i<=n/\∀j k,j<k->k<i->t.at j≠t.at k) (fun i=>n-i) 0 s_ ?_ (hh:=by simp[mR]);rintro i ⟨ai,E⟩
 by_cases hi:i<n
 ·have H:=az.get (t:=t) (i:=i) o_;have z:=bY (i:=i) o_;have W:t.cs.take (i+1)=t.cs.take i++[t.at i]:=by rw[dg,H];rfl
  simp[-fj,hi,q,H,ad]
  by_cases f:t.at i∈t.cs.take i
  ·obtain⟨j,s,r⟩:=dp.1 f;rw[dl]at s;rw[en,az.aN o_]at r;have Q:=TI o_ (j:=j) (k:=i) o_ o_ o_ r;simp[f,Q]
  ·have hI:=Tv f;have I:=Gz f;rw[<-W]at I;simp[-fj,-mu,f,hI,I,z];exact rd (i+1) ⟨hi,fun j k w hk=>by
    by_cases T:k=i
    ·subst T;intro r;exact f (r▸cv (i:=j) (by rw[eb,if_pos w];exact az.get o_))
    ·exact E j k w o_⟩
 have R:i=n:=o_
 subst R;have inj:∀j k,j<i->k<i->t.at j=t.at k->j=k:=fun j k s hk r=>by
  rcases g5 j k with h|h|h
  ·exact(E j k h hk r).elim
  ·exact h
  ·exact(E k j h s r.symm).elim
 simp[q,ad];refine lp (α:=Nat) (fun m=>⟨[(32,.p (.int .i64 m)),(31,.p (.int .i64 i)),(30,.p (.seq (t.cs.map bN))),(6,.p (.int .i64 i)),(1,.ptr 0 [])],[.box false (.p (cz t))]⟩) (fun m=>m<=i/\∀j,j<m->t.nM j i) (fun m=>i-m) 0 s_ ?_;rintro m ⟨g1,g2⟩;have U:¬i=0:=o_
 by_cases f:m<i
 ·have M:=az.get (t:=t) (i:=m) o_;have z:=bY (i:=m) o_;have V:t.nx m<i:=by rw[<-q];exact t.oY o_ m
  have N:=az.get (t:=t) (i:=t.nx m) o_;have e1:((m:Int)+1).tmod (i:Int)=((t.nx m:Nat):Int):=by
   rw[az.nx,q,ck,ce o_];rfl
  simp[f,q,M,N,z,e1,U,ad];refine⟨by repeat' first|rfl|apply am,?_⟩;refine lp (α:=Nat) (fun k=>⟨[(48,.p (.int .i64 k)),(47,.p (.int .i64 i)),(46,.p (.seq (t.cs.map bN))),(9,.ptr 2 []),(8,.ptr 1 []),(32,.p (.int .i64 m)),(31,.p (.int .i64 i)),(30,.p (.seq (t.cs.map bN))),(6,.p (.int .i64 i)),(1,.ptr 0 [])],[.box false (.p (cz t)),.box false (.p (bN (t.at m))),.box false (.p (bN (t.at (t.nx m))))]⟩) (fun k=>k<=i/\t.nM m k) (fun k=>i-k) 0 (by simp[az.nM]) ?_;rintro k ⟨q1,D⟩
  by_cases hk:k<i
  ·have gk:=az.get (t:=t) (i:=k) o_;have G:=bY (i:=k) o_
   by_cases c1:t.at k=t.at m
   ·have:=inj _ _ hk f c1;subst this;simp[-jR,jR.eq_1,hk,gk,G,ad];exact rd (k+1) ⟨hk,fun j s=>by
     by_cases w:j=k
     ·intro h;exact(h w).elim
     ·exact D j o_⟩
   ·by_cases c2:t.at k=t.at (t.nx m)
    ·have:=inj _ _ hk V c2;have c3:¬t.at (t.nx m)=t.at m:=by rw[<-c2];exact c1
     simp[-jR,jR.eq_1,hk,gk,G,c2,c3,ad];exact rd (k+1) ⟨hk,fun j s=>by
      by_cases w:j=k
      ·intro _ h;exact(h o_).elim
      ·exact D j o_⟩
    ·have L:k≠m:=fun e=>c1 (by rw[e]);have nx:k≠t.nx m:=fun e=>c2 (by rw[e]);have P:l6 (t.at m) (t.at (t.nx m)) (t.at k)=((t.at (t.nx m)).x-(t.at m).x)*((t.at k).y-(t.at m).y)-((t.at (t.nx m)).y-(t.at m).y)*((t.at k).x-(t.at m).x):=rfl;have X:=az.iD F (i:=m) o_;have Y:=az.iD F (i:=t.nx m) o_;have Z:=az.iD F (i:=k) o_;have K:t.nM m (k+1)↔0<l6 (t.at m) (t.at (t.nx m)) (t.at k):=⟨fun h=>h k o_ L nx,fun h j s u v=>by
      by_cases w:j=k
      ·subst w;exact h
      ·exact D j o_ u v⟩
     have J:¬0<l6 (t.at m) (t.at (t.nx m)) (t.at k)->t.ga=false:=fun h=>by
      rw[az.ga,decide_eq_false_iff_not];intro O;exact h (O m o_ k o_ L nx)
     rw[P]at K J;simp[-jR,jR.eq_1,hk,gk,G,c1,c2,ad];simp only[fe]at X Y Z;generalize t.at m=A at*;generalize t.at (t.nx m)=B at*;generalize t.at k=C at*;obtain⟨c,d⟩:=A;obtain⟨bx,g⟩:=B;obtain⟨l,o⟩:=C;dsimp only at*;have aa:be.wrap (bx-c)=bx-c:=aO _ o_ o_;have ab:be.wrap (o-d)=o-d:=aO _ o_ o_;have ac:be.wrap (g-d)=g-d:=aO _ o_ o_
     have ae:be.wrap (l-c)=l-c:=aO _ o_ o_;have ak:=xI (a:=bx-c) (b:=o-d) (A:=20000) (B:=20000) o_ o_ o_ o_;have al:=xI (a:=g-d) (b:=l-c) (A:=20000) (B:=20000) o_ o_ o_ o_;have af:be.wrap ((bx-c)*(o-d))=(bx-c)*(o-d):=aO _ o_ o_;have ag:be.wrap ((g-d)*(l-c))=(g-d)*(l-c):=aO _ o_ o_;have ah:be.wrap ((bx-c)*(o-d)-(g-d)*(l-c))=(bx-c)*(o-d)-(g-d)*(l-c):=aO _ o_ o_;simp[aa,ab,ac,ae,af,ag,ah]
     by_cases hc:(bx-c)*(o-d)-(g-d)*(l-c)<=0
     ·have:=J o_;simp[hc,this]
     ·simp[hc];exact rd (k+1) ⟨hk,K.2 o_⟩
  ·have:k=i:=by omega
   subst this;simp[z];exact rd (m+1) ⟨f,fun j s=>by
    by_cases S:j=m
    ·subst S;exact D
    ·exact g2 j o_⟩
 ·have:m=i:=by omega
  subst this;have:t.ga=true:=by
   rw[az.ga,decide_eq_true_eq,q];exact g2
  simp[this]
noncomputable def fF(v:NV):PV:=.st 166 [eF v.x,eF v.y]
@[simp] theorem aPr(v:NV):aL (fF v)=.agg 166:=rfl
@[simp] theorem aOa(v:NV):cH (fF v)=[eF v.x,eF v.y]:=rfl
@[simp] theorem aNn:prog.cellsOf 166=8:=k_
theorem Bo(x y:NF):fF ⟨x,y⟩=.st 166 [eF x,eF y]:=rfl
noncomputable def uw(a b:NV):PV:=.st 178 [fF a,fF b]
@[simp] theorem aPe(a b:NV):aL (uw a b)=.agg 178:=rfl
@[simp] theorem aN0(a b:NV):cH (uw a b)=[fF a,fF b]:=rfl
theorem EI(p:gZ)(d:bM p.x=0)(e:bM p.y=0)(a:qt p):aA prog 90 [fE p] (fF (.from p)):=by
 have b:=nB p.x d a.1.1;have c:=nB p.y e a.2.1;refine aM nf (i_ func90) mix (by simp[f90]) ?_;rw[NV.from,Bo];simp[f90,ad];refine e1 b ?_;simp[ad];refine e1 c ?_;simp[ad]
def fZ(p:dm):NV:=⟨.int p.x,.int p.y⟩
theorem Gp(p:dm)(h:fe p):aA prog 174 [bN p] (fF (fZ p)):=by
 simp only[fe]at h;have a:=xc p.x o_ o_;have b:=xc p.y o_ o_;refine aM nf (i_ func174) mix (by simp[f174]) ?_;rw[fZ,Bo];simp[f174,ad];refine e1 a ?_;simp[ad];refine e1 b ?_;simp[ad]
theorem Bq(v w:NV)(a:dG kQ v.q)(b:dG kQ w.q):aA prog 108 [fF v,fF w] (fF (v.sub w)):=by
 have c:=zD v.x w.x (gw a.1) (gw b.1);have d:=zD v.y w.y (gw a.2) (gw b.2);refine aM nf (i_ func108) mix (by simp[f108]) ?_;rw[NV.sub,Bo];simp[f108,ad];refine e2 c ?_;simp[ad];refine e2 d ?_;simp[ad]
theorem TJ(v w:NV)(a:dG kQ v.q)(b:dG kQ w.q):aA prog 97 [fF v,fF w] (eF (v.iI w)):=by
 have c:=tP v.x w.y (gw a.1) (gw b.2);have d:=tP v.y w.x (gw a.2) (gw b.1);have e:=zD (v.x.mul w.y) (v.y.mul w.x) ((lQ a.1 b.2).mono (by decide)) ((lQ a.2 b.1).mono (by decide));refine aM nf (i_ func97) mix (by simp[f97]) ?_;rw[NV.iI];simp[f97,ad];refine e2 c ?_;simp[ad];refine e2 d ?_;simp[ad];refine e2 e ?_;simp[ad]
theorem ak3(t:az)(i:Nat)(hi:i<t.cs.length)(hl:t.cs.length<=1000000)(h:∀p∈t.cs,fe p):aA prog 106 [cz t,.int .i64 i] (uw (fZ (t.at i)) (fZ (t.at (t.nx i)))):=by
 have a:=t.oY o_ i;have j:=Gp (t.at i) (az.iD h hi);have k:=Gp (t.at (t.nx i)) (az.iD h a);have g:=bY (i:=i) o_;have e1:((i:Int)+1).tmod (t.cs.length:Int)=((t.nx i:Nat):Int):=by
  rw[az.nx,ck,ce o_];rfl
 have f:¬t.cs.length=0:=o_
 have d:¬t.cs=[]:=by intro e;rw[e]at hi;simp at hi
 have b:=az.get hi;have c:=az.get a;refine aM nf (i_ func106) mix (by simp[f106]) ?_;rw[uw];simp[f106,ad,g,e1,f,d,b,c,hi,a];refine e1_ j ?_;simp[ad,g,e1,f,d,b,c,hi,a];refine e1_ k ?_;simp[ad,g,e1,f,d,b,c,hi,a]
theorem anX(t:az):aA prog 95 [cz t] (.func 179 [] [.cA (cz t)]):=by
 refine aM nf (i_ func95) mix (by simp[f95]) ?_;simp[f95];show gP [.box false (.p (cz t))] 7 (.p (cz t)) (cz t);rw[FP];exact Wk.refl _
noncomputable def xO(t:az)(i:Nat):List PV:=[.int .i64 i,uw (fZ (t.at i)) (fZ (t.at (t.nx i)))]
theorem Bi{t:az}{i:Nat}(h:i<t.cs.length):((eq t.cs.length).map (xO t))[i]?=some (xO t i):=by
 rw[fv,List.getElem?_range h];rfl
theorem aLL(t:az)(hl:t.cs.length<=1000000)(g:∀p∈t.cs,fe p):Stream prog 179 [] [.cA (cz t)] ((eq t.cs.length).map (xO t)):=by
 intro b k e H' hk a j d;rw[dz,List.length_range]at hk d;refine dU nf (i_ func179) mix (by simp[f179]) ?_;simp[f179,ad];refine lp (α:=Nat) (fun i=>⟨[(7,.p (.int .i64 i)),(6,.p (.int .i64 t.cs.length)),(1,.p (.cA (cz t))),(0,.map b)],e i⟩) (fun i=>i<=k) (fun i=>k-i) 0 s_ ?_ (hr:=by simp;exact(a 0 o_).2) (hr2:=(a 0 o_).1);rintro i l
 by_cases hi:i<t.cs.length
 ·have f:=ak3 t i hi hl g;have h:=bY (i:=i) o_;simp[hi];refine c2 f ?_;simp
  by_cases c:i<k
  ·refine⟨e (i+1),_,j i _ c (Bi hi),?_⟩;simp[h];exact rd (i+1) c (hr:=by simp;exact(a (i+1) c).2) (hr2:=(a (i+1) c).1)
  ·have:i=k:=by omega
   subst this;rcases d with⟨e1,_⟩|⟨y,e1,e2⟩
   ·omega
   ·rw[Bi hi]at e1;injection e1 with e1
    subst e1;refine⟨H',_,e2,?_⟩;simp
 ·have:i=t.cs.length:=by omega
  subst this;rcases d with⟨e1,e2⟩|⟨y,e1,e2⟩
  ·have:t.cs.length=k:=by omega
   subst this;simp[e2]
  ·rw[List.getElem?_eq_none (by simp;omega)]at e1;cases e1
noncomputable def xu(t:az)(v:NV)(L:fD)(i:Nat):Heap:=[.box false (.p (cz t)),.box false (.p (fF v)),.box false (.p (.int .i64 (t.qu v.q i))),.loop L]
theorem QV(t:az)(v:NV)(hl:t.cs.length<=1000000)(c:∀p∈t.cs,fe p)(g:dG 3000 v.q):aA prog 126 [cz t,fF v] (.int .i64 (t.on v.q)):=by
 refine aM nf (i_ func126) mix (by simp[f126]) ?_;simp[f126,ad];refine c1 (anX t) ?_;simp;refine rf (aLL t hl c) rfl s_ (xu t v) t.cs.length s_ (fun L=>rfl) ?_ ?_ ?_
 ·intro L a i hi;refine⟨rfl,by simp[xu],fun _ hx=>?_⟩;simp[xu]at hx⊢;exact hx
 ·intro L a i x hi hx;rw[Bi hi]at hx;injection hx with hx
  subst hx;have b:=sM (az.iD c hi);have h:=sM (az.iD c (t.oY o_ i));have q1:dG 29 ((fZ (t.at (t.nx i))).sub (fZ (t.at i))).q:=by rw[NV.oM];exact rT h b
  have m:dG 3015 (v.sub (fZ (t.at i))).q:=by rw[NV.oM];exact rT g b
  have j:=Bq (fZ (t.at (t.nx i))) (fZ (t.at i)) (h.mono (by decide)) (b.mono (by decide));have k:=Bq v (fZ (t.at i)) (g.mono (by decide)) (b.mono (by decide));have l:=TJ ((fZ (t.at (t.nx i))).sub (fZ (t.at i))) (v.sub (fZ (t.at i))) (q1.mono (by decide)) (m.mono (by decide));have e:=DQ (((fZ (t.at (t.nx i))).sub (fZ (t.at i))).iI (v.sub (fZ (t.at i))));have d:iF (((fZ (t.at (t.nx i))).sub (fZ (t.at i))).iI (v.sub (fZ (t.at i)))).q=t.side i v.q:=by
   rw[NV.arN,NV.oM,NV.oM];rfl
  rw[iF]at d;rw[d]at e;have hs:=az.Gr t v.q i;rw[GG]at hs;refine Gt nf mix a rfl rfl k_ ?_;have f:=congrArg fD.env a;dsimp only at f;clear a d;generalize (fZ (t.at (t.nx i))).sub (fZ (t.at i))=W at*;generalize v.sub (fZ (t.at i))=U at*;generalize W.iI U=C at*;simp[xu,xO,uw,ad];refine e2 j ?_;simp[ad];refine e2 k ?_;simp[ad];refine e2 l ?_;simp[ad];refine e1 e ?_;simp[ad];refine⟨by repeat' first|rfl|apply am,?_⟩;rw[<-hs];refine bE.og s_ s_ s_ s_ ?_;simp;exact aLy f s_
 ·intro L a;refine .inl ⟨s_,?_⟩;simp[xu,az.on]
theorem Gu(s:List Nat)(hs:jF s)(h:bM s=0):aA prog 191 [.str s] (.int .i64 (dQ (aZ s))):=by
 have o:=gR h;have d:=nB s h hs.1;have c:=DQ ⟨aZ s,false⟩;have g:=xc 1 (by decide) (by decide);have e:=uq ⟨aZ s,false⟩ (.int 1) (o.mono (by decide)) ((show cj 1 (NF.int 1).q from⟨by decide,by decide⟩).mono (by decide));have e2:(if(⟨aZ s,false⟩:NF).q<0 then(-1:Int)else if(⟨aZ s,false⟩:NF).q=0 then 0 else 1)=iF (aZ s):=rfl;have e4:eU (⟨aZ s,false⟩:NF).q (NF.int 1).q=eU (aZ s) 1:=rfl;rw[e2]at c;rw[e4]at e;have f:=fun b=>gQ b 3;refine aM nf (i_ func191) mix (by simp[f191]) ?_;rw[dQ];clear e2 e4 o;generalize iF (aZ s)=x at*;generalize eU (aZ s) 1=y at*;generalize (⟨aZ s,false⟩:NF)=v at*
 by_cases a:x<0
 ·simp[f191,ad];refine c1 d ?_;simp[ad];refine e1_ c ?_;simp[a,ad];refine e2_ (f true) ?_;simp[ba];omega
 ·by_cases b:0<y
  ·simp[f191,ad];refine c1 d ?_;simp[ad];refine e1_ c ?_;simp[a,ad];refine e1_ g ?_;simp[a,ad];refine e2_ e ?_;simp[a,b,ad];refine e2_ (f true) ?_;simp[ba];omega
  ·simp[f191,ad];refine c1 d ?_;simp[ad];refine e1_ c ?_;simp[a,ad];refine e1_ g ?_;simp[a,ad];refine e2_ e ?_;simp[a,b,ad];refine e2_ (f false) ?_;simp[ba];omega
def qC(p:dy):Prop:=sx p/\bM p.a=0/\bM p.b=0
theorem anS(p o:dy)(r:qC p)(q:qC o):aA prog 217 [fp p,fp o] (.bool (gd o p)):=by
 obtain⟨⟨_,u,v⟩,l,m⟩:=r;obtain⟨⟨_,s,t⟩,j,k⟩:=q;have d:=nB p.a l u.1;have e:=nB o.b k t.1;have c:=uq ⟨aZ p.a,false⟩ ⟨aZ o.b,false⟩ ((gR l).mono (by decide)) ((gR k).mono (by decide));have g:=nB o.a j s.1;have i:=nB p.b m v.1;have f:=uq ⟨aZ o.a,false⟩ ⟨aZ p.b,false⟩ ((gR j).mono (by decide)) ((gR m).mono (by decide));dsimp only at c f;refine aM nf (i_ func217) mix (by simp[f217]) ?_;rw[gd];generalize eU (aZ p.a) (aZ o.b)=x at*;generalize eU (aZ o.a) (aZ p.b)=y at*;generalize (⟨aZ p.a,false⟩:NF)=v1 at*;generalize (⟨aZ p.b,false⟩:NF)=v2 at*;generalize (⟨aZ o.a,false⟩:NF)=v3 at*;generalize (⟨aZ o.b,false⟩:NF)=v4 at*
 by_cases c1:o.dh=p.dh
 case neg=>
  have n:¬p.dh=o.dh:=fun h=>c1 h.symm;simp[f217,ad,c1,n]
 by_cases c2:x<=0
 ·by_cases c3:y<=0
  ·simp[f217,ad,c1];refine e1_ d ?_;simp[ad,c1];refine e1_ e ?_;simp[ad,c1];refine e2_ c ?_;simp[ad,c1,c2];refine e1_ g ?_;simp[ad,c1,c2];refine e1_ i ?_;simp[ad,c1,c2];refine e2_ f ?_;simp[ad,c1,c2,c3]
  ·simp[f217,ad,c1];refine e1_ d ?_;simp[ad,c1];refine e1_ e ?_;simp[ad,c1];refine e2_ c ?_;simp[ad,c1,c2];refine e1_ g ?_;simp[ad,c1,c2];refine e1_ i ?_;simp[ad,c1,c2];refine e2_ f ?_;simp[ad,c1,c2,c3]
 ·simp[f217,ad,c1];refine e1_ d ?_;simp[ad,c1];refine e1_ e ?_;simp[ad,c1];refine e2_ c ?_;simp[ad,c1,c2]
theorem TH(p o:dy):bW prog 216 [.box false (.p (fp p))] [.p (fp o),.ptr 0 []] [.box false (.p (fp p))] (.p (.bool (decide (o.name=p.name)))):=by
 refine dU nf (i_ func216) mix (by simp[f216]) ?_
 by_cases h:o.name=p.name
 ·simp[f216,ad,h];exact bE.og s_ s_ s_ s_ s_
 ·simp[f216,ad,h];exact bE.og s_ s_ s_ s_ s_
theorem TL(p:dy)(l:List dy)(h:l.length<=1000000):
 bW prog 123 [.box false (.p (fp p))] [.p (.seq (l.map fp)),.func 216 [] [.ptr 0 []]] [.box false (.p (fp p))] (.p (.int .i64 (idxFrom (fun o=>decide (o.name=p.name)) l 0))):=by
 refine dU nf (i_ func123) mix (by simp[f123]) ?_;simp[f123];refine lp (α:=Nat) (fun i=>⟨[(8,.p (.int .i64 i)),(7,.p (.int .i64 l.length)),(1,.func 216 [] [.ptr 0 []]),(0,.p (.seq (l.map fp)))],[.box false (.p (fp p))]⟩) (fun i=>i<=l.length/\idxFrom (fun o=>decide (o.name=p.name)) l 0=idxFrom (fun o=>decide (o.name=p.name)) (l.drop i) i) (fun i=>l.length-i) 0 s_ ?_;rintro i ⟨k1,k2⟩;have a:=bY (i:=i) o_
 by_cases hi:i<l.length
 ·rw[c6 hi,idxFrom]at k2;simp[hi];refine cf (TH p l[i]) [0] ?_
  by_cases hk:l[i].name=p.name
  ·simp[hk]at k2;simp[hk,k2,aW]
  ·simp[hk]at k2;simp[hk,a,aW];exact rd (i+1) ⟨hi,k2⟩
 ·have:i=l.length:=by omega
  subst this;simp[idxFrom]at k2;simp[k2]
theorem TD(p:dy)(l:List dy)(h:l.length<=1000000):
 bW prog 215 [.box false (.p (fp p))] [.p (.seq (l.map fp)),.func 216 [] [.ptr 0 []]] [.box false (.p (fp p))] (.p (.bool (l.any (fun o=>decide (o.name=p.name))))):=by
 refine dU nf (i_ func215) mix (by simp[f215]) ?_;simp[f215];refine cf (TL p l h) [0] ?_;have:=qB (fun o=>decide (o.name=p.name)) l 0;simp[aW,<-this]
theorem TG(p o:bD):bW prog 219 [.box false (.p (gL p))] [.p (gL o),.ptr 0 []] [.box false (.p (gL p))] (.p (.bool (decide (o.name=p.name)))):=by
 refine dU nf (i_ func219) mix (by simp[f219]) ?_
 by_cases h:o.name=p.name
 ·simp[f219,ad,h];exact bE.og s_ s_ s_ s_ s_
 ·simp[f219,ad,h];exact bE.og s_ s_ s_ s_ s_
theorem Tt(p:bD)(l:List bD)(h:l.length<=1000000):
 bW prog 208 [.box false (.p (gL p))] [.p (.seq (l.map gL)),.func 219 [] [.ptr 0 []]] [.box false (.p (gL p))] (.p (.int .i64 (idxFrom (fun o=>decide (o.name=p.name)) l 0))):=by
 refine dU nf (i_ func208) mix (by simp[f208]) ?_;simp[f208];refine lp (α:=Nat) (fun i=>⟨[(8,.p (.int .i64 i)),(7,.p (.int .i64 l.length)),(1,.func 219 [] [.ptr 0 []]),(0,.p (.seq (l.map gL)))],[.box false (.p (gL p))]⟩) (fun i=>i<=l.length/\idxFrom (fun o=>decide (o.name=p.name)) l 0=idxFrom (fun o=>decide (o.name=p.name)) (l.drop i) i) (fun i=>l.length-i) 0 s_ ?_;rintro i ⟨k1,k2⟩;have a:=bY (i:=i) o_
 by_cases hi:i<l.length
 ·rw[c6 hi,idxFrom]at k2;simp[hi];refine cf (TG p l[i]) [0] ?_
  by_cases hk:l[i].name=p.name
  ·simp[hk]at k2;simp[hk,k2,aW]
  ·simp[hk]at k2;simp[hk,a,aW];exact rd (i+1) ⟨hi,k2⟩
 ·have:i=l.length:=by omega
  subst this;simp[idxFrom]at k2;simp[k2]
theorem TC(p:bD)(l:List bD)(h:l.length<=1000000):
 bW prog 218 [.box false (.p (gL p))] [.p (.seq (l.map gL)),.func 219 [] [.ptr 0 []]] [.box false (.p (gL p))] (.p (.bool (l.any (fun o=>decide (o.name=p.name))))):=by
 refine dU nf (i_ func218) mix (by simp[f218]) ?_;simp[f218];refine cf (Tt p l h) [0] ?_;have:=qB (fun o=>decide (o.name=p.name)) l 0;simp[aW,<-this]
theorem TF(p:dy)(b:qC p)(l:List dy)(h:l.length<=1000000)(hl:∀o∈l,qC o):
 aA prog 123 [.seq (l.map fp),.func 217 [fp p] []] (.int .i64 (idxFrom (fun o=>gd o p) l 0)):=by
 refine aM nf (i_ func123) mix (by simp[f123]) ?_;simp[f123];refine lp (α:=Nat) (fun i=>⟨[(8,.p (.int .i64 i)),(7,.p (.int .i64 l.length)),(1,.p (.func 217 [fp p] [])),(0,.p (.seq (l.map fp)))],[]⟩) (fun i=>i<=l.length/\idxFrom (fun o=>gd o p) l 0=idxFrom (fun o=>gd o p) (l.drop i) i) (fun i=>l.length-i) 0 s_ ?_;rintro i ⟨k1,k2⟩;have c:=bY (i:=i) o_
 by_cases hi:i<l.length
 ·rw[c6 hi,idxFrom]at k2;have a:=anS p l[i] b (hl _ (eo hi));simp[hi];refine c2 a ?_;cases hk:gd l[i] p
  ·simp[hk]at k2;simp[c];exact rd (i+1) ⟨hi,k2⟩
  ·simp[hk]at k2;simp[k2]
 ·have:i=l.length:=by omega
  subst this;simp[idxFrom]at k2;simp[k2]
theorem Tp(p:dy)(a:qC p)(l:List dy)(h:l.length<=1000000)(hl:∀o∈l,qC o):
 aA prog 215 [.seq (l.map fp),.func 217 [fp p] []] (.bool (l.any (fun o=>gd o p))):=by
 refine aM nf (i_ func215) mix (by simp[f215]) ?_;simp[f215];refine c2 (TF p a l h hl) ?_;have:=qB (fun o=>gd o p) l 0;simp[<-this]
def lC(n:Nat)(c:List dy)(p:dy):Int:=bI [ba (!isName p.name) 8,ba (c.any fun o=>decide (o.name=p.name)) 9,ba (decide (p.dh<0\/(n:Int)<=p.dh)) 10,bM p.a,bM p.b]
def AW(c:List dy)(p:dy):Int:=bI [dQ (aZ p.a),dQ (aZ p.b),ba (decide (0<eU (aZ p.a) (aZ p.b))) 11,ba (c.any fun o=>gd o p) 17]
theorem xH(q:Rat):dQ q=0\/dQ q=3:=by
 rw[dQ];split
 ·exact .inr rfl
 ·exact .inl rfl
theorem TA(n:Nat)(e:List dy)(p:dy):gf n e p=if lC n e p=0 then AW e p else lC n e p:=by
 rw[gf,lC,AW];generalize bM p.a=ca;generalize bM p.b=i;have j:=xH (aZ p.a);have h:=xH (aZ p.b);generalize dQ (aZ p.a)=r at*;generalize dQ (aZ p.b)=s at*;generalize eU (aZ p.a) (aZ p.b)=y;generalize (e.any fun o=>gd o p)=m;generalize (e.any fun o=>decide (o.name=p.name))=a;have k:max (0:Int) 3=3:=rfl;have l:max (3:Int) 0=3:=rfl;cases q:isName p.name
 ·simp[bI,ba]
 cases a
 case true=>simp[bI,ba]
 by_cases c:p.dh<0\/(n:Int)<=p.dh
 ·simp[bI,ba,c]
 by_cases d:ca=0
 case neg=>simp[bI,ba,c,d]
 by_cases f:i=0
 case neg=>simp[bI,ba,c,d,f]
 rcases j with rfl|rfl
 ·rcases h with rfl|rfl
  ·by_cases g:0<y
   ·simp[bI,ba,c,d,f,g]
   ·cases m<;>simp[bI,ba,c,d,f,g]
  ·simp[bI,ba,c,d,f,k]
 ·rcases h with rfl|rfl
  ·simp[bI,ba,c,d,f,l]
  ·simp[bI,ba,c,d,f]
theorem Tu{n:Nat}{bef:List dy}{p:dy}(h:lC n bef p=0):bM p.a=0/\bM p.b=0:=by
 rw[lC,oC]at h;exact⟨h _ s_,h _ s_⟩
theorem To(t:az)(p:dy)(d:List dy)(hl:t.cs.length<=1000000)(G:sx p)(m:d.length<=1000000)(F:∀o∈d,qC o):
 aA prog 135 [cz t,fp p,.seq (d.map fp)] (.int .i64 (gf t.cs.length d p)):=by
 obtain⟨C,j,k⟩:=G;have k1:=TD p d m;have k2:=Bl p.name C.1;have k3:=gQ (!isName p.name) 8;have k4:=gQ (d.any fun o=>decide (o.name=p.name)) 9;have k5:=fun b=>gQ b 10;have k6:=Ad p.a j.1 j.2;have k7:=Ad p.b k.1 k.2;have k8:=nN [ba (!isName p.name) 8,ba (d.any fun o=>decide (o.name=p.name)) 9,ba (decide (p.dh<0\/(t.cs.length:Int)<=p.dh)) 10,bM p.a,bM p.b] s_;have g:=Tu (n:=t.cs.length) (bef:=d) (p:=p);rw[TA];have s:=fun h:lC t.cs.length d p=0=>Tp p ⟨⟨C,j,k⟩,(g h).1,(g h).2⟩ d m F;have u:=fun h:lC t.cs.length d p=0=>Gu p.a j (g h).1;have v:=fun h:lC t.cs.length d p=0=>Gu p.b k (g h).2;have w:=fun h:lC t.cs.length d p=0=>nB p.a (g h).1 j.1;have x:=fun h:lC t.cs.length d p=0=>nB p.b (g h).2 k.1;have q:=fun h:lC t.cs.length d p=0=>uq ⟨aZ p.a,false⟩ ⟨aZ p.b,false⟩ ((gR (g h).1).mono (by decide)) ((gR (g h).2).mono (by decide));dsimp only at q;have B:=gQ (decide (0<eU (aZ p.a) (aZ p.b))) 11;have z:=gQ (d.any fun o=>gd o p) 17;have i:=nN [dQ (aZ p.a),dQ (aZ p.b),ba (decide (0<eU (aZ p.a) (aZ p.b))) 11,ba (d.any fun o=>gd o p) 17] s_;have d1:lC t.cs.length d p=bI [ba (!isName p.name) 8,ba (d.any fun o=>decide (o.name=p.name)) 9,ba (decide (p.dh<0\/(t.cs.length:Int)<=p.dh)) 10,bM p.a,bM p.b]:=rfl;have d2:AW d p=bI [dQ (aZ p.a),dQ (aZ p.b),ba (decide (0<eU (aZ p.a) (aZ p.b))) 11,ba (d.any fun o=>gd o p) 17]:=rfl;rw[<-d1]at k8;rw[<-d2]at i;clear d1 d2 g;generalize lC t.cs.length d p=l at*;generalize AW d p=K at*;generalize bM p.a=H at*;generalize bM p.b=I at*;generalize dQ (aZ p.a)=T at*;generalize dQ (aZ p.b)=U at*;generalize eU (aZ p.a) (aZ p.b)=A at*;generalize (d.any fun o=>decide (o.name=p.name))=D at*;generalize (d.any fun o=>gd o p)=J at*;generalize isName p.name=E at*;generalize (⟨aZ p.a,false⟩:NF)=v1 at*;generalize (⟨aZ p.b,false⟩:NF)=v2 at*;refine aM nf (i_ func135) mix (by simp[f135]) ?_;have r:∀b:Bool,decide (p.dh<0\/(t.cs.length:Int)<=p.dh)=b->aA prog 57 [.bool b,.int .i64 10] (.int .i64 (ba b 10))/\aA prog 56 [.seq [.int .i64 (ba (!E) 8),.int .i64 (ba D 9),.int .i64 (ba b 10),.int .i64 H,.int .i64 I]] (.int .i64 l):=fun b m=>by
  rw[m]at k8;exact⟨k5 b,by simpa using k8⟩
 simp at i;have y:aA prog 57 [.bool (decide (0<A)),.int .i64 11] (.int .i64 (ba (decide (0<A)) 11)):=B;clear k5 k8 B;generalize L:ba (!E) 8=P at*;generalize M:ba D 9=Q at*;generalize N:ba (decide (0<A)) 11=R at*;generalize O:ba J 17=S at*;simp[f135,-bu,ad];rw[bu];simp[-bu,ad];rw[bu];simp[-bu,ad];refine cf k1 [1] ?_;simp[-bu,ad,aW,sig]
 by_cases e:p.dh<0
 ·obtain⟨f1,f2⟩:=r true (by simp[e]);rw[bu,bu];simp[-bu,ad];refine e1_ k2 ?_;simp[-bu,ad];refine e2_ k3 ?_;simp[-bu,ad];refine e2_ k4 ?_;simp[-bu,ad,e];refine e2_ f1 ?_;simp[-bu,ad,e];refine e1_ k6 ?_;simp[-bu,ad,e];refine e1_ k7 ?_;simp[-bu,ad,e];refine ep f2 (by simp;first|exact⟨rfl,rfl⟩|rfl) (by simp;first|exact⟨rfl,rfl⟩|rfl) ?_;simp[-bu,ad,e];refine⟨by repeat' first|rfl|apply am,?_⟩
  by_cases c:l=0
  case neg=>simp[c,ad]
  simp[c,ad];refine c2_ (s c) ?_;simp[ad];refine e1_ (u c) ?_;simp[ad];refine e1_ (v c) ?_;simp[ad];refine e1_ (w c) ?_;simp[ad];refine e1_ (x c) ?_;simp[ad];refine e2_ (q c) ?_;simp[ad];refine e2_ y ?_;simp[ad];refine e2_ z ?_;simp[ad];refine ep i (by simp;first|exact⟨rfl,rfl⟩|rfl) (by simp;first|exact⟨rfl,rfl⟩|rfl) ?_;simp[ad];exact⟨by repeat' first|rfl|apply am,fun h=>(h c).elim⟩
 by_cases f:(t.cs.length:Int)<=p.dh
 ·obtain⟨f1,f2⟩:=r true (by simp[e,f]);rw[bu,bu];simp[-bu,ad];refine e1_ k2 ?_;simp[-bu,ad];refine e2_ k3 ?_;simp[-bu,ad];refine e2_ k4 ?_;simp[-bu,ad,e,f];refine e2_ f1 ?_;simp[-bu,ad,e,f];refine e1_ k6 ?_;simp[-bu,ad,e,f];refine e1_ k7 ?_;simp[-bu,ad,e,f];refine ep f2 (by simp;first|exact⟨rfl,rfl⟩|rfl) (by simp;first|exact⟨rfl,rfl⟩|rfl) ?_;simp[-bu,ad,e,f];refine⟨by repeat' first|rfl|apply am,?_⟩
  by_cases c:l=0
  case neg=>simp[c,ad]
  simp[c,ad];refine c2_ (s c) ?_;simp[ad];refine e1_ (u c) ?_;simp[ad];refine e1_ (v c) ?_;simp[ad];refine e1_ (w c) ?_;simp[ad];refine e1_ (x c) ?_;simp[ad];refine e2_ (q c) ?_;simp[ad];refine e2_ y ?_;simp[ad];refine e2_ z ?_;simp[ad];refine ep i (by simp;first|exact⟨rfl,rfl⟩|rfl) (by simp;first|exact⟨rfl,rfl⟩|rfl) ?_;simp[ad];exact⟨by repeat' first|rfl|apply am,fun h=>(h c).elim⟩
 ·obtain⟨f1,f2⟩:=r false (by simp[e,f]);rw[bu,bu];simp[-bu,ad];refine e1_ k2 ?_;simp[-bu,ad];refine e2_ k3 ?_;simp[-bu,ad];refine e2_ k4 ?_;simp[-bu,ad,e,f];refine e2_ f1 ?_;simp[-bu,ad,e,f];refine e1_ k6 ?_;simp[-bu,ad,e,f];refine e1_ k7 ?_;simp[-bu,ad,e,f];refine ep f2 (by simp;first|exact⟨rfl,rfl⟩|rfl) (by simp;first|exact⟨rfl,rfl⟩|rfl) ?_;simp[-bu,ad,e,f];refine⟨by repeat' first|rfl|apply am,?_⟩
  by_cases c:l=0
  case neg=>simp[c,ad]
  simp[c,ad];refine c2_ (s c) ?_;simp[ad];refine e1_ (u c) ?_;simp[ad];refine e1_ (v c) ?_;simp[ad];refine e1_ (w c) ?_;simp[ad];refine e1_ (x c) ?_;simp[ad];refine e2_ (q c) ?_;simp[ad];refine e2_ y ?_;simp[ad];refine e2_ z ?_;simp[ad];refine ep i (by simp;first|exact⟨rfl,rfl⟩|rfl) (by simp;first|exact⟨rfl,rfl⟩|rfl) ?_;simp[ad];exact⟨by repeat' first|rfl|apply am,fun h=>(h c).elim⟩
def jH(a:List bD)(s:bD):Int:=bI [ba (!isName s.name) 8,ba (a.any fun o=>decide (o.name=s.name)) 9,dV s.pt]
theorem Ty(t:az)(b:List bD)(s:bD):hJ t b s=if jH b s=0 then ba (decide (t.on (vP s.pt)<0)) 16 else jH b s:=by
 rw[hJ,jH];generalize dV s.pt=c;generalize (b.any fun o=>decide (o.name=s.name))=a;cases e:isName s.name
 ·simp[bI,ba]
 cases a
 case true=>simp[bI,ba]
 by_cases d:c=0
 case neg=>simp[bI,ba,d]
 simp[bI,ba,d]
theorem Gx{bef:List bD}{s:bD}(h:jH bef s=0):dV s.pt=0:=by
 rw[jH,oC]at h;exact h _ s_
theorem TE(t:az)(s:bD)(a:List bD)(hl:t.cs.length<=1000000)(k:∀p∈t.cs,fe p)(hs:ki s)(j:a.length<=1000000):
 aA prog 137 [cz t,gL s,.seq (a.map gL)] (.int .i64 (hJ t a s)):=by
 obtain⟨q,f⟩:=hs;have k1:=TC s a j;have k2:=Bl s.name q.1;have k3:=gQ (!isName s.name) 8;have k4:=gQ (a.any fun o=>decide (o.name=s.name)) 9;have k6:=B4 s.pt f;have k8:=nN [ba (!isName s.name) 8,ba (a.any fun o=>decide (o.name=s.name)) 9,dV s.pt] s_;have c:=Gx (bef:=a) (s:=s);rw[Ty];have l:=fun h:jH a s=0=>EI s.pt (ka (c h)).1 (ka (c h)).2 f;have e:=fun h:jH a s=0=>QV t (.from s.pt) hl k (B6 ⟨(gR (ka (c h)).1).mono (by decide),(gR (ka (c h)).2).mono (by decide)⟩);have m:=gQ (decide (t.on (vP s.pt)<0)) 16;rw[Ab]at e;have d1:jH a s=bI [ba (!isName s.name) 8,ba (a.any fun o=>decide (o.name=s.name)) 9,dV s.pt]:=rfl;rw[<-d1]at k8;clear d1 c;generalize jH a s=d at*;generalize t.on (vP s.pt)=y at*;generalize dV s.pt=r at*;generalize (a.any fun o=>decide (o.name=s.name))=g at*;generalize isName s.name=i at*;generalize NV.from s.pt=v1 at*;refine aM nf (i_ func137) mix (by simp[f137]) ?_;have n:aA prog 56 [.seq [.int .i64 (ba (!i) 8),.int .i64 (ba g 9),.int .i64 r]] (.int .i64 d):=by simpa using k8
 clear k8;generalize u:ba (!i) 8=x at*;generalize v:ba g 9=z at*;generalize w:ba (decide (y<0)) 16=A at*;simp[f137,ad];refine cf k1 [1] ?_;simp[ad,aW,sig];refine e1_ k2 ?_;simp[ad];refine e2_ k3 ?_;simp[ad];refine e2_ k4 ?_;simp[ad];refine e1_ k6 ?_;simp[ad];refine ep n (by simp;first|exact⟨rfl,rfl⟩|rfl) (by simp;first|exact⟨rfl,rfl⟩|rfl) ?_;simp[ad];refine⟨by repeat' first|rfl|apply am,?_⟩
 by_cases b:d=0
 case neg=>simp[b,ad]
 simp[b,ad];refine e1_ (l b) ?_;simp[ad];refine e2_ (e b) ?_;simp[ad];refine e2_ m ?_;simp[ad];exact fun h=>(h b).elim
def jV{α:Type}(b:Nat)(a:List α->α->Int)(l:List α):Int:=if b<l.length then 5 else jJ a l
theorem zC{α:Type}{n:Nat}{f:α->PV}(h:∀a,ad (.p (f a))≠.bad/\bG prog (ad (.p (f a)))=n)(l:List α):fk prog n (l.map (AV.p∘f)):=vC.2 fun v b=>by
 obtain⟨a,_,rfl⟩:=ee.1 b;exact h a
theorem Lw(l:List dy):fk prog 4 (l.map (AV.p∘fp)):=zC (fun r=>⟨by simp[ad],by simp[ad]⟩) l
theorem Lx(l:List bD):fk prog 3 (l.map (AV.p∘gL)):=zC (fun r=>⟨by simp[ad],by simp[ad]⟩) l
theorem TO(t:az)(a:Nat)(hl:t.cs.length<=1000000)(l:t.aF.length<=1000000)(c:∀p∈t.aF,sx p):
 aA prog 134 [.seq (t.aF.map fp),.int .i64 a,.func 135 [cz t] []] (.int .i64 (jV a (gf t.cs.length) t.aF)):=by
 refine aM nf (i_ func134) mix (by simp[f134]) ?_;rw[jV]
 by_cases c1:a<t.aF.length
 ·have cI:(a:Int)<t.aF.length:=by omega
  rw[if_pos c1];simp[f134,cI]
 have d:¬(a:Int)<t.aF.length:=o_
 rw[if_neg c1];simp[f134,d];refine lp (α:=Nat) (fun i=>⟨[(16,.p (.int .i64 i)),(15,.p (.int .i64 t.aF.length)),(14,.p (.seq (t.aF.map fp))),(0,.p (.seq (t.aF.map fp))),(2,.p (.func 135 [cz t] []))],[]⟩) (fun i=>i<=t.aF.length/\∀j,j<i->fR (gf t.cs.length) t.aF j=0) (fun i=>t.aF.length-i) 0 s_ ?_;rintro i ⟨k1,k2⟩
 by_cases hk:i<t.aF.length
 ·have gk:=az.jG hk;have k:=bY (i:=i) o_;have b:=To t (t.pk i) (t.aF.take i) hl (c _ (cv gk)) (by rw[dl];omega) (fun o h=>by
   obtain⟨j,f,rfl⟩:=dp.1 h;rw[dl]at f;rw[en];have:=k2 j o_;have g:=az.jG (t:=t) (i:=j) o_;rw[fR,g]at this;rw[az.FO o_];exact⟨c _ (cv g),Gw this⟩)
  rw[et]at b
  by_cases he:gf t.cs.length (t.aF.take i) (t.pk i)=0
  ·rw[he]at b;have:=sN k2 gk he;simp[hk,gk,ad];refine⟨⟨k1,Lw _⟩,?_⟩;refine e3_ b ?_;simp[k,ad];exact rd (i+1) ⟨hk,this⟩
  ·have e:=sO k2 gk he;rw[e];simp[hk,gk,ad];refine⟨⟨k1,Lw _⟩,?_⟩;refine e3_ b ?_;simp[he,ad]
 ·have:i=t.aF.length:=by omega
  subst this;rw[l7.2 k2];simp
theorem TN(t:az)(a:Nat)(hl:t.cs.length<=1000000)(e:∀p∈t.cs,fe p)(h:t.aj.length<=1000000)(f:∀p∈t.aj,ki p):
 aA prog 136 [.seq (t.aj.map gL),.int .i64 a,.func 137 [cz t] []] (.int .i64 (jV a (hJ t) t.aj)):=by
 refine aM nf (i_ func136) mix (by simp[f136]) ?_;rw[jV]
 by_cases c1:a<t.aj.length
 ·have cI:(a:Int)<t.aj.length:=by omega
  rw[if_pos c1];simp[f136,cI]
 have c:¬(a:Int)<t.aj.length:=o_
 rw[if_neg c1];simp[f136,c];refine lp (α:=Nat) (fun i=>⟨[(16,.p (.int .i64 i)),(15,.p (.int .i64 t.aj.length)),(14,.p (.seq (t.aj.map gL))),(0,.p (.seq (t.aj.map gL))),(2,.p (.func 137 [cz t] []))],[]⟩) (fun i=>i<=t.aj.length/\∀j,j<i->fR (hJ t) t.aj j=0) (fun i=>t.aj.length-i) 0 s_ ?_;rintro i ⟨k1,k2⟩
 by_cases hk:i<t.aj.length
 ·have gk:=az.fH hk;have g:=bY (i:=i) o_;have b:=TE t (t.sp i) (t.aj.take i) hl e (f _ (cv gk)) (by rw[dl];omega);rw[et]at b
  by_cases he:hJ t (t.aj.take i) (t.sp i)=0
  ·rw[he]at b;have:=sN k2 gk he;simp[hk,gk,ad];refine⟨⟨k1,Lx _⟩,?_⟩;refine e3_ b ?_;simp[g,ad];exact rd (i+1) ⟨hk,this⟩
  ·have d:=sO k2 gk he;rw[d];simp[hk,gk,ad];refine⟨⟨k1,Lx _⟩,?_⟩;refine e3_ b ?_;simp[he,ad]
 ·have:i=t.aj.length:=by omega
  subst this;rw[l7.2 k2];simp
def mQ(t:az):Int:=bI [ba (decide ((t.cs.length:Int)<3)) 2,ba (decide (12<(t.cs.length:Int))) 5,ba (t.cs.any fA) 3]
def o7(t:az):Int:=bI [ba (!t.ga) 15,ba (decide (t.aX<1\/1000<t.aX)) 3,jV 12 (gf t.cs.length) t.aF]
theorem Gn{t:az}(h:mQ t=0):3<=t.cs.length/\t.cs.length<=12/\∀p∈t.cs,fe p:=by
 rw[mQ,oC]at h;have b:=h (ba (decide ((t.cs.length:Int)<3)) 2) s_;have d:=h (ba (decide (12<(t.cs.length:Int))) 5) s_;have a:=h (ba (t.cs.any fA) 3) s_;refine⟨?_,?_,fun p e=>Bj ?_⟩
 ·by_cases c:(t.cs.length:Int)<3
  ·simp[ba,c]at b
  ·omega
 ·by_cases c:12<(t.cs.length:Int)
  ·simp[ba,c]at d
  ·omega
 ·cases hf:fA p
  ·rfl
  ·have:t.cs.any fA=true:=cR.2 ⟨p,e,hf⟩;rw[this]at a;simp[ba]at a
theorem xK(t:az):cB t=if mQ t=0 then(if o7 t=0 then jV 256 (hJ t) t.aj else o7 t)else mQ t:=by
 rw[cB,mQ,o7,jV,jV]
 by_cases c1:t.cs.length<3
 ·have:(t.cs.length:Int)<3:=by omega
  simp[bI,ba,c1,this]
 have b:¬(t.cs.length:Int)<3:=o_
 by_cases c2:12<t.cs.length
 ·have:(12:Int)<t.cs.length:=by omega
  simp[bI,ba,c1,c2,b,this]
 have c:¬(12:Int)<t.cs.length:=o_
 generalize t.cs.any fA=a;cases a
 case true=>simp[bI,ba,c1,c2,b,c]
 cases t.ga
 ·simp[bI,ba,c1,c2,b,c]
 by_cases c3:t.aX<1\/1000<t.aX
 ·simp[bI,ba,c1,c2,b,c,c3]
 by_cases c4:12<t.aF.length
 ·simp[bI,ba,c1,c2,b,c,c3,c4]
 generalize jJ (gf t.cs.length) t.aF=e
 by_cases c5:e=0
 ·simp[bI,ba,c1,c2,b,c,c3,c4,c5]
 ·simp[bI,ba,c1,c2,b,c,c3,c4,c5]
theorem xJ(t:az)(s:gF t):aA prog 51 [cz t] (.int .i64 (cB t)):=by
 obtain⟨i,x,y,q,r⟩:=s;have k1:=gQ (decide ((t.cs.length:Int)<3)) 2;have k2:=gQ (decide (12<(t.cs.length:Int))) 5;have k3:=Tm t.cs i;have k4:=gQ (t.cs.any fA) 3;have k5:=nN [ba (decide ((t.cs.length:Int)<3)) 2,ba (decide (12<(t.cs.length:Int))) 5,ba (t.cs.any fA) 3] s_;have j:=Gn (t:=t);rw[xK];have u:=fun h:mQ t=0=>TP t (j h).1 i (j h).2.2;have v:=gQ (!t.ga) 15;have o:=fun b=>gQ b 3;have l:=TO t 12 i x q;have g:=nN [ba (!t.ga) 15,ba (decide (t.aX<1\/1000<t.aX)) 3,jV 12 (gf t.cs.length) t.aF] s_;have m:=fun h:mQ t=0=>TN t 256 i (j h).2.2 y r;have d1:mQ t=bI [ba (decide ((t.cs.length:Int)<3)) 2,ba (decide (12<(t.cs.length:Int))) 5,ba (t.cs.any fA) 3]:=rfl;have d2:o7 t=bI [ba (!t.ga) 15,ba (decide (t.aX<1\/1000<t.aX)) 3,jV 12 (gf t.cs.length) t.aF]:=rfl;rw[<-d1]at k5;rw[<-d2]at g;clear d1 d2 j;generalize mQ t=n at*;generalize o7 t=f at*;generalize jV 12 (gf t.cs.length) t.aF=D at*;generalize jV 256 (hJ t) t.aj=K at*;generalize t.cs.any fA=E at*;generalize t.ga=F at*;generalize G:ba (decide ((t.cs.length:Int)<3)) 2=z at*;generalize H:ba (decide (12<(t.cs.length:Int))) 5=A at*;generalize I:ba E 3=B at*;generalize J:ba (!F) 15=C at*;have k:∀b:Bool,decide (t.aX<1\/1000<t.aX)=b->aA prog 57 [.bool b,.int .i64 3] (.int .i64 (ba b 3))/\aA prog 56 [.seq [.int .i64 C,.int .i64 (ba b 3),.int .i64 D]] (.int .i64 f):=fun b p=>by
  rw[p]at g;exact⟨o b,by simpa using g⟩
 have w:aA prog 56 [.seq [.int .i64 z,.int .i64 A,.int .i64 B]] (.int .i64 n):=by simpa using k5
 clear g o k5;refine aM nf (i_ func51) mix (by simp[f51]) ?_;simp[f51,ad];refine e2_ k1 ?_;simp[ad];refine e2_ k2 ?_;simp[ad];refine e2_ k3 ?_;simp[ad];refine e2_ k4 ?_;simp[ad];refine ep w (by simp;first|exact⟨rfl,rfl⟩|rfl) (by simp;first|exact⟨rfl,rfl⟩|rfl) ?_;simp[ad];refine⟨by repeat' first|rfl|apply am,?_⟩
 by_cases a:n=0
 case neg=>simp[a,ad]
 simp[a,ad];refine e1_ (u a) ?_;simp[ad];refine e2_ v ?_;simp[ad]
 by_cases r1:t.aX<1
 ·have c:¬1<=t.aX:=by omega
  obtain⟨f1,f2⟩:=k true (by simp[r1]);simp[r1,c,ad];refine e2_ f1 ?_;simp[r1,c,ad];refine e3_ l ?_;simp[r1,c,ad];refine ep f2 (by simp;first|exact⟨rfl,rfl⟩|rfl) (by simp;first|exact⟨rfl,rfl⟩|rfl) ?_;simp[r1,c,ad];refine⟨by repeat' first|rfl|apply am,?_⟩
  by_cases d:f=0
  case neg=>simp[a,d,ad]
  simp[a,d,ad];refine c3_ (m a) ?_;simp[a,d,ad]
 have c:1<=t.aX:=o_
 by_cases r2:1000<t.aX
 ·have e:¬t.aX<=1000:=by omega
  obtain⟨f1,f2⟩:=k true (by simp[r1,r2]);simp[r1,c,r2,e,ad];refine e2_ f1 ?_;simp[r1,c,r2,e,ad];refine e3_ l ?_;simp[r1,c,r2,e,ad];refine ep f2 (by simp;first|exact⟨rfl,rfl⟩|rfl) (by simp;first|exact⟨rfl,rfl⟩|rfl) ?_;simp[r1,c,r2,e,ad];refine⟨by repeat' first|rfl|apply am,?_⟩
  by_cases d:f=0
  case neg=>simp[a,d,ad]
  simp[a,d,ad];refine c3_ (m a) ?_;simp[a,d,ad]
 ·have e:t.aX<=1000:=by omega
  obtain⟨f1,f2⟩:=k false (by simp[r1,r2]);simp[r1,c,r2,e,ad];refine e2_ f1 ?_;simp[r1,c,r2,e,ad];refine e3_ l ?_;simp[r1,c,r2,e,ad];refine ep f2 (by simp;first|exact⟨rfl,rfl⟩|rfl) (by simp;first|exact⟨rfl,rfl⟩|rfl) ?_;simp[r1,c,r2,e,ad];refine⟨by repeat' first|rfl|apply am,?_⟩
  by_cases d:f=0
  case neg=>simp[a,d,ad]
  simp[a,d,ad];refine c3_ (m a) ?_;simp[a,d,ad]
def az.aML(t:az)(i:Nat):NV:=(fZ (t.at (t.nx i))).sub (fZ (t.at i))
def NS.add(s t:NS):NS:=⟨s.a.add t.a,s.b.add t.b,s.d⟩
def NS.neg(s:NS):NS:=⟨s.a.neg,s.b.neg,s.d⟩
def NS.times(s:NS)(k:NF):NS:=⟨s.a.mul k,s.b.mul k,s.d⟩
def NB.iI(n:NB)(e:NV):NS:=⟨e.iI n.a,e.iI n.b,n.d⟩
def NS.plain(a d:NF):NS:=⟨a,.int 0,d⟩
def NS.norm(s:NS):NF:=(s.a.mul s.a).sub ((s.b.mul s.b).mul s.d)
open Classical in
noncomputable def NS.under(s:NS)(k:NF):NS:=if s.norm.q=0 then .plain (k.div (s.a.add s.a)) s.d else⟨(k.mul s.a).div s.norm,(k.mul s.b).neg.div s.norm,s.d⟩
theorem FG.mono{k l:Nat}{s:NS}(h:FG k s)(hl:k<=l):FG l s:=⟨h.1.mono hl,h.2.1.mono hl,h.2.2.mono hl⟩
def az.pos(t:az)(n:NB)(i:Nat):Bool:=decide (0<sgS ((n.iI (t.aML i)).neg).q)
theorem Bf{t:az}(h:cB t=0):3<=t.cs.length/\t.cs.length<=12/\(∀p∈t.cs,fe p)/\t.ga=true:=by
 rw[xK]at h
 by_cases d:mQ t=0
 ·rw[if_pos d]at h
  by_cases e:o7 t=0
  ·obtain⟨a,b,c⟩:=Gn d;refine⟨a,b,c,?_⟩;rw[o7,oC]at e;have f:=e (ba (!t.ga) 15) s_;cases hc:t.ga
   ·rw[hc]at f;simp[ba]at f
   ·rfl
  ·rw[if_neg e]at h;exact(e h).elim
 ·rw[if_neg d]at h;exact(d h).elim
def aMX:PV:=.st 81 [.str [],.str []]
theorem mP(s:List Nat)(n:Int):aA prog 39 [.str s,.int .i64 n] (.bool (decide ((s.length:Int)<=n))):=by
 refine aM nf (i_ func39) mix (by simp[f39]) ?_;simp[f39]
def kl(p:dy):Bool:=decide (p.name.length<=40)&&(decide (p.a.length<=40)&&decide (p.b.length<=40))
def iG(s:bD):Bool:=decide (s.name.length<=40)&&(decide (s.pt.x.length<=40)&&decide (s.pt.y.length<=40))
def mS(t:az):Bool:=!(decide (14<t.cs.length)||(decide (14<t.aF.length)||((decide (8<t.aj.length)&&decide (t.aj.length<=256))||decide (258<t.aj.length))))&&(t.aF.all kl&&t.aj.all iG)
theorem oZ{α:Type}{f:α->Bool}{l:List α}{i:Nat}{x:α}(h:l[i]?=some x):(l.take (i+1)).all f=((l.take i).all f&&f x):=by
 rw[dg,h];simp
theorem jI{α:Type}{f:α->Bool}{l:List α}{i:Nat}{x:α}(h:l[i]?=some x)(hf:f x=false):l.all f=false:=by
 cases a:l.all f
 ·rfl
 ·rw[e6]at a;rw[a x (cv h)]at hf;cases hf
theorem GF(t:az)(B:t.cs.length<=1000000)(C:t.aF.length<=1000000)(D:t.aj.length<=1000000):aA prog 7 [cd t] (.bool (mS t)):=by
 refine aM nf (i_ func7) mix (by simp[f7]) ?_;have s:mS t=(!(decide (14<t.cs.length)||(decide (14<t.aF.length)||((decide (8<t.aj.length)&&decide (t.aj.length<=256))||decide (258<t.aj.length))))&&(t.aF.all kl&&t.aj.all iG)):=rfl
 by_cases c1:14<t.cs.length
 ·have q:(14:Int)<t.cs.length:=by omega
  have o:mS t=false:=by rw[s];simp[c1]
  simp[f7,ad,q,o]
 have q:¬(14:Int)<t.cs.length:=o_
 by_cases c2:14<t.aF.length
 ·have r:(14:Int)<t.aF.length:=by omega
  have o:mS t=false:=by rw[s];simp[c2]
  simp[f7,ad,q,r,o]
 have r:¬(14:Int)<t.aF.length:=o_
 have tail:(8<t.aj.length->¬t.aj.length<=256)->¬258<t.aj.length->mS t=(t.aF.all kl&&t.aj.all iG):=fun A z=>by
  rw[s]
  by_cases h:8<t.aj.length
  ·have:=A h;simp[c1,c2,h,this,z]
  ·simp[c1,c2,h,z]
 by_cases c3:8<t.aj.length
 ·have u:(8:Int)<t.aj.length:=by omega
  by_cases c4:t.aj.length<=256
  ·have w:(t.aj.length:Int)<=256:=by omega
   have o:mS t=false:=by rw[s];simp[c3,c4]
   simp[f7,ad,q,r,u,w,o]
  ·have w:¬(t.aj.length:Int)<=256:=by omega
   by_cases c5:258<t.aj.length
   ·have v:(258:Int)<t.aj.length:=by omega
    have o:mS t=false:=by rw[s];simp[c5]
    simp[f7,ad,q,r,u,w,v,o]
   ·have v:¬(258:Int)<t.aj.length:=by omega
    rw[tail (fun _=>c4) c5];simp[f7,ad,q,r,u,w,v];refine lp (α:=Nat) (fun i=>⟨[(3,.p (.int .i64 i)),(1,.ptr 0 [])],[.box false (.p (cd t))]⟩) (fun i=>i<=t.aF.length/\(t.aF.take i).all kl=true) (fun i=>t.aF.length-i) 0 s_ ?_;rintro i ⟨k1,k2⟩
    by_cases hi:i<t.aF.length
    ·have c:=az.jG hi;have n:=bY (i:=i) o_;have f:=mP (t.pk i).a 40;have j:=mP (t.pk i).b 40;have g:kl (t.pk i)=(decide ((t.pk i).name.length<=40)&&(decide ((t.pk i).a.length<=40)&&decide ((t.pk i).b.length<=40))):=rfl
     by_cases m:(t.pk i).name.length<=40
     ·have d:¬(40:Int)<(t.pk i).name.length:=by omega
      by_cases a2:(t.pk i).a.length<=40
      ·have k:((t.pk i).a.length:Int)<=40:=by omega
       rw[decide_eq_true k]at f
       by_cases a3:(t.pk i).b.length<=40
       ·have l:((t.pk i).b.length:Int)<=40:=by omega
        rw[decide_eq_true l]at j;have e:kl (t.pk i)=true:=by rw[g];simp[m,a2,a3]
        simp[hi,c,d,ad];refine c2_ f ?_;simp[hi,c,d,ad];refine c2_ j ?_;simp[hi,c,d,n,ad];exact rd (i+1) ⟨hi,by rw[oZ c,k2,e];rfl⟩
       ·have l:¬((t.pk i).b.length:Int)<=40:=by omega
        rw[decide_eq_false l]at j;have e:kl (t.pk i)=false:=by rw[g];simp[a3]
        rw[jI c e];simp[hi,c,d,ad];refine c2_ f ?_;simp[hi,c,d,ad];refine c2_ j ?_;simp[hi,c,d,n,ad]
      ·have k:¬((t.pk i).a.length:Int)<=40:=by omega
       rw[decide_eq_false k]at f;have e:kl (t.pk i)=false:=by rw[g];simp[a2]
       rw[jI c e];simp[hi,c,d,ad];refine c2_ f ?_;simp[hi,c,d,ad]
     ·have d:(40:Int)<(t.pk i).name.length:=by omega
      have e:kl (t.pk i)=false:=by rw[g];simp[m]
      rw[jI c e];simp[hi,c,d,ad]
    have:i=t.aF.length:=o_
    subst this;rw[cy]at k2;rw[k2,ax];simp[ad];refine lp (α:=Nat) (fun i=>⟨[(4,.p (.int .i64 i)),(1,.ptr 0 [])],[.box false (.p (cd t))]⟩) (fun i=>i<=t.aj.length/\(t.aj.take i).all iG=true) (fun i=>t.aj.length-i) 0 s_ ?_;rintro i ⟨k1,k2⟩
    by_cases hi:i<t.aj.length
    ·have c:=az.fH hi;have n:=bY (i:=i) o_;have f:=mP (t.sp i).pt.x 40;have j:=mP (t.sp i).pt.y 40;have g:iG (t.sp i)=(decide ((t.sp i).name.length<=40)&&(decide ((t.sp i).pt.x.length<=40)&&decide ((t.sp i).pt.y.length<=40))):=rfl
     by_cases m:(t.sp i).name.length<=40
     ·have d:¬(40:Int)<(t.sp i).name.length:=by omega
      by_cases a2:(t.sp i).pt.x.length<=40
      ·have k:((t.sp i).pt.x.length:Int)<=40:=by omega
       rw[decide_eq_true k]at f
       by_cases a3:(t.sp i).pt.y.length<=40
       ·have l:((t.sp i).pt.y.length:Int)<=40:=by omega
        rw[decide_eq_true l]at j;have e:iG (t.sp i)=true:=by rw[g];simp[m,a2,a3]
        simp[hi,c,d,ad];refine c2_ f ?_;simp[hi,c,d,ad];refine c2_ j ?_;simp[hi,c,d,n,ad];exact rd (i+1) ⟨hi,by rw[oZ c,k2,e];rfl⟩
       ·have l:¬((t.sp i).pt.y.length:Int)<=40:=by omega
        rw[decide_eq_false l]at j;have e:iG (t.sp i)=false:=by rw[g];simp[a3]
        rw[jI c e];simp[hi,c,d,ad];refine c2_ f ?_;simp[hi,c,d,ad];refine c2_ j ?_;simp[hi,c,d,n,ad]
      ·have k:¬((t.sp i).pt.x.length:Int)<=40:=by omega
       rw[decide_eq_false k]at f;have e:iG (t.sp i)=false:=by rw[g];simp[a2]
       rw[jI c e];simp[hi,c,d,ad];refine c2_ f ?_;simp[hi,c,d,ad]
     ·have d:(40:Int)<(t.sp i).name.length:=by omega
      have e:iG (t.sp i)=false:=by rw[g];simp[m]
      rw[jI c e];simp[hi,c,d,ad]
    have:i=t.aj.length:=o_
    subst this;rw[cy]at k2;rw[k2];simp[ad]
 ·have u:¬(8:Int)<t.aj.length:=by omega
  have v:¬(258:Int)<t.aj.length:=o_
  rw[tail (fun h=>absurd h c3) o_];simp[f7,ad,q,r,u,v];refine lp (α:=Nat) (fun i=>⟨[(3,.p (.int .i64 i)),(1,.ptr 0 [])],[.box false (.p (cd t))]⟩) (fun i=>i<=t.aF.length/\(t.aF.take i).all kl=true) (fun i=>t.aF.length-i) 0 s_ ?_;rintro i ⟨k1,k2⟩
  by_cases hi:i<t.aF.length
  ·have c:=az.jG hi;have n:=bY (i:=i) o_;have f:=mP (t.pk i).a 40;have j:=mP (t.pk i).b 40;have g:kl (t.pk i)=(decide ((t.pk i).name.length<=40)&&(decide ((t.pk i).a.length<=40)&&decide ((t.pk i).b.length<=40))):=rfl
   by_cases m:(t.pk i).name.length<=40
   ·have d:¬(40:Int)<(t.pk i).name.length:=by omega
    by_cases a2:(t.pk i).a.length<=40
    ·have k:((t.pk i).a.length:Int)<=40:=by omega
     rw[decide_eq_true k]at f
     by_cases a3:(t.pk i).b.length<=40
     ·have l:((t.pk i).b.length:Int)<=40:=by omega
      rw[decide_eq_true l]at j;have e:kl (t.pk i)=true:=by rw[g];simp[m,a2,a3]
      simp[hi,c,d,ad];refine c2_ f ?_;simp[hi,c,d,ad];refine c2_ j ?_;simp[hi,c,d,n,ad];exact rd (i+1) ⟨hi,by rw[oZ c,k2,e];rfl⟩
     ·have l:¬((t.pk i).b.length:Int)<=40:=by omega
      rw[decide_eq_false l]at j;have e:kl (t.pk i)=false:=by rw[g];simp[a3]
      rw[jI c e];simp[hi,c,d,ad];refine c2_ f ?_;simp[hi,c,d,ad];refine c2_ j ?_;simp[hi,c,d,n,ad]
    ·have k:¬((t.pk i).a.length:Int)<=40:=by omega
     rw[decide_eq_false k]at f;have e:kl (t.pk i)=false:=by rw[g];simp[a2]
     rw[jI c e];simp[hi,c,d,ad];refine c2_ f ?_;simp[hi,c,d,ad]
   ·have d:(40:Int)<(t.pk i).name.length:=by omega
    have e:kl (t.pk i)=false:=by rw[g];simp[m]
    rw[jI c e];simp[hi,c,d,ad]
  have:i=t.aF.length:=o_
  subst this;rw[cy]at k2;rw[k2,ax];simp[ad];refine lp (α:=Nat) (fun i=>⟨[(4,.p (.int .i64 i)),(1,.ptr 0 [])],[.box false (.p (cd t))]⟩) (fun i=>i<=t.aj.length/\(t.aj.take i).all iG=true) (fun i=>t.aj.length-i) 0 s_ ?_;rintro i ⟨k1,k2⟩
  by_cases hi:i<t.aj.length
  ·have c:=az.fH hi;have n:=bY (i:=i) o_;have f:=mP (t.sp i).pt.x 40;have j:=mP (t.sp i).pt.y 40;have g:iG (t.sp i)=(decide ((t.sp i).name.length<=40)&&(decide ((t.sp i).pt.x.length<=40)&&decide ((t.sp i).pt.y.length<=40))):=rfl
   by_cases m:(t.sp i).name.length<=40
   ·have d:¬(40:Int)<(t.sp i).name.length:=by omega
    by_cases a2:(t.sp i).pt.x.length<=40
    ·have k:((t.sp i).pt.x.length:Int)<=40:=by omega
     rw[decide_eq_true k]at f
     by_cases a3:(t.sp i).pt.y.length<=40
     ·have l:((t.sp i).pt.y.length:Int)<=40:=by omega
      rw[decide_eq_true l]at j;have e:iG (t.sp i)=true:=by rw[g];simp[m,a2,a3]
      simp[hi,c,d,ad];refine c2_ f ?_;simp[hi,c,d,ad];refine c2_ j ?_;simp[hi,c,d,n,ad];exact rd (i+1) ⟨hi,by rw[oZ c,k2,e];rfl⟩
     ·have l:¬((t.sp i).pt.y.length:Int)<=40:=by omega
      rw[decide_eq_false l]at j;have e:iG (t.sp i)=false:=by rw[g];simp[a3]
      rw[jI c e];simp[hi,c,d,ad];refine c2_ f ?_;simp[hi,c,d,ad];refine c2_ j ?_;simp[hi,c,d,n,ad]
    ·have k:¬((t.sp i).pt.x.length:Int)<=40:=by omega
     rw[decide_eq_false k]at f;have e:iG (t.sp i)=false:=by rw[g];simp[a2]
     rw[jI c e];simp[hi,c,d,ad];refine c2_ f ?_;simp[hi,c,d,ad]
   ·have d:(40:Int)<(t.sp i).name.length:=by omega
    have e:iG (t.sp i)=false:=by rw[g];simp[m]
    rw[jI c e];simp[hi,c,d,ad]
  have:i=t.aj.length:=o_
  subst this;rw[cy]at k2;rw[k2];simp[ad]
theorem VH(l:List dm):fk prog 2 (l.map (AV.p∘bN)):=zC (fun r=>⟨by simp[ad],by simp[ad]⟩) l
theorem nO{α:Type}{f:α->AV}{l:List α}{j:Nat}{x:α}(h:l[j+1]?=some x):(l.take (j+1+1)).map f=(l.map f).take (j+1)++[f x]:=by
 rw[dg (i:=j+1),h,gg,et];rfl
theorem iJ{N:Nat×Nat->Prop}{α:Type}{f:α->PV}{k:Nat}{l:List α}:aR N ((l.map (AV.p∘f)).take k)=True:=by
 rw[cO,eq_iff_iff,iff_true];intro x hx;obtain⟨a,_,rfl⟩:=ee.1 (dk hx);trivial
theorem o6:fp=cG:=rfl
theorem o5:gL=aP:=rfl
theorem nP{α:Type}{l:List α}{x:α}(h:l[0]?=some x):l.take 1=[x]:=by
 rw[dg (i:=0),h];rfl
theorem GK(t:az)(u:t.cs.length<=1000000)(v:t.aF.length<=1000000)(w:t.aj.length<=1000000):aA prog 11 [cd t] (cz t):=by
 have s:(1000000:Nat)<cM:=by decide
 have o:be.wrap 1=1:=by decide
 refine aM nf (i_ func11) mix (by simp[f11]) ?_;simp[f11,ad];refine⟨⟨VH _,o_⟩,?_⟩
 by_cases hc:t.cs=[]
 ·simp[hc];refine⟨⟨by repeat' first|rfl|apply am,by repeat' first|rfl|apply am⟩,?_⟩;refine lp (α:=Nat) (fun i=>match i with
    |0=>⟨[(18,.p (.int .i64 0)),(17,.p (.int .i64 t.aF.length)),(16,.p (.seq (t.aF.map cG))),(3,.ptr 3 []),(2,.ptr 1 []),(1,.ptr 0 [])],[.box false (.p (cd t)),.box false (.p (.st 35 [.aK,.int .i64 0,.aK,.aK])),.arr .exact 0 2 [],.box false (.st 35 [.sl 2 0 2 0 0,.p (.int .i64 t.aX),.p .aK,.p .aK])]⟩
    |m+1=>⟨[(18,.p (.int .i64 ((m+1:Nat):Int))),(17,.p (.int .i64 t.aF.length)),(16,.p (.seq (t.aF.map cG))),(3,.ptr 3 []),(2,.ptr 1 []),(1,.ptr 0 [])],[.box false (.p (cd t)),.box false (.p (.st 35 [.aK,.int .i64 0,.aK,.aK])),.arr .exact 0 2 [],.box false (.st 35 [.sl 2 0 2 0 0,.p (.int .i64 t.aX),.sl 6 m 4 0 (m+1),.p .aK]),.hole,.hole,.arr .grow m 4 ((t.aF.take (m+1)).map (AV.p∘cG))]⟩) (fun i=>i<=t.aF.length) (fun i=>t.aF.length-i) 0 s_ ?_
  rintro i q
  by_cases hi:i<t.aF.length
  ·have a:=az.jG hi;rcases i with _|j
   ·have b:=nP a;simp[hi,a,o,ad];exact⟨o_,rd 1 hi (hh:=by simp[b]) (hr2:=by simp[iJ])⟩
   ·have h:be.wrap ((j:Int)+1+1)=(j:Int)+1+1:=aO _ o_ o_;have hI:(j:Int)+1<t.aF.length:=by omega
    have b:=nO (f:=AV.p∘cG) a;simp[hi,hI,a,h,ad];exact⟨o_,⟨o_,o_⟩,rd (j+2) hi (hh:=by simp at b;simp[b]) (hr2:=by simp[iJ])⟩
  have r:i=t.aF.length:=o_
  rcases i with _|j
  ·have n:t.aF=[]:=cN.1 r.symm;simp[n,ad];refine lp (α:=Nat) (fun i=>match i with
     |0=>⟨[(32,.p (.int .i64 0)),(31,.p (.int .i64 t.aj.length)),(30,.p (.seq (t.aj.map aP))),(3,.ptr 3 []),(2,.ptr 1 []),(1,.ptr 0 [])],[.box false (.p (cd t)),.box false (.p (.st 35 [.aK,.int .i64 0,.aK,.aK])),.arr .exact 0 2 [],.box false (.st 35 [.sl 2 0 2 0 0,.p (.int .i64 t.aX),.p .aK,.p .aK])]⟩
     |m+1=>⟨[(32,.p (.int .i64 ((m+1:Nat):Int))),(31,.p (.int .i64 t.aj.length)),(30,.p (.seq (t.aj.map aP))),(3,.ptr 3 []),(2,.ptr 1 []),(1,.ptr 0 [])],[.box false (.p (cd t)),.box false (.p (.st 35 [.aK,.int .i64 0,.aK,.aK])),.arr .exact 0 2 [],.box false (.st 35 [.sl 2 0 2 0 0,.p (.int .i64 t.aX),.p .aK,.sl 6 m 3 0 (m+1)]),.hole,.hole,.arr .grow m 3 ((t.aj.take (m+1)).map (AV.p∘aP))]⟩) (fun i=>i<=t.aj.length) (fun i=>t.aj.length-i) 0 s_ ?_
   rintro i q
   by_cases hi:i<t.aj.length
   ·have a:=az.fH hi;rcases i with _|j
    ·have b:=nP a;simp[hi,a,o,ad];exact⟨o_,rd 1 hi (hh:=by simp[b]) (hr2:=by simp[iJ])⟩
    ·have h:be.wrap ((j:Int)+1+1)=(j:Int)+1+1:=aO _ o_ o_;have hI:(j:Int)+1<t.aj.length:=by omega
     have b:=nO (f:=AV.p∘aP) a;simp[hi,hI,a,h,ad];exact⟨o_,⟨o_,o_⟩,rd (j+2) hi (hh:=by simp at b;simp[b]) (hr2:=by simp[iJ])⟩
   have d:i=t.aj.length:=o_
   rcases i with _|c
   ·have e:t.aj=[]:=cN.1 d.symm;simp[e,ad];simp[cz,hc,n,e,o6,o5]
   ·have hI:¬((c:Int)+1<t.aj.length):=by omega
    have g:t.aj.take (c+1)=t.aj:=by rw[d,cy]
    simp[hI,g,ad];have l:(t.aj.map (AV.p∘aP)).take (c+1)=t.aj.map (AV.p∘aP):=cx (by simp;omega);simp[cz,hc,n,l,o6,o5];omega
  ·have hI:¬((j:Int)+1<t.aF.length):=by omega
   have g:t.aF.take (j+1)=t.aF:=by rw[r,cy]
   simp[hI,g,ad];refine lp (α:=Nat) (fun i=>match i with
    |0=>⟨[(32,.p (.int .i64 0)),(31,.p (.int .i64 t.aj.length)),(30,.p (.seq (t.aj.map aP))),(3,.ptr 3 []),(2,.ptr 1 []),(1,.ptr 0 [])],[.box false (.p (cd t)),.box false (.p (.st 35 [.aK,.int .i64 0,.aK,.aK])),.arr .exact 0 2 [],.box false (.st 35 [.sl 2 0 2 0 0,.p (.int .i64 t.aX),.sl 6 j 4 0 (j+1),.p .aK]),.hole,.hole,.arr .grow j 4 (t.aF.map (AV.p∘cG))]⟩
    |m+1=>⟨[(32,.p (.int .i64 ((m+1:Nat):Int))),(31,.p (.int .i64 t.aj.length)),(30,.p (.seq (t.aj.map aP))),(3,.ptr 3 []),(2,.ptr 1 []),(1,.ptr 0 [])],[.box false (.p (cd t)),.box false (.p (.st 35 [.aK,.int .i64 0,.aK,.aK])),.arr .exact 0 2 [],.box false (.st 35 [.sl 2 0 2 0 0,.p (.int .i64 t.aX),.sl 6 j 4 0 (j+1),.sl 9 m 3 0 (m+1)]),.hole,.hole,.arr .grow j 4 (t.aF.map (AV.p∘cG)),.hole,.hole,.arr .grow m 3 ((t.aj.take (m+1)).map (AV.p∘aP))]⟩) (fun i=>i<=t.aj.length) (fun i=>t.aj.length-i) 0 s_ ?_
   rintro i q
   by_cases hi:i<t.aj.length
   ·have a:=az.fH hi;rcases i with _|j
    ·have b:=nP a;simp[hi,a,o,ad];exact⟨o_,rd 1 hi (hh:=by simp[b]) (hr2:=by simp[iJ])⟩
    ·have h:be.wrap ((j:Int)+1+1)=(j:Int)+1+1:=aO _ o_ o_;have hI:(j:Int)+1<t.aj.length:=by omega
     have b:=nO (f:=AV.p∘aP) a;simp[hi,hI,a,h,ad];exact⟨o_,⟨o_,o_⟩,rd (j+2) hi (hh:=by simp at b;simp[b]) (hr2:=by simp[iJ])⟩
   have d:i=t.aj.length:=o_
   rcases i with _|c
   ·have e:t.aj=[]:=cN.1 d.symm;simp[e,ad];have k:(t.aF.map (AV.p∘cG)).take (j+1)=t.aF.map (AV.p∘cG):=cx (by simp;omega);simp[cz,hc,k,e,o6,o5];omega
   ·have hI:¬((c:Int)+1<t.aj.length):=by omega
    have g:t.aj.take (c+1)=t.aj:=by rw[d,cy]
    simp[hI,g,ad];have k:(t.aF.map (AV.p∘cG)).take (j+1)=t.aF.map (AV.p∘cG):=cx (by simp;omega);have l:(t.aj.map (AV.p∘aP)).take (c+1)=t.aj.map (AV.p∘aP):=cx (by simp;omega);simp[cz,hc,k,l,o6,o5];omega
 ·simp[hc];refine⟨⟨by repeat' first|rfl|apply am,by repeat' first|rfl|apply am⟩,?_⟩;refine lp (α:=Nat) (fun i=>match i with
    |0=>⟨[(18,.p (.int .i64 0)),(17,.p (.int .i64 t.aF.length)),(16,.p (.seq (t.aF.map cG))),(3,.ptr 4 []),(2,.ptr 1 []),(1,.ptr 0 [])],[.box false (.p (cd t)),.box false (.p (.st 35 [.aK,.int .i64 0,.aK,.aK])),.arr .exact 0 2 [],.arr .grow 0 2 (t.cs.map (AV.p∘bN)),.box false (.st 35 [.sl 3 0 2 0 t.cs.length,.p (.int .i64 t.aX),.p .aK,.p .aK])]⟩
    |m+1=>⟨[(18,.p (.int .i64 ((m+1:Nat):Int))),(17,.p (.int .i64 t.aF.length)),(16,.p (.seq (t.aF.map cG))),(3,.ptr 4 []),(2,.ptr 1 []),(1,.ptr 0 [])],[.box false (.p (cd t)),.box false (.p (.st 35 [.aK,.int .i64 0,.aK,.aK])),.arr .exact 0 2 [],.arr .grow 0 2 (t.cs.map (AV.p∘bN)),.box false (.st 35 [.sl 3 0 2 0 t.cs.length,.p (.int .i64 t.aX),.sl 7 m 4 0 (m+1),.p .aK]),.hole,.hole,.arr .grow m 4 ((t.aF.take (m+1)).map (AV.p∘cG))]⟩) (fun i=>i<=t.aF.length) (fun i=>t.aF.length-i) 0 s_ ?_
  rintro i q
  by_cases hi:i<t.aF.length
  ·have a:=az.jG hi;rcases i with _|j
   ·have b:=nP a;simp[hi,a,o,ad];exact⟨o_,rd 1 hi (hh:=by simp[b]) (hr2:=by simp[iJ])⟩
   ·have h:be.wrap ((j:Int)+1+1)=(j:Int)+1+1:=aO _ o_ o_;have hI:(j:Int)+1<t.aF.length:=by omega
    have b:=nO (f:=AV.p∘cG) a;simp[hi,hI,a,h,ad];exact⟨o_,⟨o_,o_⟩,rd (j+2) hi (hh:=by simp at b;simp[b]) (hr2:=by simp[iJ])⟩
  have r:i=t.aF.length:=o_
  rcases i with _|j
  ·have n:t.aF=[]:=cN.1 r.symm;simp[n,ad];refine lp (α:=Nat) (fun i=>match i with
     |0=>⟨[(32,.p (.int .i64 0)),(31,.p (.int .i64 t.aj.length)),(30,.p (.seq (t.aj.map aP))),(3,.ptr 4 []),(2,.ptr 1 []),(1,.ptr 0 [])],[.box false (.p (cd t)),.box false (.p (.st 35 [.aK,.int .i64 0,.aK,.aK])),.arr .exact 0 2 [],.arr .grow 0 2 (t.cs.map (AV.p∘bN)),.box false (.st 35 [.sl 3 0 2 0 t.cs.length,.p (.int .i64 t.aX),.p .aK,.p .aK])]⟩
     |m+1=>⟨[(32,.p (.int .i64 ((m+1:Nat):Int))),(31,.p (.int .i64 t.aj.length)),(30,.p (.seq (t.aj.map aP))),(3,.ptr 4 []),(2,.ptr 1 []),(1,.ptr 0 [])],[.box false (.p (cd t)),.box false (.p (.st 35 [.aK,.int .i64 0,.aK,.aK])),.arr .exact 0 2 [],.arr .grow 0 2 (t.cs.map (AV.p∘bN)),.box false (.st 35 [.sl 3 0 2 0 t.cs.length,.p (.int .i64 t.aX),.p .aK,.sl 7 m 3 0 (m+1)]),.hole,.hole,.arr .grow m 3 ((t.aj.take (m+1)).map (AV.p∘aP))]⟩) (fun i=>i<=t.aj.length) (fun i=>t.aj.length-i) 0 s_ ?_
   rintro i q
   by_cases hi:i<t.aj.length
   ·have a:=az.fH hi;rcases i with _|j
    ·have b:=nP a;simp[hi,a,o,ad];exact⟨o_,rd 1 hi (hh:=by simp[b]) (hr2:=by simp[iJ])⟩
    ·have h:be.wrap ((j:Int)+1+1)=(j:Int)+1+1:=aO _ o_ o_;have hI:(j:Int)+1<t.aj.length:=by omega
     have b:=nO (f:=AV.p∘aP) a;simp[hi,hI,a,h,ad];exact⟨o_,⟨o_,o_⟩,rd (j+2) hi (hh:=by simp at b;simp[b]) (hr2:=by simp[iJ])⟩
   have d:i=t.aj.length:=o_
   rcases i with _|c
   ·have e:t.aj=[]:=cN.1 d.symm;simp[e,ad];simp[cz,hc,n,e,o6,o5]
   ·have hI:¬((c:Int)+1<t.aj.length):=by omega
    have g:t.aj.take (c+1)=t.aj:=by rw[d,cy]
    simp[hI,g,ad];have l:(t.aj.map (AV.p∘aP)).take (c+1)=t.aj.map (AV.p∘aP):=cx (by simp;omega);simp[cz,hc,n,l,o6,o5];omega
  ·have hI:¬((j:Int)+1<t.aF.length):=by omega
   have g:t.aF.take (j+1)=t.aF:=by rw[r,cy]
   simp[hI,g,ad];refine lp (α:=Nat) (fun i=>match i with
    |0=>⟨[(32,.p (.int .i64 0)),(31,.p (.int .i64 t.aj.length)),(30,.p (.seq (t.aj.map aP))),(3,.ptr 4 []),(2,.ptr 1 []),(1,.ptr 0 [])],[.box false (.p (cd t)),.box false (.p (.st 35 [.aK,.int .i64 0,.aK,.aK])),.arr .exact 0 2 [],.arr .grow 0 2 (t.cs.map (AV.p∘bN)),.box false (.st 35 [.sl 3 0 2 0 t.cs.length,.p (.int .i64 t.aX),.sl 7 j 4 0 (j+1),.p .aK]),.hole,.hole,.arr .grow j 4 (t.aF.map (AV.p∘cG))]⟩
    |m+1=>⟨[(32,.p (.int .i64 ((m+1:Nat):Int))),(31,.p (.int .i64 t.aj.length)),(30,.p (.seq (t.aj.map aP))),(3,.ptr 4 []),(2,.ptr 1 []),(1,.ptr 0 [])],[.box false (.p (cd t)),.box false (.p (.st 35 [.aK,.int .i64 0,.aK,.aK])),.arr .exact 0 2 [],.arr .grow 0 2 (t.cs.map (AV.p∘bN)),.box false (.st 35 [.sl 3 0 2 0 t.cs.length,.p (.int .i64 t.aX),.sl 7 j 4 0 (j+1),.sl 10 m 3 0 (m+1)]),.hole,.hole,.arr .grow j 4 (t.aF.map (AV.p∘cG)),.hole,.hole,.arr .grow m 3 ((t.aj.take (m+1)).map (AV.p∘aP))]⟩) (fun i=>i<=t.aj.length) (fun i=>t.aj.length-i) 0 s_ ?_
   rintro i q
   by_cases hi:i<t.aj.length
   ·have a:=az.fH hi;rcases i with _|j
    ·have b:=nP a;simp[hi,a,o,ad];exact⟨o_,rd 1 hi (hh:=by simp[b]) (hr2:=by simp[iJ])⟩
    ·have h:be.wrap ((j:Int)+1+1)=(j:Int)+1+1:=aO _ o_ o_;have hI:(j:Int)+1<t.aj.length:=by omega
     have b:=nO (f:=AV.p∘aP) a;simp[hi,hI,a,h,ad];exact⟨o_,⟨o_,o_⟩,rd (j+2) hi (hh:=by simp at b;simp[b]) (hr2:=by simp[iJ])⟩
   have d:i=t.aj.length:=o_
   rcases i with _|c
   ·have e:t.aj=[]:=cN.1 d.symm;simp[e,ad];have k:(t.aF.map (AV.p∘cG)).take (j+1)=t.aF.map (AV.p∘cG):=cx (by simp;omega);simp[cz,hc,k,e,o6,o5];omega
   ·have hI:¬((c:Int)+1<t.aj.length):=by omega
    have g:t.aj.take (c+1)=t.aj:=by rw[d,cy]
    simp[hI,g,ad];have k:(t.aF.map (AV.p∘cG)).take (j+1)=t.aF.map (AV.p∘cG):=cx (by simp;omega);have l:(t.aj.map (AV.p∘aP)).take (c+1)=t.aj.map (AV.p∘aP):=cx (by simp;omega);simp[cz,hc,k,l,o6,o5];omega
def gq(r:Int)(a b:V2):Int:=eU ((a.sub b).dot (a.sub b)) (vI r)
def iK(t:az)(bef:List bD)(s:bD):Int:=
 if isName s.name=false then 8
 else if bef.any (fun o=>decide (o.name=s.name))=true then 9
 else if dV s.pt≠0 then dV s.pt
 else if t.on (vP s.pt)<0 then 16
 else if bef.any (fun o=>decide (gq t.aX (vP o.pt) (vP s.pt)<0))=true then 17 else 0
def fW(t b:az):Int:=if 24<b.aj.length then 5 else jJ (iK t) b.aj
def iM(t b:az):Int:=if cB t≠0 then cB t else fW t b
structure nT(b:az):Prop where
 sl:b.aj.length<=1000000
 sp:∀s∈b.aj,ki s
theorem Bx{t:az}(h:cB t=0):1<=t.aX/\t.aX<=1000:=by
 rw[cB]at h
 split at h
 ·omega
 split at h
 ·omega
 split at h
 ·omega
 split at h
 ·omega
 split at h
 ·omega
 omega
theorem yg{s:gZ}(h:dV s=0):eV (vP s)=fE s/\dG 2000 (vP s):=by
 obtain⟨g1,g2⟩:=ka h;refine⟨?_,gR g1,gR g2⟩;rw[eV,vP];dsimp only;rw[(kC g1).1,(kC g2).1]
theorem UQ(t:az)(a:0<=t.aX)(b:t.aX<=1000000):aA prog 236 [cd t] (.str (bC (vI t.aX))):=by
 have f:=Di a b;have c:=DY (4*t.aX*t.aX) o_ o_;have d:be.wrap (4*t.aX)=4*t.aX:=aO _ o_ o_;have e:be.wrap (4*t.aX*t.aX)=4*t.aX*t.aX:=aO _ o_ o_;refine aM nf (i_ func236) mix (by simp[f236]) ?_;rw[vI];simp[f236,ad,d,e];refine c1 c ?_;simp
theorem UR(t:az)(a b:V2)(d:0<=t.aX)(e:t.aX<=1000000)(f:dG 2000 a)(g:dG 2000 b):aA prog 167 [cd t,eV a,eV b] (.int .i64 (gq t.aX a b)):=by
 have c:=rT f g;have k1:=EC a b (f.mono (by decide)) (g.mono (by decide));have k2:=U1 (a.sub b) (c.mono (by decide));have k3:=UQ t d e;have k4:=uY ((a.sub b).dot (a.sub b)) (vI t.aX) ((Jv c c).mono (by decide)) ((Jx d e).mono (by decide));refine aM nf (i_ func167) mix (by simp[f167]) ?_;rw[gq];simp[f167,ad];refine e2 k1 ?_;simp[ad];refine e1 k2 ?_;simp[ad];refine e1 k3 ?_;simp[ad];refine e2 k4 ?_;simp[ad]
theorem Hm{α:Type}{f:α->Bool}{l:List α}{i j:Nat}{x:α}(h:l[j]?=some x)(a:j<i)(hf:f x=true):(l.take i).any f=true:=by
 rw[cR];exact⟨x,cv (i:=j) (by rw[eb,if_pos a];exact h),hf⟩
theorem HI{t:az}{a:List bD}{s:bD}(h:iK t a s=0):dV s.pt=0:=by
 rw[iK]at h
 split at h
 ·omega
 split at h
 ·omega
 split at h
 ·contradiction
 ·rename_i g;exact ay.1 g
theorem Hx(t b:az)(u:cB t=0)(y:nT b)(hl:t.cs.length<=1000000):aA prog 73 [cd t,.seq (b.aj.map aP)] (.int .i64 (fW t b)):=by
 obtain⟨N,A⟩:=y;obtain⟨_,_,z,_⟩:=Bf u;obtain⟨O,r1⟩:=Bx u;refine aM nf (i_ func73) mix (by simp[f73]) ?_;rw[fW]
 by_cases c4:24<b.aj.length
 ·have cI:(24:Int)<b.aj.length:=by omega
  rw[if_pos c4];simp[f73,ad,cI]
 have w:¬(24:Int)<b.aj.length:=o_
 rw[if_neg c4];simp[f73,ad,w];refine lp (α:=Nat) (fun i=>⟨[(5,.p (.int .i64 i)),(2,.ptr 0 []),(1,.p (.seq (b.aj.map aP)))],[.box false (.p (cd t))]⟩) (fun i=>i<=b.aj.length/\∀j,j<i->fR (iK t) b.aj j=0) (fun i=>b.aj.length-i) 0 s_ ?_;rintro i ⟨s1,s2⟩
 by_cases hs:i<b.aj.length
 case neg=>
  have:i=b.aj.length:=o_
  subst this;rw[l7.2 s2];simp[ad]
 have a:=az.fH hs;have B:=bY (i:=i) o_;obtain⟨G,H⟩:=A _ (cv a);have f:=Bg (b.sp i).name G.1;have x:=Jw (b.sp i).pt H;have d:iK t (b.aj.take i) (b.sp i)≠0->jJ (iK t) b.aj=iK t (b.aj.take i) (b.sp i):=sO s2 a;have F:iK t (b.aj.take i) (b.sp i)=0->∀j,j<i+1->fR (iK t) b.aj j=0:=sN s2 a;have K:∀j,j<i->dV (b.sp j).pt=0:=fun j c=>by
  have:=s2 j c;rw[fR,az.fH o_]at this;exact HI this
 have ev:iK t (b.aj.take i) (b.sp i)=if isName (b.sp i).name=false then 8 else if(b.aj.take i).any (fun o=>decide (o.name=(b.sp i).name))=true then 9 else if dV (b.sp i).pt≠0 then dV (b.sp i).pt else if t.on (vP (b.sp i).pt)<0 then 16 else if(b.aj.take i).any (fun o=>decide (gq t.aX (vP o.pt) (vP (b.sp i).pt)<0))=true then 17 else 0:=rfl
 clear s2;generalize iK t (b.aj.take i) (b.sp i)=E at*;generalize jJ (iK t) b.aj=L at*;cases l:isName (b.sp i).name
 ·rw[l]at f;rw[l,if_pos rfl]at ev;rw[d (by rw[ev];decide),ev];simp[hs,a,ad];refine c1_ f ?_;simp[ad]
 rw[l]at f;rw[l,if_neg (by decide)]at ev;simp[hs,a,ad];refine c1_ f ?_;simp[ad];refine lp (α:=Nat) (fun k=>⟨[(6,.p (.int .i64 k)),(5,.p (.int .i64 i)),(2,.ptr 0 []),(1,.p (.seq (b.aj.map aP)))],[.box false (.p (cd t))]⟩) (fun k=>k<=i/\(b.aj.take k).any (fun o=>decide (o.name=(b.sp i).name))=false) (fun k=>i-k) 0 s_ ?_;rintro k ⟨k1,k2⟩
 by_cases hk:k<i
 ·have r:k<b.aj.length:=by omega
  have gk:=az.fH r;have D:=bY (i:=k) o_
  by_cases h:(b.sp k).name=(b.sp i).name
  ·rw[if_pos (Hm gk hk (by simp[h]))]at ev;rw[d (by rw[ev];decide),ev];simp[hs,hk,r,gk,a,h,ad]
  ·simp[hs,hk,r,gk,a,h,D,ad];exact rd (k+1) ⟨hk,by rw[uX gk,k2];simp[h]⟩
 have:k=i:=o_
 subst this;rw[k2,if_neg (by decide)]at ev;clear k1 k2 hk;have d0:¬k<k:=o_
 simp[d0,hs,a,ad];refine c1_ x ?_
 by_cases pe:dV (b.sp k).pt=0
 case neg=>
  rw[if_pos pe]at ev;rw[d (by rw[ev];exact pe),ev];simp[pe,ad]
 rw[if_neg (by simp[pe])]at ev;obtain⟨pl,ok⟩:=yg pe;have s:=QP t (vP (b.sp k).pt) hl z (ok.mono (by decide));rw[pl]at s;simp[pe,hs,a,ad];refine e2_ s ?_
 by_cases m:t.on (vP (b.sp k).pt)<0
 ·rw[if_pos m]at ev;rw[d (by rw[ev];decide),ev];simp[m,ad]
 rw[if_neg m]at ev;simp[m,ad];refine lp (α:=Nat) (fun j=>⟨[(8,.p (.int .i64 j)),(5,.p (.int .i64 k)),(2,.ptr 0 []),(1,.p (.seq (b.aj.map aP)))],[.box false (.p (cd t))]⟩) (fun j=>j<=k/\(b.aj.take j).any (fun o=>decide (gq t.aX (vP o.pt) (vP (b.sp k).pt)<0))=false) (fun j=>k-j) 0 s_ ?_;rintro j ⟨M,v⟩
 by_cases c:j<k
 ·have q:j<b.aj.length:=by omega
  have e:=az.fH q;have C:=bY (i:=j) o_;obtain⟨J,I⟩:=yg (K j c);have n:=UR t (vP (b.sp j).pt) (vP (b.sp k).pt) o_ o_ I ok;rw[pl,J]at n
  by_cases g:gq t.aX (vP (b.sp j).pt) (vP (b.sp k).pt)<0
  ·rw[if_pos (Hm e c (by simp[g]))]at ev;rw[d (by rw[ev];decide),ev];simp[hs,c,q,e,a,ad];refine e3_ n ?_;simp[g,ad]
  ·simp[hs,c,q,e,a,ad];refine e3_ n ?_;simp[g,C,ad];exact rd (j+1) ⟨c,by rw[uX e,v];simp[g]⟩
 have:j=k:=o_
 subst this;rw[v,if_neg (by decide)]at ev;simp[d0,B,ad];exact rd (j+1) ⟨hs,F ev⟩
theorem Hu(t b:az)(a:gF t)(c:nT b):aA prog 22 [cd t,.seq (b.aj.map aP)] (.int .i64 (iM t b)):=by
 have k1:=Gi t a;refine aM nf (i_ func22) mix (by simp[f22]) ?_;rw[iM]
 by_cases h:cB t=0
 ·rw[if_neg (by simp[h])];have k2:=Hx t b h c a.cl;rw[h]at k1;simp[f22,ad];refine c1_ k1 ?_;simp[ad];refine c2_ k2 ?_;simp[ad]
 ·rw[if_pos h];generalize cB t=e at*;simp[f22,ad];refine c1_ k1 ?_;simp[h,ad]
section
variable{H:Type}{W:a1}{aa:Nat->Prop}
theorem aMy:∃a b:a8,prog.underlying 85=some (.struct #[a,b])/\a.type=9/\b.type=82:=⟨_,_,underlying85,rfl,rfl⟩
theorem SX:prog.underlyingId 85=84:=k_
theorem US{m n:Nat}(s:m=n+2){d:a6 H}(h:∃cs,aV prog W aa (bH prog (m+1) 85 d) cs)(o:Rows.uptoBulk d<=1048576):∃p:bD,bH prog (m+1) 85 d=aP p/\ki p/\2<=Rows.uptoBulk d:=by
 obtain⟨cs,h⟩:=h;obtain⟨f0,f1,g,t0,t1⟩:=aMy;cases d with
 |agg l=>
  have f:∀x∈l,Rows.uptoBulk x<=1048576:=fun x hx=>by
   have:=qf.wZ hx;rw[Rows.uptoBulk]at o;omega
  simp only[bH,g,aV]at h⊢;obtain⟨u,t,e,c,_⟩:=h;rw[SX,SV]at e;cases e
  match l,c with
  |[],c=>simp[bg]at c
  |[x],c=>simp[bg]at c
  |x::y::r,c=>
   have:=xG x;simp only[ea,c8,bg,ec,ei,t0,t1]at c⊢;obtain⟨c0,_,_,g1,_,c1,_,_,g2,_⟩:=c;subst s;obtain⟨a,i,k⟩:=Bm (n:=n+1) ⟨c0,g1⟩ (f x s_);obtain⟨b,j,q⟩:=K1 (n:=n) ⟨c1,g2⟩ (f y s_);refine⟨⟨a,b⟩,by rw[i,j,SX];rfl,⟨k,q⟩,?_⟩;rw[Rows.uptoBulk,Rows.uptoBulkAll];omega
 |_=>simp only[bH,g,aV]at h
theorem HJ{d:a6 H}(h:∃cs,aV prog W aa (bH prog 8 48 d) cs)(a:Rows.uptoBulk d<=1048576):∃b:az,bH prog 8 48 d=.seq (b.aj.map aP)/\True/\nT b:=by
 obtain⟨b,c,e,g⟩:=xN (n:=7) aMx (F:=aP) (ok:=ki) (fun d f a=>US (n:=4) rfl f a) h a;exact⟨⟨[],0,[],b⟩,c,trivial,g,e⟩
end
namespace Hk
mutual
def sF:PV->PV->Bool
 | .int .i64 a,.int .i64 b=>oR a b
 | .int .u64 a,.int .u64 b=>oR a b
 | .bool a,.bool b=>a==b
 | .str a,.str b=>sD a b
 | .aK,.aK=>true
 | .fM,.fM=>true
 | .bJ f a,.bJ g b=>bif f==g then lY a b else false
 | .seq a,.seq b=>lY a b
 | .fq a,.fq b=>uK a b
 | .st u a,.st v b=>bif gj u v then lY a b else false
 | .aE a,.aE b=>lY a b
 | .func f a b,.func g c d=>bif gj f g then(bif lY a c then lY b d else false)else false
 | .cA a,.cA b=>sF a b
 |_,_=>false
def lY:List PV->List PV->Bool
 |[],[]=>true
 |a::l,b::m=>bif sF a b then lY l m else false
 |_,_=>false
def uK:List (PV×PV)->List (PV×PV)->Bool
 |[],[]=>true
 |(a,c)::l,(b,d)::m=>bif sF a b then(bif sF c d then uK l m else false)else false
 |_,_=>false
end
mutual
theorem v8:∀{a b:PV},sF a b=true->a=b
 |a,b,h=>by
  unfold sF at h
  split at h
  ·rw[zX h]
  ·rw[zX h]
  ·rw[eq_of_beq h]
  ·rw[Dr h]
  ·rfl
  ·rfl
  ·rename_i f a g b;cases hf:f==g
   ·rw[hf]at h;cases h
   ·rw[hf,cond_true]at h;rw[eq_of_beq hf,pG h]
  ·rw[pG h]
  ·rw[Nx h]
  ·simp only[ao]at h
   split at h
   ·rename_i i;rw[gi i,pG h]
   ·cases h
  ·rw[pG h]
  ·simp only[ao]at h
   split at h
   ·rename_i i
    split at h
    ·rename_i e;rw[gi i,pG e,pG h]
    ·cases h
   ·cases h
  ·rw[v8 h]
  ·cases h
theorem pG:∀{a b:List PV},lY a b=true->a=b
 |[],[],_=>rfl
 |[],_::_,h=>by simp[lY]at h
 |_::_,[],h=>by simp[lY]at h
 |a::l,b::m,h=>by
  simp only[lY,ao]at h
  split at h
  ·rename_i e;rw[v8 e,pG h]
  ·cases h
theorem Nx:∀{a b:List (PV×PV)},uK a b=true->a=b
 |[],[],_=>rfl
 |[],_::_,h=>by simp[uK]at h
 |_::_,[],h=>by simp[uK]at h
 |(a,c)::l,(b,d)::m,h=>by
  simp only[uK,ao]at h
  split at h
  ·rename_i e
   split at h
   ·rename_i j;rw[v8 e,v8 j,Nx h]
   ·cases h
  ·cases h
end
def ue:List (aT×List PV×PV)->aT->List PV->Option PV
 |[],f,vs=>hk f vs
 |(g,us,v)::r,f,vs=>bif gj g f then(bif lY us vs then some v else ue r f vs)else ue r f vs
def iH:List (aT×List PV×PV)->Prop
 |[]=>True
 |(g,us,v)::r=>aA prog g us v/\iH r
theorem Co:∀{l m:List (aT×List PV×PV)},iH l->iH m->iH (l++m)
 |[],_,_,h=>h
 |_::_,_,h,a=>⟨h.1,Co h.2 a⟩
theorem y8:∀{l:List (aT×List PV×PV)},iH l->∀f vs v,ue l f vs=some v->aA prog f vs v
 |[],_,f,vs,v,h=>azu h
 |(g,us,w)::r,a,f,vs,v,h=>by
  simp only[ue,ao]at h
  split at h
  ·rename_i b
   split at h
   ·rename_i hs;simp only[hg]at h;subst h;rw[<-pG hs,<-gi b];exact a.1
   ·exact y8 a.2 f vs v h
  ·exact y8 a.2 f vs v h
def E8(v:PV):Option PV->Bool
 |some w=>sF v w
 |none=>false
theorem IA{v:PV}{o:Option PV}(h:E8 v o=true):o=some v:=by
 cases o with
 |none=>cases h
 |some w=>rw[v8 h]
def aLb:aT->aT->Nat:=fun _ _=>0
theorem gH(l:List (aT×List PV×PV))(hl:iH l){f:aT}{vs:List PV}{v:PV}(h:E8 v (SM (ue l) aLb f vs)=true):aA prog f vs v:=N7 (y8 hl) (IA h)
end Hk
end Go.au
namespace Go.Proofs
open Go.Shelf
def Tryz.Hn:cb:=⟨fun|156=>139|165=>221|166=>52|169=>142|240=>138|241=>272|276=>220|277=>328|n=>n,fun|31=>140|9=>9|3=>3|4=>4|0=>0|20=>20|72=>118|76=>121|70=>115|37=>116|75=>120|127=>286|164=>282|5=>5|80=>224|n=>n,fun|n=>n⟩
theorem Tryz.H4:b1 prog Hn:={
 mixed:=k_
 f156:=func139.trans (congrArg some k_)
 f165:=func221.trans (congrArg some k_)
 f166:=func52.trans (congrArg some k_)
 f169:=func142.trans (congrArg some k_)
 f240:=func138.trans (congrArg some k_)
 f241:=func272.trans (congrArg some k_)
 f276:=func220.trans (congrArg some k_)
 f277:=func328.trans (congrArg some k_)
 t0:=underlying0
 a0:=isAgg0
 z0:=sizeOf0
 v0:=zeroValue0
 t3:=underlying3
 a3:=isAgg3
 z3:=sizeOf3
 v3:=zeroValue3
 t4:=underlying4
 a4:=isAgg4
 z4:=sizeOf4
 v4:=zeroValue4
 t9:=underlying9
 a9:=isAgg9
 z9:=sizeOf9
 v9:=zeroValue9
 t20:=underlying20
 a20:=isAgg20
 z20:=sizeOf20
 v20:=zeroValue20
 t31:=underlying140
 a31:=isAgg140
 z31:=sizeOf140
 v31:=zeroValue140
 t37:=underlying116
 a37:=isAgg116
 z37:=sizeOf116
 v37:=zeroValue116
 t70:=underlying115
 a70:=isAgg115
 z70:=sizeOf115
 v70:=zeroValue115
 t72:=underlying118
 a72:=isAgg118
 z72:=sizeOf118
 v72:=zeroValue118
 t75:=underlying120
 a75:=isAgg120
 z75:=sizeOf120
 v75:=zeroValue120
 t76:=underlying121
 a76:=isAgg121
 z76:=sizeOf121
 v76:=zeroValue121
 t127:=underlying286
 a127:=isAgg286
 z127:=sizeOf286
 v127:=zeroValue286
 t164:=underlying282
 a164:=isAgg282
 z164:=sizeOf282
 v164:=zeroValue282}
theorem Tryz.GM:Builder.Extra prog Hn:={
 sizeBuilder:=k_
 liesBuilder:=k_
 t5:=underlying5
 a5:=isAgg5
 z5:=sizeOf5
 v5:=zeroValue5
 infoByte:=k_
 cellsByte:=k_
 sizeByte:=k_
 neB5:=by decide}
open Go.RowKit in
theorem Tryz.strings_Join_none(a:Option Addr)(c:Nat)(sep:ByteArray)(w:a1):
 a7 prog 139 #[.slice a 0 c,.string sep] w fun e w'=>e=.returned (.string ⟨#[]⟩)/\w'=w:=Any.strings_Join_none H4 GM a c sep w
open Go.RowKit in
theorem Tryz.strings_Join(bk o c:Nat)(xs:List ByteArray)(sep:ByteArray)(w:a1)(hcells:∀(j:Nat) x,xs[j]?=some x->w.cell? ⟨bk,o+j,none⟩=some (.string x))(hbk:bk<w.heap.size)(hN:xs.length<=140737488355328)(hcap:xs.length<=c)(hlen:(bv (xs.map (·.data.toList)) sep.data.toList).length<=140737488355328):
 a7 prog 139 #[.slice (some ⟨bk,o,none⟩) xs.length c,.string sep] w fun e w'=>e=.returned (.string ⟨(bv (xs.map (·.data.toList)) sep.data.toList).toArray⟩)/\Below w.heap.size w w':=Any.strings_Join H4 GM bk o c xs sep w hcells hbk hN hcap hlen
def Tryz.TZ:cb:=⟨fun|106=>203|213=>270|265=>326|n=>n,fun|9=>9|3=>3|n=>n,fun|n=>n⟩
theorem Tryz.aKa:b3 prog TZ:={
 mixed:=k_
 f106:=func203.trans (congrArg some k_)
 f213:=func270.trans (congrArg some k_)
 f265:=func326.trans (congrArg some k_)
 t3:=underlying3
 a3:=isAgg3
 z3:=sizeOf3
 v3:=zeroValue3
 t9:=underlying9
 a9:=isAgg9
 z9:=sizeOf9
 v9:=zeroValue9}
open Go.RowKit in
theorem Tryz.strings_Compare(a b:ByteArray)(w:a1):
 a7 prog 203 #[.string a,.string b] w fun e w'=>e=.returned (.int .i64 (bo a.data.toList b.data.toList))/\w'=w:=Any.strings_Compare aKa a b w
def Tryz.TY:cb:=⟨fun|138=>278|195=>333|218=>335|143=>279|219=>303|217=>353|225=>354|224=>355|267=>356|266=>378|314=>379|n=>n,fun|9=>9|3=>3|4=>4|5=>5|0=>0|46=>322|146=>402|51=>355|n=>n,fun|1=>0|n=>n⟩
theorem Tryz.aKd:b2 prog TY:={
 mixed:=k_
 f138:=func278.trans (congrArg some k_)
 f143:=func279.trans (congrArg some k_)
 f195:=func333.trans (congrArg some k_)
 f217:=func353.trans (congrArg some k_)
 f218:=func335.trans (congrArg some k_)
 f219:=func303.trans (congrArg some k_)
 f224:=func355.trans (congrArg some k_)
 f225:=func354.trans (congrArg some k_)
 f266:=func378.trans (congrArg some k_)
 f267:=func356.trans (congrArg some k_)
 f314:=func379.trans (congrArg some k_)
 t0:=underlying0
 a0:=isAgg0
 z0:=sizeOf0
 v0:=zeroValue0
 t3:=underlying3
 a3:=isAgg3
 z3:=sizeOf3
 v3:=zeroValue3
 t4:=underlying4
 a4:=isAgg4
 z4:=sizeOf4
 v4:=zeroValue4
 t5:=underlying5
 a5:=isAgg5
 z5:=sizeOf5
 v5:=zeroValue5
 t9:=underlying9
 a9:=isAgg9
 z9:=sizeOf9
 v9:=zeroValue9
 t46:=underlying322
 a46:=isAgg322
 z46:=sizeOf322
 v46:=zeroValue322
 t51:=underlying355
 a51:=isAgg355
 z51:=sizeOf355
 v51:=zeroValue355
 t146:=underlying402
 a146:=isAgg402
 z146:=sizeOf402
 v146:=zeroValue402
 g1:=k_}
open Go.RowKit Go.Lib in
theorem Tryz.strings_Count_one(s:ByteArray)(c:UInt8)(w:a1):
 a7 prog 278 #[.string s,.string ⟨#[c]⟩] w fun e w'=>e=.returned (.int .i64 (bi s.data.toList c))/\w'=w:=Any.strings_Count_one aKd s c w
def Tryz.T3:cb:=⟨fun|100=>58|207=>143|n=>n,fun|9=>9|4=>4|3=>3|n=>n,fun|n=>n⟩
theorem Tryz.aJ5:b5 prog T3:={
 mixed:=k_
 f100:=func58.trans (congrArg some k_)
 f207:=func143.trans (congrArg some k_)
 t3:=underlying3
 a3:=isAgg3
 z3:=sizeOf3
 v3:=zeroValue3
 t4:=underlying4
 a4:=isAgg4
 z4:=sizeOf4
 v4:=zeroValue4
 t9:=underlying9
 a9:=isAgg9
 z9:=sizeOf9
 v9:=zeroValue9}
open Go.RowKit Go.Lib in
theorem Tryz.strings_HasSuffix(s p:ByteArray)(w:a1)(hs:s.size<=9223372036854775807):
 a7 prog 58 #[.string s,.string p] w fun e w'=>e=.returned (.bool (Lib.hasSuffix s.data.toList p.data.toList))/\w'=w:=Any.strings_HasSuffix aJ5 s p w hs
def Tryz.T0:cb:=⟨fun|102=>145|209=>224|207=>143|n=>n,fun|9=>9|4=>4|3=>3|n=>n,fun|n=>n⟩
theorem Tryz.aJ7:b4 prog T0:={
 mixed:=k_
 f102:=func145.trans (congrArg some k_)
 f207:=func143.trans (congrArg some k_)
 f209:=func224.trans (congrArg some k_)
 t3:=underlying3
 a3:=isAgg3
 z3:=sizeOf3
 v3:=zeroValue3
 t4:=underlying4
 a4:=isAgg4
 z4:=sizeOf4
 v4:=zeroValue4
 t9:=underlying9
 a9:=isAgg9
 z9:=sizeOf9
 v9:=zeroValue9}
open Go.RowKit Go.Lib in
theorem Tryz.strings_TrimSuffix(s p:ByteArray)(w:a1)(hs:s.size<=9223372036854775807):
 a7 prog 145 #[.string s,.string p] w fun e w'=>e=.returned (.string ⟨(Lib.trimSuffix s.data.toList p.data.toList).toArray⟩)/\w'=w:=Any.strings_TrimSuffix aJ7 s p w hs
end Go.Proofs
namespace Go.Proofs
def Tryz.HW:cb:=⟨fun|4=>265|n=>n,fun|22=>22|25=>64|3=>3|4=>4|9=>9|20=>20|0=>0|2=>3|n=>n,fun|n=>n⟩
theorem Tryz.azq:Go.Proofs.Lays8.n4 prog HW:={
 mixed:=k_
 f4:=⟨f265.name,by decide,func265.trans (congrArg some k_)⟩
 t0:=underlying0
 a0:=isAgg0
 z0:=sizeOf0
 v0:=zeroValue0
 t3:=underlying3
 a3:=isAgg3
 z3:=sizeOf3
 v3:=zeroValue3
 t4:=underlying4
 a4:=isAgg4
 z4:=sizeOf4
 v4:=zeroValue4
 t9:=underlying9
 a9:=isAgg9
 z9:=sizeOf9
 v9:=zeroValue9
 t20:=underlying20
 a20:=isAgg20
 z20:=sizeOf20
 v20:=zeroValue20
 t22:=underlying22
 a22:=isAgg22
 z22:=sizeOf22
 v22:=zeroValue22}
end Go.Proofs
namespace Go.au
open Go.au renaming c1->c1_, c2->c2_, c3->c3_, e1->e1_, e2->e2_, e3->e3_
open Go.Proofs
def dE(a:List Nat):List (List Nat)->List Nat
 |[]=>[]
 |[s]=>s
 |s::r=>s++a++dE a r
theorem HV(b:List UInt8):∀(c:List (List UInt8)),dE (cL b) (c.map cL)=cL (bv c b)
 |[]=>by simp[dE,Lib.join_nil,cL]
 |[x]=>by simp[dE,Lib.join_one]
 |x::y::r=>by
  have a:=HV b (y::r);rw[Lib.join_cons]at a⊢;simp only[c8]at a⊢;rw[dE,a]
  ·simp[cL,Lib.joinTail]
  ·simp
theorem Ii{w:a1}{aa:Nat->Prop}:∀{l:List (List Nat)}{e:List Nat}{a:List (List Value)},bg prog w aa e (l.map .str) a->
 ∃d:List ByteArray,a.flatten=d.map .string/\l=d.map (fun b=>cL b.data.toList)
 |[],e,a,h=>by
  have:=vr h;subst this;exact⟨[],s_,s_⟩
 |s::l,[],a,h=>by simp[bg]at h
 |s::l,n::e,a,h=>by
  simp only[c8,bg,aV]at h;obtain⟨c,cs,rfl,⟨bs,rfl,f⟩,_,g⟩:=h;obtain⟨d,g1,g2⟩:=Ii g;exact⟨bs::d,by simp[g1],by simp[g2,f,cL]⟩
theorem Js(full:Bool)(l:List (List Nat))(d:List Nat)(hl:l.length<=140737488355328)(k:(dE d l).length<=140737488355328):aA prog 139 [.bJ full (l.map .str),.str d] (.str (dE d l)):=by
 refine jh (il func139 k_) fun w aa B t E s=>?_;obtain⟨x,y,rfl,f,g⟩:=lR s;simp only[aB]at f g;obtain⟨sp,rfl,rfl⟩:=g;obtain⟨al,off,cap,ai,C,p,q,h,D,i,o,A,rfl⟩:=f;obtain⟨xs,g1,g2⟩:=Ii p;have b:(l.map PV.str).length=xs.length:=by rw[g2];simp
 cases c:xs with
 |nil=>
  subst c;have v:l=[]:=by simpa using g2
  subst v;refine(strings_Join_none (some ⟨al,off,o⟩) cap sp w).mono ?_;rintro e w' ⟨rfl,rfl⟩;exact⟨_,rfl,⟨gt _,fun _ _=>rfl,rfl,rfl⟩,fun w aa=>by simpa[dE,cL]using rA (P:=prog) (w:=w) (aa:=aa) []⟩
 |cons F r=>
  have z:l.map PV.str≠[]:=by rw[g2,c];simp
  obtain rfl:o=none:=A.resolve_right (by rw[b,c]at i;simp at i;omega);have m:=HV sp.data.toList (xs.map (·.data.toList))
  have e2:(xs.map (·.data.toList)).map cL=l:=by rw[g2];simp
  rw[e2]at m;have n:dE (sp.data.toList.map (·.toNat)) l=cL (bv (xs.map (·.data.toList)) sp.data.toList):=m
  rw[b];refine(strings_Join al off cap xs sp w (fun j x hx=>?_) (t _ (q z)) (by simp at b;omega) o_ ?_).mono ?_
  ·have u:j<xs.length:=(da.1 hx).1;rw[g1]at h;have:=h j (by simpa using u);rw[this];simp[(da.1 hx).2]
  ·rw[n]at k;simpa[cL]using k
  ·rintro e w' ⟨rfl,a⟩;exact⟨_,rfl,⟨a.size,a.block,a.os,a.output⟩,fun w aa=>by rw[n];exact rA _⟩
def iS(c:Nat):List Nat->Nat->Nat
 |[],n=>n
 |x::r,n=>bif gj x c then iS c r (n+1)else iS c r n
theorem HB(c:UInt8):∀(l:List UInt8)(n:Nat),iS c.toNat (cL l) n=n+bi l c
 |[],n=>by simp[iS,cL,bi]
 |x::r,n=>by
  have a:=HB c r;simp only[cL]at a;simp only[cL,c8,iS,bi,List.count_cons]
  by_cases hx:x=c
  ·subst hx;simp[a,bi];omega
  ·have d:gj x.toNat c.toNat=false:=by
    cases b:gj x.toNat c.toNat
    ·rfl
    ·exact(hx (UInt8.toNat_inj.1 (gi b))).elim
   simp[d,a,bi,hx]
theorem Jt(s:List Nat)(c:Nat):aA prog 278 [.str s,.str [c]] (.int .i64 (iS c s 0:Nat)):=by
 refine jh (il func278 k_) fun w aa g _ _ f=>?_;obtain⟨x,y,rfl,a,d⟩:=lR f;obtain⟨b,rfl,rfl⟩:=one_byte d;obtain⟨bs,rfl,rfl⟩:=jQ a;refine(strings_Count_one bs b w).mono ?_;rintro e w' ⟨rfl,rfl⟩;refine⟨_,rfl,⟨gt _,fun _ _=>rfl,rfl,rfl⟩,fun w aa=>?_⟩;have e1:=HB b bs.data.toList 0;simp only[aB]at e1⊢;rw[e1];simp
def xd:List Nat->List Nat->Int
 |[],[]=>0
 |[],_::_=>-1
 |_::_,[]=>1
 |a::r,b::t=>bif g6 a b then -1 else bif g6 b a then 1 else xd r t
theorem HC:∀a b:List UInt8,xd (cL a) (cL b)=bo a b
 |[],[]=>rfl
 |[],_::_=>rfl
 |_::_,[]=>rfl
 |a::r,b::t=>by
  have e:=HC r t;simp only[cL,c8,xd,bo]at e⊢;have e1:g6 a.toNat b.toNat=decide (a<b):=by
   rw[av,hb,decide_eq_true_eq,ho]
  have e2:g6 b.toNat a.toNat=decide (b<a):=by
   rw[av,hb,decide_eq_true_eq,ho]
  rw[e1,e2,e]
  by_cases c:a<b
  ·simp[c]
  ·by_cases d:b<a
   ·simp[c,d]
   ·simp[c,d]
theorem ag4(a b:List Nat):aA prog 203 [.str a,.str b] (.int .i64 (xd a b)):=by
 refine jh (il func203 k_) fun w aa g _ _ f=>?_;obtain⟨x,y,rfl,c,d⟩:=lR f;obtain⟨bs,rfl,rfl⟩:=jQ c;obtain⟨cs,rfl,rfl⟩:=jQ d;refine(strings_Compare bs cs w).mono ?_;rintro e w' ⟨rfl,rfl⟩;exact⟨_,rfl,⟨gt _,fun _ _=>rfl,rfl,rfl⟩,fun w aa=>by rw[HC];simp only[aB]⟩
def sL:PV:=.st 63 [.int .i64 0,.int .i64 0]
theorem ayK{H:Heap}(n:Nat)(M:1<=n)(N:n<=1000000):bW prog 265 H [.p .aK,.p (.int .i64 n)] (H++[.arr .grow 0 2 (c7 n (.p sL))]) (.sl H.length 0 2 0 0):=by
 refine⟨il func265 k_,fun w aa ah β J j f O=>?_⟩;simp only[br,aw,aB]at f;obtain⟨_,_,rfl,rfl,_,_,rfl,rfl,rfl⟩:=f;obtain⟨i,c,hi,F,o,_⟩:=ph (P:=prog) (T:=64) (z:=sL) k_;have hs:i.size=2:=by
  have:(prog.info? 64).map (·.size)=some 2:=k_
  rw[hi]at this;simpa using this
 have u:i.bytes=16:=by
  have:(prog.info? 64).map (·.bytes)=some 16:=k_
  rw[hi]at this;simpa using this
 have q:c.cells.size=2:=by
  have:=(n8 (o w aa)).1;have e:bG prog (aL sL)=2:=k_
  rw[e]at this;simpa using this
 have g:=Any8.slices_Grow_grow azq i c hi F o_ none 0 0 n [] w (gt _) o_ (by rw[u];omega) o_ s_ (fun _=>rfl) (fun a h=>by cases h);rw[show HW.t 25=64 from rfl,g9]at g;refine g.mono ?_;rintro e w' ⟨rfl,rfl⟩;have C:=j.nA 1;have D:b7 prog w.drew aa β (H++c7 1 .hole) ah:=b7.vQ (w:=w) (w':=w.drew) rfl C;have s:(H++c7 1 Obj.hole)[H.length]?=some .hole:=s_
 have y:n<=grownCap w n 0 64:=by simp[grownCap,Question.cut]
 have l:=vx (β:=β) (H:=H++c7 1 .hole) (o w.drew aa) n;rw[show c.cells.toList.length=2 by simpa using q]at l;have G:∀m,(bb c.cells m).toList=(c7 m c.cells.toList).flatten:=fun m=>yE c.cells m o_;obtain⟨q1,r⟩:=yM (T:=64) (k:=.grow) (ai:=2) (cap:=grownCap w n 0 64) D s
  (cells:=([]:List Value).toArray++bb c.cells (n-0)++bb c.cells (grownCap w n 0 64-n))
  (rest:=(bb c.cells (grownCap w n 0 64-n)).toList)
  s_ (fun h=>by have:=h.2;rw[<-cN]at this;simp at this;omega) l
  (by rw[cO];intro v E;rw[List.eq_of_mem_replicate E];simp[aC])
  (by simp[G]) (by simp only[Array.size_append,Kb,q];simp;omega) (by simpa using y) (fun h=>by cases h) (fun h=>by cases h)
 rw[DN]at q1 r;have aI:=pg β H 1;have I:bZ prog ah aa w β H aa w β (H++c7 1 .hole):=⟨fun _ x=>x,fun _ x=>.inl x,Ext.refl _ _ _,aI,j.nA _,mY _ _,fun b⟨L,d⟩=>⟨L,by rw[kM,if_pos (da.1 d).1];exact d⟩⟩
 refine⟨_,_,aa,rfl,I.trans (bZ.drew (w1:=w.drew) rfl ⟨rfl,rfl⟩ q1),?_,?_⟩
 ·simp only[aw,bO,bV]at r⊢;refine⟨rfl,fun k K hl=>?_⟩;have A:(H++[Obj.arr .grow 0 2 (c7 n (.p sL))])[H.length]?=some (.arr .grow 0 2 (c7 n (.p sL))):=by simp
  unfold eA at hl;rw[A]at hl;cases hl;exact⟨o_,fun B=>by have:=B.2;rw[<-cN]at this;simp at this;omega,fun _=>by simp[Bd.at]⟩
 ·simp only[aC];exact⟨.arr .grow 0 2 (c7 n (.p sL)),s_,gt _⟩
namespace gD
def vp:List PV->Option (List (List Nat))
 |[]=>some []
 | .str s::r=>match vp r with
  |some l=>some (s::l)
  |none=>none
 |_=>none
theorem HM:∀{l:List PV}{a:List (List Nat)},vp l=some a->l=a.map .str
 |[],a,h=>by simp[vp]at h;subst h;rfl
 |v::r,a,h=>by
  cases v<;>simp only[vp]at h<;>try (cases h;done)
  split at h
  ·rename_i l hl;simp only[hg]at h;subst h;rw[HM hl];rfl
  ·cases h
def EV(f:aT)(vs:List PV):Option PV:=
 bif gj f 139 then match vs with
  |[.bJ _ l,.str sep]=>match vp l with
   |some d=>bif g7 d.length 1000&&g7 (dE sep d).length 100000 then some (.str (dE sep d))else none
   |none=>none
  |_=>none
 else bif gj f 278 then match vs with
  |[.str s,.str [c]]=>some (.int .i64 (iS c s 0:Nat))
  |_=>none
 else bif gj f 303 then match vs with
  |[.str s,.str [c]]=>some (.int .i64 (mG c s 0))
  |_=>none
 else bif gj f 203 then match vs with
  |[.str a,.str b]=>some (.int .i64 (xd a b))
  |_=>none
 else bif gj f 54 then match vs with
  |[.int .i64 n]=>bif Hk.oX n then some (.str (bn n))else none
  |_=>none
 else none
theorem azt{f:aT}{vs:List PV}{v:PV}(h:EV f vs=some v):aA prog f vs v:=by
 unfold EV at h;simp only[ao]at h
 split at h
 ·rename_i hf;rw[gi hf]
  split at h
  ·split at h
   ·rename_i a hs;simp only[hd,hg,ap]at h;obtain⟨⟨g1,g2⟩,rfl⟩:=h;rw[HM hs];exact Js _ _ _ (ha (gm g1) (by decide)) (ha (gm g2) (by decide))
   ·cases h
  ·cases h
 split at h
 ·rename_i hf;rw[gi hf]
  split at h
  ·simp only[hg]at h;subst h;exact Jt _ _
  ·cases h
 split at h
 ·rename_i hf;rw[gi hf]
  split at h
  ·simp only[hg]at h;subst h;exact BZ _ _
  ·cases h
 split at h
 ·rename_i hf;rw[gi hf]
  split at h
  ·simp only[hg]at h;subst h;exact ag4 _ _
  ·cases h
 split at h
 ·rename_i hf;rw[gi hf]
  split at h
  ·simp only[hd,hg]at h;obtain⟨g1,rfl⟩:=h;have:=Hk.zG.1 g1;exact qD _ o_ o_
  ·cases h
 ·cases h
def xk(f:aT)(args:List AV)(H:Heap):Option (AV×Heap):=
 bif gj f 138 then match args with
  |[.ptr b []]=>match H[b]? with
   |some (.box false (.p (.st u [.dc,x])))=>bif gj u 117 then some (.p (.aE []),H.set b (.box false (.st 117 [.ptr b [],.p x])))else none
   |some (.box false (.st u [.p .dc,x]))=>bif gj u 117 then some (.p (.aE []),H.set b (.box false (.st 117 [.ptr b [],x])))else none
   |some (.box false (.st u [.ptr b' [],_]))=>bif gj u 117&&gj b' b then some (.p (.aE []),H)else none
   |_=>none
  |_=>none
 else bif gj f 265 then match args with
  |[.p .aK,.p (.int .i64 (.ofNat n))]=>bif g7 1 n&&g7 n 1000000 then some (.sl H.length 0 2 0 0,H++[.arr .grow 0 2 (c7 n (.p sL))])else none
  |_=>none
 else none
theorem azs{f:aT}{args:List AV}{H H':Heap}{v:AV}(h:xk f args H=some (v,H')):bW prog f H args H' v:=by
 unfold xk at h;simp only[ao]at h
 split at h
 ·rename_i hf;rw[gi hf]
  split at h
  case h_2=>cases h
  split at h
  ·rename_i a;simp only[hd,hg,hj]at h;obtain⟨b,rfl,rfl⟩:=h;rw[gi b]at a;exact ES a (.inl rfl)
  ·rename_i a;simp only[hd,hg,hj]at h;obtain⟨b,rfl,rfl⟩:=h;rw[gi b]at a;exact ES a (.inr rfl)
  ·rename_i a;simp only[hd,hg,hj,ap]at h;obtain⟨⟨b,c⟩,rfl,rfl⟩:=h;rw[gi b,gi c]at a;exact Rj a
  ·cases h
 split at h
 ·rename_i hf;rw[gi hf]
  split at h
  ·simp only[hd,hg,hj,ap]at h;obtain⟨⟨b,c⟩,rfl,rfl⟩:=h;exact ayK _ (gm b) (gm c)
  ·cases h
 ·cases h
def kI(_ f:aT):Nat:=
 bif gj f 53 then 2
 else bif gj f 147 then 3
 else bif gj f 148 then 3
 else bif gj f 149 then 3
 else bif gj f 150 then 3
 else bif gj f 265 then 1 else 0
def facts(l:List (aT×List PV×PV))(f:aT)(vs:List PV):Option PV:=match EV f vs with
 |some v=>some v
 |none=>Hk.ue l f vs
noncomputable def vh(fs:aT->List PV->Option PV):mO:=⟨uo FX,fs,xk,kI,fun _ _ _=>none⟩
theorem Uk{l:List (aT×List PV×PV)}(hl:Hk.iH l):nj prog (vh (facts l)):=by
 refine⟨mix,fun f fn hf=>DX I7 hf,fun f vs v hk=>?_,fun f args H v H' hk=>azs hk,fun f args H ak v hk=>by simp only[vh]at hk;cases hk⟩;simp only[vh,facts]at hk
 split at hk
 ·rename_i h;simp only[hg]at hk;subst hk;exact azt h
 ·exact Hk.y8 hl f vs v hk
noncomputable def runT(l:List (aT×List PV×PV))(f:aT)(vs:List PV):Option PV:=oW prog nf (vh (facts l)) (kA prog nf (vh (facts l)) 20) f vs
theorem gH(l:List (aT×List PV×PV))(hl:Hk.iH l){f:aT}{vs:List PV}{v:PV}(h:Hk.E8 v (runT l f vs)=true):aA prog f vs v:=reckon 20 (Uk hl) (Hk.IA h)
end gD
namespace Bb
def T:PV:=.st 35 [.bJ true [.st 63 [.int .i64 0,.int .i64 0],.st 63 [.int .i64 2000,.int .i64 0],.st 63 [.int .i64 2000,.int .i64 1000],.st 63 [.int .i64 0,.int .i64 1000]],.int .i64 30,.bJ true [.st 87 [.str [97],.int .i64 0,.str [48],.str [49,47,50,48]],.st 87 [.str [98],.int .i64 2,.str [49,57,47,50,48],.str [49]]],.bJ true [.st 84 [.str [102,111,111,116],.st 81 [.str [49,53,48,48],.str [53,48,48]]],.st 84 [.str [104,101,97,100],.st 81 [.str [53,48,48],.str [53,48,48]]]]]
def B:PV:=.bJ true [.st 84 [.str [99,117,101],.st 81 [.str [53,48,48],.str [53,48,48]]],.st 84 [.str [111,110,101],.st 81 [.str [49,53,48,48],.str [53,48,48]]],.st 84 [.str [116,119,111],.st 81 [.str [49,53,54,48],.str [53,48,48]]]]
def B1:PV:=.bJ false [.st 84 [.str [99,117,101],.st 81 [.str [53,48,48],.str [53,48,48]]]]
def M:PV:=.st 35 [.bJ false [.st 63 [.int .i64 0,.int .i64 0],.st 63 [.int .i64 0,.int .i64 1000],.st 63 [.int .i64 (-2000),.int .i64 1000],.st 63 [.int .i64 (-2000),.int .i64 0]],.int .i64 30,.bJ false [.st 87 [.str [97],.int .i64 3,.str [49,57,47,50,48],.str [49]],.st 87 [.str [98],.int .i64 1,.str [48],.str [49,47,50,48]]],.bJ false [.st 84 [.str [102,111,111,116],.st 81 [.str [45,49,53,48,48],.str [53,48,48]]],.st 84 [.str [104,101,97,100],.st 81 [.str [45,53,48,48],.str [53,48,48]]]]]
def k0:List (aT×List PV×PV):=[(263,[.str [51,48]],.aE [.int .i64 30,.gl])]
theorem vm:Hk.iH k0:=⟨B0 [51,48] 30 (by decide+kernel) (by decide),trivial⟩
theorem c0:aA prog 51 [T] (.int .i64 0):=gD.gH k0 vm k_
theorem c1:aA prog 71 [T,B] (.int .i64 0):=gD.gH k0 vm k_
theorem c2:aA prog 71 [T,B1] (.int .i64 0):=gD.gH k0 vm k_
theorem c3:aA prog 51 [M] (.int .i64 0):=gD.gH k0 vm k_
def k1:List (aT×List PV×PV):=[(51,[T],.int .i64 0),(71,[T,B],.int .i64 0),(71,[T,B1],.int .i64 0),(51,[M],.int .i64 0)]++k0
theorem je:Hk.iH k1:=Hk.Co (l:=[(51,[T],.int .i64 0),(71,[T,B],.int .i64 0),(71,[T,B1],.int .i64 0),(51,[M],.int .i64 0)]) ⟨c0,c1,c2,c3,trivial⟩ vm
theorem d0:aA prog 31 [T] (.aE [.str [50,48,48,48,48,48,48],.int .i64 0]):=gD.gH k1 je k_
theorem d1:aA prog 36 [T,.int .i64 0,.str [49,47,52]] (.aE [.st 81 [.str [53,48,48],.str [48]],.int .i64 0]):=gD.gH k1 je k_
theorem d2:aA prog 42 [T,.st 81 [.str [50,48,48,48],.str [48]]] (.aE [.int .i64 0,.str [49],.int .i64 0]):=gD.gH k1 je k_
theorem d3:aA prog 44 [T,.int .i64 0,.str [49,47,50,48]] (.aE [.str [97],.int .i64 0]):=gD.gH k1 je k_
theorem d4:aA prog 44 [T,.int .i64 0,.str [49,47,49,48]] (.aE [.str [],.int .i64 7]):=gD.gH k1 je k_
theorem d5:aA prog 45 [T,B,.st 81 [.str [49,52,52,48],.str [53,48,48]]] (.aE [.bool true,.int .i64 0]):=gD.gH k1 je k_
theorem d6:aA prog 45 [T,B,.st 81 [.str [49,52,53,48],.str [53,48,48]]] (.aE [.bool false,.int .i64 0]):=gD.gH k1 je k_
theorem d7:aA prog 46 [T,B,.str [102,111,111,116],.st 81 [.str [49,48],.str [48]]] (.aE [.st 81 [.str [49,54,50,48],.str [53,48,48]],.int .i64 0]):=gD.gH k1 je k_
theorem d8:aA prog 47 [T,B] (.aE [.st 106 [.int .i64 1,.int .i64 2],.str [51,54,48,48],.int .i64 0]):=gD.gH k1 je k_
theorem d9:aA prog 32 [T,B] (.aE [.bJ false [.st 106 [.int .i64 1,.int .i64 2]],.int .i64 0]):=gD.gH k1 je k_
theorem d10:aA prog 48 [T,.str [102,111,111,116],.str [116,114,105,97,110,103,108,101],.st 106 [.int .i64 2,.int .i64 0]] (.aE [.bJ false [.st 81 [.str [49,53,48,48],.str [53,48,48]],.st 81 [.str [51,49,48,53,47,50],.str [52,55,48]],.st 81 [.str [51,49,48,53,47,50],.str [53,51,48]]],.int .i64 0]):=gD.gH k1 je k_
theorem d11:aA prog 29 [T,.st 65 [.bool true,.int .i64 0,.st 63 [.int .i64 0,.int .i64 0]]] (.aE [.st 35 [.bJ false [.st 63 [.int .i64 0,.int .i64 0],.st 63 [.int .i64 0,.int .i64 1000],.st 63 [.int .i64 (-2000),.int .i64 1000],.st 63 [.int .i64 (-2000),.int .i64 0]],.int .i64 30,.bJ false [.st 87 [.str [97],.int .i64 3,.str [49,57,47,50,48],.str [49]],.st 87 [.str [98],.int .i64 1,.str [48],.str [49,47,50,48]]],.bJ false [.st 84 [.str [102,111,111,116],.st 81 [.str [45,49,53,48,48],.str [53,48,48]]],.st 84 [.str [104,101,97,100],.st 81 [.str [45,53,48,48],.str [53,48,48]]]]],.int .i64 0]):=gD.gH k1 je k_
theorem d12:aA prog 49 [M] (.aE [.st 35 [.bJ false [.st 63 [.int .i64 (-2000),.int .i64 0],.st 63 [.int .i64 0,.int .i64 0],.st 63 [.int .i64 0,.int .i64 1000],.st 63 [.int .i64 (-2000),.int .i64 1000]],.int .i64 30,.bJ false [.st 87 [.str [97],.int .i64 0,.str [49,57,47,50,48],.str [49]],.st 87 [.str [98],.int .i64 2,.str [48],.str [49,47,50,48]]],.bJ false [.st 84 [.str [102,111,111,116],.st 81 [.str [45,49,53,48,48],.str [53,48,48]]],.st 84 [.str [104,101,97,100],.st 81 [.str [45,53,48,48],.str [53,48,48]]]]],.int .i64 0]):=gD.gH k1 je k_
theorem d13:aA prog 30 [T,B,.st 65 [.bool false,.int .i64 1,.st 63 [.int .i64 0,.int .i64 0]]] (.aE [.bJ false [.st 84 [.str [99,117,101],.st 81 [.str [45,53,48,48],.str [53,48,48]]],.st 84 [.str [111,110,101],.st 81 [.str [45,53,48,48],.str [49,53,48,48]]],.st 84 [.str [116,119,111],.st 81 [.str [45,53,48,48],.str [49,53,54,48]]]],.int .i64 0]):=gD.gH k1 je k_
theorem d14:aA prog 10 [T] (.aE [.str [114,97,100,105,117,115,32,51,48,10,99,111,114,110,101,114,32,48,32,48,10,99,111,114,110,101,114,32,50,48,48,48,32,48,10,99,111,114,110,101,114,32,50,48,48,48,32,49,48,48,48,10,99,111,114,110,101,114,32,48,32,49,48,48,48,10,112,111,99,107,101,116,32,97,32,48,32,48,32,49,47,50,48,10,112,111,99,107,101,116,32,98,32,50,32,49,57,47,50,48,32,49,10,115,112,111,116,32,102,111,111,116,32,49,53,48,48,32,53,48,48,10,115,112,111,116,32,104,101,97,100,32,53,48,48,32,53,48,48,10],.int .i64 0]):=gD.gH k1 je k_
theorem d15:aA prog 12 [.str [114,97,100,105,117,115,32,51,48,10,115,112,111,116,32,97,32,48,10]] (.aE [.st 35 [.aK,.int .i64 0,.aK,.aK],.int .i64 2,.int .i64 25]):=gD.gH k1 je k_
theorem d16:aA prog 19 [T,B1] (.aE [.str [98,97,108,108,32,99,117,101,32,53,48,48,32,53,48,48,10],.int .i64 0]):=gD.gH k1 je k_
def k2:List (aT×List PV×PV):=[(31,[T],.aE [.str [50,48,48,48,48,48,48],.int .i64 0]),(36,[T,.int .i64 0,.str [49,47,52]],.aE [.st 81 [.str [53,48,48],.str [48]],.int .i64 0]),(42,[T,.st 81 [.str [50,48,48,48],.str [48]]],.aE [.int .i64 0,.str [49],.int .i64 0]),(44,[T,.int .i64 0,.str [49,47,50,48]],.aE [.str [97],.int .i64 0]),(44,[T,.int .i64 0,.str [49,47,49,48]],.aE [.str [],.int .i64 7]),(45,[T,B,.st 81 [.str [49,52,52,48],.str [53,48,48]]],.aE [.bool true,.int .i64 0]),(45,[T,B,.st 81 [.str [49,52,53,48],.str [53,48,48]]],.aE [.bool false,.int .i64 0]),(46,[T,B,.str [102,111,111,116],.st 81 [.str [49,48],.str [48]]],.aE [.st 81 [.str [49,54,50,48],.str [53,48,48]],.int .i64 0]),(47,[T,B],.aE [.st 106 [.int .i64 1,.int .i64 2],.str [51,54,48,48],.int .i64 0]),(32,[T,B],.aE [.bJ false [.st 106 [.int .i64 1,.int .i64 2]],.int .i64 0]),(48,[T,.str [102,111,111,116],.str [116,114,105,97,110,103,108,101],.st 106 [.int .i64 2,.int .i64 0]],.aE [.bJ false [.st 81 [.str [49,53,48,48],.str [53,48,48]],.st 81 [.str [51,49,48,53,47,50],.str [52,55,48]],.st 81 [.str [51,49,48,53,47,50],.str [53,51,48]]],.int .i64 0]),(29,[T,.st 65 [.bool true,.int .i64 0,.st 63 [.int .i64 0,.int .i64 0]]],.aE [.st 35 [.bJ false [.st 63 [.int .i64 0,.int .i64 0],.st 63 [.int .i64 0,.int .i64 1000],.st 63 [.int .i64 (-2000),.int .i64 1000],.st 63 [.int .i64 (-2000),.int .i64 0]],.int .i64 30,.bJ false [.st 87 [.str [97],.int .i64 3,.str [49,57,47,50,48],.str [49]],.st 87 [.str [98],.int .i64 1,.str [48],.str [49,47,50,48]]],.bJ false [.st 84 [.str [102,111,111,116],.st 81 [.str [45,49,53,48,48],.str [53,48,48]]],.st 84 [.str [104,101,97,100],.st 81 [.str [45,53,48,48],.str [53,48,48]]]]],.int .i64 0]),(49,[M],.aE [.st 35 [.bJ false [.st 63 [.int .i64 (-2000),.int .i64 0],.st 63 [.int .i64 0,.int .i64 0],.st 63 [.int .i64 0,.int .i64 1000],.st 63 [.int .i64 (-2000),.int .i64 1000]],.int .i64 30,.bJ false [.st 87 [.str [97],.int .i64 0,.str [49,57,47,50,48],.str [49]],.st 87 [.str [98],.int .i64 2,.str [48],.str [49,47,50,48]]],.bJ false [.st 84 [.str [102,111,111,116],.st 81 [.str [45,49,53,48,48],.str [53,48,48]]],.st 84 [.str [104,101,97,100],.st 81 [.str [45,53,48,48],.str [53,48,48]]]]],.int .i64 0]),(30,[T,B,.st 65 [.bool false,.int .i64 1,.st 63 [.int .i64 0,.int .i64 0]]],.aE [.bJ false [.st 84 [.str [99,117,101],.st 81 [.str [45,53,48,48],.str [53,48,48]]],.st 84 [.str [111,110,101],.st 81 [.str [45,53,48,48],.str [49,53,48,48]]],.st 84 [.str [116,119,111],.st 81 [.str [45,53,48,48],.str [49,53,54,48]]]],.int .i64 0]),(10,[T],.aE [.str [114,97,100,105,117,115,32,51,48,10,99,111,114,110,101,114,32,48,32,48,10,99,111,114,110,101,114,32,50,48,48,48,32,48,10,99,111,114,110,101,114,32,50,48,48,48,32,49,48,48,48,10,99,111,114,110,101,114,32,48,32,49,48,48,48,10,112,111,99,107,101,116,32,97,32,48,32,48,32,49,47,50,48,10,112,111,99,107,101,116,32,98,32,50,32,49,57,47,50,48,32,49,10,115,112,111,116,32,102,111,111,116,32,49,53,48,48,32,53,48,48,10,115,112,111,116,32,104,101,97,100,32,53,48,48,32,53,48,48,10],.int .i64 0]),(12,[.str [114,97,100,105,117,115,32,51,48,10,115,112,111,116,32,97,32,48,10]],.aE [.st 35 [.aK,.int .i64 0,.aK,.aK],.int .i64 2,.int .i64 25]),(19,[T,B1],.aE [.str [98,97,108,108,32,99,117,101,32,53,48,48,32,53,48,48,10],.int .i64 0])]++k1
theorem aJ2:Hk.iH k2:=Hk.Co (l:=[(31,[T],.aE [.str [50,48,48,48,48,48,48],.int .i64 0]),(36,[T,.int .i64 0,.str [49,47,52]],.aE [.st 81 [.str [53,48,48],.str [48]],.int .i64 0]),(42,[T,.st 81 [.str [50,48,48,48],.str [48]]],.aE [.int .i64 0,.str [49],.int .i64 0]),(44,[T,.int .i64 0,.str [49,47,50,48]],.aE [.str [97],.int .i64 0]),(44,[T,.int .i64 0,.str [49,47,49,48]],.aE [.str [],.int .i64 7]),(45,[T,B,.st 81 [.str [49,52,52,48],.str [53,48,48]]],.aE [.bool true,.int .i64 0]),(45,[T,B,.st 81 [.str [49,52,53,48],.str [53,48,48]]],.aE [.bool false,.int .i64 0]),(46,[T,B,.str [102,111,111,116],.st 81 [.str [49,48],.str [48]]],.aE [.st 81 [.str [49,54,50,48],.str [53,48,48]],.int .i64 0]),(47,[T,B],.aE [.st 106 [.int .i64 1,.int .i64 2],.str [51,54,48,48],.int .i64 0]),(32,[T,B],.aE [.bJ false [.st 106 [.int .i64 1,.int .i64 2]],.int .i64 0]),(48,[T,.str [102,111,111,116],.str [116,114,105,97,110,103,108,101],.st 106 [.int .i64 2,.int .i64 0]],.aE [.bJ false [.st 81 [.str [49,53,48,48],.str [53,48,48]],.st 81 [.str [51,49,48,53,47,50],.str [52,55,48]],.st 81 [.str [51,49,48,53,47,50],.str [53,51,48]]],.int .i64 0]),(29,[T,.st 65 [.bool true,.int .i64 0,.st 63 [.int .i64 0,.int .i64 0]]],.aE [.st 35 [.bJ false [.st 63 [.int .i64 0,.int .i64 0],.st 63 [.int .i64 0,.int .i64 1000],.st 63 [.int .i64 (-2000),.int .i64 1000],.st 63 [.int .i64 (-2000),.int .i64 0]],.int .i64 30,.bJ false [.st 87 [.str [97],.int .i64 3,.str [49,57,47,50,48],.str [49]],.st 87 [.str [98],.int .i64 1,.str [48],.str [49,47,50,48]]],.bJ false [.st 84 [.str [102,111,111,116],.st 81 [.str [45,49,53,48,48],.str [53,48,48]]],.st 84 [.str [104,101,97,100],.st 81 [.str [45,53,48,48],.str [53,48,48]]]]],.int .i64 0]),(49,[M],.aE [.st 35 [.bJ false [.st 63 [.int .i64 (-2000),.int .i64 0],.st 63 [.int .i64 0,.int .i64 0],.st 63 [.int .i64 0,.int .i64 1000],.st 63 [.int .i64 (-2000),.int .i64 1000]],.int .i64 30,.bJ false [.st 87 [.str [97],.int .i64 0,.str [49,57,47,50,48],.str [49]],.st 87 [.str [98],.int .i64 2,.str [48],.str [49,47,50,48]]],.bJ false [.st 84 [.str [102,111,111,116],.st 81 [.str [45,49,53,48,48],.str [53,48,48]]],.st 84 [.str [104,101,97,100],.st 81 [.str [45,53,48,48],.str [53,48,48]]]]],.int .i64 0]),(30,[T,B,.st 65 [.bool false,.int .i64 1,.st 63 [.int .i64 0,.int .i64 0]]],.aE [.bJ false [.st 84 [.str [99,117,101],.st 81 [.str [45,53,48,48],.str [53,48,48]]],.st 84 [.str [111,110,101],.st 81 [.str [45,53,48,48],.str [49,53,48,48]]],.st 84 [.str [116,119,111],.st 81 [.str [45,53,48,48],.str [49,53,54,48]]]],.int .i64 0]),(10,[T],.aE [.str [114,97,100,105,117,115,32,51,48,10,99,111,114,110,101,114,32,48,32,48,10,99,111,114,110,101,114,32,50,48,48,48,32,48,10,99,111,114,110,101,114,32,50,48,48,48,32,49,48,48,48,10,99,111,114,110,101,114,32,48,32,49,48,48,48,10,112,111,99,107,101,116,32,97,32,48,32,48,32,49,47,50,48,10,112,111,99,107,101,116,32,98,32,50,32,49,57,47,50,48,32,49,10,115,112,111,116,32,102,111,111,116,32,49,53,48,48,32,53,48,48,10,115,112,111,116,32,104,101,97,100,32,53,48,48,32,53,48,48,10],.int .i64 0]),(12,[.str [114,97,100,105,117,115,32,51,48,10,115,112,111,116,32,97,32,48,10]],.aE [.st 35 [.aK,.int .i64 0,.aK,.aK],.int .i64 2,.int .i64 25]),(19,[T,B1],.aE [.str [98,97,108,108,32,99,117,101,32,53,48,48,32,53,48,48,10],.int .i64 0])]) ⟨d0,d1,d2,d3,d4,d5,d6,d7,d8,d9,d10,d11,d12,d13,d14,d15,d16,trivial⟩ je
end Bb
theorem HH:aA prog 9 [] (.bool true):=gD.gH Bb.k2 Bb.aJ2 k_
def dZ(c:Nat):List Nat->List Nat->List (List Nat)
 |cur,[]=>[cur]
 |cur,x::s=>if x=c then cur::dZ c [] s else dZ c (cur++[x]) s
def bR(c:Nat)(s:List Nat):List (List Nat):=dZ c [] s
theorem HT{c:Nat}:∀{s a:List Nat},c∉s->dZ c a s=[a++s]
 |[],a,_=>by simp[dZ]
 |x::s,a,h=>by
  simp only[ed,not_or]at h;rw[dZ,if_neg (fun e=>h.1 e.symm),HT h.2];simp
theorem Hi{c:Nat}:∀{s a t:List Nat},c∉s->dZ c a (s++c::t)=(a++s)::dZ c [] t
 |[],a,t,_=>by simp[dZ]
 |x::s,a,t,h=>by
  simp only[ed,not_or]at h;rw[gc,dZ,if_neg (fun e=>h.1 e.symm),Hi h.2];simp
theorem Bv{c:Nat}:∀{l:List (List Nat)},l≠[]->(∀s∈l,c∉s)->bR c (dE [c] l)=l
 |[],h,_=>(h rfl).elim
 |[s],_,h=>by rw[dE,bR,HT (h s ej)];simp
 |s::t::r,_,h=>by
  have a:=Bv (l:=t::r) s_ fun s hs=>h s (er _ hs);rw[dE,bR,List.append_assoc,List.singleton_append,Hi (h s ej)]
  ·rw[bR]at a;rw[a];simp
  ·intro e;cases e
theorem Hh(c:Nat):∀(s a:List Nat),dZ c a s=(a++(bP c s).1)::if(bP c s).2.2=true then dZ c [] (bP c s).2.1 else[]
 |[],a=>by simp[dZ,bP]
 |x::r,a=>by
  rw[dZ,bP]
  by_cases h:x=c
  ·rw[if_pos h,if_pos h];simp
  ·rw[if_neg h,if_neg h,Hh c r];simp
theorem u5(c:Nat)(s:List Nat):bR c s=(bP c s).1::if(bP c s).2.2=true then bR c (bP c s).2.1 else[]:=by
 rw[bR,Hh];rfl
theorem u9(c:Nat):∀(s:List Nat)(n:Nat),iS c s n=n+iS c s 0
 |[],n=>by simp[iS]
 |x::r,n=>by
  rw[iS,iS,u9 c r (n+1),u9 c r (0+1),u9 c r n];cases gj x c<;>simp<;>omega
theorem BH(c:Nat):∀(s a:List Nat),(dZ c a s).length=iS c s 0+1
 |[],a=>by simp[dZ,iS]
 |x::r,a=>by
  rw[dZ,iS]
  by_cases h:x=c
  ·subst h;rw[if_pos rfl,eL,BH _ r,Nat.beq_refl,cond_true,u9 _ r (0+1)];omega
  ·have b:gj x c=false:=by
    cases b:gj x c
    ·rfl
    ·exact(h (gi b)).elim
   rw[if_neg h,BH c r,b,cond_false]
theorem BJ(c:Nat)(s:List Nat):(bR c s).length=iS c s 0+1:=BH c s []
theorem BO(c:Nat):∀s:List Nat,iS c s 0<=s.length
 |[]=>by simp[iS]
 |x::r=>by
  rw[iS,u9 c r (0+1)];have:=BO c r;cases gj x c<;>simp<;>omega
theorem ais(s:List Nat)(c:Nat):aA prog 279 [.str s,.str [c]] (.int .i64 (mG c s 0)):=by
 refine aM nf (i_ func279) mix (by simp[f279]) ?_;simp[f279];refine c2 (BZ s c) ?_;simp
theorem Uz(s:List Nat)(c:Nat)(h:s.length<=1048576):aA prog 223 [.str s,.str [c],.int .i64 0,.int .i64 (-1)] (.seq ((bR c s).map .str)):=by
 refine aM nf (i_ func223) mix (by simp[f223]) ?_;simp[f223];refine c2 (Jt s c) ?_;have hc:=BO c s;have q:=BJ c s;generalize iS c s 0=n at*;have u:=bY (i:=n) o_;have y:=bY (i:=s.length) o_;have z:be.wrap (n:Int)=n:=aO _ o_ o_;have e1:¬s.length<n:=o_
 have e2:((n:Int)+1).toNat=n+1:=o_
 simp[u,y,z,e1,e2,cM];refine⟨o_,?_⟩;refine lp (α:=Nat×List Nat×List (List Nat)) (fun(i,r,out)=>⟨[(10,.p (.int .i64 i)),(9,.sl 0 0 1 0 (n+1)),(3,.p (.int .i64 n)),(2,.p (.int .i64 0)),(1,.p (.str [c])),(0,.p (.str r))],[.arr .exact 0 1 (out.map (fun x=>.p (.str x))++c7 (n+1-i) (.p (.str [])))]⟩)
  (fun(i,r,out)=>i<=n/\out.length=i/\r.length<=s.length/\out++bR c r=bR c s) (fun(i,_,_)=>n-i) (0,s,[]) s_ ?_
 rintro⟨i,r,out⟩ ⟨l,a,m,b⟩;dsimp only at l a m b⊢;have hl:(bR c r).length=n-i+1:=by have:=congrArg List.length b;rw[db,q]at this;omega
 have hs:=u5 c r;have f:=bY (i:=i) o_
 by_cases hi:i<n
 ·rcases z6 c r 0 with⟨_,g2,g3⟩|⟨k,g1,g2,g3⟩
  ·rw[g3]at hs;rw[hs]at hl;simp at hl;omega
  ·rw[g9]at g2;rw[g3]at hs;simp at hs;have A:=bY (i:=k) o_;have B:be.wrap (k:Int)=k:=aO _ o_ o_;have e3:((k:Int)+1).toNat=k+1:=by omega
   simp[hi];refine c2 (ais r c) ?_;have aG:∀v:AV,(out.map (fun x=>AV.p (.str x))++c7 (n+1-i) (AV.p (.str []))).set i v=out.map (fun x=>AV.p (.str x))++v::c7 (n-i) (AV.p (.str [])):=by
    intro v;rw[fd _ _ (by simp[a])];have e:n+1-i=(n-i)+1:=o_
    rw[e,List.replicate_succ,dz,a,gx];rfl
   have d:∃v,(out.map (fun x=>AV.p (.str x))++c7 (n+1-i) (AV.p (.str [])))[i]?=some (AV.p (.str v)):=by
    refine⟨[],?_⟩;rw[e8 (by simp[a]),dz,a,gx,List.getElem?_replicate,if_pos o_]
   obtain⟨v0,d⟩:=d;have o:¬(k:Int)<0:=o_
   simp[g2,A,B,e3,f,a,aG,d,o];refine⟨o_,o_,⟨o_,o_⟩,?_⟩;exact rd (i+1,r.drop (k+1),out++[r.take k]) ⟨hi,by simp[a],by simp;omega,by rw[<-b,u5 c r,g3];simp⟩ (h1:=by dsimp only;omega)
    (hh:=by simp[show n+1-(i+1)=n-i by omega]) (hr2:=by simp[FR])
 ·have hi:i=n:=by omega
  subst hi;have aG:∀v w:AV,(out.map (fun x=>AV.p (.str x))++[w]).set i v=out.map (fun x=>AV.p (.str x))++[v]:=by
   intro v w;rw[fd _ _ (by simp[a]),dz,a,gx];rfl
  have d:∀w:AV,(out.map (fun x=>AV.p (.str x))++[w])[i]?=some w:=by
   intro w;rw[e8 (by simp[a]),dz,a,gx];rfl
  have t:bR c r=[r]:=by
   rcases z6 c r 0 with⟨g1,g2,g3⟩|⟨k,g1,g2,g3⟩
   ·rw[u5,g3];rfl
   ·rw[u5,g3]at hl;simp at hl;have:=BJ c (r.drop (k+1));rw[hl]at this;simp at this
  rw[t]at b;simp[a,aG,d,f,e2,<-b];refine⟨o_,?_⟩;rw[cx (by simp[a])];have g:out.map (fun x=>AV.p (.str x))++[AV.p (.str r)]=(out++[r]).map (fun x=>AV.p (.str x)):=s_
  have j:out.map PV.str++[PV.str r]=(out++[r]).map PV.str:=s_
  rw[g,j];simp only[zI];intro x _;simp
theorem yf(s:List Nat)(c:Nat)(h:s.length<=1048576):aA prog 144 [.str s,.str [c]] (.seq ((bR c s).map .str)):=by
 refine aM nf (i_ func144) mix (by simp[f144]) ?_;simp[f144];refine c4 (Uz s c h) ?_;simp
theorem UB{c:Nat}{s:List Nat}{i:Nat}(hi:i<s.length)(a:List Nat):dZ c a (s.drop i)=if s[i]=c then a::dZ c [] (s.drop (i+1))else dZ c (a++[s[i]]) (s.drop (i+1)):=by
 rw[c6 hi,dZ]
theorem UJ{s:List Nat}{j i:Nat}(a:j<=i)(hi:i<s.length):(s.drop j).take (i-j)++[s[i]]=(s.drop j).take (i+1-j):=by
 have e:i+1-j=(i-j)+1:=o_
 have h:i-j<(s.drop j).length:=by simp;omega
 rw[e,ez h];congr 2;rw[List.getElem_drop];congr 1;omega
theorem HF(s:List Nat)(c:Nat)(h:s.length<=1048576)(hc:c<256):aA prog 159 [.str s,.int .u8 c] (.seq ((bR c s).map .str)):=by
 refine aM nf (i_ func159) mix (by simp[f159]) ?_;simp[f159];refine lp (α:=Nat×Nat×List (List Nat)) (fun(i,j,out)=>⟨[(7,.p (.int .i64 i)),(6,.p (.int .i64 j)),(5,.sl 0 out.length 1 0 out.length),(1,.p (.int .u8 c)),(0,.p (.str s))],[.arr .grow out.length 1 (out.map fun x=>.p (.str x))]⟩)
  (fun(i,j,out)=>j<=i/\out.length<=i/\((i<=s.length/\out++dZ c ((s.drop j).take (i-j)) (s.drop i)=bR c s)\/(i=s.length+1/\out=bR c s))) (fun(i,_)=>s.length+1-i) (0,0,[]) (by simp[bR]) ?_
 rintro⟨i,j,out⟩ ⟨d,k,b⟩;dsimp only at d k b⊢;have f:=bY (i:=i) o_;rcases b with⟨b,a⟩|⟨b,a⟩
 ·have q1:(i:Int)<=(s.length:Int):=by omega
  by_cases hi:i<s.length
  ·have g:¬(i:Int)=(s.length:Int):=by omega
   rw[UB hi]at a;have l:=UJ d hi
   by_cases he:s[i]=c
   ·rw[if_pos he]at a;have e:((s[i]:Nat):Int)=(c:Int):=by rw[he]
    simp[q1,g,hi,e,f];refine⟨⟨o_,d⟩,by simp only[cM];omega,?_⟩;have m:(s.take i).drop j=(s.drop j).take (i-j):=by rw[List.drop_take]
    exact rd (i+1,i+1,out++[(s.drop j).take (i-j)]) ⟨by dsimp only;omega,by simp;omega,.inl ⟨hi,by simpa using a⟩⟩ (h1:=by dsimp only;omega) (hh:=by simp[m])
   ·rw[if_neg he,l]at a;have e:¬((s[i]:Nat):Int)=(c:Int):=by omega
    simp[q1,g,hi,e,f];exact rd (i+1,j,out) ⟨by dsimp only;omega,by dsimp only;omega,.inl ⟨hi,a⟩⟩ (h1:=by dsimp only;omega)
  ·have hi:i=s.length:=by omega
   subst hi;have g:(s.length:Int)<=(s.length:Int):=o_
   rw[gb,dZ,cx s_]at a;simp[f];refine⟨d,by simp only[cM];omega,?_⟩;exact rd (s.length+1,s.length+1,out++[s.drop j]) ⟨by dsimp only;omega,by simp;omega,.inr ⟨rfl,a⟩⟩ (h1:=by dsimp only;omega)
 ·subst b;have q1:¬((s.length:Int)+1<=(s.length:Int)):=by omega
  simp[q1,a]
theorem akR(v w:NV)(a:dG kQ v.q)(b:dG kQ w.q):aA prog 121 [fF v,fF w] (eF (v.dot w)):=by
 have c:=tP v.x w.x (gw a.1) (gw b.1);have d:=tP v.y w.y (gw a.2) (gw b.2);have e:=Es (v.x.mul w.x) (v.y.mul w.y) ((lQ a.1 b.1).mono (by decide)) ((lQ a.2 b.2).mono (by decide));refine aM nf (i_ func121) mix (by simp[f121]) ?_;rw[NV.dot];simp[f121,ad];refine e2 c ?_;simp[ad];refine e2 d ?_;simp[ad];refine e2 e ?_;simp[ad]
theorem UL(t:az)(a:0<=t.aX)(b:t.aX<=1000000):aA prog 102 [cz t] (eF (.width t.aX)):=by
 have f:=Di a b;have c:=xc (4*t.aX*t.aX) o_ o_;have d:be.wrap (4*t.aX)=4*t.aX:=aO _ o_ o_;have e:be.wrap (4*t.aX*t.aX)=4*t.aX*t.aX:=aO _ o_ o_;refine aM nf (i_ func102) mix (by simp[f102]) ?_;rw[NF.width];simp[f102,ad,d,e];refine c1 c ?_;simp[ad]
theorem aMa(a b:V2):(b.sub a).dot (b.sub a)=(a.sub b).dot (a.sub b):=by
 simp only[V2.sub,V2.dot]
 grind
theorem UN(t:az)(a b:NV)(d:0<=t.aX)(e:t.aX<=1000000)(f:dG 2000 a.q)(g:dG 2000 b.q):aA prog 207 [cz t,fF a,fF b] (.int .i64 (gq t.aX a.q b.q)):=by
 have c:=rT g f;rw[<-NV.oM]at c;have k1:=Bq b a (g.mono (by decide)) (f.mono (by decide));have k2:=akR (b.sub a) (b.sub a) (c.mono (by decide)) (c.mono (by decide));have k3:=UL t d e;have k4:=uq ((b.sub a).dot (b.sub a)) (.width t.aX) (by rw[NV.Q8];exact(Jv c c).mono (by decide)) ((Jx d e).mono (by decide));have hq:eU ((b.sub a).dot (b.sub a)).q (NF.width t.aX).q=gq t.aX a.q b.q:=by
  rw[gq,NV.Q8,NV.oM,aMa];rfl
 rw[hq]at k4;refine aM nf (i_ func207) mix (by simp[f207]) ?_;simp[f207,ad];refine c2 k1 ?_;simp[ad];refine e2 k2 ?_;simp[ad];refine e1 k3 ?_;simp[ad];refine e2 k4 ?_;simp[ad]
def uH(p:bD):Prop:=ki p/\dV p.pt=0
theorem ayj(t:az)(v:NV)(o:bD)(b:0<=t.aX)(c:t.aX<=1000000)(e:dG 2000 v.q)(d:uH o):
 bW prog 206 [.box false (.p (cz t)),.box false (.p (fF v))] [.p (aP o),.ptr 0 [],.ptr 1 []] [.box false (.p (cz t)),.box false (.p (fF v))] (.p (.bool (decide (gq t.aX (vP o.pt) v.q<0)))):=by
 obtain⟨⟨h,f⟩,a⟩:=d;obtain⟨g1,g2⟩:=ka a;obtain⟨_,ok⟩:=yg a;have k1:=EI o.pt g1 g2 f;have k2:=UN t (.from o.pt) v b c (by rw[Ab];exact ok) e;rw[Ab]at k2;generalize gq t.aX (vP o.pt) v.q=y at*;generalize NV.from o.pt=g at*;refine dU nf (i_ func206) mix (by simp[f206]) ?_;simp[f206,ad];refine e1_ k1 ?_;simp[ad];refine e3_ k2 ?_;simp[ad];exact bE.og s_ s_ s_ s_ s_
theorem Ur(t:az)(v:NV)(l:List bD)(h:l.length<=1000000)(a:0<=t.aX)(b:t.aX<=1000000)(d:dG 2000 v.q)(c:∀o∈l,uH o):
 bW prog 234 [.box false (.p (cz t)),.box false (.p (fF v))] [.p (.seq (l.map aP)),.func 206 [] [.ptr 0 [],.ptr 1 []]] [.box false (.p (cz t)),.box false (.p (fF v))] (.p (.int .i64 (idxFrom (fun o=>decide (gq t.aX (vP o.pt) v.q<0)) l 0))):=by
 refine dU nf (i_ func234) mix (by simp[f234]) ?_;simp[f234];refine lp (α:=Nat) (fun i=>⟨[(8,.p (.int .i64 i)),(7,.p (.int .i64 l.length)),(1,.func 206 [] [.ptr 0 [],.ptr 1 []]),(0,.p (.seq (l.map aP)))],[.box false (.p (cz t)),.box false (.p (fF v))]⟩) (fun i=>i<=l.length/\idxFrom (fun o=>decide (gq t.aX (vP o.pt) v.q<0)) l 0=idxFrom (fun o=>decide (gq t.aX (vP o.pt) v.q<0)) (l.drop i) i) (fun i=>l.length-i) 0 s_ ?_;rintro i ⟨k1,k2⟩;have e:=bY (i:=i) o_
 by_cases hi:i<l.length
 ·rw[c6 hi,idxFrom]at k2;simp[hi];refine cf (ayj t v l[i] a b d (c _ (eo hi))) [0,1] ?_
  by_cases hk:gq t.aX (vP l[i].pt) v.q<0
  ·simp[hk]at k2;simp[hk,k2,aW]
  ·simp[hk]at k2;simp[hk,e,aW];exact rd (i+1) ⟨hi,k2⟩
 ·have:i=l.length:=by omega
  subst this;simp[idxFrom]at k2;simp[k2]
theorem Uc(t:az)(v:NV)(l:List bD)(h:l.length<=1000000)(a:0<=t.aX)(b:t.aX<=1000000)(d:dG 2000 v.q)(c:∀o∈l,uH o):
 bW prog 163 [.box false (.p (cz t)),.box false (.p (fF v))] [.p (.seq (l.map aP)),.func 206 [] [.ptr 0 [],.ptr 1 []]] [.box false (.p (cz t)),.box false (.p (fF v))] (.p (.bool (l.any (fun o=>decide (gq t.aX (vP o.pt) v.q<0))))):=by
 refine dU nf (i_ func163) mix (by simp[f163]) ?_;simp[f163];refine cf (Ur t v l h a b d c) [0,1] ?_;have:=qB (fun o=>decide (gq t.aX (vP o.pt) v.q<0)) l 0;simp[aW,<-this]
theorem UM(t:az)(v:NV)(l:List bD)(h:l.length<=1000000)(a:0<=t.aX)(b:t.aX<=1000000)(d:dG 2000 v.q)(c:∀o∈l,uH o):
 aA prog 127 [cz t,.seq (l.map aP),fF v] (.bool (!l.any (fun o=>decide (gq t.aX (vP o.pt) v.q<0)))):=by
 have k1:=Uc t v l h a b d c;generalize (l.any (fun o=>decide (gq t.aX (vP o.pt) v.q<0)))=y at*;refine aM nf (i_ func127) mix (by simp[f127]) ?_;simp[f127,ad];refine cf k1 [0,1] ?_;simp[ad,aW]
theorem UH(p o:bD):bW prog 164 [.box false (.p (aP p))] [.p (aP o),.ptr 0 []] [.box false (.p (aP p))] (.p (.bool (decide (o.name=p.name)))):=by
 refine dU nf (i_ func164) mix (by simp[f164]) ?_
 by_cases h:o.name=p.name
 ·simp[f164,ad,h];exact bE.og s_ s_ s_ s_ s_
 ·simp[f164,ad,h];exact bE.og s_ s_ s_ s_ s_
theorem Uq(p:bD)(l:List bD)(h:l.length<=1000000):
 bW prog 234 [.box false (.p (aP p))] [.p (.seq (l.map aP)),.func 164 [] [.ptr 0 []]] [.box false (.p (aP p))] (.p (.int .i64 (idxFrom (fun o=>decide (o.name=p.name)) l 0))):=by
 refine dU nf (i_ func234) mix (by simp[f234]) ?_;simp[f234];refine lp (α:=Nat) (fun i=>⟨[(8,.p (.int .i64 i)),(7,.p (.int .i64 l.length)),(1,.func 164 [] [.ptr 0 []]),(0,.p (.seq (l.map aP)))],[.box false (.p (aP p))]⟩) (fun i=>i<=l.length/\idxFrom (fun o=>decide (o.name=p.name)) l 0=idxFrom (fun o=>decide (o.name=p.name)) (l.drop i) i) (fun i=>l.length-i) 0 s_ ?_;rintro i ⟨k1,k2⟩;have a:=bY (i:=i) o_
 by_cases hi:i<l.length
 ·rw[c6 hi,idxFrom]at k2;simp[hi];refine cf (UH p l[i]) [0] ?_
  by_cases hk:l[i].name=p.name
  ·simp[hk]at k2;simp[hk,k2,aW]
  ·simp[hk]at k2;simp[hk,a,aW];exact rd (i+1) ⟨hi,k2⟩
 ·have:i=l.length:=by omega
  subst this;simp[idxFrom]at k2;simp[k2]
theorem Ub(p:bD)(l:List bD)(h:l.length<=1000000):
 bW prog 163 [.box false (.p (aP p))] [.p (.seq (l.map aP)),.func 164 [] [.ptr 0 []]] [.box false (.p (aP p))] (.p (.bool (l.any (fun o=>decide (o.name=p.name))))):=by
 refine dU nf (i_ func163) mix (by simp[f163]) ?_;simp[f163];refine cf (Uq p l h) [0] ?_;have:=qB (fun o=>decide (o.name=p.name)) l 0;simp[aW,<-this]
def vi(r:Int)(a:List bD)(v:V2):Bool:=a.any (fun o=>decide (gq r (vP o.pt) v<0))
def Az(t:az)(a:List bD)(s:bD):Int:=bI [ba (decide (t.on (vP s.pt)<0)) 16,ba (a.any (fun o=>decide (gq t.aX (vP o.pt) (vP s.pt)<0))) 17]
theorem Ue(t:az)(a:List bD)(s:bD):iK t a s=if jH a s=0 then Az t a s else jH a s:=by
 rw[iK,jH,Az];generalize t.on (vP s.pt)=y;generalize dV s.pt=d;generalize (a.any fun o=>decide (o.name=s.name))=e;generalize (a.any fun o=>decide (gq t.aX (vP o.pt) (vP s.pt)<0))=f;generalize isName s.name=g;cases g
 ·simp[bI,ba]
 cases e
 case true=>simp[bI,ba]
 by_cases b:d=0
 case neg=>simp[bI,ba,b]
 by_cases c:y<0
 ·simp[bI,ba,b,c]
 cases f
 ·simp[bI,ba,b,c]
 ·simp[bI,ba,b,c]
theorem ayq(t:az)(s:bD)(a:List bD)(hl:t.cs.length<=1000000)(g:cB t=0)(hs:ki s)(f:a.length<=1000000)(u:∀o∈a,uH o):
 bW prog 162 [.box false (.p (cz t))] [.p (aP s),.p (.seq (a.map aP)),.ptr 0 []] [.box false (.p (cz t))] (.p (.int .i64 (iK t a s))):=by
 obtain⟨_,_,v,_⟩:=Bf g;obtain⟨I,r1⟩:=Bx g;obtain⟨C,k⟩:=hs;have k1:=Ub s a f;have k2:=Bl s.name C.1;have k3:=gQ (!isName s.name) 8;have k4:=gQ (a.any fun o=>decide (o.name=s.name)) 9;have k6:=B4 s.pt k;have k8:=nN [ba (!isName s.name) 8,ba (a.any fun o=>decide (o.name=s.name)) 9,dV s.pt] s_;have b:=Gx (bef:=a) (s:=s);rw[Ue];have w:=fun h:jH a s=0=>EI s.pt (ka (b h)).1 (ka (b h)).2 k;have i:=fun h:jH a s=0=>QV t (.from s.pt) hl v (B6 ⟨(gR (ka (b h)).1).mono (by decide),(gR (ka (b h)).2).mono (by decide)⟩);have x:=gQ (decide (t.on (vP s.pt)<0)) 16;have j:jH a s=0->aA prog 127 [cz t,.seq (a.map aP),fF (.from s.pt)] (.bool (!vi t.aX a (NV.from s.pt).q)):=fun h=>UM t (.from s.pt) a f o_ o_ (B6 ⟨gR (ka (b h)).1,gR (ka (b h)).2⟩) u;have z:=gQ (vi t.aX a (vP s.pt)) 17;have d:=nN [ba (decide (t.on (vP s.pt)<0)) 16,ba (vi t.aX a (vP s.pt)) 17] s_;simp only[Ab]at i j;have d1:jH a s=bI [ba (!isName s.name) 8,ba (a.any fun o=>decide (o.name=s.name)) 9,dV s.pt]:=rfl;have d2:Az t a s=bI [ba (decide (t.on (vP s.pt)<0)) 16,ba (vi t.aX a (vP s.pt)) 17]:=rfl;rw[<-d1]at k8;rw[<-d2]at d;clear d1 d2 b;generalize jH a s=e at*;generalize Az t a s=r at*;generalize vi t.aX a (vP s.pt)=m at*;generalize t.on (vP s.pt)=y at*;generalize dV s.pt=D at*;generalize (a.any fun o=>decide (o.name=s.name))=l at*;generalize isName s.name=n at*;generalize NV.from s.pt=v1 at*;refine dU nf (i_ func162) mix (by simp[f162]) ?_;have B:aA prog 56 [.seq [.int .i64 (ba (!n) 8),.int .i64 (ba l 9),.int .i64 D]] (.int .i64 e):=by simpa using k8
 have A:aA prog 56 [.seq [.int .i64 (ba (decide (y<0)) 16),.int .i64 (ba m 17)]] (.int .i64 r):=by simpa using d
 clear k8 d;generalize E:ba (!n) 8=J at*;generalize F:ba l 9=K at*;generalize G:ba (decide (y<0)) 16=L at*;generalize H:ba m 17=M at*;simp[f162,ad];refine cf k1 [1] ?_;simp[ad,aW,sig];refine e1_ k2 ?_;simp[ad];refine e2_ k3 ?_;simp[ad];refine e2_ k4 ?_;simp[ad];refine e1_ k6 ?_;simp[ad];refine ep B (by simp;first|exact⟨rfl,rfl⟩|rfl) (by simp;first|exact⟨rfl,rfl⟩|rfl) ?_;simp[ad];refine⟨by repeat' first|rfl|apply am,?_⟩
 by_cases c:e=0
 case neg=>
  simp[c,ad];exact bE.og s_ s_ s_ s_ s_
 simp[c,ad];refine c1_ (w c) ?_;simp[ad];refine e2_ (i c) ?_;simp[ad];refine e2_ x ?_;simp[ad];refine e3_ (j c) ?_;simp[ad];refine e2_ z ?_;simp[ad];refine ep A (by simp;first|exact⟨rfl,rfl⟩|rfl) (by simp;first|exact⟨rfl,rfl⟩|rfl) ?_;simp[ad];refine⟨by repeat' first|rfl|apply am,?_⟩;exact⟨fun h=>(h c).elim,bE.og s_ s_ s_ s_ s_⟩
theorem Lv(l:List bD):fk prog 3 (l.map (AV.p∘aP)):=zC (fun r=>⟨by simp[ad],by simp[ad]⟩) l
theorem ayJ(t b:az)(hl:t.cs.length<=1000000)(k:cB t=0)(c:nT b):
 bW prog 161 [.box false (.p (cz t))] [.p (.seq (b.aj.map aP)),.p (.int .i64 24),.func 162 [] [.ptr 0 []]] [.box false (.p (cz t))] (.p (.int .i64 (fW t b))):=by
 obtain⟨m,d⟩:=c;refine dU nf (i_ func161) mix (by simp[f161]) ?_;rw[fW]
 by_cases c1:24<b.aj.length
 ·have cI:(24:Int)<b.aj.length:=by omega
  rw[if_pos c1];simp[f161,cI]
 have e:¬(24:Int)<b.aj.length:=o_
 rw[if_neg c1];simp[f161,e];refine lp (α:=Nat) (fun i=>⟨[(16,.p (.int .i64 i)),(15,.p (.int .i64 b.aj.length)),(14,.p (.seq (b.aj.map aP))),(2,.func 162 [] [.ptr 0 []]),(0,.p (.seq (b.aj.map aP)))],[.box false (.p (cz t))]⟩) (fun i=>i<=b.aj.length/\∀j,j<i->fR (iK t) b.aj j=0) (fun i=>b.aj.length-i) 0 s_ ?_;rintro i ⟨k1,k2⟩
 by_cases hk:i<b.aj.length
 ·have gk:=az.fH hk;have l:=bY (i:=i) o_;have a:=ayq t (b.sp i) (b.aj.take i) hl k (d _ (cv gk)) (by rw[dl];omega) (fun o h=>by
   obtain⟨j,f,rfl⟩:=dp.1 h;rw[dl]at f;rw[en];have:=k2 j o_;have g:=az.fH (t:=b) (i:=j) o_;rw[fR,g]at this;rw[az.uN o_];exact⟨d _ (cv g),HI this⟩)
  rw[et]at a
  by_cases he:iK t (b.aj.take i) (b.sp i)=0
  ·rw[he]at a;have:=sN k2 gk he;simp[hk,gk,ad];refine⟨⟨k1,Lv _⟩,?_⟩;refine ef a [0] ?_;simp[l,ad,aW,sig];exact rd (i+1) ⟨hk,this⟩
  ·have c:=sO k2 gk he;rw[c];simp[hk,gk,ad];refine⟨⟨k1,Lv _⟩,?_⟩;refine ef a [0] ?_;simp[he,ad,aW,sig];exact bE.og s_ s_ s_ s_ s_
 ·have:i=b.aj.length:=by omega
  subst this;rw[l7.2 k2];simp
theorem Br(t b:az)(a:gF t)(c:nT b):aA prog 71 [cz t,.seq (b.aj.map aP)] (.int .i64 (iM t b)):=by
 have k1:=xJ t a;refine aM nf (i_ func71) mix (by simp[f71]) ?_;rw[iM]
 by_cases h:cB t=0
 ·rw[if_neg (by simp[h])];have k2:=ayJ t b a.cl h c;rw[h]at k1;simp[f71,ad];refine c1_ k1 ?_;simp[ad];refine cf k2 [0] ?_;simp[ad,aW]
 ·rw[if_pos h];generalize cB t=e at*;simp[f71,ad];refine c1_ k1 ?_;simp[h,ad]
def Rh(l:List bD)(n:List Nat):Option bD:=l.find? (fun s=>decide (s.name=n))
structure okL(b:az):Prop where
 sl:b.aj.length<=24
 sp:∀s∈b.aj,uH s
 ne:∀i,i<b.aj.length->Rh (b.aj.take i) (b.sp i).name=none
def hasB(b:az)(name:List Nat)(i:Nat):Prop:=nL b name=i/\i<b.aj.length/\Rh b.aj name=some (b.sp i)
structure Sq(t b:az)(EM EF:List Nat)(i j:Nat):Prop where
 sH:cB t=0
 tl:t.cs.length<=1000000
 L:okL b
 Z8:∀s∈b.aj,dG 60 (vP s.pt)
 ci:hasB b EM i
 bj:hasB b EF j
theorem Sq.at{t b:az}{EM EF:List Nat}{i j:Nat}(h:Sq t b EM EF i j){k:Nat}(hk:k<b.aj.length):eV (vP (b.sp k).pt)=fE (b.sp k).pt/\dG 60 (vP (b.sp k).pt):=by
 have m:=cv (az.fH hk);exact⟨(yg (h.L.sp _ m).2).1,h.Z8 _ m⟩
def qy(n:Nat)(l:List bD):Bool:=!((decide (n<l.length)&&decide (l.length<=24))||decide (26<l.length))&&l.all iG
theorem Hl(b:az)(n:Nat)(hl:b.aj.length<=1000000)(v:n<=1000):aA prog 18 [.seq (b.aj.map aP),.int .i64 n] (.bool (qy n b.aj)):=by
 refine aM nf (i_ func18) mix (by simp[f18]) ?_;have o:qy n b.aj=(!((decide (n<b.aj.length)&&decide (b.aj.length<=24))||decide (26<b.aj.length))&&b.aj.all iG):=rfl;have tail:(n<b.aj.length->¬b.aj.length<=24)->¬26<b.aj.length->qy n b.aj=b.aj.all iG:=fun d a=>by
  rw[o]
  by_cases h:n<b.aj.length
  ·have:=d h;simp[h,this,a]
  ·simp[h,a]
 have loop:(n<b.aj.length->¬b.aj.length<=24)->¬26<b.aj.length->∀i,i<b.aj.length->(iG (b.sp i)=false->qy n b.aj=false):=fun d a i hi h=>by
  rw[tail d a];exact jI (az.fH hi) h
 generalize qy n b.aj=R at*
 by_cases c1:n<b.aj.length/\b.aj.length<=24
 ·have w:(n:Int)<b.aj.length:=by omega
  have e:(b.aj.length:Int)<=24:=o_
  have l:R=false:=by rw[o];simp[c1]
  simp[f18,ad,c1.1,e,l]
 by_cases c2:26<b.aj.length
 ·have g:(26:Int)<b.aj.length:=by omega
  have e:¬(b.aj.length:Int)<=24:=o_
  have l:R=false:=by rw[o];simp[c2]
  by_cases c3:n<b.aj.length
  ·simp[f18,ad,c3,e,g,l]
  ·simp[f18,ad,c3,g,l]
 have g:¬(26:Int)<b.aj.length:=o_
 have tl:=tail (fun d a=>c1 ⟨d,a⟩) c2;have j:=loop (fun d a=>c1 ⟨d,a⟩) c2;clear tail loop o
 by_cases c3:n<b.aj.length
 all_goals
  have e:n<b.aj.length->¬(b.aj.length:Int)<=24:=fun h=>by omega
  first
  |(have e:=e c3;simp[f18,ad,c3,e,g])
  |simp[f18,ad,c3,g]
  refine lp (α:=Nat) (fun i=>⟨[(5,.p (.int .i64 i)),(0,.p (.seq (b.aj.map aP)))],[]⟩) (fun i=>i<=b.aj.length/\(b.aj.take i).all iG=true) (fun i=>b.aj.length-i) 0 s_ ?_;rintro i ⟨k1,k2⟩
  by_cases hi:i<b.aj.length
  ·have c:=az.fH hi;have u:=bY (i:=i) o_;have k:=mP (b.sp i).pt.x 40;have q:=mP (b.sp i).pt.y 40;have m:iG (b.sp i)=(decide ((b.sp i).name.length<=40)&&(decide ((b.sp i).pt.x.length<=40)&&decide ((b.sp i).pt.y.length<=40))):=rfl;have j:=j i hi
   by_cases t:(b.sp i).name.length<=40
   case neg=>
    have f:(40:Int)<(b.sp i).name.length:=o_
    have:=j (by rw[m];simp[t]);simp[hi,c,f,this,ad]
   have f:¬(40:Int)<(b.sp i).name.length:=o_
   by_cases a2:(b.sp i).pt.x.length<=40
   case neg=>
    have r:¬((b.sp i).pt.x.length:Int)<=40:=o_
    rw[decide_eq_false r]at k;have:=j (by rw[m];simp[a2]);simp[hi,c,f,ad];refine c2_ k ?_;simp[this,ad]
   have r:((b.sp i).pt.x.length:Int)<=40:=o_
   rw[decide_eq_true r]at k
   by_cases a3:(b.sp i).pt.y.length<=40
   case neg=>
    have s:¬((b.sp i).pt.y.length:Int)<=40:=o_
    rw[decide_eq_false s]at q;have:=j (by rw[m];simp[a3]);simp[hi,c,f,ad];refine c2_ k ?_;simp[hi,c,ad];refine c2_ q ?_;simp[this,ad]
   have s:((b.sp i).pt.y.length:Int)<=40:=o_
   rw[decide_eq_true s]at q;simp[hi,c,f,ad];refine c2_ k ?_;simp[hi,c,ad];refine c2_ q ?_;simp[u,ad];exact rd (i+1) ⟨hi,by rw[oZ c,k2,m];simp[t,a2,a3]⟩
  ·have:i=b.aj.length:=by omega
   subst this;rw[cy]at k2;rw[tl,k2];simp
def nH(p:gZ)(D:Nat):Bool:=fK p.x D&&fK p.y D
def AF(t b:az)(n D:Nat):Bool:=
 mS t&&(qy n b.aj&&(decide (b.aj.length<=n)&&(decide (iM t b=0)&&(decide (t.aj.length<=8)&&(t.aF.all (fun p=>fK p.a D&&fK p.b D)&&(t.aj.all (fun s=>nH s.pt D)&&b.aj.all (fun s=>nH s.pt D)))))))
theorem aeK(t b:az)(n D:Nat)(J:gF t)(H:nT b)(I:n<=1000)(N:D<=1000):aA prog 27 [cd t,.seq (b.aj.map aP),.int .i64 n,.int .i64 D] (.bool (AF t b n D)):=by
 obtain⟨C,E,F,A,B⟩:=J;obtain⟨G,z⟩:=H;have j:=GF t C E F;have l:=Hl b n G I;have M:=Hu t b ⟨C,E,F,A,B⟩ ⟨G,z⟩;refine aM nf (i_ func27) mix (by simp[f27]) ?_;rw[AF];generalize iM t b=e at*;cases v:mS t
 ·rw[v]at j;simp[f27,ad];refine c1_ j ?_;simp[ad]
 rw[v]at j;cases w:qy n b.aj
 ·rw[w]at l;simp[f27,ad];refine c1_ j ?_;simp[ad];refine c2_ l ?_;simp[ad]
 rw[w]at l;simp[f27,ad];refine c1_ j ?_;simp[ad];refine c2_ l ?_
 by_cases m:b.aj.length<=n
 case neg=>
  have r:n<b.aj.length:=o_
  simp[m,r,ad]
 have r:¬n<b.aj.length:=o_
 simp[m,r,ad];refine c2_ M ?_
 by_cases k:e=0
 case neg=>simp[k,ad]
 by_cases o:t.aj.length<=8
 case neg=>
  have u:(8:Int)<t.aj.length:=o_
  simp[k,o,u,ad]
 have u:¬(8:Int)<t.aj.length:=o_
 simp[k,o,u,ad];refine lp (α:=Nat) (fun i=>⟨[(9,.p (.int .i64 i)),(4,.ptr 0 []),(3,.p (.int .i64 D)),(1,.p (.seq (b.aj.map aP)))],[.box false (.p (cd t))]⟩) (fun i=>i<=t.aF.length/\(t.aF.take i).all (fun p=>fK p.a D&&fK p.b D)=true) (fun i=>t.aF.length-i) 0 s_ ?_;rintro i ⟨i1,i2⟩
 by_cases hi:i<t.aF.length
 ·have c:=az.jG hi;have g:=bY (i:=i) o_;obtain⟨_,K,L⟩:=A _ (cv c);have d:=Ay (t.pk i).a D K o_;have f2:=Ay (t.pk i).b D L o_;have bad:(fK (t.pk i).a D&&fK (t.pk i).b D)=false->t.aF.all (fun p=>fK p.a D&&fK p.b D)=false:=fun h=>jI c h;cases f:fK (t.pk i).a D
  ·rw[f]at d;rw[bad (by rw[f];rfl)];simp[hi,c,ad];refine c2_ d ?_;simp[ad]
  rw[f]at d;cases a2:fK (t.pk i).b D
  ·rw[a2]at f2;rw[bad (by rw[a2];simp)];simp[hi,c,ad];refine c2_ d ?_;simp[hi,c,ad];refine c2_ f2 ?_;simp[ad]
  rw[a2]at f2;simp[hi,c,ad];refine c2_ d ?_;simp[hi,c,ad];refine c2_ f2 ?_;simp[g,ad];exact rd (i+1) ⟨hi,by rw[oZ c,i2,f,a2];rfl⟩
 have:i=t.aF.length:=o_
 subst this;rw[cy]at i2;rw[i2];clear i1 i2 hi;simp[ad];refine lp (α:=Nat) (fun i=>⟨[(10,.p (.int .i64 i)),(4,.ptr 0 []),(3,.p (.int .i64 D)),(1,.p (.seq (b.aj.map aP)))],[.box false (.p (cd t))]⟩) (fun i=>i<=t.aj.length/\(t.aj.take i).all (fun s=>nH s.pt D)=true) (fun i=>t.aj.length-i) 0 s_ ?_;rintro i ⟨i1,i2⟩
 by_cases hi:i<t.aj.length
 ·have c:=az.fH hi;have g:=bY (i:=i) o_;have d:=Mr (t.sp i).pt D (B _ (cv c)).2 o_;have q:nH (t.sp i).pt D=(fK (t.sp i).pt.x D&&fK (t.sp i).pt.y D):=rfl;rw[<-q]at d;cases f:nH (t.sp i).pt D
  ·rw[f]at d;rw[jI c f];simp[hi,c,ad];refine c2_ d ?_;simp[ad]
  rw[f]at d;simp[hi,c,ad];refine c2_ d ?_;simp[g,ad];exact rd (i+1) ⟨hi,by rw[oZ c,i2,f];rfl⟩
 have:i=t.aj.length:=o_
 subst this;rw[cy]at i2;rw[i2];clear i1 i2 hi;simp[ad];refine lp (α:=Nat) (fun i=>⟨[(11,.p (.int .i64 i)),(3,.p (.int .i64 D)),(1,.p (.seq (b.aj.map aP)))],[]⟩) (fun i=>i<=b.aj.length/\(b.aj.take i).all (fun s=>nH s.pt D)=true) (fun i=>b.aj.length-i) 0 s_ ?_;rintro i ⟨i1,i2⟩
 by_cases hi:i<b.aj.length
 ·have c:=az.fH hi;have g:=bY (i:=i) o_;have d:=Mr (b.sp i).pt D (z _ (cv c)).2 o_;have q:nH (b.sp i).pt D=(fK (b.sp i).pt.x D&&fK (b.sp i).pt.y D):=rfl;rw[<-q]at d;cases f:nH (b.sp i).pt D
  ·rw[f]at d;rw[jI c f];simp[hi,c,ad];refine c2_ d ?_;simp[ad]
  rw[f]at d;simp[hi,c,ad];refine c2_ d ?_;simp[g,ad];exact rd (i+1) ⟨hi,by rw[oZ c,i2,f];rfl⟩
 have:i=b.aj.length:=o_
 subst this;rw[cy]at i2;rw[i2];simp[m,k,o,ad]
theorem Ht(b:az)(hl:b.aj.length<=1000000):aA prog 20 [.seq (b.aj.map aP)] (.seq (b.aj.map aP)):=by
 have f:(1000000:Nat)<cM:=by decide
 have g:be.wrap 1=1:=by decide
 refine aM nf (i_ func20) mix (by simp[f20]) ?_;simp[f20,ad];refine lp (α:=Nat) (fun i=>⟨[(8,.p (.int .i64 i)),(7,.p (.int .i64 b.aj.length)),(6,.p (.seq (b.aj.map aP))),(3,.sl 0 i 3 0 i)],[.arr .grow i 3 ((b.aj.map (AV.p∘aP)).take i)]⟩) (fun i=>i<=b.aj.length) (fun i=>b.aj.length-i) 0 s_ ?_;rintro i i1
 by_cases hi:i<b.aj.length
 ·have a:=az.fH hi;have e:=bY (i:=i) o_;have d:(b.aj.map (AV.p∘aP)).take (i+1)=(b.aj.map (AV.p∘aP)).take i++[.p (aP (b.sp i))]:=by
   rw[dg,fv,a];rfl
  have c:min i b.aj.length=i:=o_
  simp[hi,a,e,c,ad];exact⟨o_,rd (i+1) hi (hh:=by simp[d]) (hr2:=by simp[iJ])⟩
 ·have:i=b.aj.length:=by omega
  subst this;simp[ad]
def az.shr(t:az)(i:Nat)(v:V2):Rat:=((v.sub (kn (t.at i))).dot (t.lI i))/((t.lI i).dot (t.lI i))
def az.pv(t:az)(i:Nat):Nat:=(i+t.cs.length-1)% t.cs.length
theorem aK7{t:az}(h:cB t=0){j:Nat}(c:j<t.aF.length):gf t.cs.length (t.aF.take j) (t.pk j)=0:=by
 rw[xK]at h
 split at h
 case isFalse=>contradiction
 split at h
 case isFalse=>contradiction
 rename_i d b;rw[o7,oC]at b;have a:=b (jV 12 (gf t.cs.length) t.aF) s_;rw[jV]at a
 split at a
 ·cases a
 have:=l7.1 a j c
 rwa [fR,az.jG c]at this
theorem aLY{t:az}(h:cB t=0){j:Nat}(a:j<t.aj.length):hJ t (t.aj.take j) (t.sp j)=0:=by
 rw[xK]at h
 split at h
 case isFalse=>contradiction
 split at h
 case isFalse=>contradiction
 rw[jV]at h
 split at h
 ·cases h
 have:=l7.1 h j a
 rwa [fR,az.fH a]at this
@[simp] theorem aPD:aL aMX=.agg 81:=rfl
def A9:PV:=.st 162 [.int .i64 0,.aK]
def zTV:PV:=.st 166 [.st 164 [A9,A9],.st 164 [A9,A9]]
@[simp] theorem aPB:aL zTV=.agg 166:=rfl
def FT(v:V2):Nat->V2
 |0=>v
 |k+1=>⟨-(FT v k).y,(FT v k).x⟩
structure gE where
 sv:Bool
 qs:Int
 lI:dm
def Rc(m:gE):PV:=.st 65 [.bool m.sv,.int .i64 m.qs,bN m.lI]
@[simp] theorem aPi(m:gE):aL (Rc m)=.agg 65:=rfl
@[simp] theorem aN3(m:gE):cH (Rc m)=[.bool m.sv,.int .i64 m.qs,bN m.lI]:=rfl
def gE.n(m:gE):Nat:=((m.qs.tmod 4+4).tmod 4).toNat
def A1(p:dm):Nat->dm
 |0=>p
 |k+1=>⟨-(A1 p k).y,(A1 p k).x⟩
def gE.Sk(m:gE)(p:dm):dm:=if m.sv then⟨-p.x,p.y⟩else p
def gE.pt(m:gE)(p:dm):dm:=⟨(A1 (m.Sk p) m.n).x+m.lI.x,(A1 (m.Sk p) m.n).y+m.lI.y⟩
def gE.aKn(m:gE)(v:V2):V2:=if m.sv then⟨-v.x,v.y⟩else v
def gE.pl(m:gE)(v:V2):V2:=(FT (m.aKn v) m.n).add (kn m.lI)
def gE.sp(m:gE)(s:bD):bD:=⟨s.name,plV (m.pl (vP s.pt))⟩
def aLC(n:Nat)(p:dy):dy:=⟨p.name,n-1-p.dh,bC (1-aZ p.b),bC (1-aZ p.a)⟩
def gE.src(m:gE)(n i:Nat):Nat:=if m.sv then(if i=0 then 0 else n-i)else i
def gE.cs(m:gE)(t:az):List dm:=(eq t.cs.length).map (fun i=>m.pt (t.at (m.src t.cs.length i)))
def gE.aF(m:gE)(t:az):List dy:=if m.sv then t.aF.map (aLC t.cs.length)else t.aF
def aKj(a b:dm):Bool:=decide (a.x<b.x)||(decide (a.x=b.x)&&decide (a.y<b.y))
def az.bJ(t:az):Nat->Nat
 |0=>0
 |i+1=>if aKj (t.at i) (t.at (t.bJ i))=true then i else t.bJ i
def az.L(t:az):Nat:=t.bJ t.cs.length
theorem aK8{t:az}(h:cB t=0):t.aF.length<=12/\t.aj.length<=256:=by
 rw[cB]at h
 split at h
 ·cases h
 split at h
 ·cases h
 split at h
 ·cases h
 split at h
 ·cases h
 split at h
 ·cases h
 split at h
 ·cases h
 rename_i b
 split at h
 ·rename_i a;exact absurd h a
 split at h
 ·cases h
 ·omega
theorem QT(t:az)(v:t.aF.length<=1000000)(w:t.aj.length<=1000000):aA prog 17 [cz t] (cd t):=by
 have u:(1000000:Nat)<cM:=by decide
 have o:be.wrap 1=1:=by decide
 rw[show cz t=.st 35 [.seq (t.cs.map bN),.int .i64 t.aX,.seq (t.aF.map cG),.seq (t.aj.map aP)]from rfl];refine aM nf (i_ func17) mix (by simp[f17]) ?_;simp[f17,ad];refine lp (α:=Nat) (fun i=>match i with
  |0=>⟨[(16,.p (.int .i64 0)),(15,.p (.int .i64 t.aF.length)),(14,.p (.seq (t.aF.map cG))),(3,.ptr 2 []),(2,.ptr 1 []),(1,.ptr 0 [])],[.box false (.p (.st 35 [.seq (t.cs.map bN),.int .i64 t.aX,.seq (t.aF.map cG),.seq (t.aj.map aP)])),.box false (.p (.st 25 [.aK,.int .i64 0,.aK,.aK])),.box false (.p (.st 25 [.seq (t.cs.map bN),.int .i64 t.aX,.aK,.aK]))]⟩
  |m+1=>⟨[(16,.p (.int .i64 ((m+1:Nat):Int))),(15,.p (.int .i64 t.aF.length)),(14,.p (.seq (t.aF.map cG))),(3,.ptr 2 []),(2,.ptr 1 []),(1,.ptr 0 [])],[.box false (.p (.st 35 [.seq (t.cs.map bN),.int .i64 t.aX,.seq (t.aF.map cG),.seq (t.aj.map aP)])),.box false (.p (.st 25 [.aK,.int .i64 0,.aK,.aK])),.box false (.st 25 [.p (.seq (t.cs.map bN)),.p (.int .i64 t.aX),.sl 5 m 4 0 (m+1),.p .aK]),.hole,.hole,.arr .grow m 4 ((t.aF.take (m+1)).map (AV.p∘cG))]⟩) (fun i=>i<=t.aF.length) (fun i=>t.aF.length-i) 0 s_ ?_
 rintro i r
 by_cases hi:i<t.aF.length
 ·have a:=az.jG hi;rcases i with _|j
  ·have b:=nP a;simp[hi,a,o,ad];exact⟨o_,rd 1 hi (hh:=by simp[b]) (hr2:=by simp[iJ])⟩
  ·have h:be.wrap ((j:Int)+1+1)=(j:Int)+1+1:=aO _ o_ o_;have hI:(j:Int)+1<t.aF.length:=by omega
   have b:=nO (f:=AV.p∘cG) a;simp[hi,hI,a,h,ad];exact⟨o_,⟨o_,o_⟩,rd (j+2) hi (hh:=by simp at b;simp[b]) (hr2:=by simp[iJ])⟩
 have s:i=t.aF.length:=o_
 rcases i with _|j
 ·have k:t.aF=[]:=cN.1 s.symm;simp[k,ad];refine lp (α:=Nat) (fun i=>match i with
    |0=>⟨[(30,.p (.int .i64 0)),(29,.p (.int .i64 t.aj.length)),(28,.p (.seq (t.aj.map aP))),(3,.ptr 2 []),(2,.ptr 1 [])],[.box false (.p (.st 35 [.seq (t.cs.map bN),.int .i64 t.aX,.seq (t.aF.map cG),.seq (t.aj.map aP)])),.box false (.p (.st 25 [.aK,.int .i64 0,.aK,.aK])),.box false (.p (.st 25 [.seq (t.cs.map bN),.int .i64 t.aX,.aK,.aK]))]⟩
    |m+1=>⟨[(30,.p (.int .i64 ((m+1:Nat):Int))),(29,.p (.int .i64 t.aj.length)),(28,.p (.seq (t.aj.map aP))),(3,.ptr 2 []),(2,.ptr 1 [])],[.box false (.p (.st 35 [.seq (t.cs.map bN),.int .i64 t.aX,.seq (t.aF.map cG),.seq (t.aj.map aP)])),.box false (.p (.st 25 [.aK,.int .i64 0,.aK,.aK])),.box false (.st 25 [.p (.seq (t.cs.map bN)),.p (.int .i64 t.aX),.p .aK,.sl 5 m 3 0 (m+1)]),.hole,.hole,.arr .grow m 3 ((t.aj.take (m+1)).map (AV.p∘aP))]⟩) (fun i=>i<=t.aj.length) (fun i=>t.aj.length-i) 0 s_ ?_ (hh:=by simp[k])
  rintro i r
  by_cases hi:i<t.aj.length
  ·have a:=az.fH hi;rcases i with _|q
   ·have b:=nP a;simp[hi,a,o,ad];exact⟨o_,rd 1 hi (hh:=by simp[b]) (hr2:=by simp[iJ])⟩
   ·have h:be.wrap ((q:Int)+1+1)=(q:Int)+1+1:=aO _ o_ o_;have hI:(q:Int)+1<t.aj.length:=by omega
    have b:=nO (f:=AV.p∘aP) a;simp[hi,hI,a,h,ad];exact⟨o_,⟨o_,o_⟩,rd (q+2) hi (hh:=by simp at b;simp[b]) (hr2:=by simp[iJ])⟩
  have d:i=t.aj.length:=o_
  rcases i with _|c
  ·have e:t.aj=[]:=cN.1 d.symm;simp[e,ad]
   skip
   simp[cd,k,e]
   skip
  ·have hI:¬((c:Int)+1<t.aj.length):=by omega
   have g:t.aj.take (c+1)=t.aj:=by rw[d,cy]
   simp[hI,g,ad]
   skip
   have n:(t.aj.map (AV.p∘aP)).take (c+1)=t.aj.map (AV.p∘aP):=cx (by simp;omega);simp[cd,k,n];omega
 ·have hI:¬((j:Int)+1<t.aF.length):=by omega
  have g:t.aF.take (j+1)=t.aF:=by rw[s,cy]
  simp[hI,g,ad];refine lp (α:=Nat) (fun i=>match i with
   |0=>⟨[(30,.p (.int .i64 0)),(29,.p (.int .i64 t.aj.length)),(28,.p (.seq (t.aj.map aP))),(3,.ptr 2 []),(2,.ptr 1 [])],[.box false (.p (.st 35 [.seq (t.cs.map bN),.int .i64 t.aX,.seq (t.aF.map cG),.seq (t.aj.map aP)])),.box false (.p (.st 25 [.aK,.int .i64 0,.aK,.aK])),.box false (.st 25 [.p (.seq (t.cs.map bN)),.p (.int .i64 t.aX),.sl 5 j 4 0 (j+1),.p .aK]),.hole,.hole,.arr .grow j 4 (t.aF.map (AV.p∘cG))]⟩
   |m+1=>⟨[(30,.p (.int .i64 ((m+1:Nat):Int))),(29,.p (.int .i64 t.aj.length)),(28,.p (.seq (t.aj.map aP))),(3,.ptr 2 []),(2,.ptr 1 [])],[.box false (.p (.st 35 [.seq (t.cs.map bN),.int .i64 t.aX,.seq (t.aF.map cG),.seq (t.aj.map aP)])),.box false (.p (.st 25 [.aK,.int .i64 0,.aK,.aK])),.box false (.st 25 [.p (.seq (t.cs.map bN)),.p (.int .i64 t.aX),.sl 5 j 4 0 (j+1),.sl 8 m 3 0 (m+1)]),.hole,.hole,.arr .grow j 4 (t.aF.map (AV.p∘cG)),.hole,.hole,.arr .grow m 3 ((t.aj.take (m+1)).map (AV.p∘aP))]⟩) (fun i=>i<=t.aj.length) (fun i=>t.aj.length-i) 0 s_ ?_
  rintro i r
  by_cases hi:i<t.aj.length
  ·have a:=az.fH hi;rcases i with _|q
   ·have b:=nP a;simp[hi,a,o,ad];exact⟨o_,rd 1 hi (hh:=by simp[b]) (hr2:=by simp[iJ])⟩
   ·have h:be.wrap ((q:Int)+1+1)=(q:Int)+1+1:=aO _ o_ o_;have hI:(q:Int)+1<t.aj.length:=by omega
    have b:=nO (f:=AV.p∘aP) a;simp[hi,hI,a,h,ad];exact⟨o_,⟨o_,o_⟩,rd (q+2) hi (hh:=by simp at b;simp[b]) (hr2:=by simp[iJ])⟩
  have d:i=t.aj.length:=o_
  rcases i with _|c
  ·have e:t.aj=[]:=cN.1 d.symm;simp[e,ad];have l:(t.aF.map (AV.p∘cG)).take (j+1)=t.aF.map (AV.p∘cG):=cx (by simp;omega);simp[cd,l,e];omega
  ·have hI:¬((c:Int)+1<t.aj.length):=by omega
   have g:t.aj.take (c+1)=t.aj:=by rw[d,cy]
   simp[hI,g,ad];have l:(t.aF.map (AV.p∘cG)).take (j+1)=t.aF.map (AV.p∘cG):=cx (by simp;omega);have n:(t.aj.map (AV.p∘aP)).take (c+1)=t.aj.map (AV.p∘aP):=cx (by simp;omega);simp[cd,l,n];omega
@[simp] theorem aNE:nG prog 88=true:=k_
@[simp] theorem aNG:nG prog 97=true:=k_
@[simp] theorem aND:nG prog 85=true:=k_
@[simp] theorem aNF:nG prog 64=true:=k_
theorem aLV:prog.stoodInHeld 88=false:=k_
theorem aLX:prog.stoodInHeld 97=false:=k_
theorem aLU:prog.stoodInHeld 85=false:=k_
theorem aLW:prog.stoodInHeld 64=false:=k_
@[simp] theorem aNJ{a b:Int}:fy prog 9 64 (.st 63 [.int .i64 a,.int .i64 b]) (.st 63 [.int .i64 a,.int .i64 b])=some true:=by
 have c:=underlying64;simp[fy,c,aLW,iB,aL]
@[simp] theorem aNI{a c d:List Nat}{b:Int}:fy prog 9 88 (.st 87 [.str a,.int .i64 b,.str c,.str d]) (.st 87 [.str a,.int .i64 b,.str c,.str d])=some true:=by
 have e:=underlying88;simp[fy,e,aLV,iB,aL]
theorem Re{a b:List Nat}:fy prog 8 82 (.st 81 [.str a,.str b]) (.st 81 [.str a,.str b])=some true:=by
 have c:=underlying82;simp[fy,c,Yq,iB,aL]
theorem Rf{a:List Nat}:fy prog 8 9 (.str a) (.str a)=some true:=by
 simp[fy]
@[simp] theorem aNK{a b c:List Nat}:fy prog 9 97 (.st 84 [.str a,.st 81 [.str b,.str c]]) (.st 84 [.str a,.st 81 [.str b,.str c]])=some true:=by
 have d:=underlying97;rw[fy.eq_def];simp[d,aLX,iB,aL,Re,Rf]
@[simp] theorem aNH{a b c:List Nat}:fy prog 9 85 (.st 84 [.str a,.st 81 [.str b,.str c]]) (.st 84 [.str a,.st 81 [.str b,.str c]])=some true:=by
 have d:=underlying85;rw[fy.eq_def];simp[d,aLU,iB,aL,Re,Rf]
theorem BE(l:List bD)(hl:l.length<=1000000):aA prog 25 [.seq (l.map aP),.seq (l.map aP)] (.bool true):=by
 refine aM nf (i_ func25) mix (by simp[f25]) ?_;simp[f25,ad];refine lp (α:=Nat) (fun i=>⟨[(5,.p (.int .i64 i)),(1,.p (.seq (l.map aP))),(0,.p (.seq (l.map aP)))],[]⟩) (fun i=>i<=l.length) (fun i=>l.length-i) 0 s_ ?_;rintro i i1
 by_cases hi:i<l.length
 ·obtain⟨x,d⟩:∃x,l[i]?=some x:=⟨_,cE hi⟩
  have hx:l[i]=x:=by rw[cE hi]at d;injection d
  have e:=bY (i:=i) o_;obtain⟨a,b,c⟩:=x;simp[hi,d,hx,e,ad,aP,fE];exact rd (i+1) hi
 ·have:i=l.length:=by omega
  subst this;simp[ad]
theorem Ju(t:az)(g:t.cs.length<=1000000)(h:t.aF.length<=1000000)(j:t.aj.length<=1000000):aA prog 16 [cd t,cd t] (.bool true):=by
 refine aM nf (i_ func16) mix (by simp[f16]) ?_;simp[f16,ad];refine lp (α:=Nat) (fun i=>⟨[(5,.p (.int .i64 i)),(3,.ptr 1 []),(2,.ptr 0 [])],[.box false (.p (cd t)),.box false (.p (cd t))]⟩) (fun i=>i<=t.cs.length) (fun i=>t.cs.length-i) 0 s_ ?_;rintro i i1
 by_cases hi:i<t.cs.length
 ·have e:=az.get hi;have f:=bY (i:=i) o_;generalize t.at i=x at*;obtain⟨a,b⟩:=x;simp[hi,e,f,ad,bN];exact rd (i+1) hi
 obtain rfl:i=t.cs.length:=o_
 simp[ad];refine lp (α:=Nat) (fun i=>⟨[(6,.p (.int .i64 i)),(3,.ptr 1 []),(2,.ptr 0 [])],[.box false (.p (cd t)),.box false (.p (cd t))]⟩) (fun i=>i<=t.aF.length) (fun i=>t.aF.length-i) 0 s_ ?_;rintro i i1
 by_cases hi:i<t.aF.length
 ·have e:=az.jG hi;have f:=bY (i:=i) o_;generalize t.pk i=x at*;obtain⟨a,b,c,d⟩:=x;simp[hi,e,f,ad,cG];exact rd (i+1) hi
 obtain rfl:i=t.aF.length:=o_
 simp[ad];refine lp (α:=Nat) (fun i=>⟨[(7,.p (.int .i64 i)),(3,.ptr 1 []),(2,.ptr 0 [])],[.box false (.p (cd t)),.box false (.p (cd t))]⟩) (fun i=>i<=t.aj.length) (fun i=>t.aj.length-i) 0 s_ ?_;rintro i i1
 by_cases hi:i<t.aj.length
 ·have e:=az.fH hi;have f:=bY (i:=i) o_;generalize t.sp i=x at*;obtain⟨a,b,c⟩:=x;simp[hi,e,f,ad,aP,fE];exact rd (i+1) hi
 obtain rfl:i=t.aj.length:=o_
 simp[ad]
def zT:az:=⟨[],0,[],[]⟩
def hl(J:Heap):Nat:=J.length
def uC(J r:Heap):Heap:=J++r
@[simp] theorem aOg:hl []=0:=rfl
def az.vc(t:az)(j:Nat):V2:=(kn (t.at j)).sub (kn (t.at 0))
def az.lf(t:az)(u:V2)(i j:Nat):Rat:=(t.vc j).iI u-(t.vc i).iI u+(t.vc i).iI (t.vc j)
theorem Ut{t:az}(h:cB t=0):3<=t.cs.length/\t.cs.length<=12/\(∀p∈t.cs,fA p=false)/\t.ga=true/\1<=t.aX/\t.aX<=1000:=by
 obtain⟨a,b,_,c⟩:=Bf h;obtain⟨r1,r2⟩:=Bx h;refine⟨a,b,?_,c,r1,r2⟩;rw[cB]at h
 split at h
 ·cases h
 split at h
 ·cases h
 split at h
 ·cases h
 rename_i q;intro p d;cases hq:fA p
 ·rfl
 ·exact absurd (cR.2 ⟨p,d,hq⟩) q
def gE.em(m:gE)(n i:Nat):Nat:=if m.sv then n-1-i else i
theorem Um{n:Nat}{c:List dy}{p:dy}:gf n c p=0↔isName p.name=true/\(∀o∈c,o.name≠p.name)/\0<=p.dh/\p.dh<n/\bM p.a=0/\bM p.b=0/\dQ (aZ p.a)=0/\dQ (aZ p.b)=0/\¬0<eU (aZ p.a) (aZ p.b)/\(∀o∈c,gd o p=false):=by
 rw[gf];have m:=xH (aZ p.a);have q:=xH (aZ p.b)
 by_cases c1:isName p.name=false
 ·simp[c1]
 rw[if_neg c1]
 by_cases c2:(c.any fun o=>decide (o.name=p.name))=true
 ·rw[if_pos c2];rw[cR]at c2;obtain⟨o,d,g⟩:=c2;constructor
  ·intro h;cases h
  ·intro h;exact absurd (of_decide_eq_true g) (h.2.1 o d)
 rw[if_neg c2];have k:∀o∈c,o.name≠p.name:=fun o d e=>c2 (cR.2 ⟨o,d,decide_eq_true e⟩)
 by_cases c3:p.dh<0\/(n:Int)<=p.dh
 ·rw[if_pos c3];constructor
  ·intro h;cases h
  ·intro h;omega
 rw[if_neg c3]
 by_cases c4:bM p.a=0
 case neg=>simp[c4]
 by_cases c5:bM p.b=0
 case neg=>simp[c4,c5]
 simp only[c4,c5,ne_eq,not_true_eq_false,if_false]
 by_cases i:dQ (aZ p.a)=0
 case neg=>
  have:max (dQ (aZ p.a)) (dQ (aZ p.b))=3:=o_
  simp[this,i]
 by_cases j:dQ (aZ p.b)=0
 case neg=>
  have:max (dQ (aZ p.a)) (dQ (aZ p.b))=3:=o_
  simp[this,j]
 have:max (dQ (aZ p.a)) (dQ (aZ p.b))=0:=o_
 simp only[this,not_true_eq_false,if_false]
 by_cases f:0<eU (aZ p.a) (aZ p.b)
 ·rw[if_pos f];constructor
  ·intro h;cases h
  ·intro h;exact absurd f h.2.2.2.2.2.2.2.2.1
 rw[if_neg f]
 by_cases c9:(c.any fun o=>gd o p)=true
 ·rw[if_pos c9];rw[cR]at c9;obtain⟨o,d,g⟩:=c9;constructor
  ·intro h;cases h
  ·intro h;have:=h.2.2.2.2.2.2.2.2.2 o d;rw[this]at g;cases g
 rw[if_neg c9];have l:∀o∈c,gd o p=false:=fun o d=>by
  cases e:gd o p
  ·rfl
  ·exact absurd (cR.2 ⟨o,d,e⟩) c9
 exact⟨fun _=>⟨by simpa using c1,k,o_,o_,trivial,trivial,i,j,f,l⟩,fun _=>rfl⟩
theorem UC{t:az}{a:List bD}{s:bD}:hJ t a s=0↔isName s.name=true/\(∀o∈a,o.name≠s.name)/\dV s.pt=0/\0<=t.on (vP s.pt):=by
 rw[hJ]
 by_cases c1:isName s.name=false
 ·simp[c1]
 rw[if_neg c1]
 by_cases c2:(a.any fun o=>decide (o.name=s.name))=true
 ·rw[if_pos c2];rw[cR]at c2;obtain⟨o,b,d⟩:=c2;constructor
  ·intro h;cases h
  ·intro h;exact absurd (of_decide_eq_true d) (h.2.1 o b)
 rw[if_neg c2];have c:∀o∈a,o.name≠s.name:=fun o b e=>c2 (cR.2 ⟨o,b,decide_eq_true e⟩)
 by_cases c3:dV s.pt=0
 case neg=>simp[c3]
 simp only[c3,ne_eq,not_true_eq_false,if_false]
 by_cases c4:t.on (vP s.pt)<0
 ·rw[if_pos c4];constructor
  ·intro h;cases h
  ·intro h;omega
 ·rw[if_neg c4];exact⟨fun _=>⟨by simpa using c1,c,trivial,o_⟩,fun _=>rfl⟩
theorem arD{t:az}:cB t=0↔3<=t.cs.length/\t.cs.length<=12/\(∀p∈t.cs,fA p=false)/\t.ga=true/\1<=t.aX/\t.aX<=1000/\t.aF.length<=12/\(∀j p,t.aF[j]?=some p->gf t.cs.length (t.aF.take j) p=0)/\t.aj.length<=256/\(∀j s,t.aj[j]?=some s->hJ t (t.aj.take j) s=0):=by
 constructor
 ·intro h;obtain⟨a,b,c,d,e,f⟩:=Ut h;obtain⟨g,i⟩:=aK8 h;refine⟨a,b,c,d,e,f,g,?_,i,?_⟩
  ·intro j p m;obtain⟨l,rfl⟩:=da.1 m;rw[az.FO l];exact aK7 h l
  ·intro j s hs;obtain⟨l,rfl⟩:=da.1 hs;rw[az.uN l];exact aLY h l
 ·rintro⟨a,b,c,d,e,f,g,h,i,k⟩;have n:jJ (gf t.cs.length) t.aF=0:=by
   rw[l7];intro j l;rw[fR,cE l];exact h j _ (cE l)
  have o:jJ (hJ t) t.aj=0:=by
   rw[l7];intro j l;rw[fR,cE l];exact k j _ (cE l)
  have q:¬t.cs.any fA=true:=fun h=>by
   rw[cR]at h;obtain⟨p,m,hf⟩:=h;rw[c p m]at hf;cases hf
  rw[cB,if_neg o_,if_neg o_,if_neg q,if_neg (by rw[d];simp),if_neg o_,if_neg o_,if_neg (by rw[n];simp),if_neg o_,o]
def AO(neg:Bool)(d:List Nat):Int×Bool:=if dx d=true/\d.length<=9/\¬(neg=true/\d=[48])then(if neg=true then -(aY d:Int)else aY d,true)else(0,false)
def cr(s:List Nat):Int×Bool:=AO (bQ s) (bS s)
theorem BL{c:Nat}(h:b9 c=true):48<=c/\c<=57:=by
 simp only[b9,ap,decide_eq_true_eq]at h;exact h
theorem aME{d:List Nat}(h:d.all b9=true)(a:d.length<=9):aY d<1000000000:=by
 have:=jL _ d rfl h;have b:10^d.length<=10^9:=gy o_ a;omega
theorem UT{d:List Nat}(h:d.all b9=true)(b:d≠[])(c:d.length<=9):bl ((45::d).map hn)=.ok (-(aY d:Int)):=by
 have g:=aME h c;have a:=Dn d 0 h (by change aY d<_;omega);change Lib.parseUint10 0 _=.ok (aY d)at a;have e:(hn 45).toNat=45:=rfl;have f:d.map hn≠[]:=by simpa using b
 rw[c8,bl];simp only[e];simp only[or_true,if_true];rw[Lib.parseMag,if_neg f,a];dsimp only;rw[if_neg s_,if_neg o_]
theorem BM{s:List Nat}(h:(cr s).2=true):dx (bS s)=true/\(bS s).length<=9/\¬(bQ s=true/\bS s=[48])/\(cr s).1=if bQ s=true then -(aY (bS s):Int)else aY (bS s):=by
 rw[cr,AO]at h⊢
 split at h
 ·rename_i hc;rw[if_pos hc];exact⟨hc.1,hc.2.1,hc.2.2,rfl⟩
 ·cases h
theorem yc{s:List Nat}(h:bQ s=true):s=45::bS s:=by
 simp only[bQ,decide_eq_true_eq]at h;obtain⟨q,rfl⟩:=List.head?_eq_some_iff.1 h;simp[bS,bQ]
theorem xW{s:List Nat}(h:(cr s).2=true):bl (s.map hn)=.ok (cr s).1:=by
 obtain⟨c,f,_,g⟩:=BM h;have d:=jk c;have b:bS s≠[]:=by intro e;rw[e]at c;simp[dx]at c
 rw[g]
 by_cases a:bQ s=true
 ·rw[if_pos a];have e:=yc a;have:=UT d b f;rw[<-e]at this;exact this
 ·rw[if_neg a];have e:bS s=s:=by rw[bS,if_neg a]
  rw[e]at d b f⊢;exact O6 d b o_
theorem Ig{v:Int}{s:List Nat}(h:bn v=s)(a:(bS s).length<=9):cr s=(v,true):=by
 rw[bn]at h
 by_cases f:v<0
 ·rw[if_pos f]at h;have d:bQ s=true:=by rw[<-h];simp[bQ]
  have c:bS s=bd v.natAbs:=by rw[bS,if_pos d,<-h];rfl
  rw[c]at a;rw[cr,d,c,AO,if_pos ⟨uW _,a,fun⟨_,e⟩=>by
   have:=pT v.natAbs;rw[e]at this;simp[aY]at this;omega⟩,if_pos rfl,pT]
  congr 1;omega
 ·rw[if_neg f]at h;have b:=zm (uW v.natAbs);rw[h]at b;rw[b.2,<-h]at a;rw[cr,b.1,b.2,<-h,AO,if_pos ⟨uW _,a,fun⟨e,_⟩=>by cases e⟩,if_neg s_,pT];congr 1;omega
theorem u6{s:List Nat}(h:(cr s).2=true):bn (cr s).1=s:=by
 obtain⟨b,g,d,f⟩:=BM h;rw[f]
 by_cases a:bQ s=true
 ·rw[if_pos a];have c:bS s≠[48]:=fun e=>d ⟨a,e⟩;have:=vT b c;rw[Ie this,rH b];exact(yc a).symm
 ·rw[if_neg a,tj,rH b,bS,if_neg a]
def fX(s:List Nat):Int:=match bl (s.map hn)with
 | .ok v=>v
 | .range=>b0 (s.map hn)
 |_=>0
theorem xX{s:List Nat}(h:(cr s).2=true):fX s=(cr s).1:=by
 rw[fX,xW h]
theorem aKq:dF prog 120 true (.p .gl)=some .iface:=k_
theorem Ud(s:List Nat)(h:s.length<=1048576)(v:Int)(b:bl (s.map hn)=.ok v):aA prog 226 [.str s] (.aE [.int .i64 (fX s),.bool (cr s).2]):=by
 have g:=Lib.atoiAll_bounds b;have e:fX s=v:=by rw[fX,b]
 rw[e];refine aM nf (i_ func226) mix (by simp[f226]) ?_;simp[f226];refine c1 (B0 s v b o_) ?_;simp[aKq,cZ];refine c2 (Dt s) ?_
 by_cases k9:(bS s).length<=9
 ·have d:((bS s).length:Int)<=9:=by omega
  simp[k9,d];refine c1 (qD v g.1 g.2) ?_
  by_cases c:bn v=s
  ·have hi:=Ig c k9;simp[c,hi]
  ·have hi:(cr s).2=false:=by
    cases hq:(cr s).2
    ·rfl
    ·have a:=xW hq;rw[b]at a;injection a with a
     have f:=u6 hq;rw[<-a]at f;exact(c f).elim
   simp[c,hi]
 ·have d:¬((bS s).length:Int)<=9:=by omega
  have hi:(cr s).2=false:=by
   cases hq:(cr s).2
   ·rfl
   ·exact(k9 (BM hq).2.1).elim
  simp[k9,d,hi]
theorem H8{w:a1}{aa:Nat->Prop}{g:Nat}(a:mr prog w aa)(h:Gl.uF g=true):∃te pe,w.cell? ⟨g,0,none⟩=some (.iface te pe):=by
 obtain⟨_,te,pe,T,b⟩:=a.uF g h;exact⟨te,pe,by simp[World.cell?,b]⟩
theorem Ho(bs:ByteArray)(n:Int)(w:a1)(te:TypeId)(Q:a1->Prop)(hc:a7 prog 263 #[.string bs] w fun e w'=>∃N,e= .returned (.tuple #[.int .i64 n,.iface te (.pointer (some ⟨N,0,none⟩))])/\Q w'):
 a7 prog 226 #[.string bs] w fun e w'=>e=.returned (.tuple #[.int .i64 n,.bool false])/\Q w':=by
 go_enter func226,ntmps226
 go_wp2_with (go_at_fn 263)
 refine hc.mono ?_;rintro e w' ⟨N,rfl,a⟩
 go_wp2
 go_ret2
 exact⟨rfl,a⟩
theorem yb(s:List Nat)(h:s.length<=1048576):aA prog 226 [.str s] (.aE [.int .i64 (fX s),.bool (cr s).2]):=by
 rcases b:bl (s.map hn)with v|_|_
 ·exact Ud s h v b
 ·have hi:(cr s).2=false:=by
   cases hq:(cr s).2
   ·rfl
   ·have:=xW hq;rw[b]at this;cases this
  have i:fX s=0:=by rw[fX,b]
  rw[hi,i];refine jh (il func226 k_) fun w aa j _ f d=>?_;obtain⟨x,rfl,c⟩:=tY d;obtain⟨bs,rfl,rfl⟩:=jQ c;rw[rV]at b;obtain⟨te,pe,hc⟩:=H8 f (g:=4) rfl;refine(Ho bs 0 w 390 (fun w'=>RowKit.Below w.heap.size w w') ((strconv_Atoi_syntax bs (by simp[cL]at h;omega) (by rw[b];rfl) _ w hc (.inr ⟨te,pe,rfl⟩)).mono ?_)).mono ?_
  ·rintro e w' ⟨N,rfl,_,_,a⟩;exact⟨N,rfl,a⟩
  ·rintro e w' ⟨rfl,a⟩;exact⟨_,rfl,⟨a.size,a.block,a.os,a.output⟩,fun w aa=>by simp[aB,bm]⟩
 ·have hi:(cr s).2=false:=by
   cases hq:(cr s).2
   ·rfl
   ·have:=xW hq;rw[b]at this;cases this
  have i:fX s=b0 (s.map hn):=by rw[fX,b]
  rw[hi,i];refine jh (il func226 k_) fun w aa j _ f d=>?_;obtain⟨x,rfl,c⟩:=tY d;obtain⟨bs,rfl,rfl⟩:=jQ c;rw[rV]at b⊢;obtain⟨te,pe,hc⟩:=H8 f (g:=5) rfl;refine(Ho bs (b0 bs.data.toList) w 390 (fun w'=>RowKit.Below w.heap.size w w') ((strconv_Atoi_range bs (by simp[cL]at h;omega) b _ w hc (.inr ⟨te,pe,rfl⟩)).mono ?_)).mono ?_
  ·rintro e w' ⟨N,rfl,_,_,a⟩;exact⟨N,rfl,a⟩
  ·rintro e w' ⟨rfl,a⟩;exact⟨_,rfl,⟨a.size,a.block,a.os,a.output⟩,fun w aa=>by simp[aB,bm]⟩
def fg(a:List (List Nat)):List Nat:=dE [32] a++[10]
def sA(n:Int):List Nat:=fg [[114,97,100,105,117,115],bn n]
def lW(p:dm):List Nat:=fg [[99,111,114,110,101,114],bn p.x,bn p.y]
def lD(p:dy):List Nat:=fg [[112,111,99,107,101,116],p.name,bn p.dh,p.a,p.b]
def lG(s:bD):List Nat:=fg [[115,112,111,116],s.name,s.pt.x,s.pt.y]
def jl(s:bD):List Nat:=fg [[98,97,108,108],s.name,s.pt.x,s.pt.y]
def ek(t:az)(i j k:Nat):List Nat:=sA t.aX++((t.cs.take i).flatMap lW++((t.aF.take j).flatMap lD++(t.aj.take k).flatMap lG))
def jf(t:az):List Nat:=ek t t.cs.length t.aF.length t.aj.length
def kF(s:List Nat):List Nat×Int:=if 4096<s.length then([],26)else(s,0)
theorem x9{α:Type}{l:List α}{i:Nat}{f:α->List Nat}{x:α}(h:l[i]?=some x):(l.take (i+1)).flatMap f=(l.take i).flatMap f++f x:=by
 rw[dg,h];simp
theorem az.Om{t:az}{i:Nat}(h:i<t.cs.length):t.cs[i]?=some (t.at i):=by rw[cE h,az.aN]
theorem aLi{t:az}{i:Nat}(h:i<t.cs.length):ek t (i+1) 0 0=ek t i 0 0++lW (t.at i):=by
 rw[ek,ek,x9 (az.Om h)];simp
theorem aLl{t:az}{i n:Nat}(h:i<t.aF.length):ek t n (i+1) 0=ek t n i 0++lD (t.pk i):=by
 rw[ek,ek,x9 (az.jG h)];simp
theorem aLm{t:az}{i n m:Nat}(h:i<t.aj.length):ek t n m (i+1)=ek t n m i++lG (t.sp i):=by
 rw[ek,ek,x9 (az.fH h)];simp
theorem nQ{α:Type}{f:α->List Nat}{m:Nat}:∀{l:List α},(∀x∈l,(f x).length<=m)->(l.flatMap f).length<=l.length*m
 |[],_=>by simp
 |x::l,h=>by
  have b:=h x s_;have c:=nQ (f:=f) (m:=m) (l:=l) fun y a=>h y (by simp[a]);simp only[List.flatMap_cons,db,eL,Nat.add_mul]at*;omega
theorem ya{α:Type}{f:α->List Nat}{l:List α}(h:∀x∈l,∀c∈f x,c<256):∀c∈l.flatMap f,c<256:=by
 intro c hc;obtain⟨x,hx,hc⟩:=List.mem_flatMap.1 hc;exact h x hx c hc
theorem Ic{n c:Nat}(h:c∈bd n):48<=c/\c<=57:=by
 have:=jk (uW n);rw[e6]at this;exact BL (this c h)
theorem BI{n:Int}{c:Nat}(h:c∈bn n):c=45\/(48<=c/\c<=57):=by
 rw[bn]at h
 split at h
 ·rcases ed.1 h with h|h
  ·exact .inl h
  ·exact .inr (Ic h)
 ·exact .inr (Ic h)
theorem xT{n:Int}:∀c∈bn n,c<256:=fun c h=>by rcases BI h with h|h<;>omega
theorem BA{n k:Nat}(hk:0<k)(h:n<10^k):(bd n).length<=k:=by
 rcases Nat.eq_zero_or_pos n with rfl|b
 ·rw[ou];exact hk
 ·obtain⟨a,f,g⟩:=F4 b;rcases Nat.lt_or_ge k (bd n).length with hl|hl
  ·exfalso;have d:=pT n;cases e:bd n with
   |nil=>rw[e]at hl;simp at hl
   |cons c r=>
    rw[e]at d hl a;simp at a hl;have hc:49<=c:=o_
    have:=KW c r hc;have i:10^k<=10^r.length:=gy o_ o_;omega
  ·exact hl
theorem sP{n:Int}{k:Nat}(hk:0<k)(h:n.natAbs<10^k):(bn n).length<=k+1:=by
 rw[bn]
 split
 ·have:=BA hk h;simp;omega
 ·have:=BA hk h;omega
theorem u3{l:List (List Nat)}(h:∀x∈l,∀c∈x,c<256):∀c∈fg l,c<256:=by
 have key:∀(l:List (List Nat)),(∀x∈l,∀c∈x,c<256)->∀c∈dE [32] l,c<256:=by
  intro l
  induction l with
  |nil=>intro _ c hc;simp[dE]at hc
  |cons x l b=>
   intro h c hc;cases l with
   |nil=>exact h x s_ c (by simpa[dE]using hc)
   |cons y l=>
    rw[dE]at hc
    ·simp only[dq]at hc;rcases hc with(hc|hc)|hc
     ·exact h x s_ c hc
     ·simp at hc;omega
     ·exact b (fun z a=>h z (by simp[a])) c hc
    ·intro e;cases e
 intro c hc;rw[fg]at hc;rcases dq.1 hc with hc|hc
 ·exact key l h c hc
 ·simp at hc;omega
theorem sW{s:List Nat}(h:bM s=0):s.length<=1203:=by
 obtain⟨_,c,d,_⟩:=Ex h;have e1:=mv 47 (bS s);have e2:(bS s).length<=1201:=by
  rcases e1 with⟨_,e⟩|⟨_,e,_⟩
  ·rw[e];have a:(bP 47 (bS s)).1=bF s:=rfl;have b:(bP 47 (bS s)).2.1=bU s:=rfl;rw[a,b];simp;omega
  ·rw[<-e];have a:(bP 47 (bS s)).1=bF s:=rfl;rw[a];omega
 rw[bS]at e2
 split at e2
 ·simp at e2;omega
 ·omega
theorem sQ(full:Bool)(l:List (List Nat))(hl:l.length<=1000)(a:(dE [32] l).length<=1048576):aA prog 53 [.bJ full (l.map .str)] (.str (fg l)):=by
 refine aM nf (i_ func53) mix (by simp[f53]) ?_;simp[f53];refine c2 (Js full l [32] o_ o_) ?_;simp[fg];omega
theorem Rk(a:List Nat)(v n:Nat)(b:n=a.length):bW prog 141 [.box false (.st 117 [.ptr 0 [],.sl 1 v 1 0 n]),.arr .bytes v 1 (bK a)] [.ptr 0 []]
 [.box false (.st 117 [.ptr 0 [],.sl 1 v 1 0 n]),.arr .bytes v 1 (bK a)] (.p (.int .i64 n)):=by
 refine dU nf (i_ func141) mix (by simp[f141]) ?_;simp[f141]
theorem ayU:bW prog 141 [.box false (.p (.st 117 [.dc,.aK]))] [.ptr 0 []] [.box false (.p (.st 117 [.dc,.aK]))] (.p (.int .i64 0)):=by
 refine dU nf (i_ func141) mix (by simp[f141]) ?_;simp[f141]
theorem Jr(a:List Nat)(v n:Nat)(b:n=a.length)(c:4096<a.length):bW prog 55 [.box false (.st 117 [.ptr 0 [],.sl 1 v 1 0 n]),.arr .bytes v 1 (bK a)] [.ptr 0 []]
 [.box false (.st 117 [.ptr 0 [],.sl 1 v 1 0 n]),.arr .bytes v 1 (bK a)] (.p (.aE [.str [],.int .i64 26])):=by
 refine dU nf (i_ func55) mix (by simp[f55]) ?_;simp[f55];refine cf (Rk a v n b) [0,1] ?_ (ak:=by simp[sig,bK]) (aG:=by simp[sig]) (hr:=by simp[bK]);have d:(4096:Int)<(a.length:Int):=o_
 simp[aW,sig,bK,b,c,d]
theorem Jq(a:List Nat)(v n:Nat)(b:n=a.length)(d:a≠[])(e:¬4096<a.length)(g:∀c∈a,c<256):bW prog 55 [.box false (.st 117 [.ptr 0 [],.sl 1 v 1 0 n]),.arr .bytes v 1 (bK a)] [.ptr 0 []]
 [.box false (.st 117 [.ptr 0 [],.sl 1 v 1 0 n]),.dead] (.p (.aE [.str a,.int .i64 0])):=by
 refine dU nf (i_ func55) mix (by simp[f55]) ?_;simp[f55];refine cf (Rk a v n b) [0,1] ?_ (ak:=by simp[sig,bK]) (aG:=by simp[sig]) (hr:=by simp[bK]);have f:¬(4096:Int)<(a.length:Int):=o_
 simp[aW,sig,bK,b,e,f];refine cf (Rl a v a.length rfl d o_ g) [0,1] ?_ (ak:=by simp[sig,bK,b]) (aG:=by simp[sig]) (hr:=by simp[bK]);simp[aW,sig,bK,b]
theorem sR{s:List Nat}(h:isName s=true):s.length<=24:=by
 simp only[isName,ap,decide_eq_true_eq]at h;exact h.1.2
theorem BS{p:dm}(h:fe p):(lW p).length<=30:=by
 have a:=sP (n:=p.x) (k:=5) o_ (by have:=h.1;have:=h.2.1;simp;omega);have b:=sP (n:=p.y) (k:=5) o_ (by have:=h.2.2.1;have:=h.2.2.2;simp;omega);simp[lW,fg,dE];omega
theorem H3{p:dy}(e:isName p.name=true)(f:0<=p.dh)(h1:p.dh<12)(c:bM p.a=0)(d:bM p.b=0):(lD p).length<=2500:=by
 have k1:=sP (n:=p.dh) (k:=2) o_ o_;have k2:=sW c;have k3:=sW d;have k4:=sR e;simp[lD,fg,dE];omega
theorem Ik{p:bD}(c:isName p.name=true)(a:bM p.pt.x=0)(b:bM p.pt.y=0):(lG p).length<=2500:=by
 have k2:=sW a;have k3:=sW b;have k4:=sR c;simp[lG,fg,dE];omega
theorem BP{p:bD}(c:isName p.name=true)(a:bM p.pt.x=0)(b:bM p.pt.y=0):(jl p).length<=2500:=by
 have k2:=sW a;have k3:=sW b;have k4:=sR c;simp[jl,fg,dE];omega
theorem BQ{n:Int}(a:1<=n)(h1:n<=1000):(sA n).length<=20:=by
 have k1:=sP (n:=n) (k:=4) o_ o_;simp[sA,fg,dE];omega
structure uO(t:az):Prop where
 iD:∀p∈t.cs,fe p
 r1:1<=t.aX
 r2:t.aX<=1000
 cl:t.cs.length<=12
 pl:t.aF.length<=12
 sl:t.aj.length<=256
 pk:∀p∈t.aF,isName p.name=true/\0<=p.dh/\p.dh<12/\bM p.a=0/\bM p.b=0
 sp:∀s∈t.aj,isName s.name=true/\bM s.pt.x=0/\bM s.pt.y=0
theorem yh{t:az}(h:cB t=0):uO t:=by
 obtain⟨m,a,e,n,f,g,i,k,l,d⟩:=arD.1 h;refine⟨fun p c=>Bj (e p c),f,g,a,i,l,fun p c=>?_,fun s hs=>?_⟩
 ·obtain⟨j,b⟩:=fl.1 c;have:=Um.1 (k j p b);exact⟨this.1,this.2.2.1,by have:=this.2.2.2.1;omega,this.2.2.2.2.1,this.2.2.2.2.2.1⟩
 ·obtain⟨j,b⟩:=fl.1 hs;have:=UC.1 (d j s b);have a:=ka this.2.2.1;exact⟨this.1,a.1,a.2⟩
theorem aLj{t:az}(h:uO t)(i j k:Nat):(ek t i j k).length<=800000:=by
 have n:=BQ h.r1 h.r2;have o:=nQ (f:=lW) (m:=30) (l:=t.cs.take i) fun p a=>BS (h.iD p (dk a));have q:=nQ (f:=lD) (m:=2500) (l:=t.aF.take j) fun p a=>by
  obtain⟨b,c,d,e,g⟩:=h.pk p (dk a);exact H3 b c d e g
 have r:=nQ (f:=lG) (m:=2500) (l:=t.aj.take k) fun p a=>by
  obtain⟨b,c,d⟩:=h.sp p (dk a);exact Ik b c d
 have c1:=h.cl;have c2:=h.pl;have c3:=h.sl;have d1:(t.cs.take i).length<=12:=by simp;omega
 have d2:(t.aF.take j).length<=12:=by simp;omega
 have d3:(t.aj.take k).length<=256:=by simp;omega
 simp only[ek,db];omega
theorem HO{t:az}(b:gF t)(i j k:Nat):∀c∈ek t i j k,c<256:=by
 intro c hc;simp only[ek,dq]at hc;rcases hc with hc|hc|hc|hc
 ·exact u3 (by intro x hx;simp at hx;rcases hx with rfl|rfl;(·decide);(·exact xT)) c hc
 ·exact ya (f:=lW) (l:=t.cs.take i) (fun p a=>u3 (by intro x hx;simp at hx;rcases hx with rfl|rfl|rfl;(·decide);(·exact xT);(·exact xT))) c hc
 ·exact ya (f:=lD) (l:=t.aF.take j) (fun p a=>by
   have:=b.pk p (dk a);exact u3 (by intro x hx;simp at hx;rcases hx with rfl|rfl|rfl|rfl|rfl;(·decide);(·exact this.1.2);(·exact xT);(·exact this.2.1.2);(·exact this.2.2.2))) c hc
 ·exact ya (f:=lG) (l:=t.aj.take k) (fun p a=>by
   have:=b.sp p (dk a);exact u3 (by intro x hx;simp at hx;rcases hx with rfl|rfl|rfl|rfl;(·decide);(·exact this.1.2);(·exact this.2.1.2);(·exact this.2.2.2))) c hc
theorem aLk{t:az}(i j k:Nat):ek t i j k≠[]:=by simp[ek,sA,fg]
theorem HE(t:az)(D:gF t):aA prog 10 [cz t] (.aE [.str (if cB t≠0 then[]else(kF (jf t)).1),.int .i64 (if cB t≠0 then cB t else(kF (jf t)).2)]):=by
 have G:=xJ t D;refine aM nf (i_ func10) mix (by simp[f10]) ?_;simp[f10,ad];refine c1_ G ?_
 by_cases r:cB t=0
 case neg=>simp[r]
 have f:=yh r;have k:=aLj f;have E:=HO D;have A:=aLk (t:=t);have r1:=f.r1;have r2:=f.r2;have e0:fg [[114,97,100,105,117,115],bn t.aX]=ek t 0 0 0:=by simp[ek,sA]
 have J:(dE [32] [[114,97,100,105,117,115],bn t.aX]).length<=2000:=by
  have:=BQ r1 r2;simp only[sA,fg,db]at this;omega
 simp[r,ad];refine c1_ (qD t.aX o_ o_) ?_;simp[ad];refine cp (h1:=?g1) (sQ true [[114,97,100,105,117,115],bn t.aX] s_ o_) (by simp;exact⟨rfl,rfl⟩) ?_
 case g1=>simp
 simp;rw[e0];refine cf (yj (ek t 0 0 0) (A 0 0 0) (by have:=k 0 0 0;omega)) [1] ?_;simp[aW,sig];refine lp (α:=Nat) (fun i=>⟨[(26,.p (.int .i64 i)),(25,.p (.int .i64 t.cs.length)),(24,.p (.seq (t.cs.map bN))),(5,.ptr 1 []),(1,.ptr 0 [])],[.box false (.p (cz t)),.box false (.st 117 [.ptr 1 [],.sl 3 i 1 0 (ek t i 0 0).length]),.hole,.arr .bytes i 1 (bK (ek t i 0 0))]⟩)
  (fun i=>i<=t.cs.length) (fun i=>t.cs.length-i) 0 s_ ?_ (hh:=by simp[bK]) (hr2:=by simp[bK])
 intro i hi;have cl:=f.cl;have pl:=f.pl;have sl:=f.sl
 by_cases d:i<t.cs.length
 ·have g:=az.Om d;have o:=bY (i:=i) o_;have h:=f.iD _ (cv g);have l:=BS h;have j:=aLi d;have v:=k i 0 0;generalize hc:t.at i=c at*;have s:=h.1;have w:=h.2.1;have z:=h.2.2.1;have e:=h.2.2.2;have C:(dE [32] [[99,111,114,110,101,114],bn c.x,bn c.y]).length<=2000:=by
   simp only[lW,fg,db]at l;omega
  simp[d,g,hc,ad];refine e1_ (qD c.x o_ o_) ?_;simp[ad];refine e1_ (qD c.y o_ o_) ?_;simp[ad];refine ep (h1:=?g2) (sQ true [[99,111,114,110,101,114],bn c.x,bn c.y] s_ o_) (by simp;exact⟨rfl,rfl⟩) (by simp;exact⟨rfl,rfl⟩) ?_
  case g2=>simp
  simp;rw[<-lW];refine ef (sX (ek t i 0 0) (lW c) i _ rfl (by simp[lW,fg]) o_ o_) [1,3] ?_ (ak:=by simp[sig,bK]) (aG:=by simp[sig]) (hr:=by simp[bK]);simp[sig,bK,aW,ke,o];refine⟨rfl,?_⟩;exact rd (i+1) d (he:=by simp[j]) (hh:=by simp[j]) (hr2:=s_)
 obtain rfl:i=t.cs.length:=o_
 obtain⟨n,h⟩:∃n,t.cs.length=n:=⟨_,rfl⟩
 simp[ad];rw[h];refine lp (α:=Nat) (fun i=>⟨[(43,.p (.int .i64 i)),(42,.p (.int .i64 t.aF.length)),(41,.p (.seq (t.aF.map fp))),(5,.ptr 1 []),(1,.ptr 0 [])],[.box false (.p (cz t)),.box false (.st 117 [.ptr 1 [],.sl 3 (n+i) 1 0 (ek t n i 0).length]),.hole,.arr .bytes (n+i) 1 (bK (ek t n i 0))]⟩)
  (fun i=>i<=t.aF.length) (fun i=>t.aF.length-i) 0 s_ ?_ (hh:=by simp[bK]) (hr2:=by simp[bK])
 clear hi d;intro i hi
 by_cases d:i<t.aF.length
 ·have g:=az.jG d;have o:=bY (i:=i) o_;obtain⟨s,w,z,e,u⟩:=f.pk _ (cv g);have l:=H3 s w z e u;have j:=aLl (n:=n) d;have v:=k n i 0;generalize hc:t.pk i=c at*;have C:(dE [32] [[112,111,99,107,101,116],c.name,bn c.dh,c.a,c.b]).length<=5000:=by
   simp only[lD,fg,db]at l;omega
  simp[d,g,hc,ad];refine e1_ (qD c.dh o_ o_) ?_;simp[ad];refine ep (h1:=?g2) (sQ true [[112,111,99,107,101,116],c.name,bn c.dh,c.a,c.b] s_ o_) (by simp;exact⟨rfl,rfl⟩) (by simp;exact⟨rfl,rfl⟩) ?_
  case g2=>simp
  simp;rw[<-lD];refine ef (sX (ek t n i 0) (lD c) (n+i) _ rfl (by simp[lD,fg]) o_ o_) [1,3] ?_ (ak:=by simp[sig,bK]) (aG:=by simp[sig]) (hr:=by simp[bK]);simp[sig,bK,aW,ke,o];refine⟨rfl,?_⟩;exact rd (i+1) d (he:=by simp[j]) (hh:=by simp[j,g8]) (hr2:=s_)
 obtain rfl:i=t.aF.length:=o_
 obtain⟨m,B⟩:∃m,t.aF.length=m:=⟨_,rfl⟩
 simp[ad];rw[B];refine lp (α:=Nat) (fun i=>⟨[(63,.p (.int .i64 i)),(62,.p (.int .i64 t.aj.length)),(61,.p (.seq (t.aj.map gL))),(5,.ptr 1 [])],[.hole,.box false (.st 117 [.ptr 1 [],.sl 3 (n+m+i) 1 0 (ek t n m i).length]),.hole,.arr .bytes (n+m+i) 1 (bK (ek t n m i))]⟩)
  (fun i=>i<=t.aj.length) (fun i=>t.aj.length-i) 0 s_ ?_ (hh:=by simp[bK]) (hr2:=by simp[bK])
 clear hi d;intro i hi
 by_cases d:i<t.aj.length
 ·have g:=az.fH d;have o:=bY (i:=i) o_;obtain⟨s,e,u⟩:=f.sp _ (cv g);have l:=Ik s e u;have j:=aLm (n:=n) (m:=m) d;have v:=k n m i;generalize hc:t.sp i=c at*;have C:(dE [32] [[115,112,111,116],c.name,c.pt.x,c.pt.y]).length<=5000:=by
   simp only[lG,fg,db]at l;omega
  simp[d,g,hc,ad];refine cp (h1:=?g2) (sQ true [[115,112,111,116],c.name,c.pt.x,c.pt.y] s_ o_) (by simp;exact⟨rfl,rfl⟩) ?_
  case g2=>simp
  simp;rw[<-lG];refine cf (sX (ek t n m i) (lG c) (n+m+i) _ rfl (by simp[lG,fg]) o_ o_) [1,3] ?_ (ak:=by simp[sig,bK]) (aG:=by simp[sig]) (hr:=by simp[bK]);simp[sig,bK,aW,ke,o];exact rd (i+1) d (he:=by simp[j]) (hh:=by simp[j,g8]) (hr2:=s_)
 obtain rfl:i=t.aj.length:=o_
 obtain⟨q,hq⟩:∃q,t.aj.length=q:=⟨_,rfl⟩
 have I:jf t=ek t n m q:=by rw[jf,h,B,hq]
 have v:=k n m q;have F:=E n m q;have H:=A n m q;rw[I,hq,kF];simp;generalize ek t n m q=T at*
 by_cases e:4096<T.length
 ·refine cf (Jr T (n+m+q) T.length rfl e) [1,3] ?_ (ak:=by simp[sig,bK]) (aG:=by simp[sig]) (hr:=by simp[bK]);simp[e,r]
 ·refine cf (Jq T (n+m+q) T.length rfl H e F) [1,3] ?_ (ak:=by simp[sig,bK]) (aG:=by simp[sig]) (hr:=by simp[bK]);simp[e,r]
def dP(a:List (List Nat)):Bool:=a.all fun w=>decide (w≠[])
def dY(s:List Nat):List (List Nat):=if dP (bR 32 s)=true then bR 32 s else[]
def eS(s:List Nat):Int:=if 4096<s.length then 26 else if s.getLast?=some 10 then 0 else 28
theorem vf(c:Nat)(s:List Nat):bR c s≠[]:=by
 rw[u5];simp
theorem BG{c:Nat}:∀{s a:List Nat}{x:List Nat},x∈dZ c a s->x.length<=a.length+s.length
 |[],a,x,h=>by simp[dZ]at h;subst h;simp
 |y::s,a,x,h=>by
  rw[dZ]at h
  split at h
  ·rcases ed.1 h with rfl|h
   ·simp
   ·have:=BG h;simp at this⊢;omega
  ·have:=BG h;simp at this⊢;omega
theorem nR{c:Nat}{s x:List Nat}(h:x∈bR c s):x.length<=s.length:=by
 have:=BG h;simpa using this
theorem mT(c:Nat)(s:List Nat):(bR c s).length<=s.length+1:=by
 rw[BJ];have:=BO c s;omega
theorem anY(s:List Nat)(h:s.length<=1000000):aA prog 74 [.str s] (.seq ((dY s).map .str)):=by
 have hs:=HF s 32 o_ o_;have g:=mT 32 s;refine aM nf (i_ func74) mix (by simp[f74]) ?_;simp[f74];refine c2_ hs ?_;have c:dY s=if dP (bR 32 s)=true then bR 32 s else[]:=rfl
 generalize bR 32 s=ws at*;simp;refine lp (α:=Nat) (fun i=>⟨[(4,.p (.int .i64 i)),(3,.p (.seq (ws.map .str)))],[]⟩) (fun i=>i<=ws.length/\dP (ws.take i)=true) (fun i=>ws.length-i) 0 (by simp[dP]) ?_;rintro i ⟨f,a⟩;have e:=bY (i:=i) o_
 by_cases hi:i<ws.length
 ·by_cases b:ws[i]=[]
  ·have d:dP ws=false:=by
    cases hq:dP ws
    ·rfl
    ·rw[dP,e6]at hq;have:=hq _ (eo hi);simp[b]at this
   rw[c,if_neg (by rw[d];simp)];simp[hi,b]
  ·simp[hi,b,e];exact rd (i+1) ⟨hi,by
    rw[dP]at a⊢;rw[ez hi,List.all_append,a];simp[b]⟩
 ·obtain rfl:i=ws.length:=by omega
  rw[cy]at a;rw[c,if_pos a];simp
theorem UO(s:List Nat)(h:s.length<=1000000):aA prog 69 [.str s] (.aE [.seq ((if eS s=0 then bR 10 s.dropLast else[]).map .str),.int .i64 (eS s)]):=by
 refine aM nf (i_ func69) mix (by simp[f69]) ?_
 by_cases a:4096<s.length
 ·have d:(4096:Int)<(s.length:Int):=by omega
  have e:eS s=26:=by rw[eS,if_pos a]
  simp[f69,a,d,e]
 have d:¬(4096:Int)<(s.length:Int):=o_
 rcases List.eq_nil_or_concat s with rfl|⟨t,x,rfl⟩
 ·simp[f69,eS]
 rw[List.concat_eq_append]at*;have hl:(t++[x]).length=t.length+1:=s_
 have i:be.wrap (((t.length:Int)+1)-1)=t.length:=by rw[aO _ o_ o_];omega
 have j:be.wrap (t.length:Int)=t.length:=aO _ o_ o_;have k:(t++[x])[t.length]?=some x:=s_
 have c:¬(t.length:Int)+1=0:=o_
 have f:¬4096<t.length+1:=o_
 have g:¬(4096:Int)<(t.length:Int)+1:=o_
 by_cases hx:x=10
 ·have e:eS (t++[x])=0:=by rw[eS,if_neg a,if_pos (by simp[hx])]
  have b:(x:Int)=10:=o_
  rw[e];have hs:=HF t 10 o_ o_;simp[f69,f,g,c,i,j,b];refine c2_ hs ?_;simp
 ·have e:eS (t++[x])=28:=by rw[eS,if_neg a,if_neg (by simp[hx])]
  have b:¬(x:Int)=10:=o_
  rw[e];simp[f69,f,g,c,i,j,b]
def dK(t:az)(st:Int):List (List Nat)->az×Int×Bool
 |[]=>(t,st,false)
 |w::r=>
  if w=[114,97,100,105,117,115]then
   match r with
   |[a]=>if st=0 then({t with aX:=(cr a).1},1,(cr a).2)else(t,st,false)
   |_=>(t,st,false)
  else if w=[99,111,114,110,101,114]then
   match r with
   |[a,b]=>if st=1 then({t with cs:=t.cs++[⟨(cr a).1,(cr b).1⟩]},st,(cr a).2&&(cr b).2)else(t,st,false)
   |_=>(t,st,false)
  else if w=[112,111,99,107,101,116]then
   match r with
   |[n,e,a,b]=>if st=1\/st=2 then({t with aF:=t.aF++[⟨n,(cr e).1,a,b⟩]},2,(cr e).2)else(t,st,false)
   |_=>(t,st,false)
  else if w=[115,112,111,116]then
   match r with
   |[n,x,y]=>if st=0 then(t,st,false)else({t with aj:=t.aj++[⟨n,⟨x,y⟩⟩]},3,true)
   |_=>(t,st,false)
  else(t,st,false)
def ff:List (List Nat)->az->Int->Nat->Option az×Nat
 |[],t,_,_=>(some t,0)
 |l::ls,t,st,i=>if(dK t st (dY l)).2.2=true then ff ls (dK t st (dY l)).1 (dK t st (dY l)).2.1 (i+1)else(none,i+1)
def fN(s:List Nat):az×Int×Int:=
 if eS s≠0 then(zT,0,eS s)
 else match ff (bR 10 s.dropLast) zT 0 0 with
  |(none,k)=>(zT,k,25)
  |(some t,_)=>if cB t≠0 then(zT,0,cB t)else(t,0,0)
theorem BU:iH []:=fun b o h=>by simp at h
theorem u7{k:AK}{aq z:Nat}{c:List PV}{H:Heap}(h:iH H):iH (.arr k aq z (c.map AV.p)::H):=fun b o a=>by
 rcases b with _|b
 ·simp at a;exact⟨k,aq,z,c,a.symm⟩
 ·exact h b o (by simpa using a)
theorem xp{α:Type}{f:α->PV}{l:List α}:l.map (AV.p∘f)=(l.map f).map AV.p:=by rw[List.map_map]
theorem sU{α:Type}{f:α->PV}{l:List α}{H:Heap}{n:Nat}:lK H n (l.map (AV.p∘f)) (l.map f):=by
 rw[zI];intro x _;cases n<;>simp
theorem Ip(t:az)(st:Int)(a:List (List Nat)):(dK t st a).1.cs.length<=t.cs.length+1/\(dK t st a).1.aF.length<=t.aF.length+1/\(dK t st a).1.aj.length<=t.aj.length+1/\t.cs.length<=(dK t st a).1.cs.length/\t.aF.length<=(dK t st a).1.aF.length/\t.aj.length<=(dK t st a).1.aj.length:=by
 unfold dK
 repeat' split
 all_goals simp
def sJ(t:az):Heap:=[.arr .grow t.cs.length 2 (t.cs.map (AV.p∘bN)),.arr .grow t.aF.length 4 (t.aF.map (AV.p∘cG)),.arr .grow t.aj.length 3 (t.aj.map (AV.p∘aP))]
def qo(a:List AV):AK:=bif a.isEmpty then .grow else .frozen
theorem BR(v z:Nat)(a:List AV):jn (.arr .grow v z a)=.arr (qo a) v z a:=by cases a<;>rfl
def A4(t:az):Heap:=[.arr (qo (t.cs.map (AV.p∘bN))) t.cs.length 2 (t.cs.map (AV.p∘bN)),.arr (qo (t.aF.map (AV.p∘cG))) t.aF.length 4 (t.aF.map (AV.p∘cG)),.arr (qo (t.aj.map (AV.p∘aP))) t.aj.length 3 (t.aj.map (AV.p∘aP))]
theorem BF{c:Nat}:∀{s a:List Nat}{x:List Nat},x∈dZ c a s->∀y∈x,y∈a\/y∈s
 |[],a,x,h,y,hy=>by simp[dZ]at h;subst h;exact .inl hy
 |z::s,a,x,h,y,hy=>by
  rw[dZ]at h
  split at h
  ·rcases ed.1 h with rfl|h
   ·exact .inl hy
   ·rcases BF h y hy with h|h
    ·cases h
    ·exact .inr (by simp[h])
  ·rcases BF h y hy with h|h
   ·rcases dq.1 h with h|h
    ·exact .inl h
    ·simp at h;exact .inr (by simp[h])
   ·exact .inr (by simp[h])
theorem sT{c:Nat}{s x:List Nat}(h:x∈bR c s):∀y∈x,y∈s:=fun y a=>by
 rcases BF h y a with h|h
 ·cases h
 ·exact h
theorem I5{l:List Nat}(hl:l.length<=1000000)(a:∀c∈l,c<256):∀w∈dY l,jF w:=by
 intro w h;rw[dY]at h
 split at h
 ·have:=nR h;exact⟨o_,fun c hc=>a c (sT h c hc)⟩
 ·cases h
theorem aLu{t:az}{st:Int}{d:List (List Nat)}(c:gF t)(hc:t.cs.length<1000000)(a:t.aF.length<1000000)(hq:t.aj.length<1000000)(b:∀w∈d,jF w):gF (dK t st d).1:=by
 have hl:=Ip t st d;refine⟨o_,o_,o_,?_,?_⟩
 ·intro p a;unfold dK at a
  repeat' split at a
  all_goals try exact c.pk p a
  simp only[dq,fm]at a;rcases a with a|rfl
  ·exact c.pk p a
  ·exact⟨b _ s_,b _ s_,b _ s_⟩
 ·intro p a;unfold dK at a
  repeat' split at a
  all_goals try exact c.sp p a
  simp only[dq,fm]at a;rcases a with a|rfl
  ·exact c.sp p a
  ·exact⟨b _ s_,b _ s_,b _ s_⟩
theorem vo:gF zT:=⟨by simp[zT],by simp[zT],by simp[zT],by simp[zT],by simp[zT]⟩
def gA(t:az)(a:Int):Heap:=
 [.box false (.st 131 [.st 35 [.sl 1 t.cs.length 2 0 t.cs.length,.p (.int .i64 t.aX),.sl 2 t.aF.length 4 0 t.aF.length,.sl 3 t.aj.length 3 0 t.aj.length],.p .aK,.p (.int .i64 a)]),
  .arr .grow t.cs.length 2 (t.cs.map (AV.p∘bN)),.arr .grow t.aF.length 4 (t.aF.map (AV.p∘cG)),.arr .grow t.aj.length 3 (t.aj.map (AV.p∘aP))]
theorem UE(t:az)(b:Int)(a:List Nat)(d:a.length<=1000000):
 bW prog 147 (gA t b) [.ptr 0 [],.p (.seq [.str a])] (gA {t with aX:=fX a} b) (.p (.bool (cr a).2)):=by
 have c:=yb a o_;refine dU nf (i_ func147) mix (by simp[f147,gA]) ?_;simp[f147,gA];refine c1_ c ?_;simp[ad]
theorem UG(t:az)(c:Int)(a b:List Nat)(f:a.length<=1000000)(g:b.length<=1000000)(hc:t.cs.length<=1000000):
 bW prog 148 (gA t c) [.ptr 0 [],.p (.seq [.str a,.str b])] (gA {t with cs:=t.cs++[⟨fX a,fX b⟩]} c) (.p (.bool ((cr a).2&&(cr b).2))):=by
 have d:=yb a o_;have e:=yb b o_;refine dU nf (i_ func148) mix (by simp[f148,gA]) ?_;simp[f148,gA];refine c1_ d ?_;simp[ad];refine c1_ e ?_;generalize (cr a).2=A at*;generalize (cr b).2=B at*;cases A<;>simp[ad]
 all_goals exact⟨by simp only[cM];omega,bE.og (by simp[bN]) s_ (by simp[bN]) s_ s_⟩
theorem UF(t:az)(c:Int)(n e a b:List Nat)(f:e.length<=1000000)(hc:t.aF.length<=1000000):
 bW prog 149 (gA t c) [.ptr 0 [],.p (.seq [.str n,.str e,.str a,.str b])] (gA {t with aF:=t.aF++[⟨n,fX e,a,b⟩]} c) (.p (.bool (cr e).2)):=by
 have d:=yb e o_;refine dU nf (i_ func149) mix (by simp[f149,gA]) ?_;simp[f149,gA];refine c1_ d ?_;simp[ad];exact⟨by simp only[cM];omega,by repeat' first|rfl|apply am,bE.og (by simp[cG]) s_ (by simp[cG]) s_ s_⟩
theorem azk(t:az)(a:Int)(n x y:List Nat)(hc:t.aj.length<=1000000):
 bW prog 150 (gA t a) [.ptr 0 [],.p (.seq [.str n,.str x,.str y])] (gA {t with aj:=t.aj++[⟨n,⟨x,y⟩⟩]} a) (.p (.bool true)):=by
 refine dU nf (i_ func150) mix (by simp[f150,gA]) ?_;simp[f150,gA,ad];exact⟨by simp only[cM];omega,by repeat' first|rfl|apply am,bE.og (by simp[aP,fE]) s_ (by simp[aP,fE]) s_ s_⟩
def oS:List (List Nat)->Nat->Int
 |[],_=>-1
 |w::r,i=>if w=[]then i else oS r (i+1)
theorem H7:∀(a:List (List Nat))(i:Nat),decide (0<=oS a i)=!dP a
 |[],i=>by simp[oS,dP]
 |w::r,i=>by
  have:=H7 r (i+1);rw[oS]
  by_cases h:w=[]
  ·rw[if_pos h];simp[dP,h]
  ·rw[if_neg h,this];simp[dP,h]
theorem UP(a:List (List Nat))(hl:a.length<=1000000):aA prog 225 [.seq (a.map .str),.str []] (.int .i64 (oS a 0)):=by
 refine aM nf (i_ func225) mix (by simp[f225]) ?_;simp[f225];refine lp (α:=Nat) (fun i=>⟨[(8,.p (.int .i64 i)),(7,.p (.int .i64 a.length)),(1,.p (.str [])),(0,.p (.seq (a.map .str)))],[]⟩) (fun i=>i<=a.length/\oS a 0=oS (a.drop i) i) (fun i=>a.length-i) 0 s_ ?_;rintro i ⟨g,b⟩;have f:=bY (i:=i) o_
 by_cases hi:i<a.length
 ·rw[c6 hi,oS]at b
  by_cases c:a[i]=[]
  ·rw[if_pos c]at b;rw[b];simp[hi,c]
  ·rw[if_neg c]at b;have d:¬[]=a[i]:=fun e=>c e.symm;simp[hi,c,d,f];exact rd (i+1) ⟨hi,b⟩
 ·obtain rfl:i=a.length:=by omega
  rw[gb,oS]at b;rw[b];simp
theorem Hg(a:List (List Nat))(hl:a.length<=1000000):aA prog 146 [.seq (a.map .str),.str []] (.bool (!dP a)):=by
 have b:=UP a hl;rw[<-H7 a 0];refine aM nf (i_ func146) mix (by simp[f146]) ?_;simp[f146];refine c2_ b ?_;simp
def fB:List PV:=[.str [114,97,100,105,117,115],.str [99,111,114,110,101,114],.str [112,111,99,107,101,116],.str [115,112,111,116]]
def eP(b:Nat):List AV:=[.st 229 [.p (.int .i64 0),.p (.int .i64 1),.func 147 [.ptr b []] []],.st 229 [.p (.int .i64 1),.p (.int .i64 2),.func 148 [.ptr b []] []],
 .st 229 [.p (.int .i64 2),.p (.int .i64 4),.func 149 [.ptr b []] []],.st 229 [.p (.int .i64 3),.p (.int .i64 3),.func 150 [.ptr b []] []]]
def jr:PV:=.st 131 [.st 35 [.aK,.int .i64 0,.aK,.aK],.aK,.int .i64 0]
theorem Ua:bW prog 60 [.box false (.p jr)] [.ptr 0 []] [.box false (.p jr),.cQ fB (eP 0)] (.map 1):=by
 refine dU nf (i_ func60) mix (by simp[f60]) ?_;simp[f60,gU,fB,eP]
 done
end Go.au
