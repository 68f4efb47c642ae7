import Derived.Test.YtfdgnogcckoalaaGreatDoorKPF
import Derived.Test.YtfdgnogcckoalaaGreatDoorKThC
import Derived.Test.YtfdgnogcckoalaaGreatDoorKPE
import Derived.Shelf.Strings.Builder1
import Derived.Shelf.Strings.Builder2
import Derived.Shelf.Strings.OnBuilder
import Derived.Shelf.Strings.Trim
import Derived.Shelf.Small.Utf8
import Derived.Shelf.Small.Bits
import Derived.Shelf.Small.Strs
import Derived.Shelf.Small.Wraps
import Derived.Shelf.Strings.BuilderF
import Derived.Shelf.Strconv.Atoi
import Derived.Shelf.Strconv.Itoa0
import Derived.Shelf.Strconv.Itoa1
import Derived.Shelf.LaysM
import Derived.Shelf.Strconv.Itoa2
import Derived.Shelf.Strconv.Itoa3
import Derived.Shelf.Strconv.AtoiErrFast
import Derived.Shelf.Strconv.ParseIntEmpty
import Derived.Shelf.Strconv.AtoiFail
import Derived.Shelf.Strconv.Clone
import Derived.Shelf.Strconv.SyntaxError
import Derived.Shelf.LaysC
import Derived.Shelf.Strconv.ToError
import Derived.Shelf.Strconv.Lower
import Derived.Shelf.Strconv.ParseUint10
import Derived.Shelf.Strconv.ParseUint10Empty
import Derived.Shelf.Strconv.ParseUint10Any
import Derived.Shelf.Strconv.ParseInt10
import Derived.Shelf.Strconv.AtoiLong
import Derived.Shelf.Strconv.AtoiInnerAll
import Derived.Shelf.Strconv.RangeError
import Derived.Shelf.Strconv.ToErrorRange
import Derived.Shelf.Strconv.AtoiAll
import Derived.Shelf.Strings.Search1
import Derived.Shelf.Strings.Search2
import Derived.Shelf.Strings.Search3
import Derived.Shelf.Strings.Cut
import Derived.Shelf.Strings.Count
import Derived.Shelf.Strings.Shaped
import Derived.Shelf.Strings.Prefix
import Derived.Shelf.Strings.Split
import Derived.Shelf.Strings.Runes
import Derived.Shelf.Strings.AsciiSet
import Derived.Shelf.Bits.Mul64
import Derived.Shelf.Strings.Repeat
import Derived.Shelf.Unicode.DecodeSlow
import Derived.Shelf.Slices.Turned
import Derived.Test.YtfdgnogcckoalaaGreatDoorProg
import Derived.Shelf.SlGeneric
import Derived.Shelf.Spec.SlicesGrow
/- Parts of a proof. -/
set_option maxRecDepth 100000
set_option maxHeartbeats 4000000
set_option linter.unusedSimpArgs false
set_option linter.unusedVariables false
set_option linter.unusedSectionVars false
open Go.Proofs.Tryz
open And renaming intro->ao
open Bool renaming and_eq_true->ap, cond_eq_ite->av, false_eq_true->ax, eq_iff_iff->ay, true_and->aT
open Decidable renaming not_not->a1
open Go renaming FuncId->a6, DataW->a7, World->a8, Field->bb, Calls->be
open Go.Builtin renaming zeroCells->bi
open Go.IntKind renaming i64->bl
open Go.Lib renaming countByte->bo, compareBytes->br, join->bv
open Go.Shelf renaming Ren->b0
open Go.Utf8 renaming decode->b1
open Int renaming tmod_eq_emod_of_nonneg->b2, natCast_emod->b3
open List renaming mem_of_getElem?->b4, getElem?_eq_getElem->b5, getElem?_eq_some_iff->cb, drop_eq_getElem_cons->cc, length_take->ce, take_length->cr, take_of_length_le->cv, map_cons->cx, take_add_one->cy, getElem?_map->c6, length_eq_zero_iff->c7, mem_iff_getElem->c8, any_eq_true->c9, getElem?_take->da, replicate->db, zip_cons_cons->dg, range->dk, mem_map->dl, zip_nil_left->dp, getElem?_append_right->dq, map_nil->dz, getElem?_append_left->ea, length_map->eb, getElem?_cons_succ->ec, length_drop->ed, getElem_take->ee, getElem_mem->ei, mem_range->ej, map_take->en, length_append->eo, findIdx?_eq_some_iff_getElem->eq, map_set->ew, length_cons->e6, all_eq_true->e7, getD_eq_getElem?_getD->e8, findIdx?_eq_none_iff->e9, getElem?_set_self->fb, drop_of_length_le->fd, mem_of_mem_take->fl, mem_cons_of_mem->fm, getElem?_set_ne->fv, getElem?_range->gb, mem_cons_self->gc, length_range->ge, ext_getElem->gg, cons_append->gi, range_succ->gj, map_append->gl, append_nil->gm, drop_zero->gp, mem_cons->gt
open Nat renaming eq_of_beq_eq_true->gx, beq->gy, le_refl->gA, le_of_ble_eq_true->gP, le_trans->g4, lt_of_lt_of_le->g5, min_eq_left->g6, lt_trans->g7, lt_trichotomy->g8, blt->g9, ble->ha, blt_eq->hb
open Option renaming ite_none_right_eq_some->hd
open Option.some renaming injEq->hg
open Prod.mk renaming injEq->hj
open UInt8 renaming lt_iff_toNat_lt->ho, ofNat->hp
namespace Go.an
open Go.an renaming c1->c1_, c2->c2_, c3->c3_, e1->e1_, e2->e2_, e3->e3_
open Go.Proofs
def aj.oJ(t:aj)(i:Nat)(m:Nat):Prop:=∀k,k<m->k≠i->k≠t.nx i->0<gF (t.at i) (t.at (t.nx i)) (t.at k)
instance(t:aj)(i m:Nat):Decidable (t.oJ i m):=inferInstanceAs (Decidable (∀k,k<m->_))
def aj.eS(t:aj):Bool:=decide (∀i,i<t.cs.length->t.oJ i t.cs.length)
theorem aj.ia{t:aj}(h:∀p∈t.cs,bV p){i:Nat}(hi:i<t.cs.length):bV (t.at i):=h _ (b4 (aj.get hi))
theorem VM(t:aj)(hl:t.cs.length<=1000000)(m:∀p∈t.cs,bV p):az prog 62 [cg t] (.bool t.eS):=by
 refine aJ nf (i_ func62) mix (by simp[f62]) ?_;generalize a:t.cs.length=n at*;simp[f62,aa,a];refine lp (α:=Nat) (fun i=>⟨[(4,.p (.int .i64 i)),(3,.p (.int .i64 n)),(1,.ptr 0 [])],[.box false (.p (cg t))]⟩) (fun i=>i<=n/\∀j,j<i->t.oJ j n) (fun i=>n-i) 0 s_ ?_;rintro i ⟨v,q⟩
 by_cases hi:i<n
 ·simp[hi];refine lp (α:=Nat) (fun k=>⟨[(5,.p (.int .i64 k)),(4,.p (.int .i64 i)),(3,.p (.int .i64 n)),(1,.ptr 0 [])],[.box false (.p (cg t))]⟩) (fun k=>k<=n/\t.oJ i k) (fun k=>n-k) 0 (by simp[aj.oJ]) ?_;rintro k ⟨g1,g2⟩
  by_cases hk:k<n
  ·have r:=HV t i o_ o_;have x:t.nx i<n:=by rw[<-a];exact t.iT o_ i
   have d:=bS (i:=i) o_;have e:=bS (i:=k) o_;have e1:((i:Int)+1).tmod (n:Int)=((t.nx i:Nat):Int):=by
    rw[aj.nx,a,b3,b2 o_];rfl
   have s:=VE (t.at i) (t.at (t.nx i)) (t.at k) (aj.ia m o_) (aj.ia m o_) (aj.ia m o_);have f:=aj.get (t:=t) (i:=i) o_;have gk:=aj.get (t:=t) (i:=k) o_;have o:¬n=0:=o_
   by_cases c1:k=i
   ·subst c1;simp[hk,e];exact rd (k+1) ⟨hk,fun j g=>by
     by_cases l:j=k
     ·intro h;exact(h l).elim
     ·exact g2 j o_⟩
   ·have b:¬(k:Int)=(i:Int):=by omega
    by_cases c2:k=t.nx i
    ·rw[<-c2]at e1;simp[hk,b,d,e,e1,o];exact rd (k+1) ⟨hk,fun j g=>by
      by_cases l:j=k
      ·intro _ h;exact(h o_).elim
      ·exact g2 j o_⟩
    ·have c:¬(k:Int)=((t.nx i:Nat):Int):=by omega
     by_cases c3:gF (t.at i) (t.at (t.nx i)) (t.at k)<=0
     ·simp[hk,b,c,d,e,e1,o,f,gk,a,aa];refine e2_ r ?_;simp[hk,a,f,gk,b,c,aa];refine e3_ s ?_;simp[c3,b,c];have:t.eS=false:=by
       rw[aj.eS,decide_eq_false_iff_not];intro h;have:=h i o_ k o_ c1 c2;omega
      rw[this]
     ·simp[hk,b,c,d,e,e1,o,f,gk,a,aa];refine e2_ r ?_;simp[hk,a,f,gk,b,c,aa];refine e3_ s ?_;simp[c3,e,b,c];exact rd (k+1) ⟨hk,fun j g=>by
       by_cases l:j=k
       ·subst l;intro _ _;omega
       ·exact g2 j o_⟩
  ·have:k=n:=by omega
   subst this;have d:=bS (i:=i) o_;simp[d];exact rd (i+1) ⟨hi,fun j g=>by
    by_cases u:j=i
    ·subst u;exact g2
    ·exact q j o_⟩
 ·have w:i=n:=by omega
  have:t.eS=true:=by
   rw[aj.eS,decide_eq_true_eq,a];intro j g;exact q j o_
  simp[hi,this]
def dU(p:bU):V2:=⟨(p.x:Rat),(p.y:Rat)⟩
theorem kx{p:bU}(h:bV p):bP 14 (dU p):=by
 simp only[bV]at h;exact⟨yk o_ (by decide),yk o_ (by decide)⟩
theorem CQ(p:bU)(h:bV p):az prog 114 [aG p] (eV (dU p)):=by
 have c:=h;simp only[bV]at h;have a:=FE p.x o_ o_;have b:=FE p.y o_ o_;refine aJ nf (i_ func114) mix (by simp[f114]) ?_;rw[dU,vt];simp[f114,aa];refine e1 a ?_;simp[aa];refine e1 b ?_;simp[aa]
def aj.cw(t:aj)(i:Nat):V2:=(dU (t.at (t.nx i))).sub (dU (t.at i))
def aj.side(t:aj)(i:Nat)(v:V2):Int:=fN ((t.cw i).er (v.sub (dU (t.at i))))
theorem aj.okW{t:aj}(h:∀p∈t.cs,bV p){i:Nat}(hi:i<t.cs.length):bP 29 (t.cw i):=mr (kx (aj.ia h (t.iT o_ i))) (kx (aj.ia h hi))
theorem aAO(t:aj)(i:Nat)(v:V2)(hl:t.cs.length<=1000000)(b:∀p∈t.cs,bV p)(hi:i<t.cs.length)(d:bP 3000 v):az prog 157 [cg t,.int .i64 i,eV v] (.int .i64 (t.side i v)):=by
 have a:=aj.get hi;have c:=kx (aj.ia b hi);have m:=kx (aj.ia b (t.iT o_ i));have e:=CQ (t.at i) (aj.ia b hi);have f:=HV t i hi hl;have g:=CQ (t.at (t.nx i)) (aj.ia b (t.iT o_ i));have h:=yN (dU (t.at (t.nx i))) (dU (t.at i)) (m.mono (by decide)) (c.mono (by decide));have j:=yN v (dU (t.at i)) (d.mono (by decide)) (c.mono (by decide));have k:=Vk (t.cw i) (v.sub (dU (t.at i))) ((aj.okW b hi).mono (by decide)) ((mr d c).mono (by decide));have l:=A6 ((t.cw i).er (v.sub (dU (t.at i)))) ((Hp (aj.okW b hi) (mr d c)).mono (by decide));refine aJ nf (i_ func157) mix (by simp[f157]) ?_;rw[aj.side];simp[f157,aa,a,hi];refine e1 e ?_;simp[aa,a,hi];refine e2 f ?_;simp[aa,a,hi];refine e1 g ?_;simp[aa,a,hi];refine⟨by repeat' first|rfl|apply ao,?_⟩;refine e2 h ?_;simp[aa,a,hi];refine e2 j ?_;simp[aa,a,hi];refine e2 k ?_;simp[aa,a,hi];refine e1 l ?_;simp[aa,a,hi]
def aj.lU(t:aj)(v:V2)(m:Nat):Int:=(dk m).foldl (fun o i=>min o (t.side i v)) 1
theorem aj.zk(t:aj)(v:V2)(m:Nat):t.lU v (m+1)=min (t.lU v m) (t.side m v):=by
 rw[aj.lU,gj,List.foldl_append];rfl
theorem aj.Jx(t:aj)(v:V2):∀m,t.lU v m= -1\/t.lU v m=0\/t.lU v m=1
 |0=>.inr (.inr rfl)
 |m+1=>by
  rw[aj.zk];have a:=aj.Jx t v m;have b:=azj ((t.cw m).er (v.sub (dU (t.at m))));simp only[aj.side];omega
def aj.on(t:aj)(v:V2):Int:=t.lU v t.cs.length
theorem HQ(a b:Int):min a b=if b<a then b else a:=by split<;>omega
theorem SI(t:aj)(v:V2)(hl:t.cs.length<=1000000)(b:∀p∈t.cs,bV p)(c:bP 3000 v):az prog 67 [cg t,eV v] (.int .i64 (t.on v)):=by
 refine aJ nf (i_ func67) mix (by simp[f67]) ?_;simp[f67,aa];refine lp (α:=Nat) (fun i=>⟨[(6,.p (.int .i64 i)),(5,.p (.int .i64 (t.lU v i))),(3,.ptr 1 []),(2,.ptr 0 [])],[.box false (.p (cg t)),.box false (.p (eV v))]⟩) (fun i=>i<=t.cs.length) (fun i=>t.cs.length-i) 0 s_ ?_ (hh:=by simp[aj.lU]) (he:=by simp[aj.lU]);rintro i e
 by_cases hi:i<t.cs.length
 ·have a:=aAO t i v hl b hi c;have d:=bS (i:=i) o_;have hs:=aj.zk t v i;rw[HQ]at hs;simp[hi,aa];refine c3 a ?_;simp[d,<-hs];exact rd (i+1) hi
 ·have:i=t.cs.length:=by omega
  subst this;simp[aj.on,aa]
def isLet(c:Int):Bool:=(decide (97<=c)&&decide (c<=122))||(decide (65<=c)&&decide (c<=90))
def jM(c:Int):Bool:=decide (48<=c)&&decide (c<=57)
def nt:Nat->List Nat->Bool
 |_,[]=>true
 |i,c::r=>(isLet c||(decide (i≠0)&&(jM c||decide ((c:Int)=95))))&&nt (i+1) r
def isName(s:List Nat):Bool:=decide (1<=s.length)&&decide (s.length<=24)&&nt 0 s
theorem cls(c:Int):(97<=c/\c<=122)\/(¬97<=c/\65<=c/\c<=90)\/(¬97<=c/\¬65<=c/\¬48<=c/\¬c=95)\/(¬97<=c/\¬65<=c/\48<=c/\c<=57/\¬c=95)\/(¬97<=c/\¬65<=c/\48<=c/\¬c<=57/\¬c=95)\/
 (¬97<=c/\65<=c/\¬c<=90/\48<=c/\¬c<=57/\c=95)\/(¬97<=c/\65<=c/\¬c<=90/\48<=c/\¬c<=57/\¬c=95)\/(97<=c/\¬c<=122/\65<=c/\¬c<=90/\48<=c/\¬c<=57/\¬c=95):=o_
theorem HC(c:Int):az prog 235 [.int .i32 c] (.bool (isLet c)):=by
 refine aJ nf (i_ func235) mix (by simp[f235]) ?_;rcases cls c with⟨a,b⟩|⟨a,b,d⟩|⟨a,b,d,e⟩|⟨a,b,d,e,f⟩|⟨a,b,d,e,f⟩|⟨a,b,d,e,f,g⟩|⟨a,b,d,e,f,g⟩|⟨a,b,d,e,f,g,h⟩<;>simp[f235,isLet, *]
theorem Hz{s:List Nat}{i:Nat}(hi:i<s.length):nt i (s.drop i)=((isLet s[i]||(decide (i≠0)&&(jM s[i]||decide ((s[i]:Int)=95))))&&nt (i+1) (s.drop (i+1))):=by
 rw[cc hi,nt]
theorem CM(s:List Nat)(h:s.length<=1048576):az prog 64 [.str s] (.bool (isName s)):=by
 refine aJ nf (i_ func64) mix (by simp[f64]) ?_;rcases CO s.length 1 with⟨g1,m⟩|⟨g1,m⟩
 ·have:s.length=0:=by omega
  simp[f64,g1,isName,this]
 rcases CO 24 s.length with⟨g2,n⟩|⟨g2,n⟩
 ·have:¬s.length<=24:=by omega
  simp[f64,g1,g2,isName,this]
 simp[f64,g1,g2];have e0:isName s=nt 0 s:=by simp[isName];omega
 refine lp (α:=Nat) (fun i=>⟨[(3,.p (.int .i64 i)),(0,.p (.str s))],[]⟩) (fun i=>i<=s.length/\isName s=nt i (s.drop i)) (fun i=>s.length-i) 0 (by simp[e0]) ?_;rintro i ⟨k1,k2⟩
 by_cases hi:i<s.length
 ·rw[Hz hi]at k2;have k:=bS (i:=i) o_;generalize hc:(s[i]:Int)=c at*
  by_cases j:i=0
  ·subst j;have l:bl.wrap 1=1:=aK 1 o_ o_;rcases cls c with⟨a,b⟩|⟨a,b,d⟩|⟨a,b,d,e⟩|⟨a,b,d,e,f⟩|⟨a,b,d,e,f⟩|⟨a,b,d,e,f,g⟩|⟨a,b,d,e,f,g⟩|⟨a,b,d,e,f,g,h⟩
   ·simp[isLet,a,b]at k2;simp[hi,hc,a,b,l];exact rd 1 ⟨hi,by simpa using k2⟩
   ·simp[isLet,a,b,d]at k2;simp[hi,hc,a,b,d,l];exact rd 1 ⟨hi,by simpa using k2⟩
   all_goals
    simp[isLet, *]at k2;simp[hi,hc, *]
  ·rcases cls c with⟨a,b⟩|⟨a,b,d⟩|⟨a,b,d,e⟩|⟨a,b,d,e,f⟩|⟨a,b,d,e,f⟩|⟨a,b,d,e,f,g⟩|⟨a,b,d,e,f,g⟩|⟨a,b,d,e,f,g,h⟩
   ·simp[isLet,a,b]at k2;simp[hi,hc,a,b,k];exact rd (i+1) ⟨hi,k2⟩
   ·simp[isLet,a,b,d]at k2;simp[hi,hc,a,b,d,k];exact rd (i+1) ⟨hi,k2⟩
   ·simp[isLet,jM,a,b,d,e]at k2;simp[hi,hc,j,a,b,d,e,k2]
   ·simp[isLet,jM,a,b,d,e,j]at k2;simp[hi,hc,j,a,b,d,e,k];exact rd (i+1) ⟨hi,k2⟩
   ·simp[isLet,jM,a,b,d,e,f]at k2;simp[hi,hc,j,a,b,d,e,f,k2]
   ·subst g;simp[isLet,jM,j]at k2;simp[hi,hc,j,k];exact rd (i+1) ⟨hi,k2⟩
   ·simp[isLet,jM,a,b,d,e,f,g]at k2;simp[hi,hc,j,a,b,d,e,f,g,k2]
   ·simp[isLet,jM,a,b,d,e,f,g,h]at k2;simp[hi,hc,j,a,b,d,e,f,g,h,k2]
 ·have:i=s.length:=by omega
  subst this;simp[nt]at k2;simp[k2]
theorem Hy(s:List Nat):(ic s).size=s.length:=by
 show(s.map hp).toArray.size=_;simp
theorem HK(s:List Nat)(b:∀c∈s,c<256)(i:Nat)(h:i<s.length)(a:i<(ic s).size):((ic s)[i]'a).toNat=s[i]:=by
 have e:(ic s)[i]'a=hp s[i]:=by
  have:(ic s)[i]'a=(s.map hp).toArray[i]'(by simpa using h):=rfl;rw[this];simp
 rw[e];have:=b s[i] (ei h);simp;omega
theorem aD2{s:List Nat}(d:∀c∈s,c<256){i:Nat}(h:i<s.length)(b:s[i]<128):b1 (ic s) i=(s[i],1):=by
 have a:i<(ic s).size:=by rw[Hy];exact h
 have e:=HK s d i h a;rw[decode_ascii (ic s) i a (by rw[e];exact b),e]
theorem aDX{s:List Nat}(b:∀c∈s,c<256){i:Nat}(h:i<s.length)(d:¬s[i]<128):128<=(b1 (ic s) i).1/\1<=(b1 (ic s) i).2:=by
 have a:i<(ic s).size:=by rw[Hy];exact h
 have e:=HK s b i h a;exact decode_high (ic s) i a (by rw[e];omega)
theorem CU(s:List Nat)(h:s.length<=1048576):az prog 165 [.str s] (.bool (isName s)):=by
 refine VO fun l=>?_;have l:∀c∈s,c<256:=by simpa[mW,eE]using l
 refine aJ nf (i_ func165) mix (by simp[f165]) ?_;simp[f165];refine lp (α:=Nat) (fun i=>⟨[(6,.ptr 0 []),(0,.p (.str s))],[.dO s i]⟩) (fun i=>i<=s.length/\nt 0 s=nt i (s.drop i)) (fun i=>s.length-i) 0 s_ ?_;rintro i ⟨k1,k2⟩
 by_cases hi:i<s.length
 ·rw[Hz hi]at k2
  by_cases n:s[i]<128
  ·have m:=aD2 l hi n;simp[hi,m];refine c1 (HC _) ?_;generalize hc:(s[i]:Int)=c at*
   by_cases j:i=0
   ·rcases cls c with⟨a,b⟩|⟨a,b,d⟩|⟨a,b,d,e⟩|⟨a,b,d,e,f⟩|⟨a,b,d,e,f⟩|⟨a,b,d,e,f,g⟩|⟨a,b,d,e,f,g⟩|⟨a,b,d,e,f,g,h⟩
    ·simp[isLet,a,b]at k2;simp[isLet,a,b];exact rd (i+1) ⟨hi,k2⟩
    ·simp[isLet,a,b,d]at k2;simp[isLet,a,b,d];exact rd (i+1) ⟨hi,k2⟩
    all_goals
     simp[isLet,isName, *]at k2;simp[isLet,isName, *]
   ·rcases cls c with⟨a,b⟩|⟨a,b,d⟩|⟨a,b,d,e⟩|⟨a,b,d,e,f⟩|⟨a,b,d,e,f⟩|⟨a,b,d,e,f,g⟩|⟨a,b,d,e,f,g⟩|⟨a,b,d,e,f,g,h⟩
    ·simp[isLet,a,b]at k2;simp[isLet,a,b];exact rd (i+1) ⟨hi,k2⟩
    ·simp[isLet,a,b,d]at k2;simp[isLet,a,b,d];exact rd (i+1) ⟨hi,k2⟩
    ·simp[isLet,jM,a,b,d,e]at k2;have d2:c<48:=by omega
     simp[isLet,isName,a,b,e,j,d2,k2]
    ·simp[isLet,jM,a,b,d,e,f,j]at k2;have d2:¬c<48:=by omega
     have e2:¬57<c:=o_
     simp[isLet,a,b,d2,e2,f,j];exact rd (i+1) ⟨hi,k2⟩
    ·simp[isLet,jM,a,b,d,e,f]at k2;have d2:¬c<48:=by omega
     have e2:57<c:=o_
     simp[isLet,isName,a,b,d2,e2,f,j,k2]
    ·subst g;simp[isLet,jM,j]at k2;simp[isLet,j];exact rd (i+1) ⟨hi,k2⟩
    ·simp[isLet,jM,a,b,d,e,f,g]at k2;have d2:¬c<48:=by omega
     have e2:57<c:=o_
     simp[isLet,isName,a,b,d,d2,e2,g,j,k2]
    ·simp[isLet,jM,a,b,d,e,f,g,h]at k2;have d2:¬c<48:=by omega
     have e2:57<c:=o_
     simp[isLet,isName,a,b,d,e,d2,e2,h,j,k2]
  ·obtain⟨m,_⟩:=aDX l hi n;have hl:isLet (s[i]:Int)=false:=by simp[isLet];omega
   have x:jM (s[i]:Int)=false:=by simp[jM];omega
   have w:¬(s[i]:Int)=95:=o_
   simp[hl,x,w]at k2;rcases o:b1 (ic s) i with⟨c,d⟩
   rw[o]at m;have q:isLet (c:Int)=false:=by simp[isLet];omega
   have t:¬(c:Int)=95:=o_
   have u:¬(c:Int)<48:=o_
   have v:57<(c:Int):=o_
   simp[hi,o];refine c1 (HC _) ?_
   by_cases j:i=0
   ·simp[q,j,isName,k2]
   ·simp[q,j,t,u,v,isName,k2]
 ·have:i=s.length:=by omega
  subst this;simp[nt]at k2;cases hs:s with
  |nil=>simp[isName]
  |cons a r=>
   rw[hs]at k2;rcases CO 24 s.length with⟨g,k⟩|⟨g,k⟩
   ·rw[hs]at g k;have:¬(r.length+1)<=24:=by simp at g;omega
    simp at k;simp[isName,k2,this];omega
   ·rw[hs]at g k;have:(r.length+1)<=24:=by simp at k;omega
    simp at k;simp[isName,k2,this];omega
theorem il{s:List Nat}(h:bK s=0):bE 2000 (aI s):=by
 obtain⟨b,c⟩:=Ia h;have a:(10:Nat)^mD<=2^2000:=by decide+kernel
 exact⟨g5 b a,g5 c a⟩
theorem aQU:bg 1=[49]:=aQV (n:=1) (by decide)
def dH(q:Rat):Int:=if fN q<0\/0<dx q 1 then 3 else 0
def zn(s:List Nat):Int:=if bK s=0 then dH (aI s)else bK s
theorem HE(s:List Nat)(hs:gn s):az prog 154 [.str s] (.int .i64 (zn s)):=by
 have d:=yA s hs;refine aJ nf (i_ func154) mix (by simp[f154]) ?_;rw[zn]
 by_cases c:bK s=0
 ·have o:=il c;have f:=A6 (aI s) (o.mono (by decide));have g:=wD (aI s) 1 (o.mono (by decide)) (by exact⟨by decide+kernel,by decide+kernel⟩);rw[(jg c).1]at f g;rw[aQU]at g;rw[if_pos c,dH];rw[c]at d;generalize fN (aI s)=x at*;generalize dx (aI s) 1=y at*
  by_cases a:x<0
  ·simp[f154,aa];refine c1 d ?_;simp[aa];refine c1 f ?_;simp[a,aa]
  ·by_cases b:0<y
   ·simp[f154,aa];refine c1 d ?_;simp[aa];refine c1 f ?_;simp[a,aa];refine c2 g ?_;simp[a,b,aa]
   ·simp[f154,aa];refine c1 d ?_;simp[aa];refine c1 f ?_;simp[a,aa];refine c2 g ?_;simp[a,b,aa]
 ·rw[if_neg c];generalize bK s=e at*;simp[f154,aa];refine c1 d ?_;simp[c,aa]
def fO(o p:bZ):Bool:=decide (o.bH=p.bH)&&(decide (dx (aI o.a) (aI p.b)<=0)&&decide (dx (aI p.a) (aI o.b)<=0))
def fy(n:Nat)(c:List bZ)(p:bZ):Int:=
 if isName p.name=false then 8
 else if c.any (fun o=>decide (o.name=p.name))=true then 9
 else if p.bH<0\/(n:Int)<=p.bH then 10
 else if bK p.a≠0 then bK p.a
 else if bK p.b≠0 then bK p.b
 else if max (dH (aI p.a)) (dH (aI p.b))≠0 then max (dH (aI p.a)) (dH (aI p.b))
 else if 0<dx (aI p.a) (aI p.b)then 11
 else if c.any (fun o=>fO o p)=true then 17 else 0
def tT(p:bZ):Prop:=gn p.name/\gn p.a/\gn p.b
def aj.pk(t:aj)(i:Nat):bZ:=t.aB.getD i ⟨[],0,[],[]⟩
@[simp] theorem aj.Ct{t:aj}{i:Nat}(h:i<t.aB.length):t.aB[i]'h=t.pk i:=by
 rw[aj.pk,e8,b5 h];rfl
theorem aj.gz{t:aj}{i:Nat}(h:i<t.aB.length):t.aB[i]?=some (t.pk i):=by rw[b5 h,aj.Ct]
theorem wA{α:Type}{f:α->Bool}{l:List α}{i:Nat}{x:α}(h:l[i]?=some x):(l.take (i+1)).any f=((l.take i).any f||f x):=by
 rw[cy,h];simp
theorem Vo(t:aj)(i:Nat)(hi:i<t.aB.length)(hl:t.aB.length<=1000000)(hc:t.cs.length<=1000000)(P:∀p∈t.aB,tT p)(Q:∀j,j<i->bK (t.pk j).a=0/\bK (t.pk j).b=0):
 az prog 63 [cg t,.int .i64 i] (.int .i64 (fy t.cs.length (t.aB.take i) (t.pk i))):=by
 have v:=aj.gz hi;obtain⟨R,E,F⟩:=P _ (b4 v);have m:=CM (t.pk i).name R.1;have N:=yA (t.pk i).a E;have O:=yA (t.pk i).b F;refine aJ nf (i_ func63) mix (by simp[f63]) ?_;rw[fy];cases B:isName (t.pk i).name
 ·rw[B]at m;simp[f63,aa,v,hi];refine c1 m ?_;simp[aa]
 rw[B]at m;rw[if_neg (by decide)];simp[f63,aa,v,hi];refine c1 m ?_;simp[aa];refine lp (α:=Nat) (fun j=>⟨[(6,.p (.int .i64 j)),(5,.ptr 1 []),(2,.ptr 0 []),(1,.p (.int .i64 i))],[.box false (.p (cg t)),.box false (.p (bn (t.pk i)))]⟩) (fun j=>j<=i/\(t.aB.take j).any (fun o=>decide (o.name=(t.pk i).name))=false) (fun j=>i-j) 0 s_ ?_;rintro j ⟨U,D⟩
 by_cases q:j<i
 ·have z:j<t.aB.length:=by omega
  have g:=aj.gz z;have f:=bS (i:=j) o_
  by_cases n:(t.pk j).name=(t.pk i).name
  ·have:(t.aB.take i).any (fun o=>decide (o.name=(t.pk i).name))=true:=by
    rw[c9];exact⟨t.pk j,b4 (i:=j) (by rw[da,if_pos q];exact g),by simp[n]⟩
   rw[if_pos this];simp[q,z,g,n,aa]
  ·simp[q,z,g,n,f,aa];exact rd (j+1) ⟨q,by rw[wA g,D];simp[n]⟩
 have:j=i:=o_
 subst this;rw[D,if_neg (by decide)];have u:((t.pk j).bH<0\/(t.cs.length:Int)<=(t.pk j).bH)\/(¬(t.pk j).bH<0/\¬(t.cs.length:Int)<=(t.pk j).bH):=o_
 rcases u with u|⟨K,L⟩
 ·rw[if_pos u]
  by_cases e1:(t.pk j).bH<0
  ·simp[e1,aa]
  ·have e2:(t.cs.length:Int)<=(t.pk j).bH:=by omega
   simp[e1,e2,aa]
 rw[if_neg o_];have d0:¬j<j:=o_
 simp[K,L,d0,aa];refine c1 N ?_
 by_cases c:bK (t.pk j).a=0
 case neg=>
  rw[if_pos c];simp[c,aa]
 rw[if_neg (by simp[c])];simp[c,aa];refine c1 O ?_
 by_cases d:bK (t.pk j).b=0
 case neg=>
  rw[if_pos d];simp[d,aa]
 rw[if_neg (by simp[d])];simp[d,aa];have G:=il c;have H:=il d;have x:=HE (t.pk j).a E;have y:=HE (t.pk j).b F;rw[zn,if_pos c]at x;rw[zn,if_pos d]at y;have A:=wD (aI (t.pk j).a) (aI (t.pk j).b) (G.mono (by decide)) (H.mono (by decide));rw[(jg c).1,(jg d).1]at A;refine e1 x ?_;simp[aa];refine e1 y ?_;have em:max (dH (aI (t.pk j).a)) (dH (aI (t.pk j).b))=if dH (aI (t.pk j).a)<dH (aI (t.pk j).b)then dH (aI (t.pk j).b)else dH (aI (t.pk j).a):=by split<;>omega
 simp[aa,<-em];clear em x y;generalize max (dH (aI (t.pk j).a)) (dH (aI (t.pk j).b))=M at*
 by_cases hm:M=0
 case neg=>
  simp[hm,aa]
 subst hm;simp[aa];refine c2 A ?_
 by_cases s:0<dx (aI (t.pk j).a) (aI (t.pk j).b)
 ·rw[if_pos s];simp[s,aa]
 rw[if_neg s];simp[s,aa];refine lp (α:=Nat) (fun k=>⟨[(8,.p (.int .i64 k)),(5,.ptr 1 []),(2,.ptr 0 []),(1,.p (.int .i64 j))],[.box false (.p (cg t)),.box false (.p (bn (t.pk j)))]⟩) (fun k=>k<=j/\(t.aB.take k).any (fun o=>fO o (t.pk j))=false) (fun k=>j-k) 0 s_ ?_;rintro k ⟨k1,k2⟩
 by_cases hk:k<j
 ·have e:k<t.aB.length:=by omega
  have gk:=aj.gz e;have f:=bS (i:=k) o_;obtain⟨I,J⟩:=Q k hk;have S:=il I;have T:=il J;have l:=wD (aI (t.pk k).a) (aI (t.pk j).b) (S.mono (by decide)) (H.mono (by decide));have w:=wD (aI (t.pk j).a) (aI (t.pk k).b) (G.mono (by decide)) (T.mono (by decide));rw[(jg I).1,(jg d).1]at l;rw[(jg c).1,(jg J).1]at w;have C:fO (t.pk k) (t.pk j)=true->(t.aB.take j).any (fun o=>fO o (t.pk j))=true:=fun h=>by
   rw[c9];exact⟨t.pk k,b4 (i:=k) (by rw[da,if_pos hk];exact gk),h⟩
  have r:fO (t.pk k) (t.pk j)=false->(t.aB.take (k+1)).any (fun o=>fO o (t.pk j))=false:=fun h=>by
   rw[wA gk,k2,h];rfl
  rw[fO]at C r
  by_cases e1:(t.pk k).bH=(t.pk j).bH
  ·by_cases e2:dx (aI (t.pk k).a) (aI (t.pk j).b)<=0
   ·by_cases e3:dx (aI (t.pk j).a) (aI (t.pk k).b)<=0
    ·rw[if_pos (C (by simp[e1,e2,e3]))];simp[hk,e,gk,e1,aa];refine c2 l ?_;simp[e1,e2,aa];refine c2 w ?_;simp[e1,e2,e3,aa]
    ·simp[hk,e,gk,e1,aa];refine c2 l ?_;simp[e1,e2,aa];refine c2 w ?_;simp[e1,e2,e3,f,aa];exact rd (k+1) ⟨hk,r (by simp[e3])⟩
   ·simp[hk,e,gk,e1,aa];refine c2 l ?_;simp[e1,e2,f,aa];exact rd (k+1) ⟨hk,r (by simp[e2])⟩
  ·simp[hk,e,gk,e1,f,aa];exact rd (k+1) ⟨hk,r (by simp[e1])⟩
 ·have:k=j:=by omega
  subst this;rw[k2,if_neg (by decide)];simp[aa]
structure NV where
 x:NF
 y:NF
def NV.q(v:NV):V2:=⟨v.x.q,v.y.q⟩
def NV.add(v w:NV):NV:=⟨v.x.add w.x,v.y.add w.y⟩
def NV.sub(v w:NV):NV:=⟨v.x.sub w.x,v.y.sub w.y⟩
def NV.times(v:NV)(k:NF):NV:=⟨v.x.mul k,v.y.mul k⟩
def NV.dot(v w:NV):NF:=(v.x.mul w.x).add (v.y.mul w.y)
def NV.er(v w:NV):NF:=(v.x.mul w.y).sub (v.y.mul w.x)
theorem NV.jF(v w:NV):(v.sub w).q=v.q.sub w.q:=by simp only[NV.sub,NV.q,V2.sub,NF.jF]
theorem NV.Lr(v w:NV):(v.add w).q=v.q.add w.q:=rfl
theorem NV.HH(v:NV)(k:NF):(v.times k).q=v.q.mul k.q:=rfl
theorem NV.yy(v w:NV):(v.dot w).q=v.q.dot w.q:=rfl
theorem NV.CP(v w:NV):(v.er w).q=v.q.er w.q:=NF.jF _ _
def NV.from(p:gO):NV:=⟨⟨aI p.x,false⟩,⟨aI p.y,false⟩⟩
structure NS where
 a:NF
 b:NF
 d:NF
def NS.q(s:NS):S3:=⟨s.a.q,s.b.q,s.d.q⟩
def GY(k:Nat)(s:NS):Prop:=bE k s.a.q/\bE k s.b.q/\bE k s.d.q
theorem GQ{q:Rat}(h:bE 1800 q):yZ q=false:=by
 have a:(bc q.num.natAbs).length<=600:=pK (K:=1800) (k:=600) h.1 (by decide) (by decide);have b:(bc q.den).length<=600:=pK (K:=1800) (k:=600) h.2 (by decide) (by decide);rw[yZ,lS,lS,decide_eq_false o_,decide_eq_false o_];rfl
def NF.width(r:Int):NF:=.int (4*r*r)
structure NM where
 w:NV
 d:NV
 root:NF
def NM.of(width:NF)(p d b:NV):NM:=⟨b.sub p,d,(((b.sub p).dot d).mul ((b.sub p).dot d)).sub ((d.dot d).mul (((b.sub p).dot (b.sub p)).sub width))⟩
theorem lF:∀l:List Int,bQ l=0↔∀e∈l,e=0
 |[]=>by simp[bQ]
 |e::r=>by
  rw[bQ]
  by_cases h:e=0
  ·rw[if_pos h,lF r];simp[h]
  ·rw[if_neg h];simp[h]
theorem iY{p:gO}(h:df p=0):bK p.x=0/\bK p.y=0:=by
 have:=(lF _).1 h;exact⟨this _ s_,this _ s_⟩
def vP(p:gO):V2:=⟨aI p.x,aI p.y⟩
theorem mu(p:gO):(NV.from p).q=vP p:=rfl
theorem zW{k:Nat}{p:gO}(h:bP k (vP p)):bP k (NV.from p).q:=h
theorem Xr(n d:Int):kq n d=(n:Rat)*((d:Int):Rat)⁻¹:=by
 rw[kq,Rat.divInt_eq_div,Rat.div_def]
theorem aO7{a b:Nat}{x y:NF}(h:bE a x.q)(c:bE b y.q):bE (a+b+1) (x.sub y).q:=by rw[NF.jF];exact uD h c
theorem aO6{a b:Nat}{x y:NF}(h:bE a x.q)(c:bE b y.q):bE (a+b) (x.div y).q:=avH h c
structure NB where
 a:NV
 b:NV
 d:NF
def NB.q(n:NB):P4:=⟨⟨n.a.x.q,n.b.x.q,n.d.q⟩,⟨n.a.y.q,n.b.y.q,n.d.q⟩⟩
def okB(k:Nat)(n:NB):Prop:=bP k n.a.q/\bP k n.b.q/\bE k n.d.q
theorem okB.mono{k l:Nat}{n:NB}(h:okB k n)(hl:k<=l):okB l n:=⟨h.1.mono hl,h.2.1.mono hl,h.2.2.mono hl⟩
theorem SC(e:Int):∀l:List Int,bQ (l++[e])=if bQ l=0 then e else bQ l
 |[]=>by by_cases h:e=0<;>simp[bQ,h]
 |x::l=>by
  simp only[gi,bQ,SC e l]
  by_cases hx:x=0
  ·simp[hx]
  ·simp[hx]
theorem vH{q:Rat}{k:Nat}(h:bE k q)(hk:k<=1800):gn (bg q)/\bK (bg q)=0:=by
 have a:(bc q.num.natAbs).length<=600:=pK (K:=1800) (k:=600) (h.mono hk).1 (by decide) (by decide);have b:(bc q.den).length<=600:=pK (K:=1800) (k:=600) (h.mono hk).2 (by decide) (by decide);have d:=CL q;exact⟨⟨o_,fun c hc=>g7 (Vi q c hc) (by decide)⟩,aC0 a b⟩
theorem rq{s:List Nat}(h:fK s 6=true):bE 20 (aI s)/\bK s=0:=by
 simp only[fK,ap,decide_eq_true_eq]at h;have a:=QQ h.1.2;have b:=QQ h.2;exact⟨⟨g7 a (by decide),g7 b (by decide)⟩,h.1.1.2⟩
def lX(v:V2):gO:=⟨bg v.x,bg v.y⟩
theorem uc(v:V2):eV v=ft (lX v):=rfl
theorem Hl(v:V2):vP (lX v)=v:=by
 obtain⟨x,y⟩:=v;simp only[vP,lX,yz]
theorem zh{v:V2}{k:Nat}(h:bP k v)(hk:k<=1800):oC (lX v)/\df (lX v)=0:=by
 obtain⟨a,a2⟩:=vH h.1 hk;obtain⟨b,c⟩:=vH h.2 hk;refine⟨⟨a,b⟩,?_⟩;rw[df];simp only[lX,bQ,a2,c,if_true]
def fP{α:Type}(a:List α->α->Int)(l:List α)(i:Nat):Int:=match l[i]? with
 |some x=>a (l.take i) x
 |none=>0
def jX{α:Type}(a:List α->α->Int)(l:List α):Int:=bQ ((dk l.length).map (fP a l))
theorem HA{f:Nat->Int}:∀(n i:Nat),(∀j,j<i->f j=0)->i<n->f i≠0->bQ ((dk n).map f)=f i
 |0,i,_,h,_=>by omega
 |n+1,i,a,g,b=>by
  rw[gj,gl,cx,dz,SC]
  by_cases hi:i<n
  ·rw[HA n i a hi b,if_neg b]
  ·have:i=n:=by omega
   subst this;rw[(lF _).2 (by intro e c;obtain⟨j,d,rfl⟩:=dl.1 c;exact a j (ej.1 d)),if_pos rfl]
theorem ug{α:Type}{a:List α->α->Int}{l:List α}{i:Nat}{x:α}(h:∀j,j<i->fP a l j=0)(hx:l[i]?=some x)(b:a (l.take i) x≠0):jX a l=a (l.take i) x:=by
 have hi:=(cb.1 hx).1;have e:fP a l i=a (l.take i) x:=by rw[fP,hx]
 rw[jX,HA _ i h hi (by rw[e];exact b),e]
theorem l9{α:Type}{b:List α->α->Int}{l:List α}:jX b l=0↔∀j,j<l.length->fP b l j=0:=by
 rw[jX,lF];constructor
 ·intro h j a;exact h _ (dl.2 ⟨j,ej.2 a,rfl⟩)
 ·intro h e c;obtain⟨j,a,rfl⟩:=dl.1 c;exact h j (ej.1 a)
theorem uf{α:Type}{a:List α->α->Int}{l:List α}{i:Nat}{x:α}(h:∀j,j<i->fP a l j=0)(hx:l[i]?=some x)(c:a (l.take i) x=0):∀j,j<i+1->fP a l j=0:=by
 intro j d
 by_cases b:j=i
 ·subst b;rw[fP,hx];exact c
 ·exact h j o_
def gG(t:aj)(bef:List bR)(s:bR):Int:=
 if isName s.name=false then 8
 else if bef.any (fun o=>decide (o.name=s.name))=true then 9
 else if df s.pt≠0 then df s.pt
 else if t.on (vP s.pt)<0 then 16 else 0
def b9(t:aj):Int:=
 if t.cs.length<3 then 2
 else if 12<t.cs.length then 5
 else if t.cs.any dd=true then 3
 else if t.eS=false then 15
 else if t.aU<1\/1000<t.aU then 3
 else if 12<t.aB.length then 5
 else if jX (fy t.cs.length) t.aB≠0 then jX (fy t.cs.length) t.aB
 else if 256<t.ag.length then 5
 else jX (gG t) t.ag
def kX(p:bR):Prop:=gn p.name/\oC p.pt
def aj.sp(t:aj)(i:Nat):bR:=t.ag.getD i ⟨[],⟨[],[]⟩⟩
@[simp] theorem aj.rM{t:aj}{i:Nat}(h:i<t.ag.length):t.ag[i]'h=t.sp i:=by
 rw[aj.sp,e8,b5 h];rfl
theorem aj.dP{t:aj}{i:Nat}(h:i<t.ag.length):t.ag[i]?=some (t.sp i):=by rw[b5 h,aj.rM]
structure gH(t:aj):Prop where
 cl:t.cs.length<=1000000
 pl:t.aB.length<=1000000
 sl:t.ag.length<=1000000
 pk:∀p∈t.aB,tT p
 sp:∀s∈t.ag,kX s
def oI(t:aj)(name:List Nat):Int:=match t.ag.findIdx? (fun s=>decide (s.name=name))with
 |some i=>i
 |none=>-1
theorem CT{n:Nat}{c:List bZ}{p:bZ}(h:fy n c p=0):bK p.a=0/\bK p.b=0:=by
 rw[fy]at h
 split at h
 ·omega
 split at h
 ·omega
 split at h
 ·omega
 split at h
 ·contradiction
 split at h
 ·contradiction
 rename_i d e;exact⟨a1.1 d,a1.1 e⟩
theorem aAP(t:aj)(name:List Nat)(hl:t.ag.length<=1000000):az prog 65 [cg t,.str name] (.int .i64 (oI t name)):=by
 refine aJ nf (i_ func65) mix (by simp[f65]) ?_;simp[f65,aa];refine lp (α:=Nat) (fun i=>⟨[(5,.p (.int .i64 i)),(2,.ptr 0 []),(1,.p (.str name))],[.box false (.p (cg t))]⟩) (fun i=>i<=t.ag.length/\∀j,j<i->¬(t.sp j).name=name) (fun i=>t.ag.length-i) 0 s_ ?_;rintro i ⟨g,c⟩
 by_cases hi:i<t.ag.length
 ·have d:=aj.dP hi;have f:=bS (i:=i) o_
  by_cases a:(t.sp i).name=name
  ·have:oI t name=i:=by
    have:t.ag.findIdx? (fun s=>decide (s.name=name))=some i:=by
     rw[eq];refine⟨hi,by rw[aj.rM];simp[a],fun j b=>?_⟩;rw[aj.rM];simp[c j b]
    rw[oI,this]
   simp[hi,d,a,this,aa]
  ·simp[hi,d,a,f,aa];exact rd (i+1) ⟨hi,fun j b=>by
    by_cases e:j=i
    ·subst e;exact a
    ·exact c j o_⟩
 ·have:i=t.ag.length:=by omega
  subst this;have:oI t name= -1:=by
   have:t.ag.findIdx? (fun s=>decide (s.name=name))=none:=by
    rw[e9];intro s hs;obtain⟨j,b,rfl⟩:=c8.1 hs;rw[aj.rM];simp[c j b]
   rw[oI,this]
  simp[this,aa]
theorem aQt{t:aj}{i:Nat}(hi:i<t.ag.length):oI t (t.sp i).name<i↔(t.ag.take i).any (fun o=>decide (o.name=(t.sp i).name))=true:=by
 obtain⟨k,hk⟩:∃k,t.ag.findIdx? (fun s=>decide (s.name=(t.sp i).name))=some k:=by
  cases h:t.ag.findIdx? (fun s=>decide (s.name=(t.sp i).name))with
  |some k=>exact⟨k,rfl⟩
  |none=>
   rw[e9]at h;have:=h _ (b4 (aj.dP hi));simp at this
 rw[oI,hk];rw[eq]at hk;obtain⟨k1,k2,k3⟩:=hk;rw[c9];constructor
 ·intro h;have h:k<i:=by simp only at h;omega
  exact⟨t.ag[k],b4 (i:=k) (by rw[da,if_pos h,b5 k1]),k2⟩
 ·rintro⟨o,b,a⟩;obtain⟨j,c,rfl⟩:=c8.1 b;simp only[ce]at c;simp only;rw[ee]at a;have:¬j<k:=fun d=>by
   have:=k3 j d;rw[a]at this;simp at this
  omega
theorem Vl(t:aj)(K:gH t):az prog 13 [cg t] (.int .i64 (b9 t)):=by
 obtain⟨r,L,M,I,J⟩:=K;refine aJ nf (i_ func13) mix (by simp[f13]) ?_;rw[b9]
 by_cases c1:t.cs.length<3
 ·have cI:(t.cs.length:Int)<3:=by omega
  rw[if_pos c1];simp[f13,aa,cI]
 have u:¬(t.cs.length:Int)<3:=o_
 rw[if_neg c1]
 by_cases c2:12<t.cs.length
 ·have cI:(12:Int)<t.cs.length:=by omega
  rw[if_pos c2];simp[f13,aa,u,cI]
 have z:¬(12:Int)<t.cs.length:=o_
 rw[if_neg c2];simp[f13,aa,u,z];refine lp (α:=Nat) (fun i=>⟨[(3,.p (.int .i64 i)),(1,.ptr 0 [])],[.box false (.p (cg t))]⟩) (fun i=>i<=t.cs.length/\(t.cs.take i).any dd=false) (fun i=>t.cs.length-i) 0 s_ ?_;rintro i ⟨i1,i2⟩
 by_cases hi:i<t.cs.length
 ·have g:=aj.get hi;have e:=bS (i:=i) o_;have k:=DE (t.at i);cases hf:dd (t.at i)
  ·rw[hf]at k;simp[hi,g,aa];refine c1_ k ?_;simp[e,aa];exact rd (i+1) ⟨hi,by rw[wA g,i2,hf];rfl⟩
  ·rw[hf]at k;have:t.cs.any dd=true:=c9.2 ⟨t.at i,b4 g,hf⟩;rw[if_pos this];simp[hi,g,aa];refine c1_ k ?_;simp[aa]
 have:i=t.cs.length:=o_
 subst this;rw[cr]at i2;have w:∀p∈t.cs,bV p:=fun p H=>rQ (by
  cases h:dd p
  ·rfl
  ·rw[c9.2 ⟨p,H,h⟩]at i2;cases i2)
 have D:=VM t r w;rw[i2,if_neg (by decide)];simp[aa];refine c1_ D ?_;cases Q:t.eS
 ·simp[aa]
 rw[if_neg (by decide)];have s:(t.aU<1\/1000<t.aU)\/(¬t.aU<1/\¬1000<t.aU):=o_
 rcases s with s|⟨x,y⟩
 ·rw[if_pos s]
  by_cases e1:t.aU<1
  ·simp[e1,aa]
  ·have e2:1000<t.aU:=by omega
   simp[e1,e2,aa]
 rw[if_neg o_]
 by_cases c3:12<t.aB.length
 ·have cI:(12:Int)<t.aB.length:=by omega
  rw[if_pos c3];simp[x,y,cI,aa]
 have A:¬(12:Int)<t.aB.length:=o_
 rw[if_neg c3];simp[x,y,A,aa];refine lp (α:=Nat) (fun i=>⟨[(4,.p (.int .i64 i)),(1,.ptr 0 [])],[.box false (.p (cg t))]⟩) (fun i=>i<=t.aB.length/\∀j,j<i->fP (fy t.cs.length) t.aB j=0) (fun i=>t.aB.length-i) 0 s_ ?_;rintro i ⟨k1,k2⟩
 by_cases hk:i<t.aB.length
 ·have gk:=aj.gz hk;have e:=bS (i:=i) o_;have b:=Vo t i hk L r I (fun j G=>by
   have:=k2 j G;rw[fP,aj.gz o_]at this;exact CT this)
  by_cases he:fy t.cs.length (t.aB.take i) (t.pk i)=0
  ·rw[he]at b;simp[hk,aa];refine c2_ b ?_;simp[e,aa];exact rd (i+1) ⟨hk,uf k2 gk he⟩
  ·have F:=ug k2 gk he;rw[F,if_pos he];simp[hk,aa];refine c2_ b ?_;simp[he,aa]
 have:i=t.aB.length:=o_
 subst this;have E:=l9.2 k2;rw[E,if_neg (by decide)]
 by_cases c4:256<t.ag.length
 ·have cI:(256:Int)<t.ag.length:=by omega
  rw[if_pos c4];simp[cI,aa]
 have B:¬(256:Int)<t.ag.length:=o_
 rw[if_neg c4];simp[B,aa];refine lp (α:=Nat) (fun i=>⟨[(6,.p (.int .i64 i)),(1,.ptr 0 [])],[.box false (.p (cg t))]⟩) (fun i=>i<=t.ag.length/\∀j,j<i->fP (gG t) t.ag j=0) (fun i=>t.ag.length-i) 0 s_ ?_;rintro i ⟨s1,s2⟩
 by_cases hs:i<t.ag.length
 ·have a:=aj.dP hs;have e:=bS (i:=i) o_;obtain⟨O,P⟩:=J _ (b4 a);have c:=CM (t.sp i).name O.1;have l:=aAP t (t.sp i).name M;have b:=Lq (t.sp i).pt P;have v:=aQt hs;have f:gG t (t.ag.take i) (t.sp i)≠0->jX (gG t) t.ag=gG t (t.ag.take i) (t.sp i):=ug s2 a;have N:gG t (t.ag.take i) (t.sp i)=0->∀j,j<i+1->fP (gG t) t.ag j=0:=uf s2 a;have ev:gG t (t.ag.take i) (t.sp i)=if isName (t.sp i).name=false then 8 else if(t.ag.take i).any (fun o=>decide (o.name=(t.sp i).name))=true then 9 else if df (t.sp i).pt≠0 then df (t.sp i).pt else if t.on (vP (t.sp i).pt)<0 then 16 else 0:=rfl
  cases m:isName (t.sp i).name
  ·rw[m]at c;rw[m,if_pos rfl]at ev;rw[f (by rw[ev];decide),ev];simp[hs,a,aa];refine c1_ c ?_;simp[aa]
  rw[m]at c;rw[m,if_neg (by decide)]at ev
  by_cases d:oI t (t.sp i).name<i
  ·rw[if_pos (v.1 d)]at ev;rw[f (by rw[ev];decide),ev];simp[hs,a,aa];refine c1_ c ?_;simp[aa];refine c2_ l ?_;simp[d,aa]
  rw[if_neg (fun h=>d (v.2 h))]at ev
  by_cases pe:df (t.sp i).pt=0
  case neg=>
   rw[if_pos pe]at ev;rw[f (by rw[ev];exact pe),ev];simp[hs,a,aa];refine c1_ c ?_;simp[aa];refine c2_ l ?_;simp[d,aa];refine c1_ b ?_;simp[pe,aa]
  rw[if_neg (by simp[pe])]at ev;obtain⟨g1,g2⟩:=iY pe;have q:=SI t (vP (t.sp i).pt) r w ⟨(il g1).mono (by decide),(il g2).mono (by decide)⟩;have C:eV (vP (t.sp i).pt)=ft (t.sp i).pt:=by
   rw[eV,vP];dsimp only;rw[(jg g1).1,(jg g2).1]
  rw[C]at q;rw[pe]at b
  by_cases n:t.on (vP (t.sp i).pt)<0
  ·rw[if_pos n]at ev;rw[f (by rw[ev];decide),ev];simp[hs,a,aa];refine c1_ c ?_;simp[aa];refine c2_ l ?_;simp[d,aa];refine c1_ b ?_;simp[aa];refine c2_ q ?_;simp[n,aa]
  ·rw[if_neg n]at ev;simp[hs,a,aa];refine c1_ c ?_;simp[aa];refine c2_ l ?_;simp[d,aa];refine c1_ b ?_;simp[aa];refine c2_ q ?_;simp[n,e,aa];exact rd (i+1) ⟨hs,N ev⟩
 ·have:i=t.ag.length:=by omega
  subst this;rw[l9.2 s2];simp[aa]
open Go.Proofs Go.Proofs.YtfdgnogcckoalaaGreatDoor
section
variable{H:Type}{W:a8}{ad:Nat->Prop}
theorem zi:∀d:a7 H,1<=Rows.uptoBulk d:=by
 intro d;cases d with
 |lit l=>cases l<;>simp[Rows.uptoBulk]
 |_=>simp[Rows.uptoBulk]
theorem zo{α:Type}{n:Nat}{t e:TypeId}{F:α->PV}{ok:α->Prop}(g:prog.underlying t=some (.slice e))
 (p:∀(d:a7 H),(∃c,aY prog W ad (bN prog n e d) c)->Rows.uptoBulk d<=1048576->∃a,bN prog n e d=F a/\ok a/\2<=Rows.uptoBulk d)
 {d:a7 H}(h:∃cs,aY prog W ad (bN prog (n+1) t d) cs)(k:Rows.uptoBulk d<=1048576):∃l:List α,bN prog (n+1) t d=.seq (l.map F)/\(∀a∈l,ok a)/\l.length<=1000000:=by
 obtain⟨cs,h⟩:=h;cases d with
 |nil=>exact⟨[],by simp[bN,g],(fun _ h=>nomatch h),s_⟩
 |slice f sp=>
  simp only[bN,g,aY]at h⊢;have i:∀e'∈f.map (bN prog n e),∃c,aY prog W ad e' c:=by
   rcases h with⟨h,_⟩|⟨_,_,_,_,w,h,_⟩
   ·rw[h];intro _ h;cases h
   ·exact HL h
  have key:∀f:List (a7 H),(∀e'∈f.map (bN prog n e),∃c,aY prog W ad e' c)->Rows.uptoBulkAll f<=1048576->∃l:List α,f.map (bN prog n e)=l.map F/\(∀a∈l,ok a)/\2*l.length<=Rows.uptoBulkAll f:=by
   intro f
   induction f with
   |nil=>intro _ _;exact⟨[],rfl,(fun _ h=>nomatch h),s_⟩
   |cons d r v=>
    intro i k;rw[Rows.uptoBulkAll]at k⊢;obtain⟨a,q,u,m⟩:=p d (i _ gc) o_;obtain⟨l,j,o,y⟩:=v (fun e' s=>i e' (fm _ s)) o_;refine⟨a::l,by simp only[cx];rw[q,j],fun x hx=>?_,by rw[e6];omega⟩;rcases gt.1 hx with rfl|hx
    ·exact u
    ·exact o x hx
  rw[Rows.uptoBulk]at k;obtain⟨l,j,m,o⟩:=key f i o_;exact⟨l,by rw[j],m,o_⟩
 |lit l=>simp only[bN,g,aY]at h
 |ptr d=>simp only[bN,g,aY]at h
 |agg l=>simp only[bN,g,aY]at h
 |iface a b=>simp only[bN,g,aY]at h
 |map l=>simp only[bN,g,aY]at h
 |held a=>simp only[bN,g,aY]at h
theorem CV{n:Nat}{d:a7 H}(h:∃cs,aY prog W ad (bN prog (n+1) 9 d) cs)(a:Rows.uptoBulk d<=1048576):∃s:List Nat,bN prog (n+1) 9 d=.str s/\gn s:=by
 obtain⟨cs,h⟩:=h;cases d with
 |lit l=>
  cases l with
  |string bytes=>
   refine⟨bytes.map (·.toNat),by simp only[bN,Hj],?_,?_⟩
   ·rw[Rows.uptoBulk]at a;rw[eb];omega
   ·intro c hc;obtain⟨u,_,rfl⟩:=dl.1 hc;exact u.toNat_lt
  |_=>simp only[bN,Hj,aY]at h
 |_=>simp only[bN,Hj,aY]at h
theorem aQ7:∃a b:bb,prog.underlying 64=some (.struct #[a,b])/\a.type=3/\b.type=3:=⟨_,_,underlying64,rfl,rfl⟩
theorem UX:prog.underlyingId 64=63:=k_
theorem HX{m n:Nat}(j:m=n+1){d:a7 H}(h:∃cs,aY prog W ad (bN prog (m+1) 64 d) cs)(o:Rows.uptoBulk d<=1048576):∃p:bU,bN prog (m+1) 64 d=aG p/\True/\2<=Rows.uptoBulk d:=by
 obtain⟨cs,h⟩:=h;obtain⟨f0,f1,f,t0,t1⟩:=aQ7;cases d with
 |agg l=>
  simp only[bN,f,aY]at h⊢;obtain⟨q,k,e,c,_⟩:=h;rw[UX,aQH]at e;cases e
  match l,c with
  |[],c=>simp[bm]at c
  |[x],c=>simp[bm]at c
  |x::y::r,c=>
   have:=zi x;simp only[dg,cx,bm,dp,dz,t0,t1]at c⊢;obtain⟨c0,_,_,g1,_,c1,_,_,g2,_⟩:=c;subst j;obtain⟨a,g⟩:=wC (n:=n) x c0 g1;obtain⟨b,i⟩:=wC (n:=n) y c1 g2;refine⟨⟨a,b⟩,by rw[g,i,UX];rfl,trivial,?_⟩;rw[Rows.uptoBulk,Rows.uptoBulkAll];omega
 |_=>simp only[bN,f,aY]at h
theorem aQ5:∃a b f2 f3:bb,prog.underlying 88=some (.struct #[a,b,f2,f3])/\a.type=9/\b.type=3/\f2.type=73/\f3.type=73:=⟨_,_,_,_,underlying88,rfl,rfl,rfl,rfl⟩
theorem UU:prog.underlyingId 88=87:=k_
theorem Vv{m n:Nat}(q:m=n+1){d:a7 H}(h:∃cs,aY prog W ad (bN prog (m+1) 88 d) cs)(o:Rows.uptoBulk d<=1048576):∃p:bZ,bN prog (m+1) 88 d=bn p/\tT p/\2<=Rows.uptoBulk d:=by
 obtain⟨cs,h⟩:=h;obtain⟨f0,f1,f2,f3,g,t0,t1,t2,t3⟩:=aQ5;cases d with
 |agg l=>
  have e:∀x∈l,Rows.uptoBulk x<=1048576:=fun x hx=>by
   have:=rr.vE hx;rw[Rows.uptoBulk]at o;omega
  simp only[bN,g,aY]at h⊢;obtain⟨B,A,f,c,_⟩:=h;rw[UU,aQK]at f;cases f
  match l,c with
  |[],c=>simp[bm]at c
  |[x],c=>simp[bm]at c
  |[x,y],c=>simp[bm]at c
  |[x,y,z],c=>simp[bm]at c
  |x::y::z::w::r,c=>
   have:=zi x;simp only[dg,cx,bm,dp,dz,t0,t1,t2,t3]at c⊢;obtain⟨c0,_,_,g0,_,c1,_,_,g1,_,c2,_,_,g2,_,c3,_,_,g3,_⟩:=c;subst q;obtain⟨a,i,k⟩:=CV (n:=n) ⟨c0,g0⟩ (e x s_);obtain⟨b,j⟩:=wC (n:=n) y c1 g1;obtain⟨u,eu,s⟩:=BQ (n:=n) ⟨c2,g2⟩ (e z s_);obtain⟨v,ev,t⟩:=BQ (n:=n) ⟨c3,g3⟩ (e w s_);refine⟨⟨a,b,u,v⟩,by rw[i,j,eu,ev,UU];rfl,⟨k,s,t⟩,?_⟩;rw[Rows.uptoBulk,Rows.uptoBulkAll];omega
 |_=>simp only[bN,g,aY]at h
theorem aQ8:∃a b:bb,prog.underlying 97=some (.struct #[a,b])/\a.type=9/\b.type=82:=⟨_,_,underlying97,rfl,rfl⟩
theorem UY:prog.underlyingId 97=84:=k_
theorem VN{m n:Nat}(s:m=n+2){d:a7 H}(h:∃cs,aY prog W ad (bN prog (m+1) 97 d) cs)(o:Rows.uptoBulk d<=1048576):∃p:bR,bN prog (m+1) 97 d=aR p/\kX p/\2<=Rows.uptoBulk d:=by
 obtain⟨cs,h⟩:=h;obtain⟨f0,f1,g,t0,t1⟩:=aQ8;cases d with
 |agg l=>
  have f:∀x∈l,Rows.uptoBulk x<=1048576:=fun x hx=>by
   have:=rr.vE hx;rw[Rows.uptoBulk]at o;omega
  simp only[bN,g,aY]at h⊢;obtain⟨u,t,e,c,_⟩:=h;rw[UY,UO]at e;cases e
  match l,c with
  |[],c=>simp[bm]at c
  |[x],c=>simp[bm]at c
  |x::y::r,c=>
   have:=zi x;simp only[dg,cx,bm,dp,dz,t0,t1]at c⊢;obtain⟨c0,_,_,g1,_,c1,_,_,g2,_⟩:=c;subst s;obtain⟨a,i,k⟩:=CV (n:=n+1) ⟨c0,g1⟩ (f x s_);obtain⟨b,j,q⟩:=MY (n:=n) ⟨c1,g2⟩ (f y s_);refine⟨⟨a,b⟩,by rw[i,j,UY];rfl,⟨k,q⟩,?_⟩;rw[Rows.uptoBulk,Rows.uptoBulkAll];omega
 |_=>simp only[bN,g,aY]at h
theorem aQ9:∃a b f2 f3:bb,prog.underlying 26=some (.struct #[a,b,f2,f3])/\a.type=22/\b.type=3/\f2.type=23/\f3.type=24:=⟨_,_,_,_,underlying26,rfl,rfl,rfl,rfl⟩
theorem UZ:prog.underlyingId 26=25:=k_
theorem aQM{m n:Nat}(p:m=n+4){d:a7 H}(h:∃cs,aY prog W ad (bN prog (m+1) 26 d) cs)(e:Rows.uptoBulk d<=1048576):∃t:aj,bN prog (m+1) 26 d=cg t/\True/\gH t:=by
 obtain⟨cs,h⟩:=h;obtain⟨f0,f1,f2,f3,j,t0,t1,t2,t3⟩:=aQ9;cases d with
 |agg l=>
  have g:∀x∈l,Rows.uptoBulk x<=1048576:=fun x hx=>by
   have:=rr.vE hx;rw[Rows.uptoBulk]at e;omega
  simp only[bN,j,aY]at h⊢;obtain⟨E,D,i,c,_⟩:=h;rw[UZ,aQG]at i;cases i
  match l,c with
  |[],c=>simp[bm]at c
  |[x],c=>simp[bm]at c
  |[x,y],c=>simp[bm]at c
  |[x,y,z],c=>simp[bm]at c
  |x::y::z::w::r,c=>
   simp only[dg,cx,bm,dp,dz,t0,t1,t2,t3]at c⊢;obtain⟨c0,_,_,g0,_,c1,_,_,g1,_,c2,_,_,g2,_,c3,_,_,g3,_⟩:=c;subst p;obtain⟨a,k,_,A⟩:=zo (n:=n+3) aQZ (F:=aG) (ok:=fun _=>True) (fun d f e=>HX (n:=n+1) rfl f e) ⟨c0,g0⟩ (g x s_);obtain⟨b,o⟩:=wC (n:=n+3) y c1 g1;obtain⟨u,eu,q,B⟩:=zo (n:=n+3) aQ0 (F:=bn) (ok:=tT) (fun d f e=>Vv (n:=n+1) rfl f e) ⟨c2,g2⟩ (g z s_);obtain⟨v,ev,s,C⟩:=zo (n:=n+3) aQ1 (F:=aR) (ok:=kX) (fun d f e=>VN (n:=n) rfl f e) ⟨c3,g3⟩ (g w s_);exact⟨⟨a,b,u,v⟩,by rw[k,o,eu,ev,UZ];rfl,trivial,A,B,C,q,s⟩
 |_=>simp only[bN,j,aY]at h
theorem aQL{d:a7 H}(h:∃cs,aY prog W ad (bN prog 8 26 d) cs)(a:Rows.uptoBulk d<=1048576):∃t:aj,bN prog 8 26 d=cg t/\True/\gH t:=aQM (n:=3) rfl h a
end
def fD(p:bZ):PV:=.st 87 [.str p.name,.int .i64 p.bH,.str p.a,.str p.b]
def iw(p:bR):PV:=.st 84 [.str p.name,ft p.pt]
def bJ(t:aj):PV:=.st 35 [.seq (t.cs.map aG),.int .i64 t.aU,.seq (t.aB.map fD),.seq (t.ag.map iw)]
@[simp] theorem aTY(p:bZ):aP (fD p)=.agg 87:=rfl
@[simp] theorem aSG(p:bZ):cS (fD p)=[.str p.name,.int .i64 p.bH,.str p.a,.str p.b]:=rfl
@[simp] theorem aT3(p:bR):aP (iw p)=.agg 84:=rfl
@[simp] theorem aSK(p:bR):cS (iw p)=[.str p.name,ft p.pt]:=rfl
@[simp] theorem aT6(t:aj):aP (bJ t)=.agg 35:=rfl
@[simp] theorem aSM(t:aj):cS (bJ t)=[.seq (t.cs.map aG),.int .i64 t.aU,.seq (t.aB.map fD),.seq (t.ag.map iw)]:=rfl
theorem DD(p:bU):az prog 132 [aG p] (.bool (dd p)):=by
 obtain⟨x,y⟩:=p;refine aJ nf (i_ func132) mix (by simp[f132]) ?_;have e1:max x y=if x<y then y else x:=by split<;>omega
 have e2:min x y=if y<x then y else x:=by split<;>omega
 rw[dd,e1,e2]
 by_cases h:(if x<y then y else x)<=10000
 ·have a:¬10000<(if x<y then y else x):=by omega
  by_cases b:(if y<x then y else x)< -10000
  ·simp[f132,aa,h,a,b]
  ·simp[f132,aa,h,a,b]
 ·have a:10000<(if x<y then y else x):=by omega
  simp[f132,aa,h,a]
def idxFrom{α:Type}(p:α->Bool):List α->Nat->Int
 |[],_=>-1
 |x::r,i=>if p x then(i:Int)else idxFrom p r (i+1)
theorem pW{α:Type}(p:α->Bool):∀(l:List α)(i:Nat),decide (0<=idxFrom p l i)=l.any p
 |[],i=>by simp[idxFrom]
 |x::r,i=>by
  by_cases h:p x
  ·simp[idxFrom,h]
  ·simp[idxFrom,h,pW p r]
theorem Vt(l:List bU)(h:l.length<=1000000):
 az prog 214 [.seq (l.map aG),.func 132 [] []] (.int .i64 (idxFrom dd l 0)):=by
 refine aJ nf (i_ func214) mix (by simp[f214]) ?_;simp[f214];refine lp (α:=Nat) (fun i=>⟨[(8,.p (.int .i64 i)),(7,.p (.int .i64 l.length)),(1,.p (.func 132 [] [])),(0,.p (.seq (l.map aG)))],[]⟩) (fun i=>i<=l.length/\idxFrom dd l 0=idxFrom dd (l.drop i) i) (fun i=>l.length-i) 0 s_ ?_;rintro i ⟨k1,k2⟩
 by_cases hi:i<l.length
 ·rw[cc hi]at k2;have b:=bS (i:=i) o_;simp[hi];refine c1 (DD l[i]) ?_
  by_cases a:dd l[i]
  ·simp[idxFrom,a]at k2;simp[a,k2]
  ·simp[idxFrom,a]at k2;simp[a,b];exact rd (i+1) ⟨hi,k2⟩
 ·have:i=l.length:=by omega
  subst this;simp[idxFrom]at k2;simp[k2]
theorem Vj(l:List bU)(h:l.length<=1000000):
 az prog 131 [.seq (l.map aG),.func 132 [] []] (.bool (l.any dd)):=by
 refine aJ nf (i_ func131) mix (by simp[f131]) ?_;simp[f131];refine c2 (Vt l h) ?_;simp[<-pW dd l 0]
def nD(l:List bU):List (PV×PV):=l.map (fun p=>(aG p,PV.bool true))
theorem H9{p q:bU}(h:¬p=q):¬(p.x=q.x/\p.y=q.y):=fun⟨a,b⟩=>h (by cases p;cases q;simp_all)
theorem aKS(a b c d:Int):eA prog 9 64 (.st 63 [.int .i64 a,.int .i64 b]) (.st 63 [.int .i64 c,.int .i64 d])=some ((a==c)&&((b==d)&&true)):=k_
@[simp] theorem CY(p q:bU):eA prog 9 64 (aG p) (aG q)=some (decide (p=q)):=by
 rw[aG,aG,aKS]
 by_cases h:p=q
 ·subst h;simp
 ·rw[decide_eq_false h];have:=H9 h
  by_cases a:p.x=q.x
  ·have b:¬p.y=q.y:=fun b=>this ⟨a,b⟩;simp[a,b]
  ·simp[a]
theorem H8(p q:bU):lP (aG p) (aG q)=some (decide (p=q)):=by
 by_cases h:p=q
 ·subst h;simp[aG,lP,yU]
 ·rw[decide_eq_false h];have:=H9 h
  by_cases a:p.x=q.x
  ·have b:¬p.y=q.y:=fun b=>this ⟨a,b⟩;simp[aG,lP,yU,a,beq_false_of_ne b]
  ·simp[aG,lP,yU,beq_false_of_ne a]
theorem aKP(p q:bU):rD prog 64 (aG p) (aG q)=some (decide (p=q)):=by
 have e1:=CY p q;have e2:=H8 p q;rw[aG]at e1 e2⊢;rw[rD,e1,e2];simp
@[simp] theorem HI(q:bU):∀l:List bU,gI prog 64 (nD l) (aG q)=some (if q∈l then some (.bool true)else none)
 |[]=>rfl
 |p::r=>by
  rw[nD,cx,gI,aKP]
  by_cases h:q=p
  ·simp[h]
  ·have:=HI q r;rw[nD]at this;simp[h,this]
theorem Vr{q:bU}{l:List bU}(h:¬q∈l):mV prog 64 (nD l) (aG q)=some none:=by
 have:=HI q l;rw[if_neg h]at this;rw[aG]at this⊢;rw[mV,this]
theorem HJ{q:bU}:∀{l:List bU},¬q∈l->iq (nD l) (aG q) (.bool true)=nD (l++[q])
 |[],_=>rfl
 |p::r,h=>by
  have a:¬q=p:=fun e=>h (e▸gc);have b:¬q∈r:=fun e=>h (fm _ e);have:=HJ b;rw[nD]at this⊢;rw[cx,iq,H8,this];simp[a,nD]
theorem aO5:lO prog 64=true:=k_
@[simp high] theorem aRE(c:Bool)(H:Heap)(p q:bU):fC prog .neq 64 c H (.p (aG p)) (.p (aG q))=some (True,{v:=.p (.bool !(decide (p=q)))}):=by
 have e:=CY p q;rw[aG,aG]at*;simp[fC,e,aO5]
@[simp high] theorem aSA(q:bU):fI prog 64 (aG q)=true:=by
 have e1:=CY q q;rw[aG]at e1⊢;rw[fI];simp[e1]
theorem VH(a c:bU):gF a a c=0:=by simp[gF]
theorem Vs(a b:bU):gF a b a=0:=by simp[gF]
theorem VD{t:aj}(e:3<=t.cs.length){j k:Nat}(c:j<t.cs.length)(hk:k<t.cs.length)(d:j≠k)(b:t.at j=t.at k):t.eS=false:=by
 rw[aj.eS,decide_eq_false_iff_not];intro h
 by_cases hx:k=t.nx j
 ·obtain⟨m,m1,m2,m3⟩:∃m,m<t.cs.length/\m≠j/\m≠k:=by
   rcases g8 j k with a|a|a
   ·by_cases e0:j=0
    ·by_cases e1:k=1
     ·exact⟨2,o_,o_,o_⟩
     ·exact⟨1,o_,o_,o_⟩
    ·exact⟨0,o_,o_,o_⟩
   ·exact(d a).elim
   ·by_cases e0:k=0
    ·by_cases e1:j=1
     ·exact⟨2,o_,o_,o_⟩
     ·exact⟨1,o_,o_,o_⟩
    ·exact⟨0,o_,o_,o_⟩
  have:=h j c m m1 m2 (hx▸m3);rw[<-hx,<-b,VH]at this;omega
 ·have:=h j c k hk (Ne.symm d) hx;rw[<-b,Vs]at this;omega
theorem VK(t:aj)(ak:3<=t.cs.length)(hl:t.cs.length<=1000000)(F:∀p∈t.cs,bV p):az prog 133 [bJ t] (.bool t.eS):=by
 refine aJ nf (i_ func133) mix (by simp[f133]) ?_;generalize q:t.cs.length=n at*;simp[f133,aa,q];refine lp (α:=Nat) (fun i=>⟨[(16,.p (.int .i64 i)),(15,.p (.int .i64 n)),(14,.p (.seq (t.cs.map aG))),(3,.map 1),(1,.ptr 0 [])],[.box false (.p (bJ t)),.map false (nD (t.cs.take i))]⟩) (fun i=>i<=n/\∀j k,j<k->k<i->t.at j≠t.at k) (fun i=>n-i) 0 s_ ?_ (hh:=by simp[nD]);rintro i ⟨ai,E⟩
 by_cases hi:i<n
 ·have H:=aj.get (t:=t) (i:=i) o_;have z:=bS (i:=i) o_;have W:t.cs.take (i+1)=t.cs.take i++[t.at i]:=by rw[cy,H];rfl
  simp[-fI,hi,q,H,aa]
  by_cases f:t.at i∈t.cs.take i
  ·obtain⟨j,s,r⟩:=c8.1 f;rw[ce]at s;rw[ee,aj.aS o_]at r;have Q:=VD o_ (j:=j) (k:=i) o_ o_ o_ r;simp[f,Q]
  ·have hI:=Vr f;have I:=HJ f;rw[<-W]at I;simp[-fI,-mV,f,hI,I,z];exact rd (i+1) ⟨hi,fun j k w hk=>by
    by_cases T:k=i
    ·subst T;intro r;exact f (r▸b4 (i:=j) (by rw[da,if_pos w];exact aj.get o_))
    ·exact E j k w o_⟩
 have R:i=n:=o_
 subst R;have inj:∀j k,j<i->k<i->t.at j=t.at k->j=k:=fun j k s hk r=>by
  rcases g8 j k with h|h|h
  ·exact(E j k h hk r).elim
  ·exact h
  ·exact(E k j h s r.symm).elim
 simp[q,aa];refine lp (α:=Nat) (fun m=>⟨[(32,.p (.int .i64 m)),(31,.p (.int .i64 i)),(30,.p (.seq (t.cs.map aG))),(6,.p (.int .i64 i)),(1,.ptr 0 [])],[.box false (.p (bJ t))]⟩) (fun m=>m<=i/\∀j,j<m->t.oJ j i) (fun m=>i-m) 0 s_ ?_;rintro m ⟨g1,g2⟩;have U:¬i=0:=o_
 by_cases f:m<i
 ·have M:=aj.get (t:=t) (i:=m) o_;have z:=bS (i:=m) o_;have V:t.nx m<i:=by rw[<-q];exact t.iT o_ m
  have N:=aj.get (t:=t) (i:=t.nx m) o_;have e1:((m:Int)+1).tmod (i:Int)=((t.nx m:Nat):Int):=by
   rw[aj.nx,q,b3,b2 o_];rfl
  simp[f,q,M,N,z,e1,U,aa];refine⟨by repeat' first|rfl|apply ao,?_⟩;refine lp (α:=Nat) (fun k=>⟨[(48,.p (.int .i64 k)),(47,.p (.int .i64 i)),(46,.p (.seq (t.cs.map aG))),(9,.ptr 2 []),(8,.ptr 1 []),(32,.p (.int .i64 m)),(31,.p (.int .i64 i)),(30,.p (.seq (t.cs.map aG))),(6,.p (.int .i64 i)),(1,.ptr 0 [])],[.box false (.p (bJ t)),.box false (.p (aG (t.at m))),.box false (.p (aG (t.at (t.nx m))))]⟩) (fun k=>k<=i/\t.oJ m k) (fun k=>i-k) 0 (by simp[aj.oJ]) ?_;rintro k ⟨q1,D⟩
  by_cases hk:k<i
  ·have gk:=aj.get (t:=t) (i:=k) o_;have G:=bS (i:=k) o_
   by_cases c1:t.at k=t.at m
   ·have:=inj _ _ hk f c1;subst this;simp[-fC,fC.eq_1,hk,gk,G,aa];exact rd (k+1) ⟨hk,fun j s=>by
     by_cases w:j=k
     ·intro h;exact(h w).elim
     ·exact D j o_⟩
   ·by_cases c2:t.at k=t.at (t.nx m)
    ·have:=inj _ _ hk V c2;have c3:¬t.at (t.nx m)=t.at m:=by rw[<-c2];exact c1
     simp[-fC,fC.eq_1,hk,gk,G,c2,c3,aa];exact rd (k+1) ⟨hk,fun j s=>by
      by_cases w:j=k
      ·intro _ h;exact(h o_).elim
      ·exact D j o_⟩
    ·have L:k≠m:=fun e=>c1 (by rw[e]);have nx:k≠t.nx m:=fun e=>c2 (by rw[e]);have P:gF (t.at m) (t.at (t.nx m)) (t.at k)=((t.at (t.nx m)).x-(t.at m).x)*((t.at k).y-(t.at m).y)-((t.at (t.nx m)).y-(t.at m).y)*((t.at k).x-(t.at m).x):=rfl;have X:=aj.ia F (i:=m) o_;have Y:=aj.ia F (i:=t.nx m) o_;have Z:=aj.ia F (i:=k) o_;have K:t.oJ m (k+1)↔0<gF (t.at m) (t.at (t.nx m)) (t.at k):=⟨fun h=>h k o_ L nx,fun h j s u v=>by
      by_cases w:j=k
      ·subst w;exact h
      ·exact D j o_ u v⟩
     have J:¬0<gF (t.at m) (t.at (t.nx m)) (t.at k)->t.eS=false:=fun h=>by
      rw[aj.eS,decide_eq_false_iff_not];intro O;exact h (O m o_ k o_ L nx)
     rw[P]at K J;simp[-fC,fC.eq_1,hk,gk,G,c1,c2,aa];simp only[bV]at X Y Z;generalize t.at m=A at*;generalize t.at (t.nx m)=B at*;generalize t.at k=C at*;obtain⟨c,d⟩:=A;obtain⟨bx,g⟩:=B;obtain⟨l,o⟩:=C;dsimp only at*;have ab:bl.wrap (bx-c)=bx-c:=aK _ o_ o_;have ac:bl.wrap (o-d)=o-d:=aK _ o_ o_;have ad:bl.wrap (g-d)=g-d:=aK _ o_ o_
     have ae:bl.wrap (l-c)=l-c:=aK _ o_ o_;have al:=ud (a:=bx-c) (b:=o-d) (A:=20000) (B:=20000) o_ o_ o_ o_;have am:=ud (a:=g-d) (b:=l-c) (A:=20000) (B:=20000) o_ o_ o_ o_;have af:bl.wrap ((bx-c)*(o-d))=(bx-c)*(o-d):=aK _ o_ o_;have ag:bl.wrap ((g-d)*(l-c))=(g-d)*(l-c):=aK _ o_ o_;have ah:bl.wrap ((bx-c)*(o-d)-(g-d)*(l-c))=(bx-c)*(o-d)-(g-d)*(l-c):=aK _ o_ o_;simp[ab,ac,ad,ae,af,ag,ah]
     by_cases hc:(bx-c)*(o-d)-(g-d)*(l-c)<=0
     ·have:=J o_;simp[hc,this]
     ·simp[hc];exact rd (k+1) ⟨hk,K.2 o_⟩
  ·have:k=i:=by omega
   subst this;simp[z];exact rd (m+1) ⟨f,fun j s=>by
    by_cases S:j=m
    ·subst S;exact D
    ·exact g2 j o_⟩
 ·have:m=i:=by omega
  subst this;have:t.eS=true:=by
   rw[aj.eS,decide_eq_true_eq,q];exact g2
  simp[this]
noncomputable def dQ(v:NV):PV:=.st 166 [eF v.x,eF v.y]
@[simp] theorem aT5(v:NV):aP (dQ v)=.agg 166:=rfl
@[simp] theorem aSL(v:NV):cS (dQ v)=[eF v.x,eF v.y]:=rfl
@[simp] theorem aRP:prog.cellsOf 166=8:=k_
theorem rS(x y:NF):dQ ⟨x,y⟩=.st 166 [eF x,eF y]:=rfl
noncomputable def rC(a b:NV):PV:=.st 178 [dQ a,dQ b]
@[simp] theorem aTS(a b:NV):aP (rC a b)=.agg 178:=rfl
@[simp] theorem aSB(a b:NV):cS (rC a b)=[dQ a,dQ b]:=rfl
theorem sc(p:gO)(d:bK p.x=0)(e:bK p.y=0)(a:oC p):az prog 90 [ft p] (dQ (.from p)):=by
 have b:=kL p.x d a.1.1;have c:=kL p.y e a.2.1;refine aJ nf (i_ func90) mix (by simp[f90]) ?_;rw[NV.from,rS];simp[f90,aa];refine e1 b ?_;simp[aa];refine e1 c ?_;simp[aa]
def dB(p:bU):NV:=⟨.int p.x,.int p.y⟩
theorem zM(p:bU):(dB p).q=dU p:=rfl
theorem CN(p:bU)(h:bV p):az prog 174 [aG p] (dQ (dB p)):=by
 simp only[bV]at h;have a:=ry p.x o_ o_;have b:=ry p.y o_ o_;refine aJ nf (i_ func174) mix (by simp[f174]) ?_;rw[dB,rS];simp[f174,aa];refine e1 a ?_;simp[aa];refine e1 b ?_;simp[aa]
theorem wJ(v w:NV)(a:bP kQ v.q)(b:bP kQ w.q):az prog 108 [dQ v,dQ w] (dQ (v.sub w)):=by
 have c:=yo v.x w.x (eH a.1) (eH b.1);have d:=yo v.y w.y (eH a.2) (eH b.2);refine aJ nf (i_ func108) mix (by simp[f108]) ?_;rw[NV.sub,rS];simp[f108,aa];refine e2 c ?_;simp[aa];refine e2 d ?_;simp[aa]
theorem HP(v w:NV)(a:bP kQ v.q)(b:bP kQ w.q):az prog 97 [dQ v,dQ w] (eF (v.er w)):=by
 have c:=qQ v.x w.y (eH a.1) (eH b.2);have d:=qQ v.y w.x (eH a.2) (eH b.1);have e:=yo (v.x.mul w.y) (v.y.mul w.x) ((ke a.1 b.2).mono (by decide)) ((ke a.2 b.1).mono (by decide));refine aJ nf (i_ func97) mix (by simp[f97]) ?_;rw[NV.er];simp[f97,aa];refine e2 c ?_;simp[aa];refine e2 d ?_;simp[aa];refine e2 e ?_;simp[aa]
theorem JT(t:aj)(i:Nat)(hi:i<t.cs.length)(hl:t.cs.length<=1000000)(h:∀p∈t.cs,bV p):az prog 106 [bJ t,.int .i64 i] (rC (dB (t.at i)) (dB (t.at (t.nx i)))):=by
 have a:=t.iT o_ i;have j:=CN (t.at i) (aj.ia h hi);have k:=CN (t.at (t.nx i)) (aj.ia h a);have g:=bS (i:=i) o_;have e1:((i:Int)+1).tmod (t.cs.length:Int)=((t.nx i:Nat):Int):=by
  rw[aj.nx,b3,b2 o_];rfl
 have f:¬t.cs.length=0:=o_
 have d:¬t.cs=[]:=by intro e;rw[e]at hi;simp at hi
 have b:=aj.get hi;have c:=aj.get a;refine aJ nf (i_ func106) mix (by simp[f106]) ?_;rw[rC];simp[f106,aa,g,e1,f,d,b,c,hi,a];refine e1_ j ?_;simp[aa,g,e1,f,d,b,c,hi,a];refine e1_ k ?_;simp[aa,g,e1,f,d,b,c,hi,a]
theorem JR(t:aj):az prog 95 [bJ t] (.func 179 [] [.cG (bJ t)]):=by
 refine aJ nf (i_ func95) mix (by simp[f95]) ?_;simp[f95];show gQ [.box false (.p (bJ t))] 7 (.p (bJ t)) (bJ t);rw[zp];exact Wk.refl _
noncomputable def wG(t:aj)(i:Nat):List PV:=[.int .i64 i,rC (dB (t.at i)) (dB (t.at (t.nx i)))]
theorem zl{t:aj}{i:Nat}(h:i<t.cs.length):((dk t.cs.length).map (wG t))[i]?=some (wG t i):=by
 rw[c6,gb h];rfl
theorem KC(t:aj)(hl:t.cs.length<=1000000)(g:∀p∈t.cs,bV p):Stream prog 179 [] [.cG (bJ t)] ((dk t.cs.length).map (wG t)):=by
 intro b k e H' hk a j d;rw[eb,ge]at hk d;refine dS nf (i_ func179) mix (by simp[f179]) ?_;simp[f179,aa];refine lp (α:=Nat) (fun i=>⟨[(7,.p (.int .i64 i)),(6,.p (.int .i64 t.cs.length)),(1,.p (.cG (bJ t))),(0,.map b)],e i⟩) (fun i=>i<=k) (fun i=>k-i) 0 s_ ?_ (hr:=by simp;exact(a 0 o_).2) (hr2:=(a 0 o_).1);rintro i l
 by_cases hi:i<t.cs.length
 ·have f:=JT t i hi hl g;have h:=bS (i:=i) o_;simp[hi];refine c2 f ?_;simp
  by_cases c:i<k
  ·refine⟨e (i+1),_,j i _ c (zl hi),?_⟩;simp[h];exact rd (i+1) c (hr:=by simp;exact(a (i+1) c).2) (hr2:=(a (i+1) c).1)
  ·have:i=k:=by omega
   subst this;rcases d with⟨e1,_⟩|⟨y,e1,e2⟩
   ·omega
   ·rw[zl hi]at e1;injection e1 with e1
    subst e1;refine⟨H',_,e2,?_⟩;simp
 ·have:i=t.cs.length:=by omega
  subst this;rcases d with⟨e1,e2⟩|⟨y,e1,e2⟩
  ·have:t.cs.length=k:=by omega
   subst this;simp[e2]
  ·rw[List.getElem?_eq_none (by simp;omega)]at e1;cases e1
noncomputable def y6(t:aj)(v:NV)(L:ey)(i:Nat):Heap:=[.box false (.p (bJ t)),.box false (.p (dQ v)),.box false (.p (.int .i64 (t.lU v.q i))),.loop L]
theorem SO(t:aj)(v:NV)(hl:t.cs.length<=1000000)(c:∀p∈t.cs,bV p)(g:bP 3000 v.q):az prog 126 [bJ t,dQ v] (.int .i64 (t.on v.q)):=by
 refine aJ nf (i_ func126) mix (by simp[f126]) ?_;simp[f126,aa];refine c1 (JR t) ?_;simp;refine rf (KC t hl c) rfl s_ (y6 t v) t.cs.length s_ (fun L=>rfl) ?_ ?_ ?_
 ·intro L a i hi;refine⟨rfl,by simp[y6],fun _ hx=>?_⟩;simp[y6]at hx⊢;exact hx
 ·intro L a i x hi hx;rw[zl hi]at hx;injection hx with hx
  subst hx;have b:=kx (aj.ia c hi);have h:=kx (aj.ia c (t.iT o_ i));have q1:bP 29 ((dB (t.at (t.nx i))).sub (dB (t.at i))).q:=by rw[NV.jF];exact mr h b
  have m:bP 3015 (v.sub (dB (t.at i))).q:=by rw[NV.jF];exact mr g b
  have j:=wJ (dB (t.at (t.nx i))) (dB (t.at i)) (h.mono (by decide)) (b.mono (by decide));have k:=wJ v (dB (t.at i)) (g.mono (by decide)) (b.mono (by decide));have l:=HP ((dB (t.at (t.nx i))).sub (dB (t.at i))) (v.sub (dB (t.at i))) (q1.mono (by decide)) (m.mono (by decide));have e:=Fw (((dB (t.at (t.nx i))).sub (dB (t.at i))).er (v.sub (dB (t.at i))));have d:fN (((dB (t.at (t.nx i))).sub (dB (t.at i))).er (v.sub (dB (t.at i)))).q=t.side i v.q:=by
   rw[NV.CP,NV.jF,NV.jF];rfl
  rw[fN]at d;rw[d]at e;have hs:=aj.zk t v.q i;rw[HQ]at hs;refine rP nf mix a rfl rfl k_ ?_;have f:=congrArg ey.env a;dsimp only at f;clear a d;generalize (dB (t.at (t.nx i))).sub (dB (t.at i))=W at*;generalize v.sub (dB (t.at i))=U at*;generalize W.er U=C at*;simp[y6,wG,rC,aa];refine e2 j ?_;simp[aa];refine e2 k ?_;simp[aa];refine e2 l ?_;simp[aa];refine e1 e ?_;simp[aa];refine⟨by repeat' first|rfl|apply ao,?_⟩;rw[<-hs];refine cW.og s_ s_ s_ s_ ?_;simp;exact uh f s_
 ·intro L a;refine .inl ⟨s_,?_⟩;simp[y6,aj.on]
theorem CR(s:List Nat)(hs:gn s)(h:bK s=0):az prog 191 [.str s] (.int .i64 (dH (aI s))):=by
 have o:=il h;have d:=kL s h hs.1;have c:=Fw ⟨aI s,false⟩;have g:=ry 1 (by decide) (by decide);have e:=rl ⟨aI s,false⟩ (.int 1) (o.mono (by decide)) ((show bE 1 (NF.int 1).q from⟨by decide,by decide⟩).mono (by decide));have e2:(if(⟨aI s,false⟩:NF).q<0 then(-1:Int)else if(⟨aI s,false⟩:NF).q=0 then 0 else 1)=fN (aI s):=rfl;have e4:dx (⟨aI s,false⟩:NF).q (NF.int 1).q=dx (aI s) 1:=rfl;rw[e2]at c;rw[e4]at e;have f:=fun b=>iS b 3;refine aJ nf (i_ func191) mix (by simp[f191]) ?_;rw[dH];clear e2 e4 o;generalize fN (aI s)=x at*;generalize dx (aI s) 1=y at*;generalize (⟨aI s,false⟩:NF)=v at*
 by_cases a:x<0
 ·simp[f191,aa];refine c1 d ?_;simp[aa];refine e1_ c ?_;simp[a,aa];refine e2_ (f true) ?_;simp[bh];omega
 ·by_cases b:0<y
  ·simp[f191,aa];refine c1 d ?_;simp[aa];refine e1_ c ?_;simp[a,aa];refine e1_ g ?_;simp[a,aa];refine e2_ e ?_;simp[a,b,aa];refine e2_ (f true) ?_;simp[bh];omega
  ·simp[f191,aa];refine c1 d ?_;simp[aa];refine e1_ c ?_;simp[a,aa];refine e1_ g ?_;simp[a,aa];refine e2_ e ?_;simp[a,b,aa];refine e2_ (f false) ?_;simp[bh];omega
def rR(p:bZ):Prop:=tT p/\bK p.a=0/\bK p.b=0
theorem aCa(p o:bZ)(r:rR p)(q:rR o):az prog 217 [fD p,fD o] (.bool (fO o p)):=by
 obtain⟨⟨_,u,v⟩,l,m⟩:=r;obtain⟨⟨_,s,t⟩,j,k⟩:=q;have d:=kL p.a l u.1;have e:=kL o.b k t.1;have c:=rl ⟨aI p.a,false⟩ ⟨aI o.b,false⟩ ((il l).mono (by decide)) ((il k).mono (by decide));have g:=kL o.a j s.1;have i:=kL p.b m v.1;have f:=rl ⟨aI o.a,false⟩ ⟨aI p.b,false⟩ ((il j).mono (by decide)) ((il m).mono (by decide));dsimp only at c f;refine aJ nf (i_ func217) mix (by simp[f217]) ?_;rw[fO];generalize dx (aI p.a) (aI o.b)=x at*;generalize dx (aI o.a) (aI p.b)=y at*;generalize (⟨aI p.a,false⟩:NF)=v1 at*;generalize (⟨aI p.b,false⟩:NF)=v2 at*;generalize (⟨aI o.a,false⟩:NF)=v3 at*;generalize (⟨aI o.b,false⟩:NF)=v4 at*
 by_cases c1:o.bH=p.bH
 case neg=>
  have n:¬p.bH=o.bH:=fun h=>c1 h.symm;simp[f217,aa,c1,n]
 by_cases c2:x<=0
 ·by_cases c3:y<=0
  ·simp[f217,aa,c1];refine e1_ d ?_;simp[aa,c1];refine e1_ e ?_;simp[aa,c1];refine e2_ c ?_;simp[aa,c1,c2];refine e1_ g ?_;simp[aa,c1,c2];refine e1_ i ?_;simp[aa,c1,c2];refine e2_ f ?_;simp[aa,c1,c2,c3]
  ·simp[f217,aa,c1];refine e1_ d ?_;simp[aa,c1];refine e1_ e ?_;simp[aa,c1];refine e2_ c ?_;simp[aa,c1,c2];refine e1_ g ?_;simp[aa,c1,c2];refine e1_ i ?_;simp[aa,c1,c2];refine e2_ f ?_;simp[aa,c1,c2,c3]
 ·simp[f217,aa,c1];refine e1_ d ?_;simp[aa,c1];refine e1_ e ?_;simp[aa,c1];refine e2_ c ?_;simp[aa,c1,c2]
theorem VC(p o:bZ):b8 prog 216 [.box false (.p (fD p))] [.p (fD o),.ptr 0 []] [.box false (.p (fD p))] (.p (.bool (decide (o.name=p.name)))):=by
 refine dS nf (i_ func216) mix (by simp[f216]) ?_
 by_cases h:o.name=p.name
 ·simp[f216,aa,h];exact cW.og s_ s_ s_ s_ s_
 ·simp[f216,aa,h];exact cW.og s_ s_ s_ s_ s_
theorem VG(p:bZ)(l:List bZ)(h:l.length<=1000000):
 b8 prog 123 [.box false (.p (fD p))] [.p (.seq (l.map fD)),.func 216 [] [.ptr 0 []]] [.box false (.p (fD p))] (.p (.int .i64 (idxFrom (fun o=>decide (o.name=p.name)) l 0))):=by
 refine dS nf (i_ func123) mix (by simp[f123]) ?_;simp[f123];refine lp (α:=Nat) (fun i=>⟨[(8,.p (.int .i64 i)),(7,.p (.int .i64 l.length)),(1,.func 216 [] [.ptr 0 []]),(0,.p (.seq (l.map fD)))],[.box false (.p (fD p))]⟩) (fun i=>i<=l.length/\idxFrom (fun o=>decide (o.name=p.name)) l 0=idxFrom (fun o=>decide (o.name=p.name)) (l.drop i) i) (fun i=>l.length-i) 0 s_ ?_;rintro i ⟨k1,k2⟩;have a:=bS (i:=i) o_
 by_cases hi:i<l.length
 ·rw[cc hi,idxFrom]at k2;simp[hi];refine cf (VC p l[i]) [0] ?_
  by_cases hk:l[i].name=p.name
  ·simp[hk]at k2;simp[hk,k2,ba]
  ·simp[hk]at k2;simp[hk,a,ba];exact rd (i+1) ⟨hi,k2⟩
 ·have:i=l.length:=by omega
  subst this;simp[idxFrom]at k2;simp[k2]
theorem Vy(p:bZ)(l:List bZ)(h:l.length<=1000000):
 b8 prog 215 [.box false (.p (fD p))] [.p (.seq (l.map fD)),.func 216 [] [.ptr 0 []]] [.box false (.p (fD p))] (.p (.bool (l.any (fun o=>decide (o.name=p.name))))):=by
 refine dS nf (i_ func215) mix (by simp[f215]) ?_;simp[f215];refine cf (VG p l h) [0] ?_;have:=pW (fun o=>decide (o.name=p.name)) l 0;simp[ba,<-this]
theorem VB(p o:bR):b8 prog 219 [.box false (.p (iw p))] [.p (iw o),.ptr 0 []] [.box false (.p (iw p))] (.p (.bool (decide (o.name=p.name)))):=by
 refine dS nf (i_ func219) mix (by simp[f219]) ?_
 by_cases h:o.name=p.name
 ·simp[f219,aa,h];exact cW.og s_ s_ s_ s_ s_
 ·simp[f219,aa,h];exact cW.og s_ s_ s_ s_ s_
theorem Vp(p:bR)(l:List bR)(h:l.length<=1000000):
 b8 prog 208 [.box false (.p (iw p))] [.p (.seq (l.map iw)),.func 219 [] [.ptr 0 []]] [.box false (.p (iw p))] (.p (.int .i64 (idxFrom (fun o=>decide (o.name=p.name)) l 0))):=by
 refine dS nf (i_ func208) mix (by simp[f208]) ?_;simp[f208];refine lp (α:=Nat) (fun i=>⟨[(8,.p (.int .i64 i)),(7,.p (.int .i64 l.length)),(1,.func 219 [] [.ptr 0 []]),(0,.p (.seq (l.map iw)))],[.box false (.p (iw p))]⟩) (fun i=>i<=l.length/\idxFrom (fun o=>decide (o.name=p.name)) l 0=idxFrom (fun o=>decide (o.name=p.name)) (l.drop i) i) (fun i=>l.length-i) 0 s_ ?_;rintro i ⟨k1,k2⟩;have a:=bS (i:=i) o_
 by_cases hi:i<l.length
 ·rw[cc hi,idxFrom]at k2;simp[hi];refine cf (VB p l[i]) [0] ?_
  by_cases hk:l[i].name=p.name
  ·simp[hk]at k2;simp[hk,k2,ba]
  ·simp[hk]at k2;simp[hk,a,ba];exact rd (i+1) ⟨hi,k2⟩
 ·have:i=l.length:=by omega
  subst this;simp[idxFrom]at k2;simp[k2]
theorem Vx(p:bR)(l:List bR)(h:l.length<=1000000):
 b8 prog 218 [.box false (.p (iw p))] [.p (.seq (l.map iw)),.func 219 [] [.ptr 0 []]] [.box false (.p (iw p))] (.p (.bool (l.any (fun o=>decide (o.name=p.name))))):=by
 refine dS nf (i_ func218) mix (by simp[f218]) ?_;simp[f218];refine cf (Vp p l h) [0] ?_;have:=pW (fun o=>decide (o.name=p.name)) l 0;simp[ba,<-this]
theorem VA(p:bZ)(b:rR p)(l:List bZ)(h:l.length<=1000000)(hl:∀o∈l,rR o):
 az prog 123 [.seq (l.map fD),.func 217 [fD p] []] (.int .i64 (idxFrom (fun o=>fO o p) l 0)):=by
 refine aJ nf (i_ func123) mix (by simp[f123]) ?_;simp[f123];refine lp (α:=Nat) (fun i=>⟨[(8,.p (.int .i64 i)),(7,.p (.int .i64 l.length)),(1,.p (.func 217 [fD p] [])),(0,.p (.seq (l.map fD)))],[]⟩) (fun i=>i<=l.length/\idxFrom (fun o=>fO o p) l 0=idxFrom (fun o=>fO o p) (l.drop i) i) (fun i=>l.length-i) 0 s_ ?_;rintro i ⟨k1,k2⟩;have c:=bS (i:=i) o_
 by_cases hi:i<l.length
 ·rw[cc hi,idxFrom]at k2;have a:=aCa p l[i] b (hl _ (ei hi));simp[hi];refine c2 a ?_;cases hk:fO l[i] p
  ·simp[hk]at k2;simp[c];exact rd (i+1) ⟨hi,k2⟩
  ·simp[hk]at k2;simp[k2]
 ·have:i=l.length:=by omega
  subst this;simp[idxFrom]at k2;simp[k2]
theorem Vn(p:bZ)(a:rR p)(l:List bZ)(h:l.length<=1000000)(hl:∀o∈l,rR o):
 az prog 215 [.seq (l.map fD),.func 217 [fD p] []] (.bool (l.any (fun o=>fO o p))):=by
 refine aJ nf (i_ func215) mix (by simp[f215]) ?_;simp[f215];refine c2 (VA p a l h hl) ?_;have:=pW (fun o=>fO o p) l 0;simp[<-this]
def lW(n:Nat)(c:List bZ)(p:bZ):Int:=bQ [bh (!isName p.name) 8,bh (c.any fun o=>decide (o.name=p.name)) 9,bh (decide (p.bH<0\/(n:Int)<=p.bH)) 10,bK p.a,bK p.b]
def Cu(c:List bZ)(p:bZ):Int:=bQ [dH (aI p.a),dH (aI p.b),bh (decide (0<dx (aI p.a) (aI p.b))) 11,bh (c.any fun o=>fO o p) 17]
theorem zj(q:Rat):dH q=0\/dH q=3:=by
 rw[dH];split
 ·exact .inr rfl
 ·exact .inl rfl
theorem Vw(n:Nat)(e:List bZ)(p:bZ):fy n e p=if lW n e p=0 then Cu e p else lW n e p:=by
 rw[fy,lW,Cu];generalize bK p.a=ca;generalize bK p.b=i;have j:=zj (aI p.a);have h:=zj (aI p.b);generalize dH (aI p.a)=r at*;generalize dH (aI p.b)=s at*;generalize dx (aI p.a) (aI p.b)=y;generalize (e.any fun o=>fO o p)=m;generalize (e.any fun o=>decide (o.name=p.name))=a;have k:max (0:Int) 3=3:=rfl;have l:max (3:Int) 0=3:=rfl;cases q:isName p.name
 ·simp[bQ,bh]
 cases a
 case true=>simp[bQ,bh]
 by_cases c:p.bH<0\/(n:Int)<=p.bH
 ·simp[bQ,bh,c]
 by_cases d:ca=0
 case neg=>simp[bQ,bh,c,d]
 by_cases f:i=0
 case neg=>simp[bQ,bh,c,d,f]
 rcases j with rfl|rfl
 ·rcases h with rfl|rfl
  ·by_cases g:0<y
   ·simp[bQ,bh,c,d,f,g]
   ·cases m<;>simp[bQ,bh,c,d,f,g]
  ·simp[bQ,bh,c,d,f,k]
 ·rcases h with rfl|rfl
  ·simp[bQ,bh,c,d,f,l]
  ·simp[bQ,bh,c,d,f]
theorem Vq{n:Nat}{bef:List bZ}{p:bZ}(h:lW n bef p=0):bK p.a=0/\bK p.b=0:=by
 rw[lW,lF]at h;exact⟨h _ s_,h _ s_⟩
theorem Vm(t:aj)(p:bZ)(d:List bZ)(hl:t.cs.length<=1000000)(G:tT p)(m:d.length<=1000000)(F:∀o∈d,rR o):
 az prog 135 [bJ t,fD p,.seq (d.map fD)] (.int .i64 (fy t.cs.length d p)):=by
 obtain⟨C,j,k⟩:=G;have k1:=Vy p d m;have k2:=CU p.name C.1;have k3:=iS (!isName p.name) 8;have k4:=iS (d.any fun o=>decide (o.name=p.name)) 9;have k5:=fun b=>iS b 10;have k6:=yK p.a j.1 j.2;have k7:=yK p.b k.1 k.2;have k8:=nE [bh (!isName p.name) 8,bh (d.any fun o=>decide (o.name=p.name)) 9,bh (decide (p.bH<0\/(t.cs.length:Int)<=p.bH)) 10,bK p.a,bK p.b] s_;have g:=Vq (n:=t.cs.length) (bef:=d) (p:=p);rw[Vw];have s:=fun h:lW t.cs.length d p=0=>Vn p ⟨⟨C,j,k⟩,(g h).1,(g h).2⟩ d m F;have u:=fun h:lW t.cs.length d p=0=>CR p.a j (g h).1;have v:=fun h:lW t.cs.length d p=0=>CR p.b k (g h).2;have w:=fun h:lW t.cs.length d p=0=>kL p.a (g h).1 j.1;have x:=fun h:lW t.cs.length d p=0=>kL p.b (g h).2 k.1;have q:=fun h:lW t.cs.length d p=0=>rl ⟨aI p.a,false⟩ ⟨aI p.b,false⟩ ((il (g h).1).mono (by decide)) ((il (g h).2).mono (by decide));dsimp only at q;have B:=iS (decide (0<dx (aI p.a) (aI p.b))) 11;have z:=iS (d.any fun o=>fO o p) 17;have i:=nE [dH (aI p.a),dH (aI p.b),bh (decide (0<dx (aI p.a) (aI p.b))) 11,bh (d.any fun o=>fO o p) 17] s_;have d1:lW t.cs.length d p=bQ [bh (!isName p.name) 8,bh (d.any fun o=>decide (o.name=p.name)) 9,bh (decide (p.bH<0\/(t.cs.length:Int)<=p.bH)) 10,bK p.a,bK p.b]:=rfl;have d2:Cu d p=bQ [dH (aI p.a),dH (aI p.b),bh (decide (0<dx (aI p.a) (aI p.b))) 11,bh (d.any fun o=>fO o p) 17]:=rfl;rw[<-d1]at k8;rw[<-d2]at i;clear d1 d2 g;generalize lW t.cs.length d p=l at*;generalize Cu d p=K at*;generalize bK p.a=H at*;generalize bK p.b=I at*;generalize dH (aI p.a)=T at*;generalize dH (aI p.b)=U at*;generalize dx (aI p.a) (aI p.b)=A at*;generalize (d.any fun o=>decide (o.name=p.name))=D at*;generalize (d.any fun o=>fO o p)=J at*;generalize isName p.name=E at*;generalize (⟨aI p.a,false⟩:NF)=v1 at*;generalize (⟨aI p.b,false⟩:NF)=v2 at*;refine aJ nf (i_ func135) mix (by simp[f135]) ?_;have r:∀b:Bool,decide (p.bH<0\/(t.cs.length:Int)<=p.bH)=b->az prog 57 [.bool b,.int .i64 10] (.int .i64 (bh b 10))/\az prog 56 [.seq [.int .i64 (bh (!E) 8),.int .i64 (bh D 9),.int .i64 (bh b 10),.int .i64 H,.int .i64 I]] (.int .i64 l):=fun b m=>by
  rw[m]at k8;exact⟨k5 b,by simpa using k8⟩
 simp at i;have y:az prog 57 [.bool (decide (0<A)),.int .i64 11] (.int .i64 (bh (decide (0<A)) 11)):=B;clear k5 k8 B;generalize L:bh (!E) 8=P at*;generalize M:bh D 9=Q at*;generalize N:bh (decide (0<A)) 11=R at*;generalize O:bh J 17=S at*;simp[f135,-bB,aa];rw[bB];simp[-bB,aa];rw[bB];simp[-bB,aa];refine cf k1 [1] ?_;simp[-bB,aa,ba,sig]
 by_cases e:p.bH<0
 ·obtain⟨f1,f2⟩:=r true (by simp[e]);rw[bB,bB];simp[-bB,aa];refine e1_ k2 ?_;simp[-bB,aa];refine e2_ k3 ?_;simp[-bB,aa];refine e2_ k4 ?_;simp[-bB,aa,e];refine e2_ f1 ?_;simp[-bB,aa,e];refine e1_ k6 ?_;simp[-bB,aa,e];refine e1_ k7 ?_;simp[-bB,aa,e];refine ep f2 (by simp;first|exact⟨rfl,rfl⟩|rfl) (by simp;first|exact⟨rfl,rfl⟩|rfl) ?_;simp[-bB,aa,e];refine⟨by repeat' first|rfl|apply ao,?_⟩
  by_cases c:l=0
  case neg=>simp[c,aa]
  simp[c,aa];refine c2_ (s c) ?_;simp[aa];refine e1_ (u c) ?_;simp[aa];refine e1_ (v c) ?_;simp[aa];refine e1_ (w c) ?_;simp[aa];refine e1_ (x c) ?_;simp[aa];refine e2_ (q c) ?_;simp[aa];refine e2_ y ?_;simp[aa];refine e2_ z ?_;simp[aa];refine ep i (by simp;first|exact⟨rfl,rfl⟩|rfl) (by simp;first|exact⟨rfl,rfl⟩|rfl) ?_;simp[aa];exact⟨by repeat' first|rfl|apply ao,fun h=>(h c).elim⟩
 by_cases f:(t.cs.length:Int)<=p.bH
 ·obtain⟨f1,f2⟩:=r true (by simp[e,f]);rw[bB,bB];simp[-bB,aa];refine e1_ k2 ?_;simp[-bB,aa];refine e2_ k3 ?_;simp[-bB,aa];refine e2_ k4 ?_;simp[-bB,aa,e,f];refine e2_ f1 ?_;simp[-bB,aa,e,f];refine e1_ k6 ?_;simp[-bB,aa,e,f];refine e1_ k7 ?_;simp[-bB,aa,e,f];refine ep f2 (by simp;first|exact⟨rfl,rfl⟩|rfl) (by simp;first|exact⟨rfl,rfl⟩|rfl) ?_;simp[-bB,aa,e,f];refine⟨by repeat' first|rfl|apply ao,?_⟩
  by_cases c:l=0
  case neg=>simp[c,aa]
  simp[c,aa];refine c2_ (s c) ?_;simp[aa];refine e1_ (u c) ?_;simp[aa];refine e1_ (v c) ?_;simp[aa];refine e1_ (w c) ?_;simp[aa];refine e1_ (x c) ?_;simp[aa];refine e2_ (q c) ?_;simp[aa];refine e2_ y ?_;simp[aa];refine e2_ z ?_;simp[aa];refine ep i (by simp;first|exact⟨rfl,rfl⟩|rfl) (by simp;first|exact⟨rfl,rfl⟩|rfl) ?_;simp[aa];exact⟨by repeat' first|rfl|apply ao,fun h=>(h c).elim⟩
 ·obtain⟨f1,f2⟩:=r false (by simp[e,f]);rw[bB,bB];simp[-bB,aa];refine e1_ k2 ?_;simp[-bB,aa];refine e2_ k3 ?_;simp[-bB,aa];refine e2_ k4 ?_;simp[-bB,aa,e,f];refine e2_ f1 ?_;simp[-bB,aa,e,f];refine e1_ k6 ?_;simp[-bB,aa,e,f];refine e1_ k7 ?_;simp[-bB,aa,e,f];refine ep f2 (by simp;first|exact⟨rfl,rfl⟩|rfl) (by simp;first|exact⟨rfl,rfl⟩|rfl) ?_;simp[-bB,aa,e,f];refine⟨by repeat' first|rfl|apply ao,?_⟩
  by_cases c:l=0
  case neg=>simp[c,aa]
  simp[c,aa];refine c2_ (s c) ?_;simp[aa];refine e1_ (u c) ?_;simp[aa];refine e1_ (v c) ?_;simp[aa];refine e1_ (w c) ?_;simp[aa];refine e1_ (x c) ?_;simp[aa];refine e2_ (q c) ?_;simp[aa];refine e2_ y ?_;simp[aa];refine e2_ z ?_;simp[aa];refine ep i (by simp;first|exact⟨rfl,rfl⟩|rfl) (by simp;first|exact⟨rfl,rfl⟩|rfl) ?_;simp[aa];exact⟨by repeat' first|rfl|apply ao,fun h=>(h c).elim⟩
def jJ(a:List bR)(s:bR):Int:=bQ [bh (!isName s.name) 8,bh (a.any fun o=>decide (o.name=s.name)) 9,df s.pt]
theorem Vu(t:aj)(b:List bR)(s:bR):gG t b s=if jJ b s=0 then bh (decide (t.on (vP s.pt)<0)) 16 else jJ b s:=by
 rw[gG,jJ];generalize df s.pt=c;generalize (b.any fun o=>decide (o.name=s.name))=a;cases e:isName s.name
 ·simp[bQ,bh]
 cases a
 case true=>simp[bQ,bh]
 by_cases d:c=0
 case neg=>simp[bQ,bh,d]
 simp[bQ,bh,d]
theorem HF{bef:List bR}{s:bR}(h:jJ bef s=0):df s.pt=0:=by
 rw[jJ,lF]at h;exact h _ s_
theorem Vz(t:aj)(s:bR)(a:List bR)(hl:t.cs.length<=1000000)(k:∀p∈t.cs,bV p)(hs:kX s)(j:a.length<=1000000):
 az prog 137 [bJ t,iw s,.seq (a.map iw)] (.int .i64 (gG t a s)):=by
 obtain⟨q,f⟩:=hs;have k1:=Vx s a j;have k2:=CU s.name q.1;have k3:=iS (!isName s.name) 8;have k4:=iS (a.any fun o=>decide (o.name=s.name)) 9;have k6:=DF s.pt f;have k8:=nE [bh (!isName s.name) 8,bh (a.any fun o=>decide (o.name=s.name)) 9,df s.pt] s_;have c:=HF (bef:=a) (s:=s);rw[Vu];have l:=fun h:jJ a s=0=>sc s.pt (iY (c h)).1 (iY (c h)).2 f;have e:=fun h:jJ a s=0=>SO t (.from s.pt) hl k (zW ⟨(il (iY (c h)).1).mono (by decide),(il (iY (c h)).2).mono (by decide)⟩);have m:=iS (decide (t.on (vP s.pt)<0)) 16;rw[mu]at e;have d1:jJ a s=bQ [bh (!isName s.name) 8,bh (a.any fun o=>decide (o.name=s.name)) 9,df s.pt]:=rfl;rw[<-d1]at k8;clear d1 c;generalize jJ a s=d at*;generalize t.on (vP s.pt)=y at*;generalize df s.pt=r at*;generalize (a.any fun o=>decide (o.name=s.name))=g at*;generalize isName s.name=i at*;generalize NV.from s.pt=v1 at*;refine aJ nf (i_ func137) mix (by simp[f137]) ?_;have n:az prog 56 [.seq [.int .i64 (bh (!i) 8),.int .i64 (bh g 9),.int .i64 r]] (.int .i64 d):=by simpa using k8
 clear k8;generalize u:bh (!i) 8=x at*;generalize v:bh g 9=z at*;generalize w:bh (decide (y<0)) 16=A at*;simp[f137,aa];refine cf k1 [1] ?_;simp[aa,ba,sig];refine e1_ k2 ?_;simp[aa];refine e2_ k3 ?_;simp[aa];refine e2_ k4 ?_;simp[aa];refine e1_ k6 ?_;simp[aa];refine ep n (by simp;first|exact⟨rfl,rfl⟩|rfl) (by simp;first|exact⟨rfl,rfl⟩|rfl) ?_;simp[aa];refine⟨by repeat' first|rfl|apply ao,?_⟩
 by_cases b:d=0
 case neg=>simp[b,aa]
 simp[b,aa];refine e1_ (l b) ?_;simp[aa];refine e2_ (e b) ?_;simp[aa];refine e2_ m ?_;simp[aa];exact fun h=>(h b).elim
def jY{α:Type}(b:Nat)(a:List α->α->Int)(l:List α):Int:=if b<l.length then 5 else jX a l
theorem vr{α:Type}{n:Nat}{f:α->PV}(h:∀a,aa (.p (f a))≠.bad/\bO prog (aa (.p (f a)))=n)(l:List α):fh prog n (l.map (AV.p∘f)):=xw.2 fun v b=>by
 obtain⟨a,_,rfl⟩:=dl.1 b;exact h a
theorem Ny(l:List bZ):fh prog 4 (l.map (AV.p∘fD)):=vr (fun r=>⟨by simp[aa],by simp[aa]⟩) l
theorem Nz(l:List bR):fh prog 3 (l.map (AV.p∘iw)):=vr (fun r=>⟨by simp[aa],by simp[aa]⟩) l
theorem VJ(t:aj)(a:Nat)(hl:t.cs.length<=1000000)(l:t.aB.length<=1000000)(c:∀p∈t.aB,tT p):
 az prog 134 [.seq (t.aB.map fD),.int .i64 a,.func 135 [bJ t] []] (.int .i64 (jY a (fy t.cs.length) t.aB)):=by
 refine aJ nf (i_ func134) mix (by simp[f134]) ?_;rw[jY]
 by_cases c1:a<t.aB.length
 ·have cI:(a:Int)<t.aB.length:=by omega
  rw[if_pos c1];simp[f134,cI]
 have d:¬(a:Int)<t.aB.length:=o_
 rw[if_neg c1];simp[f134,d];refine lp (α:=Nat) (fun i=>⟨[(16,.p (.int .i64 i)),(15,.p (.int .i64 t.aB.length)),(14,.p (.seq (t.aB.map fD))),(0,.p (.seq (t.aB.map fD))),(2,.p (.func 135 [bJ t] []))],[]⟩) (fun i=>i<=t.aB.length/\∀j,j<i->fP (fy t.cs.length) t.aB j=0) (fun i=>t.aB.length-i) 0 s_ ?_;rintro i ⟨k1,k2⟩
 by_cases hk:i<t.aB.length
 ·have gk:=aj.gz hk;have k:=bS (i:=i) o_;have b:=Vm t (t.pk i) (t.aB.take i) hl (c _ (b4 gk)) (by rw[ce];omega) (fun o h=>by
   obtain⟨j,f,rfl⟩:=c8.1 h;rw[ce]at f;rw[ee];have:=k2 j o_;have g:=aj.gz (t:=t) (i:=j) o_;rw[fP,g]at this;rw[aj.Ct o_];exact⟨c _ (b4 g),CT this⟩)
  rw[en]at b
  by_cases he:fy t.cs.length (t.aB.take i) (t.pk i)=0
  ·rw[he]at b;have:=uf k2 gk he;simp[hk,gk,aa];refine⟨⟨k1,Ny _⟩,?_⟩;refine e3_ b ?_;simp[k,aa];exact rd (i+1) ⟨hk,this⟩
  ·have e:=ug k2 gk he;rw[e];simp[hk,gk,aa];refine⟨⟨k1,Ny _⟩,?_⟩;refine e3_ b ?_;simp[he,aa]
 ·have:i=t.aB.length:=by omega
  subst this;rw[l9.2 k2];simp
theorem VI(t:aj)(a:Nat)(hl:t.cs.length<=1000000)(e:∀p∈t.cs,bV p)(h:t.ag.length<=1000000)(f:∀p∈t.ag,kX p):
 az prog 136 [.seq (t.ag.map iw),.int .i64 a,.func 137 [bJ t] []] (.int .i64 (jY a (gG t) t.ag)):=by
 refine aJ nf (i_ func136) mix (by simp[f136]) ?_;rw[jY]
 by_cases c1:a<t.ag.length
 ·have cI:(a:Int)<t.ag.length:=by omega
  rw[if_pos c1];simp[f136,cI]
 have c:¬(a:Int)<t.ag.length:=o_
 rw[if_neg c1];simp[f136,c];refine lp (α:=Nat) (fun i=>⟨[(16,.p (.int .i64 i)),(15,.p (.int .i64 t.ag.length)),(14,.p (.seq (t.ag.map iw))),(0,.p (.seq (t.ag.map iw))),(2,.p (.func 137 [bJ t] []))],[]⟩) (fun i=>i<=t.ag.length/\∀j,j<i->fP (gG t) t.ag j=0) (fun i=>t.ag.length-i) 0 s_ ?_;rintro i ⟨k1,k2⟩
 by_cases hk:i<t.ag.length
 ·have gk:=aj.dP hk;have g:=bS (i:=i) o_;have b:=Vz t (t.sp i) (t.ag.take i) hl e (f _ (b4 gk)) (by rw[ce];omega);rw[en]at b
  by_cases he:gG t (t.ag.take i) (t.sp i)=0
  ·rw[he]at b;have:=uf k2 gk he;simp[hk,gk,aa];refine⟨⟨k1,Nz _⟩,?_⟩;refine e3_ b ?_;simp[g,aa];exact rd (i+1) ⟨hk,this⟩
  ·have d:=ug k2 gk he;rw[d];simp[hk,gk,aa];refine⟨⟨k1,Nz _⟩,?_⟩;refine e3_ b ?_;simp[he,aa]
 ·have:i=t.ag.length:=by omega
  subst this;rw[l9.2 k2];simp
def nC(t:aj):Int:=bQ [bh (decide ((t.cs.length:Int)<3)) 2,bh (decide (12<(t.cs.length:Int))) 5,bh (t.cs.any dd) 3]
def pZ(t:aj):Int:=bQ [bh (!t.eS) 15,bh (decide (t.aU<1\/1000<t.aU)) 3,jY 12 (fy t.cs.length) t.aB]
theorem HB{t:aj}(h:nC t=0):3<=t.cs.length/\t.cs.length<=12/\∀p∈t.cs,bV p:=by
 rw[nC,lF]at h;have b:=h (bh (decide ((t.cs.length:Int)<3)) 2) s_;have d:=h (bh (decide (12<(t.cs.length:Int))) 5) s_;have a:=h (bh (t.cs.any dd) 3) s_;refine⟨?_,?_,fun p e=>rQ ?_⟩
 ·by_cases c:(t.cs.length:Int)<3
  ·simp[bh,c]at b
  ·omega
 ·by_cases c:12<(t.cs.length:Int)
  ·simp[bh,c]at d
  ·omega
 ·cases hf:dd p
  ·rfl
  ·have:t.cs.any dd=true:=c9.2 ⟨p,e,hf⟩;rw[this]at a;simp[bh]at a
theorem zm(t:aj):b9 t=if nC t=0 then(if pZ t=0 then jY 256 (gG t) t.ag else pZ t)else nC t:=by
 rw[b9,nC,pZ,jY,jY]
 by_cases c1:t.cs.length<3
 ·have:(t.cs.length:Int)<3:=by omega
  simp[bQ,bh,c1,this]
 have b:¬(t.cs.length:Int)<3:=o_
 by_cases c2:12<t.cs.length
 ·have:(12:Int)<t.cs.length:=by omega
  simp[bQ,bh,c1,c2,b,this]
 have c:¬(12:Int)<t.cs.length:=o_
 generalize t.cs.any dd=a;cases a
 case true=>simp[bQ,bh,c1,c2,b,c]
 cases t.eS
 ·simp[bQ,bh,c1,c2,b,c]
 by_cases c3:t.aU<1\/1000<t.aU
 ·simp[bQ,bh,c1,c2,b,c,c3]
 by_cases c4:12<t.aB.length
 ·simp[bQ,bh,c1,c2,b,c,c3,c4]
 generalize jX (fy t.cs.length) t.aB=e
 by_cases c5:e=0
 ·simp[bQ,bh,c1,c2,b,c,c3,c4,c5]
 ·simp[bQ,bh,c1,c2,b,c,c3,c4,c5]
theorem ue(t:aj)(v:gH t):az prog 51 [bJ t] (.int .i64 (b9 t)):=by
 obtain⟨k,z,A,s,u⟩:=v;have k1:=iS (decide ((t.cs.length:Int)<3)) 2;have k2:=iS (decide (12<(t.cs.length:Int))) 5;have k3:=Vj t.cs k;have k4:=iS (t.cs.any dd) 3;have k5:=nE [bh (decide ((t.cs.length:Int)<3)) 2,bh (decide (12<(t.cs.length:Int))) 5,bh (t.cs.any dd) 3] s_;have l:=HB (t:=t);rw[zm];have w:=fun h:nC t=0=>VK t (l h).1 k (l h).2.2;have x:=iS (!t.eS) 15;have q:=fun b=>iS b 3;have n:=VJ t 12 k z s;have j:=nE [bh (!t.eS) 15,bh (decide (t.aU<1\/1000<t.aU)) 3,jY 12 (fy t.cs.length) t.aB] s_;have o:=fun h:nC t=0=>VI t 256 k (l h).2.2 A u;have d1:nC t=bQ [bh (decide ((t.cs.length:Int)<3)) 2,bh (decide (12<(t.cs.length:Int))) 5,bh (t.cs.any dd) 3]:=rfl;have d2:pZ t=bQ [bh (!t.eS) 15,bh (decide (t.aU<1\/1000<t.aU)) 3,jY 12 (fy t.cs.length) t.aB]:=rfl;rw[<-d1]at k5;rw[<-d2]at j;clear d1 d2 l;generalize nC t=p at*;generalize pZ t=i at*;generalize jY 12 (fy t.cs.length) t.aB=F at*;generalize jY 256 (gG t) t.ag=M at*;generalize t.cs.any dd=G at*;generalize t.eS=H at*;generalize I:bh (decide ((t.cs.length:Int)<3)) 2=B at*;generalize J:bh (decide (12<(t.cs.length:Int))) 5=C at*;generalize K:bh G 3=D at*;generalize L:bh (!H) 15=E at*;have m:∀b:Bool,decide (t.aU<1\/1000<t.aU)=b->az prog 57 [.bool b,.int .i64 3] (.int .i64 (bh b 3))/\az prog 56 [.seq [.int .i64 E,.int .i64 (bh b 3),.int .i64 F]] (.int .i64 i):=fun b r=>by
  rw[r]at j;exact⟨q b,by simpa using j⟩
 have y:az prog 56 [.seq [.int .i64 B,.int .i64 C,.int .i64 D]] (.int .i64 p):=by simpa using k5
 clear j q k5;refine aJ nf (i_ func51) mix (by simp[f51]) ?_;simp[f51,aa];refine e2_ k1 ?_;simp[aa];refine e2_ k2 ?_;simp[aa];refine e2_ k3 ?_;simp[aa];refine e2_ k4 ?_;simp[aa];refine ep y (by simp;first|exact⟨rfl,rfl⟩|rfl) (by simp;first|exact⟨rfl,rfl⟩|rfl) ?_;simp[aa];refine⟨by repeat' first|rfl|apply ao,?_⟩
 by_cases a:p=0
 case neg=>simp[a,aa]
 simp[a,aa];refine e1_ (w a) ?_;simp[aa];refine e2_ x ?_;simp[aa]
 by_cases c:t.aU<1
 ·have d:¬1<=t.aU:=by omega
  obtain⟨f1,f2⟩:=m true (by simp[c]);simp[c,d,aa];refine e2_ f1 ?_;simp[c,d,aa];refine e3_ n ?_;simp[c,d,aa];refine ep f2 (by simp;first|exact⟨rfl,rfl⟩|rfl) (by simp;first|exact⟨rfl,rfl⟩|rfl) ?_;simp[c,d,aa];refine⟨by repeat' first|rfl|apply ao,?_⟩
  by_cases e:i=0
  case neg=>simp[a,e,aa]
  simp[a,e,aa];refine c3_ (o a) ?_;simp[a,e,aa]
 have d:1<=t.aU:=o_
 by_cases f:1000<t.aU
 ·have g:¬t.aU<=1000:=by omega
  obtain⟨f1,f2⟩:=m true (by simp[c,f]);simp[c,d,f,g,aa];refine e2_ f1 ?_;simp[c,d,f,g,aa];refine e3_ n ?_;simp[c,d,f,g,aa];refine ep f2 (by simp;first|exact⟨rfl,rfl⟩|rfl) (by simp;first|exact⟨rfl,rfl⟩|rfl) ?_;simp[c,d,f,g,aa];refine⟨by repeat' first|rfl|apply ao,?_⟩
  by_cases e:i=0
  case neg=>simp[a,e,aa]
  simp[a,e,aa];refine c3_ (o a) ?_;simp[a,e,aa]
 ·have g:t.aU<=1000:=by omega
  obtain⟨f1,f2⟩:=m false (by simp[c,f]);simp[c,d,f,g,aa];refine e2_ f1 ?_;simp[c,d,f,g,aa];refine e3_ n ?_;simp[c,d,f,g,aa];refine ep f2 (by simp;first|exact⟨rfl,rfl⟩|rfl) (by simp;first|exact⟨rfl,rfl⟩|rfl) ?_;simp[c,d,f,g,aa];refine⟨by repeat' first|rfl|apply ao,?_⟩
  by_cases e:i=0
  case neg=>simp[a,e,aa]
  simp[a,e,aa];refine c3_ (o a) ?_;simp[a,e,aa]
def aj.nv(t:aj)(i:Nat):NV:=(dB (t.at (t.nx i))).sub (dB (t.at i))
theorem aj.HG(t:aj)(i:Nat):(t.nv i).q=t.cw i:=by rw[aj.nv,NV.jF];rfl
def NS.add(s t:NS):NS:=⟨s.a.add t.a,s.b.add t.b,s.d⟩
def NS.neg(s:NS):NS:=⟨s.a.neg,s.b.neg,s.d⟩
def NS.times(s:NS)(k:NF):NS:=⟨s.a.mul k,s.b.mul k,s.d⟩
def NB.er(n:NB)(e:NV):NS:=⟨e.er n.a,e.er n.b,n.d⟩
def NS.plain(a d:NF):NS:=⟨a,.int 0,d⟩
def NS.norm(s:NS):NF:=(s.a.mul s.a).sub ((s.b.mul s.b).mul s.d)
open Classical in
noncomputable def NS.under(s:NS)(k:NF):NS:=if s.norm.q=0 then .plain (k.div (s.a.add s.a)) s.d else⟨(k.mul s.a).div s.norm,(k.mul s.b).neg.div s.norm,s.d⟩
theorem GY.mono{k l:Nat}{s:NS}(h:GY k s)(hl:k<=l):GY l s:=⟨h.1.mono hl,h.2.1.mono hl,h.2.2.mono hl⟩
def aj.pos(t:aj)(n:NB)(i:Nat):Bool:=decide (0<sgS ((n.er (t.nv i)).neg).q)
theorem nB{t:aj}(h:b9 t=0):3<=t.cs.length/\t.cs.length<=12/\(∀p∈t.cs,bV p)/\t.eS=true:=by
 rw[zm]at h
 by_cases d:nC t=0
 ·rw[if_pos d]at h
  by_cases e:pZ t=0
  ·obtain⟨a,b,c⟩:=HB d;refine⟨a,b,c,?_⟩;rw[pZ,lF]at e;have f:=e (bh (!t.eS) 15) s_;cases hc:t.eS
   ·rw[hc]at f;simp[bh]at f
   ·rfl
  ·rw[if_neg e]at h;exact(e h).elim
 ·rw[if_neg d]at h;exact(d h).elim
def wE:PV:=.st 81 [.str [],.str []]
theorem nA(s:List Nat)(n:Int):az prog 39 [.str s,.int .i64 n] (.bool (decide ((s.length:Int)<=n))):=by
 refine aJ nf (i_ func39) mix (by simp[f39]) ?_;simp[f39]
def jv(p:bZ):Bool:=decide (p.name.length<=40)&&(decide (p.a.length<=40)&&decide (p.b.length<=40))
def ib(s:bR):Bool:=decide (s.name.length<=40)&&(decide (s.pt.x.length<=40)&&decide (s.pt.y.length<=40))
def fQ(t:aj):Bool:=!(decide (14<t.cs.length)||(decide (14<t.aB.length)||((decide (8<t.ag.length)&&decide (t.ag.length<=256))||decide (258<t.ag.length))))&&(t.aB.all jv&&t.ag.all ib)
theorem pX{α:Type}{f:α->Bool}{l:List α}{i:Nat}{x:α}(h:l[i]?=some x):(l.take (i+1)).all f=((l.take i).all f&&f x):=by
 rw[cy,h];simp
theorem jL{α:Type}{f:α->Bool}{l:List α}{i:Nat}{x:α}(h:l[i]?=some x)(hf:f x=false):l.all f=false:=by
 cases a:l.all f
 ·rfl
 ·rw[e7]at a;rw[a x (b4 h)]at hf;cases hf
theorem VF(t:aj)(B:t.cs.length<=1000000)(C:t.aB.length<=1000000)(D:t.ag.length<=1000000):az prog 7 [cg t] (.bool (fQ t)):=by
 refine aJ nf (i_ func7) mix (by simp[f7]) ?_;have s:fQ t=(!(decide (14<t.cs.length)||(decide (14<t.aB.length)||((decide (8<t.ag.length)&&decide (t.ag.length<=256))||decide (258<t.ag.length))))&&(t.aB.all jv&&t.ag.all ib)):=rfl
 by_cases c1:14<t.cs.length
 ·have q:(14:Int)<t.cs.length:=by omega
  have o:fQ t=false:=by rw[s];simp[c1]
  simp[f7,aa,q,o]
 have q:¬(14:Int)<t.cs.length:=o_
 by_cases c2:14<t.aB.length
 ·have r:(14:Int)<t.aB.length:=by omega
  have o:fQ t=false:=by rw[s];simp[c2]
  simp[f7,aa,q,r,o]
 have r:¬(14:Int)<t.aB.length:=o_
 have tail:(8<t.ag.length->¬t.ag.length<=256)->¬258<t.ag.length->fQ t=(t.aB.all jv&&t.ag.all ib):=fun A z=>by
  rw[s]
  by_cases h:8<t.ag.length
  ·have:=A h;simp[c1,c2,h,this,z]
  ·simp[c1,c2,h,z]
 by_cases c3:8<t.ag.length
 ·have u:(8:Int)<t.ag.length:=by omega
  by_cases c4:t.ag.length<=256
  ·have w:(t.ag.length:Int)<=256:=by omega
   have o:fQ t=false:=by rw[s];simp[c3,c4]
   simp[f7,aa,q,r,u,w,o]
  ·have w:¬(t.ag.length:Int)<=256:=by omega
   by_cases c5:258<t.ag.length
   ·have v:(258:Int)<t.ag.length:=by omega
    have o:fQ t=false:=by rw[s];simp[c5]
    simp[f7,aa,q,r,u,w,v,o]
   ·have v:¬(258:Int)<t.ag.length:=by omega
    rw[tail (fun _=>c4) c5];simp[f7,aa,q,r,u,w,v];refine lp (α:=Nat) (fun i=>⟨[(3,.p (.int .i64 i)),(1,.ptr 0 [])],[.box false (.p (cg t))]⟩) (fun i=>i<=t.aB.length/\(t.aB.take i).all jv=true) (fun i=>t.aB.length-i) 0 s_ ?_;rintro i ⟨k1,k2⟩
    by_cases hi:i<t.aB.length
    ·have c:=aj.gz hi;have n:=bS (i:=i) o_;have f:=nA (t.pk i).a 40;have j:=nA (t.pk i).b 40;have g:jv (t.pk i)=(decide ((t.pk i).name.length<=40)&&(decide ((t.pk i).a.length<=40)&&decide ((t.pk i).b.length<=40))):=rfl
     by_cases m:(t.pk i).name.length<=40
     ·have d:¬(40:Int)<(t.pk i).name.length:=by omega
      by_cases a2:(t.pk i).a.length<=40
      ·have k:((t.pk i).a.length:Int)<=40:=by omega
       rw[decide_eq_true k]at f
       by_cases a3:(t.pk i).b.length<=40
       ·have l:((t.pk i).b.length:Int)<=40:=by omega
        rw[decide_eq_true l]at j;have e:jv (t.pk i)=true:=by rw[g];simp[m,a2,a3]
        simp[hi,c,d,aa];refine c2_ f ?_;simp[hi,c,d,aa];refine c2_ j ?_;simp[hi,c,d,n,aa];exact rd (i+1) ⟨hi,by rw[pX c,k2,e];rfl⟩
       ·have l:¬((t.pk i).b.length:Int)<=40:=by omega
        rw[decide_eq_false l]at j;have e:jv (t.pk i)=false:=by rw[g];simp[a3]
        rw[jL c e];simp[hi,c,d,aa];refine c2_ f ?_;simp[hi,c,d,aa];refine c2_ j ?_;simp[hi,c,d,n,aa]
      ·have k:¬((t.pk i).a.length:Int)<=40:=by omega
       rw[decide_eq_false k]at f;have e:jv (t.pk i)=false:=by rw[g];simp[a2]
       rw[jL c e];simp[hi,c,d,aa];refine c2_ f ?_;simp[hi,c,d,aa]
     ·have d:(40:Int)<(t.pk i).name.length:=by omega
      have e:jv (t.pk i)=false:=by rw[g];simp[m]
      rw[jL c e];simp[hi,c,d,aa]
    have:i=t.aB.length:=o_
    subst this;rw[cr]at k2;rw[k2,aT];simp[aa];refine lp (α:=Nat) (fun i=>⟨[(4,.p (.int .i64 i)),(1,.ptr 0 [])],[.box false (.p (cg t))]⟩) (fun i=>i<=t.ag.length/\(t.ag.take i).all ib=true) (fun i=>t.ag.length-i) 0 s_ ?_;rintro i ⟨k1,k2⟩
    by_cases hi:i<t.ag.length
    ·have c:=aj.dP hi;have n:=bS (i:=i) o_;have f:=nA (t.sp i).pt.x 40;have j:=nA (t.sp i).pt.y 40;have g:ib (t.sp i)=(decide ((t.sp i).name.length<=40)&&(decide ((t.sp i).pt.x.length<=40)&&decide ((t.sp i).pt.y.length<=40))):=rfl
     by_cases m:(t.sp i).name.length<=40
     ·have d:¬(40:Int)<(t.sp i).name.length:=by omega
      by_cases a2:(t.sp i).pt.x.length<=40
      ·have k:((t.sp i).pt.x.length:Int)<=40:=by omega
       rw[decide_eq_true k]at f
       by_cases a3:(t.sp i).pt.y.length<=40
       ·have l:((t.sp i).pt.y.length:Int)<=40:=by omega
        rw[decide_eq_true l]at j;have e:ib (t.sp i)=true:=by rw[g];simp[m,a2,a3]
        simp[hi,c,d,aa];refine c2_ f ?_;simp[hi,c,d,aa];refine c2_ j ?_;simp[hi,c,d,n,aa];exact rd (i+1) ⟨hi,by rw[pX c,k2,e];rfl⟩
       ·have l:¬((t.sp i).pt.y.length:Int)<=40:=by omega
        rw[decide_eq_false l]at j;have e:ib (t.sp i)=false:=by rw[g];simp[a3]
        rw[jL c e];simp[hi,c,d,aa];refine c2_ f ?_;simp[hi,c,d,aa];refine c2_ j ?_;simp[hi,c,d,n,aa]
      ·have k:¬((t.sp i).pt.x.length:Int)<=40:=by omega
       rw[decide_eq_false k]at f;have e:ib (t.sp i)=false:=by rw[g];simp[a2]
       rw[jL c e];simp[hi,c,d,aa];refine c2_ f ?_;simp[hi,c,d,aa]
     ·have d:(40:Int)<(t.sp i).name.length:=by omega
      have e:ib (t.sp i)=false:=by rw[g];simp[m]
      rw[jL c e];simp[hi,c,d,aa]
    have:i=t.ag.length:=o_
    subst this;rw[cr]at k2;rw[k2];simp[aa]
 ·have u:¬(8:Int)<t.ag.length:=by omega
  have v:¬(258:Int)<t.ag.length:=o_
  rw[tail (fun h=>absurd h c3) o_];simp[f7,aa,q,r,u,v];refine lp (α:=Nat) (fun i=>⟨[(3,.p (.int .i64 i)),(1,.ptr 0 [])],[.box false (.p (cg t))]⟩) (fun i=>i<=t.aB.length/\(t.aB.take i).all jv=true) (fun i=>t.aB.length-i) 0 s_ ?_;rintro i ⟨k1,k2⟩
  by_cases hi:i<t.aB.length
  ·have c:=aj.gz hi;have n:=bS (i:=i) o_;have f:=nA (t.pk i).a 40;have j:=nA (t.pk i).b 40;have g:jv (t.pk i)=(decide ((t.pk i).name.length<=40)&&(decide ((t.pk i).a.length<=40)&&decide ((t.pk i).b.length<=40))):=rfl
   by_cases m:(t.pk i).name.length<=40
   ·have d:¬(40:Int)<(t.pk i).name.length:=by omega
    by_cases a2:(t.pk i).a.length<=40
    ·have k:((t.pk i).a.length:Int)<=40:=by omega
     rw[decide_eq_true k]at f
     by_cases a3:(t.pk i).b.length<=40
     ·have l:((t.pk i).b.length:Int)<=40:=by omega
      rw[decide_eq_true l]at j;have e:jv (t.pk i)=true:=by rw[g];simp[m,a2,a3]
      simp[hi,c,d,aa];refine c2_ f ?_;simp[hi,c,d,aa];refine c2_ j ?_;simp[hi,c,d,n,aa];exact rd (i+1) ⟨hi,by rw[pX c,k2,e];rfl⟩
     ·have l:¬((t.pk i).b.length:Int)<=40:=by omega
      rw[decide_eq_false l]at j;have e:jv (t.pk i)=false:=by rw[g];simp[a3]
      rw[jL c e];simp[hi,c,d,aa];refine c2_ f ?_;simp[hi,c,d,aa];refine c2_ j ?_;simp[hi,c,d,n,aa]
    ·have k:¬((t.pk i).a.length:Int)<=40:=by omega
     rw[decide_eq_false k]at f;have e:jv (t.pk i)=false:=by rw[g];simp[a2]
     rw[jL c e];simp[hi,c,d,aa];refine c2_ f ?_;simp[hi,c,d,aa]
   ·have d:(40:Int)<(t.pk i).name.length:=by omega
    have e:jv (t.pk i)=false:=by rw[g];simp[m]
    rw[jL c e];simp[hi,c,d,aa]
  have:i=t.aB.length:=o_
  subst this;rw[cr]at k2;rw[k2,aT];simp[aa];refine lp (α:=Nat) (fun i=>⟨[(4,.p (.int .i64 i)),(1,.ptr 0 [])],[.box false (.p (cg t))]⟩) (fun i=>i<=t.ag.length/\(t.ag.take i).all ib=true) (fun i=>t.ag.length-i) 0 s_ ?_;rintro i ⟨k1,k2⟩
  by_cases hi:i<t.ag.length
  ·have c:=aj.dP hi;have n:=bS (i:=i) o_;have f:=nA (t.sp i).pt.x 40;have j:=nA (t.sp i).pt.y 40;have g:ib (t.sp i)=(decide ((t.sp i).name.length<=40)&&(decide ((t.sp i).pt.x.length<=40)&&decide ((t.sp i).pt.y.length<=40))):=rfl
   by_cases m:(t.sp i).name.length<=40
   ·have d:¬(40:Int)<(t.sp i).name.length:=by omega
    by_cases a2:(t.sp i).pt.x.length<=40
    ·have k:((t.sp i).pt.x.length:Int)<=40:=by omega
     rw[decide_eq_true k]at f
     by_cases a3:(t.sp i).pt.y.length<=40
     ·have l:((t.sp i).pt.y.length:Int)<=40:=by omega
      rw[decide_eq_true l]at j;have e:ib (t.sp i)=true:=by rw[g];simp[m,a2,a3]
      simp[hi,c,d,aa];refine c2_ f ?_;simp[hi,c,d,aa];refine c2_ j ?_;simp[hi,c,d,n,aa];exact rd (i+1) ⟨hi,by rw[pX c,k2,e];rfl⟩
     ·have l:¬((t.sp i).pt.y.length:Int)<=40:=by omega
      rw[decide_eq_false l]at j;have e:ib (t.sp i)=false:=by rw[g];simp[a3]
      rw[jL c e];simp[hi,c,d,aa];refine c2_ f ?_;simp[hi,c,d,aa];refine c2_ j ?_;simp[hi,c,d,n,aa]
    ·have k:¬((t.sp i).pt.x.length:Int)<=40:=by omega
     rw[decide_eq_false k]at f;have e:ib (t.sp i)=false:=by rw[g];simp[a2]
     rw[jL c e];simp[hi,c,d,aa];refine c2_ f ?_;simp[hi,c,d,aa]
   ·have d:(40:Int)<(t.sp i).name.length:=by omega
    have e:ib (t.sp i)=false:=by rw[g];simp[m]
    rw[jL c e];simp[hi,c,d,aa]
  have:i=t.ag.length:=o_
  subst this;rw[cr]at k2;rw[k2];simp[aa]
theorem rW(l:List bU):fh prog 2 (l.map (AV.p∘aG)):=vr (fun r=>⟨by simp[aa],by simp[aa]⟩) l
theorem ky{α:Type}{f:α->AV}{l:List α}{j:Nat}{x:α}(h:l[j+1]?=some x):(l.take (j+1+1)).map f=(l.map f).take (j+1)++[f x]:=by
 rw[cy (i:=j+1),h,gl,en];rfl
theorem fo{N:Nat×Nat->Prop}{α:Type}{f:α->PV}{k:Nat}{l:List α}:aV N ((l.map (AV.p∘f)).take k)=True:=by
 rw[cB,eq_iff_iff,iff_true];intro x hx;obtain⟨a,_,rfl⟩:=dl.1 (fl hx);trivial
theorem pY:fD=bn:=rfl
theorem nF:iw=aR:=rfl
theorem kz{α:Type}{l:List α}{x:α}(h:l[0]?=some x):l.take 1=[x]:=by
 rw[cy (i:=0),h];rfl
theorem VL(t:aj)(u:t.cs.length<=1000000)(v:t.aB.length<=1000000)(w:t.ag.length<=1000000):az prog 11 [cg t] (bJ t):=by
 have s:(1000000:Nat)<cJ:=by decide
 have o:bl.wrap 1=1:=by decide
 refine aJ nf (i_ func11) mix (by simp[f11]) ?_;simp[f11,aa];refine⟨⟨rW _,o_⟩,?_⟩
 by_cases hc:t.cs=[]
 ·simp[hc];refine⟨⟨by repeat' first|rfl|apply ao,by repeat' first|rfl|apply ao⟩,?_⟩;refine lp (α:=Nat) (fun i=>match i with
    |0=>⟨[(18,.p (.int .i64 0)),(17,.p (.int .i64 t.aB.length)),(16,.p (.seq (t.aB.map bn))),(3,.ptr 3 []),(2,.ptr 1 []),(1,.ptr 0 [])],[.box false (.p (cg t)),.box false (.p (.st 35 [.aH,.int .i64 0,.aH,.aH])),.arr .exact 0 2 [],.box false (.st 35 [.sl 2 0 2 0 0,.p (.int .i64 t.aU),.p .aH,.p .aH])]⟩
    |m+1=>⟨[(18,.p (.int .i64 ((m+1:Nat):Int))),(17,.p (.int .i64 t.aB.length)),(16,.p (.seq (t.aB.map bn))),(3,.ptr 3 []),(2,.ptr 1 []),(1,.ptr 0 [])],[.box false (.p (cg t)),.box false (.p (.st 35 [.aH,.int .i64 0,.aH,.aH])),.arr .exact 0 2 [],.box false (.st 35 [.sl 2 0 2 0 0,.p (.int .i64 t.aU),.sl 6 m 4 0 (m+1),.p .aH]),.hole,.hole,.arr .grow m 4 ((t.aB.take (m+1)).map (AV.p∘bn))]⟩) (fun i=>i<=t.aB.length) (fun i=>t.aB.length-i) 0 s_ ?_
  rintro i q
  by_cases hi:i<t.aB.length
  ·have a:=aj.gz hi;rcases i with _|j
   ·have b:=kz a;simp[hi,a,o,aa];exact⟨o_,rd 1 hi (hh:=by simp[b]) (hr2:=by simp[fo])⟩
   ·have h:bl.wrap ((j:Int)+1+1)=(j:Int)+1+1:=aK _ o_ o_;have hI:(j:Int)+1<t.aB.length:=by omega
    have b:=ky (f:=AV.p∘bn) a;simp[hi,hI,a,h,aa];exact⟨o_,⟨o_,o_⟩,rd (j+2) hi (hh:=by simp at b;simp[b]) (hr2:=by simp[fo])⟩
  have r:i=t.aB.length:=o_
  rcases i with _|j
  ·have n:t.aB=[]:=c7.1 r.symm;simp[n,aa];refine lp (α:=Nat) (fun i=>match i with
     |0=>⟨[(32,.p (.int .i64 0)),(31,.p (.int .i64 t.ag.length)),(30,.p (.seq (t.ag.map aR))),(3,.ptr 3 []),(2,.ptr 1 []),(1,.ptr 0 [])],[.box false (.p (cg t)),.box false (.p (.st 35 [.aH,.int .i64 0,.aH,.aH])),.arr .exact 0 2 [],.box false (.st 35 [.sl 2 0 2 0 0,.p (.int .i64 t.aU),.p .aH,.p .aH])]⟩
     |m+1=>⟨[(32,.p (.int .i64 ((m+1:Nat):Int))),(31,.p (.int .i64 t.ag.length)),(30,.p (.seq (t.ag.map aR))),(3,.ptr 3 []),(2,.ptr 1 []),(1,.ptr 0 [])],[.box false (.p (cg t)),.box false (.p (.st 35 [.aH,.int .i64 0,.aH,.aH])),.arr .exact 0 2 [],.box false (.st 35 [.sl 2 0 2 0 0,.p (.int .i64 t.aU),.p .aH,.sl 6 m 3 0 (m+1)]),.hole,.hole,.arr .grow m 3 ((t.ag.take (m+1)).map (AV.p∘aR))]⟩) (fun i=>i<=t.ag.length) (fun i=>t.ag.length-i) 0 s_ ?_
   rintro i q
   by_cases hi:i<t.ag.length
   ·have a:=aj.dP hi;rcases i with _|j
    ·have b:=kz a;simp[hi,a,o,aa];exact⟨o_,rd 1 hi (hh:=by simp[b]) (hr2:=by simp[fo])⟩
    ·have h:bl.wrap ((j:Int)+1+1)=(j:Int)+1+1:=aK _ o_ o_;have hI:(j:Int)+1<t.ag.length:=by omega
     have b:=ky (f:=AV.p∘aR) a;simp[hi,hI,a,h,aa];exact⟨o_,⟨o_,o_⟩,rd (j+2) hi (hh:=by simp at b;simp[b]) (hr2:=by simp[fo])⟩
   have d:i=t.ag.length:=o_
   rcases i with _|c
   ·have e:t.ag=[]:=c7.1 d.symm;simp[e,aa];simp[bJ,hc,n,e,pY,nF]
   ·have hI:¬((c:Int)+1<t.ag.length):=by omega
    have g:t.ag.take (c+1)=t.ag:=by rw[d,cr]
    simp[hI,g,aa];have l:(t.ag.map (AV.p∘aR)).take (c+1)=t.ag.map (AV.p∘aR):=cv (by simp;omega);simp[bJ,hc,n,l,pY,nF];omega
  ·have hI:¬((j:Int)+1<t.aB.length):=by omega
   have g:t.aB.take (j+1)=t.aB:=by rw[r,cr]
   simp[hI,g,aa];refine lp (α:=Nat) (fun i=>match i with
    |0=>⟨[(32,.p (.int .i64 0)),(31,.p (.int .i64 t.ag.length)),(30,.p (.seq (t.ag.map aR))),(3,.ptr 3 []),(2,.ptr 1 []),(1,.ptr 0 [])],[.box false (.p (cg t)),.box false (.p (.st 35 [.aH,.int .i64 0,.aH,.aH])),.arr .exact 0 2 [],.box false (.st 35 [.sl 2 0 2 0 0,.p (.int .i64 t.aU),.sl 6 j 4 0 (j+1),.p .aH]),.hole,.hole,.arr .grow j 4 (t.aB.map (AV.p∘bn))]⟩
    |m+1=>⟨[(32,.p (.int .i64 ((m+1:Nat):Int))),(31,.p (.int .i64 t.ag.length)),(30,.p (.seq (t.ag.map aR))),(3,.ptr 3 []),(2,.ptr 1 []),(1,.ptr 0 [])],[.box false (.p (cg t)),.box false (.p (.st 35 [.aH,.int .i64 0,.aH,.aH])),.arr .exact 0 2 [],.box false (.st 35 [.sl 2 0 2 0 0,.p (.int .i64 t.aU),.sl 6 j 4 0 (j+1),.sl 9 m 3 0 (m+1)]),.hole,.hole,.arr .grow j 4 (t.aB.map (AV.p∘bn)),.hole,.hole,.arr .grow m 3 ((t.ag.take (m+1)).map (AV.p∘aR))]⟩) (fun i=>i<=t.ag.length) (fun i=>t.ag.length-i) 0 s_ ?_
   rintro i q
   by_cases hi:i<t.ag.length
   ·have a:=aj.dP hi;rcases i with _|j
    ·have b:=kz a;simp[hi,a,o,aa];exact⟨o_,rd 1 hi (hh:=by simp[b]) (hr2:=by simp[fo])⟩
    ·have h:bl.wrap ((j:Int)+1+1)=(j:Int)+1+1:=aK _ o_ o_;have hI:(j:Int)+1<t.ag.length:=by omega
     have b:=ky (f:=AV.p∘aR) a;simp[hi,hI,a,h,aa];exact⟨o_,⟨o_,o_⟩,rd (j+2) hi (hh:=by simp at b;simp[b]) (hr2:=by simp[fo])⟩
   have d:i=t.ag.length:=o_
   rcases i with _|c
   ·have e:t.ag=[]:=c7.1 d.symm;simp[e,aa];have k:(t.aB.map (AV.p∘bn)).take (j+1)=t.aB.map (AV.p∘bn):=cv (by simp;omega);simp[bJ,hc,k,e,pY,nF];omega
   ·have hI:¬((c:Int)+1<t.ag.length):=by omega
    have g:t.ag.take (c+1)=t.ag:=by rw[d,cr]
    simp[hI,g,aa];have k:(t.aB.map (AV.p∘bn)).take (j+1)=t.aB.map (AV.p∘bn):=cv (by simp;omega);have l:(t.ag.map (AV.p∘aR)).take (c+1)=t.ag.map (AV.p∘aR):=cv (by simp;omega);simp[bJ,hc,k,l,pY,nF];omega
 ·simp[hc];refine⟨⟨by repeat' first|rfl|apply ao,by repeat' first|rfl|apply ao⟩,?_⟩;refine lp (α:=Nat) (fun i=>match i with
    |0=>⟨[(18,.p (.int .i64 0)),(17,.p (.int .i64 t.aB.length)),(16,.p (.seq (t.aB.map bn))),(3,.ptr 4 []),(2,.ptr 1 []),(1,.ptr 0 [])],[.box false (.p (cg t)),.box false (.p (.st 35 [.aH,.int .i64 0,.aH,.aH])),.arr .exact 0 2 [],.arr .grow 0 2 (t.cs.map (AV.p∘aG)),.box false (.st 35 [.sl 3 0 2 0 t.cs.length,.p (.int .i64 t.aU),.p .aH,.p .aH])]⟩
    |m+1=>⟨[(18,.p (.int .i64 ((m+1:Nat):Int))),(17,.p (.int .i64 t.aB.length)),(16,.p (.seq (t.aB.map bn))),(3,.ptr 4 []),(2,.ptr 1 []),(1,.ptr 0 [])],[.box false (.p (cg t)),.box false (.p (.st 35 [.aH,.int .i64 0,.aH,.aH])),.arr .exact 0 2 [],.arr .grow 0 2 (t.cs.map (AV.p∘aG)),.box false (.st 35 [.sl 3 0 2 0 t.cs.length,.p (.int .i64 t.aU),.sl 7 m 4 0 (m+1),.p .aH]),.hole,.hole,.arr .grow m 4 ((t.aB.take (m+1)).map (AV.p∘bn))]⟩) (fun i=>i<=t.aB.length) (fun i=>t.aB.length-i) 0 s_ ?_
  rintro i q
  by_cases hi:i<t.aB.length
  ·have a:=aj.gz hi;rcases i with _|j
   ·have b:=kz a;simp[hi,a,o,aa];exact⟨o_,rd 1 hi (hh:=by simp[b]) (hr2:=by simp[fo])⟩
   ·have h:bl.wrap ((j:Int)+1+1)=(j:Int)+1+1:=aK _ o_ o_;have hI:(j:Int)+1<t.aB.length:=by omega
    have b:=ky (f:=AV.p∘bn) a;simp[hi,hI,a,h,aa];exact⟨o_,⟨o_,o_⟩,rd (j+2) hi (hh:=by simp at b;simp[b]) (hr2:=by simp[fo])⟩
  have r:i=t.aB.length:=o_
  rcases i with _|j
  ·have n:t.aB=[]:=c7.1 r.symm;simp[n,aa];refine lp (α:=Nat) (fun i=>match i with
     |0=>⟨[(32,.p (.int .i64 0)),(31,.p (.int .i64 t.ag.length)),(30,.p (.seq (t.ag.map aR))),(3,.ptr 4 []),(2,.ptr 1 []),(1,.ptr 0 [])],[.box false (.p (cg t)),.box false (.p (.st 35 [.aH,.int .i64 0,.aH,.aH])),.arr .exact 0 2 [],.arr .grow 0 2 (t.cs.map (AV.p∘aG)),.box false (.st 35 [.sl 3 0 2 0 t.cs.length,.p (.int .i64 t.aU),.p .aH,.p .aH])]⟩
     |m+1=>⟨[(32,.p (.int .i64 ((m+1:Nat):Int))),(31,.p (.int .i64 t.ag.length)),(30,.p (.seq (t.ag.map aR))),(3,.ptr 4 []),(2,.ptr 1 []),(1,.ptr 0 [])],[.box false (.p (cg t)),.box false (.p (.st 35 [.aH,.int .i64 0,.aH,.aH])),.arr .exact 0 2 [],.arr .grow 0 2 (t.cs.map (AV.p∘aG)),.box false (.st 35 [.sl 3 0 2 0 t.cs.length,.p (.int .i64 t.aU),.p .aH,.sl 7 m 3 0 (m+1)]),.hole,.hole,.arr .grow m 3 ((t.ag.take (m+1)).map (AV.p∘aR))]⟩) (fun i=>i<=t.ag.length) (fun i=>t.ag.length-i) 0 s_ ?_
   rintro i q
   by_cases hi:i<t.ag.length
   ·have a:=aj.dP hi;rcases i with _|j
    ·have b:=kz a;simp[hi,a,o,aa];exact⟨o_,rd 1 hi (hh:=by simp[b]) (hr2:=by simp[fo])⟩
    ·have h:bl.wrap ((j:Int)+1+1)=(j:Int)+1+1:=aK _ o_ o_;have hI:(j:Int)+1<t.ag.length:=by omega
     have b:=ky (f:=AV.p∘aR) a;simp[hi,hI,a,h,aa];exact⟨o_,⟨o_,o_⟩,rd (j+2) hi (hh:=by simp at b;simp[b]) (hr2:=by simp[fo])⟩
   have d:i=t.ag.length:=o_
   rcases i with _|c
   ·have e:t.ag=[]:=c7.1 d.symm;simp[e,aa];simp[bJ,hc,n,e,pY,nF]
   ·have hI:¬((c:Int)+1<t.ag.length):=by omega
    have g:t.ag.take (c+1)=t.ag:=by rw[d,cr]
    simp[hI,g,aa];have l:(t.ag.map (AV.p∘aR)).take (c+1)=t.ag.map (AV.p∘aR):=cv (by simp;omega);simp[bJ,hc,n,l,pY,nF];omega
  ·have hI:¬((j:Int)+1<t.aB.length):=by omega
   have g:t.aB.take (j+1)=t.aB:=by rw[r,cr]
   simp[hI,g,aa];refine lp (α:=Nat) (fun i=>match i with
    |0=>⟨[(32,.p (.int .i64 0)),(31,.p (.int .i64 t.ag.length)),(30,.p (.seq (t.ag.map aR))),(3,.ptr 4 []),(2,.ptr 1 []),(1,.ptr 0 [])],[.box false (.p (cg t)),.box false (.p (.st 35 [.aH,.int .i64 0,.aH,.aH])),.arr .exact 0 2 [],.arr .grow 0 2 (t.cs.map (AV.p∘aG)),.box false (.st 35 [.sl 3 0 2 0 t.cs.length,.p (.int .i64 t.aU),.sl 7 j 4 0 (j+1),.p .aH]),.hole,.hole,.arr .grow j 4 (t.aB.map (AV.p∘bn))]⟩
    |m+1=>⟨[(32,.p (.int .i64 ((m+1:Nat):Int))),(31,.p (.int .i64 t.ag.length)),(30,.p (.seq (t.ag.map aR))),(3,.ptr 4 []),(2,.ptr 1 []),(1,.ptr 0 [])],[.box false (.p (cg t)),.box false (.p (.st 35 [.aH,.int .i64 0,.aH,.aH])),.arr .exact 0 2 [],.arr .grow 0 2 (t.cs.map (AV.p∘aG)),.box false (.st 35 [.sl 3 0 2 0 t.cs.length,.p (.int .i64 t.aU),.sl 7 j 4 0 (j+1),.sl 10 m 3 0 (m+1)]),.hole,.hole,.arr .grow j 4 (t.aB.map (AV.p∘bn)),.hole,.hole,.arr .grow m 3 ((t.ag.take (m+1)).map (AV.p∘aR))]⟩) (fun i=>i<=t.ag.length) (fun i=>t.ag.length-i) 0 s_ ?_
   rintro i q
   by_cases hi:i<t.ag.length
   ·have a:=aj.dP hi;rcases i with _|j
    ·have b:=kz a;simp[hi,a,o,aa];exact⟨o_,rd 1 hi (hh:=by simp[b]) (hr2:=by simp[fo])⟩
    ·have h:bl.wrap ((j:Int)+1+1)=(j:Int)+1+1:=aK _ o_ o_;have hI:(j:Int)+1<t.ag.length:=by omega
     have b:=ky (f:=AV.p∘aR) a;simp[hi,hI,a,h,aa];exact⟨o_,⟨o_,o_⟩,rd (j+2) hi (hh:=by simp at b;simp[b]) (hr2:=by simp[fo])⟩
   have d:i=t.ag.length:=o_
   rcases i with _|c
   ·have e:t.ag=[]:=c7.1 d.symm;simp[e,aa];have k:(t.aB.map (AV.p∘bn)).take (j+1)=t.aB.map (AV.p∘bn):=cv (by simp;omega);simp[bJ,hc,k,e,pY,nF];omega
   ·have hI:¬((c:Int)+1<t.ag.length):=by omega
    have g:t.ag.take (c+1)=t.ag:=by rw[d,cr]
    simp[hI,g,aa];have k:(t.aB.map (AV.p∘bn)).take (j+1)=t.aB.map (AV.p∘bn):=cv (by simp;omega);have l:(t.ag.map (AV.p∘aR)).take (c+1)=t.ag.map (AV.p∘aR):=cv (by simp;omega);simp[bJ,hc,k,l,pY,nF];omega
def fJ(r:Int)(a b:V2):Int:=dx ((a.sub b).dot (a.sub b)) (sN r)
def gS(t:aj)(bef:List bR)(s:bR):Int:=
 if isName s.name=false then 8
 else if bef.any (fun o=>decide (o.name=s.name))=true then 9
 else if df s.pt≠0 then df s.pt
 else if t.on (vP s.pt)<0 then 16
 else if bef.any (fun o=>decide (fJ t.aU (vP o.pt) (vP s.pt)<0))=true then 17 else 0
def kK(t b:aj):Int:=if 24<b.ag.length then 5 else jX (gS t) b.ag
def gJ(t b:aj):Int:=if b9 t≠0 then b9 t else kK t b
structure mc(b:aj):Prop where
 sl:b.ag.length<=1000000
 sp:∀s∈b.ag,kX s
theorem zC{t:aj}(h:b9 t=0):1<=t.aU/\t.aU<=1000:=by
 rw[b9]at h
 split at h
 ·omega
 split at h
 ·omega
 split at h
 ·omega
 split at h
 ·omega
 split at h
 ·omega
 omega
theorem rX{s:gO}(h:df s=0):eV (vP s)=ft s/\bP 2000 (vP s):=by
 obtain⟨g1,g2⟩:=iY h;refine⟨?_,il g1,il g2⟩;rw[eV,vP];dsimp only;rw[(jg g1).1,(jg g2).1]
theorem W7(t:aj)(a:0<=t.aU)(b:t.aU<=1000000):az prog 236 [cg t] (.str (bg (sN t.aU))):=by
 have f:=Bh a b;have c:=FE (4*t.aU*t.aU) o_ o_;have d:bl.wrap (4*t.aU)=4*t.aU:=aK _ o_ o_;have e:bl.wrap (4*t.aU*t.aU)=4*t.aU*t.aU:=aK _ o_ o_;refine aJ nf (i_ func236) mix (by simp[f236]) ?_;rw[sN];simp[f236,aa,d,e];refine c1 c ?_;simp
theorem W9(t:aj)(a b:V2)(d:0<=t.aU)(e:t.aU<=1000000)(f:bP 2000 a)(g:bP 2000 b):az prog 167 [cg t,eV a,eV b] (.int .i64 (fJ t.aU a b)):=by
 have c:=mr f g;have k1:=yN a b (f.mono (by decide)) (g.mono (by decide));have k2:=DZ (a.sub b) (c.mono (by decide));have k3:=W7 t d e;have k4:=wD ((a.sub b).dot (a.sub b)) (sN t.aU) ((DH c c).mono (by decide)) ((Lt d e).mono (by decide));refine aJ nf (i_ func167) mix (by simp[f167]) ?_;rw[fJ];simp[f167,aa];refine e2 k1 ?_;simp[aa];refine e1 k2 ?_;simp[aa];refine e1 k3 ?_;simp[aa];refine e2 k4 ?_;simp[aa]
theorem IW{α:Type}{f:α->Bool}{l:List α}{i j:Nat}{x:α}(h:l[j]?=some x)(a:j<i)(hf:f x=true):(l.take i).any f=true:=by
 rw[c9];exact⟨x,b4 (i:=j) (by rw[da,if_pos a];exact h),hf⟩
theorem C3{t:aj}{a:List bR}{s:bR}(h:gS t a s=0):df s.pt=0:=by
 rw[gS]at h
 split at h
 ·omega
 split at h
 ·omega
 split at h
 ·contradiction
 ·rename_i g;exact a1.1 g
theorem VP(t b:aj)(u:b9 t=0)(y:mc b)(hl:t.cs.length<=1000000):az prog 73 [cg t,.seq (b.ag.map aR)] (.int .i64 (kK t b)):=by
 obtain⟨N,A⟩:=y;obtain⟨_,_,z,_⟩:=nB u;obtain⟨O,P⟩:=zC u;refine aJ nf (i_ func73) mix (by simp[f73]) ?_;rw[kK]
 by_cases c4:24<b.ag.length
 ·have cI:(24:Int)<b.ag.length:=by omega
  rw[if_pos c4];simp[f73,aa,cI]
 have w:¬(24:Int)<b.ag.length:=o_
 rw[if_neg c4];simp[f73,aa,w];refine lp (α:=Nat) (fun i=>⟨[(5,.p (.int .i64 i)),(2,.ptr 0 []),(1,.p (.seq (b.ag.map aR)))],[.box false (.p (cg t))]⟩) (fun i=>i<=b.ag.length/\∀j,j<i->fP (gS t) b.ag j=0) (fun i=>b.ag.length-i) 0 s_ ?_;rintro i ⟨s1,s2⟩
 by_cases hs:i<b.ag.length
 case neg=>
  have:i=b.ag.length:=o_
  subst this;rw[l9.2 s2];simp[aa]
 have a:=aj.dP hs;have B:=bS (i:=i) o_;obtain⟨G,H⟩:=A _ (b4 a);have f:=CM (b.sp i).name G.1;have x:=Lq (b.sp i).pt H;have d:gS t (b.ag.take i) (b.sp i)≠0->jX (gS t) b.ag=gS t (b.ag.take i) (b.sp i):=ug s2 a;have F:gS t (b.ag.take i) (b.sp i)=0->∀j,j<i+1->fP (gS t) b.ag j=0:=uf s2 a;have K:∀j,j<i->df (b.sp j).pt=0:=fun j c=>by
  have:=s2 j c;rw[fP,aj.dP o_]at this;exact C3 this
 have ev:gS t (b.ag.take i) (b.sp i)=if isName (b.sp i).name=false then 8 else if(b.ag.take i).any (fun o=>decide (o.name=(b.sp i).name))=true then 9 else if df (b.sp i).pt≠0 then df (b.sp i).pt else if t.on (vP (b.sp i).pt)<0 then 16 else if(b.ag.take i).any (fun o=>decide (fJ t.aU (vP o.pt) (vP (b.sp i).pt)<0))=true then 17 else 0:=rfl
 clear s2;generalize gS t (b.ag.take i) (b.sp i)=E at*;generalize jX (gS t) b.ag=L at*;cases l:isName (b.sp i).name
 ·rw[l]at f;rw[l,if_pos rfl]at ev;rw[d (by rw[ev];decide),ev];simp[hs,a,aa];refine c1_ f ?_;simp[aa]
 rw[l]at f;rw[l,if_neg (by decide)]at ev;simp[hs,a,aa];refine c1_ f ?_;simp[aa];refine lp (α:=Nat) (fun k=>⟨[(6,.p (.int .i64 k)),(5,.p (.int .i64 i)),(2,.ptr 0 []),(1,.p (.seq (b.ag.map aR)))],[.box false (.p (cg t))]⟩) (fun k=>k<=i/\(b.ag.take k).any (fun o=>decide (o.name=(b.sp i).name))=false) (fun k=>i-k) 0 s_ ?_;rintro k ⟨k1,k2⟩
 by_cases hk:k<i
 ·have r:k<b.ag.length:=by omega
  have gk:=aj.dP r;have D:=bS (i:=k) o_
  by_cases h:(b.sp k).name=(b.sp i).name
  ·rw[if_pos (IW gk hk (by simp[h]))]at ev;rw[d (by rw[ev];decide),ev];simp[hs,hk,r,gk,a,h,aa]
  ·simp[hs,hk,r,gk,a,h,D,aa];exact rd (k+1) ⟨hk,by rw[wA gk,k2];simp[h]⟩
 have:k=i:=o_
 subst this;rw[k2,if_neg (by decide)]at ev;clear k1 k2 hk;have d0:¬k<k:=o_
 simp[d0,hs,a,aa];refine c1_ x ?_
 by_cases pe:df (b.sp k).pt=0
 case neg=>
  rw[if_pos pe]at ev;rw[d (by rw[ev];exact pe),ev];simp[pe,aa]
 rw[if_neg (by simp[pe])]at ev;obtain⟨pl,ok⟩:=rX pe;have s:=SI t (vP (b.sp k).pt) hl z (ok.mono (by decide));rw[pl]at s;simp[pe,hs,a,aa];refine e2_ s ?_
 by_cases m:t.on (vP (b.sp k).pt)<0
 ·rw[if_pos m]at ev;rw[d (by rw[ev];decide),ev];simp[m,aa]
 rw[if_neg m]at ev;simp[m,aa];refine lp (α:=Nat) (fun j=>⟨[(8,.p (.int .i64 j)),(5,.p (.int .i64 k)),(2,.ptr 0 []),(1,.p (.seq (b.ag.map aR)))],[.box false (.p (cg t))]⟩) (fun j=>j<=k/\(b.ag.take j).any (fun o=>decide (fJ t.aU (vP o.pt) (vP (b.sp k).pt)<0))=false) (fun j=>k-j) 0 s_ ?_;rintro j ⟨M,v⟩
 by_cases c:j<k
 ·have q:j<b.ag.length:=by omega
  have e:=aj.dP q;have C:=bS (i:=j) o_;obtain⟨J,I⟩:=rX (K j c);have n:=W9 t (vP (b.sp j).pt) (vP (b.sp k).pt) o_ o_ I ok;rw[pl,J]at n
  by_cases g:fJ t.aU (vP (b.sp j).pt) (vP (b.sp k).pt)<0
  ·rw[if_pos (IW e c (by simp[g]))]at ev;rw[d (by rw[ev];decide),ev];simp[hs,c,q,e,a,aa];refine e3_ n ?_;simp[g,aa]
  ·simp[hs,c,q,e,a,aa];refine e3_ n ?_;simp[g,C,aa];exact rd (j+1) ⟨c,by rw[wA e,v];simp[g]⟩
 have:j=k:=o_
 subst this;rw[v,if_neg (by decide)]at ev;simp[d0,B,aa];exact rd (j+1) ⟨hs,F ev⟩
theorem IU(t b:aj)(a:gH t)(c:mc b):az prog 22 [cg t,.seq (b.ag.map aR)] (.int .i64 (gJ t b)):=by
 have k1:=Vl t a;refine aJ nf (i_ func22) mix (by simp[f22]) ?_;rw[gJ]
 by_cases h:b9 t=0
 ·rw[if_neg (by simp[h])];have k2:=VP t b h c a.cl;rw[h]at k1;simp[f22,aa];refine c1_ k1 ?_;simp[aa];refine c2_ k2 ?_;simp[aa]
 ·rw[if_pos h];generalize b9 t=e at*;simp[f22,aa];refine c1_ k1 ?_;simp[h,aa]
section
variable{H:Type}{W:a8}{ad:Nat->Prop}
theorem aQ3:∃a b:bb,prog.underlying 85=some (.struct #[a,b])/\a.type=9/\b.type=82:=⟨_,_,underlying85,rfl,rfl⟩
theorem US:prog.underlyingId 85=84:=k_
theorem Xb{m n:Nat}(s:m=n+2){d:a7 H}(h:∃cs,aY prog W ad (bN prog (m+1) 85 d) cs)(o:Rows.uptoBulk d<=1048576):∃p:bR,bN prog (m+1) 85 d=aR p/\kX p/\2<=Rows.uptoBulk d:=by
 obtain⟨cs,h⟩:=h;obtain⟨f0,f1,g,t0,t1⟩:=aQ3;cases d with
 |agg l=>
  have f:∀x∈l,Rows.uptoBulk x<=1048576:=fun x hx=>by
   have:=rr.vE hx;rw[Rows.uptoBulk]at o;omega
  simp only[bN,g,aY]at h⊢;obtain⟨u,t,e,c,_⟩:=h;rw[US,UO]at e;cases e
  match l,c with
  |[],c=>simp[bm]at c
  |[x],c=>simp[bm]at c
  |x::y::r,c=>
   have:=zi x;simp only[dg,cx,bm,dp,dz,t0,t1]at c⊢;obtain⟨c0,_,_,g1,_,c1,_,_,g2,_⟩:=c;subst s;obtain⟨a,i,k⟩:=CV (n:=n+1) ⟨c0,g1⟩ (f x s_);obtain⟨b,j,q⟩:=MY (n:=n) ⟨c1,g2⟩ (f y s_);refine⟨⟨a,b⟩,by rw[i,j,US];rfl,⟨k,q⟩,?_⟩;rw[Rows.uptoBulk,Rows.uptoBulkAll];omega
 |_=>simp only[bN,g,aY]at h
theorem WZ{d:a7 H}(h:∃cs,aY prog W ad (bN prog 8 48 d) cs)(a:Rows.uptoBulk d<=1048576):∃b:aj,bN prog 8 48 d=.seq (b.ag.map aR)/\True/\mc b:=by
 obtain⟨b,c,e,g⟩:=zo (n:=7) aQ2 (F:=aR) (ok:=kX) (fun d f a=>Xb (n:=4) rfl f a) h a;exact⟨⟨[],0,[],b⟩,c,trivial,g,e⟩
end
theorem Lp(v w:NV)(a:bP kQ v.q)(b:bP kQ w.q):az prog 121 [dQ v,dQ w] (eF (v.dot w)):=by
 have c:=qQ v.x w.x (eH a.1) (eH b.1);have d:=qQ v.y w.y (eH a.2) (eH b.2);have e:=vG (v.x.mul w.x) (v.y.mul w.y) ((ke a.1 b.1).mono (by decide)) ((ke a.2 b.2).mono (by decide));refine aJ nf (i_ func121) mix (by simp[f121]) ?_;rw[NV.dot];simp[f121,aa];refine e2 c ?_;simp[aa];refine e2 d ?_;simp[aa];refine e2 e ?_;simp[aa]
theorem JN(t:aj)(a:0<=t.aU)(b:t.aU<=1000000):az prog 102 [bJ t] (eF (.width t.aU)):=by
 have f:=Bh a b;have c:=ry (4*t.aU*t.aU) o_ o_;have d:bl.wrap (4*t.aU)=4*t.aU:=aK _ o_ o_;have e:bl.wrap (4*t.aU*t.aU)=4*t.aU*t.aU:=aK _ o_ o_;refine aJ nf (i_ func102) mix (by simp[f102]) ?_;rw[NF.width];simp[f102,aa,d,e];refine c1 c ?_;simp[aa]
theorem aQE(a b:V2):(b.sub a).dot (b.sub a)=(a.sub b).dot (a.sub b):=by
 simp only[V2.sub,V2.dot]
 grind
theorem Wq(t:aj)(a b:NV)(d:0<=t.aU)(e:t.aU<=1000000)(f:bP 2000 a.q)(g:bP 2000 b.q):az prog 207 [bJ t,dQ a,dQ b] (.int .i64 (fJ t.aU a.q b.q)):=by
 have c:=mr g f;rw[<-NV.jF]at c;have k1:=wJ b a (g.mono (by decide)) (f.mono (by decide));have k2:=Lp (b.sub a) (b.sub a) (c.mono (by decide)) (c.mono (by decide));have k3:=JN t d e;have k4:=rl ((b.sub a).dot (b.sub a)) (.width t.aU) (by rw[NV.yy];exact(DH c c).mono (by decide)) ((Lt d e).mono (by decide));have hq:dx ((b.sub a).dot (b.sub a)).q (NF.width t.aU).q=fJ t.aU a.q b.q:=by
  rw[fJ,NV.yy,NV.jF,aQE];rfl
 rw[hq]at k4;refine aJ nf (i_ func207) mix (by simp[f207]) ?_;simp[f207,aa];refine c2 k1 ?_;simp[aa];refine e2 k2 ?_;simp[aa];refine e1 k3 ?_;simp[aa];refine e2 k4 ?_;simp[aa]
def oB(p:bR):Prop:=kX p/\df p.pt=0
theorem aKY(t:aj)(v:NV)(o:bR)(b:0<=t.aU)(c:t.aU<=1000000)(e:bP 2000 v.q)(d:oB o):
 b8 prog 206 [.box false (.p (bJ t)),.box false (.p (dQ v))] [.p (aR o),.ptr 0 [],.ptr 1 []] [.box false (.p (bJ t)),.box false (.p (dQ v))] (.p (.bool (decide (fJ t.aU (vP o.pt) v.q<0)))):=by
 obtain⟨⟨h,f⟩,a⟩:=d;obtain⟨g1,g2⟩:=iY a;obtain⟨_,ok⟩:=rX a;have k1:=sc o.pt g1 g2 f;have k2:=Wq t (.from o.pt) v b c (by rw[mu];exact ok) e;rw[mu]at k2;generalize fJ t.aU (vP o.pt) v.q=y at*;generalize NV.from o.pt=g at*;refine dS nf (i_ func206) mix (by simp[f206]) ?_;simp[f206,aa];refine e1_ k1 ?_;simp[aa];refine e3_ k2 ?_;simp[aa];exact cW.og s_ s_ s_ s_ s_
theorem WQ(t:aj)(v:NV)(l:List bR)(h:l.length<=1000000)(a:0<=t.aU)(b:t.aU<=1000000)(d:bP 2000 v.q)(c:∀o∈l,oB o):
 b8 prog 234 [.box false (.p (bJ t)),.box false (.p (dQ v))] [.p (.seq (l.map aR)),.func 206 [] [.ptr 0 [],.ptr 1 []]] [.box false (.p (bJ t)),.box false (.p (dQ v))] (.p (.int .i64 (idxFrom (fun o=>decide (fJ t.aU (vP o.pt) v.q<0)) l 0))):=by
 refine dS nf (i_ func234) mix (by simp[f234]) ?_;simp[f234];refine lp (α:=Nat) (fun i=>⟨[(8,.p (.int .i64 i)),(7,.p (.int .i64 l.length)),(1,.func 206 [] [.ptr 0 [],.ptr 1 []]),(0,.p (.seq (l.map aR)))],[.box false (.p (bJ t)),.box false (.p (dQ v))]⟩) (fun i=>i<=l.length/\idxFrom (fun o=>decide (fJ t.aU (vP o.pt) v.q<0)) l 0=idxFrom (fun o=>decide (fJ t.aU (vP o.pt) v.q<0)) (l.drop i) i) (fun i=>l.length-i) 0 s_ ?_;rintro i ⟨k1,k2⟩;have e:=bS (i:=i) o_
 by_cases hi:i<l.length
 ·rw[cc hi,idxFrom]at k2;simp[hi];refine cf (aKY t v l[i] a b d (c _ (ei hi))) [0,1] ?_
  by_cases hk:fJ t.aU (vP l[i].pt) v.q<0
  ·simp[hk]at k2;simp[hk,k2,ba]
  ·simp[hk]at k2;simp[hk,e,ba];exact rd (i+1) ⟨hi,k2⟩
 ·have:i=l.length:=by omega
  subst this;simp[idxFrom]at k2;simp[k2]
theorem VY(t:aj)(v:NV)(l:List bR)(h:l.length<=1000000)(a:0<=t.aU)(b:t.aU<=1000000)(d:bP 2000 v.q)(c:∀o∈l,oB o):
 b8 prog 163 [.box false (.p (bJ t)),.box false (.p (dQ v))] [.p (.seq (l.map aR)),.func 206 [] [.ptr 0 [],.ptr 1 []]] [.box false (.p (bJ t)),.box false (.p (dQ v))] (.p (.bool (l.any (fun o=>decide (fJ t.aU (vP o.pt) v.q<0))))):=by
 refine dS nf (i_ func163) mix (by simp[f163]) ?_;simp[f163];refine cf (WQ t v l h a b d c) [0,1] ?_;have:=pW (fun o=>decide (fJ t.aU (vP o.pt) v.q<0)) l 0;simp[ba,<-this]
theorem Wp(t:aj)(v:NV)(l:List bR)(h:l.length<=1000000)(a:0<=t.aU)(b:t.aU<=1000000)(d:bP 2000 v.q)(c:∀o∈l,oB o):
 az prog 127 [bJ t,.seq (l.map aR),dQ v] (.bool (!l.any (fun o=>decide (fJ t.aU (vP o.pt) v.q<0)))):=by
 have k1:=VY t v l h a b d c;generalize (l.any (fun o=>decide (fJ t.aU (vP o.pt) v.q<0)))=y at*;refine aJ nf (i_ func127) mix (by simp[f127]) ?_;simp[f127,aa];refine cf k1 [0,1] ?_;simp[aa,ba]
theorem WM(p o:bR):b8 prog 164 [.box false (.p (aR p))] [.p (aR o),.ptr 0 []] [.box false (.p (aR p))] (.p (.bool (decide (o.name=p.name)))):=by
 refine dS nf (i_ func164) mix (by simp[f164]) ?_
 by_cases h:o.name=p.name
 ·simp[f164,aa,h];exact cW.og s_ s_ s_ s_ s_
 ·simp[f164,aa,h];exact cW.og s_ s_ s_ s_ s_
theorem WO(p:bR)(l:List bR)(h:l.length<=1000000):
 b8 prog 234 [.box false (.p (aR p))] [.p (.seq (l.map aR)),.func 164 [] [.ptr 0 []]] [.box false (.p (aR p))] (.p (.int .i64 (idxFrom (fun o=>decide (o.name=p.name)) l 0))):=by
 refine dS nf (i_ func234) mix (by simp[f234]) ?_;simp[f234];refine lp (α:=Nat) (fun i=>⟨[(8,.p (.int .i64 i)),(7,.p (.int .i64 l.length)),(1,.func 164 [] [.ptr 0 []]),(0,.p (.seq (l.map aR)))],[.box false (.p (aR p))]⟩) (fun i=>i<=l.length/\idxFrom (fun o=>decide (o.name=p.name)) l 0=idxFrom (fun o=>decide (o.name=p.name)) (l.drop i) i) (fun i=>l.length-i) 0 s_ ?_;rintro i ⟨k1,k2⟩;have a:=bS (i:=i) o_
 by_cases hi:i<l.length
 ·rw[cc hi,idxFrom]at k2;simp[hi];refine cf (WM p l[i]) [0] ?_
  by_cases hk:l[i].name=p.name
  ·simp[hk]at k2;simp[hk,k2,ba]
  ·simp[hk]at k2;simp[hk,a,ba];exact rd (i+1) ⟨hi,k2⟩
 ·have:i=l.length:=by omega
  subst this;simp[idxFrom]at k2;simp[k2]
theorem VX(p:bR)(l:List bR)(h:l.length<=1000000):
 b8 prog 163 [.box false (.p (aR p))] [.p (.seq (l.map aR)),.func 164 [] [.ptr 0 []]] [.box false (.p (aR p))] (.p (.bool (l.any (fun o=>decide (o.name=p.name))))):=by
 refine dS nf (i_ func163) mix (by simp[f163]) ?_;simp[f163];refine cf (WO p l h) [0] ?_;have:=pW (fun o=>decide (o.name=p.name)) l 0;simp[ba,<-this]
def xa(r:Int)(a:List bR)(v:V2):Bool:=a.any (fun o=>decide (fJ r (vP o.pt) v<0))
def B8(t:aj)(a:List bR)(s:bR):Int:=bQ [bh (decide (t.on (vP s.pt)<0)) 16,bh (a.any (fun o=>decide (fJ t.aU (vP o.pt) (vP s.pt)<0))) 17]
theorem WW(t:aj)(a:List bR)(s:bR):gS t a s=if jJ a s=0 then B8 t a s else jJ a s:=by
 rw[gS,jJ,B8];generalize t.on (vP s.pt)=y;generalize df s.pt=d;generalize (a.any fun o=>decide (o.name=s.name))=e;generalize (a.any fun o=>decide (fJ t.aU (vP o.pt) (vP s.pt)<0))=f;generalize isName s.name=g;cases g
 ·simp[bQ,bh]
 cases e
 case true=>simp[bQ,bh]
 by_cases b:d=0
 case neg=>simp[bQ,bh,b]
 by_cases c:y<0
 ·simp[bQ,bh,b,c]
 cases f
 ·simp[bQ,bh,b,c]
 ·simp[bQ,bh,b,c]
theorem aK3(t:aj)(s:bR)(a:List bR)(hl:t.cs.length<=1000000)(g:b9 t=0)(hs:kX s)(f:a.length<=1000000)(u:∀o∈a,oB o):
 b8 prog 162 [.box false (.p (bJ t))] [.p (aR s),.p (.seq (a.map aR)),.ptr 0 []] [.box false (.p (bJ t))] (.p (.int .i64 (gS t a s))):=by
 obtain⟨_,_,v,_⟩:=nB g;obtain⟨I,J⟩:=zC g;obtain⟨C,k⟩:=hs;have k1:=VX s a f;have k2:=CU s.name C.1;have k3:=iS (!isName s.name) 8;have k4:=iS (a.any fun o=>decide (o.name=s.name)) 9;have k6:=DF s.pt k;have k8:=nE [bh (!isName s.name) 8,bh (a.any fun o=>decide (o.name=s.name)) 9,df s.pt] s_;have b:=HF (bef:=a) (s:=s);rw[WW];have w:=fun h:jJ a s=0=>sc s.pt (iY (b h)).1 (iY (b h)).2 k;have i:=fun h:jJ a s=0=>SO t (.from s.pt) hl v (zW ⟨(il (iY (b h)).1).mono (by decide),(il (iY (b h)).2).mono (by decide)⟩);have x:=iS (decide (t.on (vP s.pt)<0)) 16;have j:jJ a s=0->az prog 127 [bJ t,.seq (a.map aR),dQ (.from s.pt)] (.bool (!xa t.aU a (NV.from s.pt).q)):=fun h=>Wp t (.from s.pt) a f o_ o_ (zW ⟨il (iY (b h)).1,il (iY (b h)).2⟩) u;have z:=iS (xa t.aU a (vP s.pt)) 17;have d:=nE [bh (decide (t.on (vP s.pt)<0)) 16,bh (xa t.aU a (vP s.pt)) 17] s_;simp only[mu]at i j;have d1:jJ a s=bQ [bh (!isName s.name) 8,bh (a.any fun o=>decide (o.name=s.name)) 9,df s.pt]:=rfl;have d2:B8 t a s=bQ [bh (decide (t.on (vP s.pt)<0)) 16,bh (xa t.aU a (vP s.pt)) 17]:=rfl;rw[<-d1]at k8;rw[<-d2]at d;clear d1 d2 b;generalize jJ a s=e at*;generalize B8 t a s=r at*;generalize xa t.aU a (vP s.pt)=m at*;generalize t.on (vP s.pt)=y at*;generalize df s.pt=D at*;generalize (a.any fun o=>decide (o.name=s.name))=l at*;generalize isName s.name=n at*;generalize NV.from s.pt=v1 at*;refine dS nf (i_ func162) mix (by simp[f162]) ?_;have B:az prog 56 [.seq [.int .i64 (bh (!n) 8),.int .i64 (bh l 9),.int .i64 D]] (.int .i64 e):=by simpa using k8
 have A:az prog 56 [.seq [.int .i64 (bh (decide (y<0)) 16),.int .i64 (bh m 17)]] (.int .i64 r):=by simpa using d
 clear k8 d;generalize E:bh (!n) 8=K at*;generalize F:bh l 9=L at*;generalize G:bh (decide (y<0)) 16=M at*;generalize H:bh m 17=N at*;simp[f162,aa];refine cf k1 [1] ?_;simp[aa,ba,sig];refine e1_ k2 ?_;simp[aa];refine e2_ k3 ?_;simp[aa];refine e2_ k4 ?_;simp[aa];refine e1_ k6 ?_;simp[aa];refine ep B (by simp;first|exact⟨rfl,rfl⟩|rfl) (by simp;first|exact⟨rfl,rfl⟩|rfl) ?_;simp[aa];refine⟨by repeat' first|rfl|apply ao,?_⟩
 by_cases c:e=0
 case neg=>
  simp[c,aa];exact cW.og s_ s_ s_ s_ s_
 simp[c,aa];refine c1_ (w c) ?_;simp[aa];refine e2_ (i c) ?_;simp[aa];refine e2_ x ?_;simp[aa];refine e3_ (j c) ?_;simp[aa];refine e2_ z ?_;simp[aa];refine ep A (by simp;first|exact⟨rfl,rfl⟩|rfl) (by simp;first|exact⟨rfl,rfl⟩|rfl) ?_;simp[aa];refine⟨by repeat' first|rfl|apply ao,?_⟩;exact⟨fun h=>(h c).elim,cW.og s_ s_ s_ s_ s_⟩
theorem Nx(l:List bR):fh prog 3 (l.map (AV.p∘aR)):=vr (fun r=>⟨by simp[aa],by simp[aa]⟩) l
theorem aK4(t b:aj)(hl:t.cs.length<=1000000)(k:b9 t=0)(c:mc b):
 b8 prog 161 [.box false (.p (bJ t))] [.p (.seq (b.ag.map aR)),.p (.int .i64 24),.func 162 [] [.ptr 0 []]] [.box false (.p (bJ t))] (.p (.int .i64 (kK t b))):=by
 obtain⟨m,d⟩:=c;refine dS nf (i_ func161) mix (by simp[f161]) ?_;rw[kK]
 by_cases c1:24<b.ag.length
 ·have cI:(24:Int)<b.ag.length:=by omega
  rw[if_pos c1];simp[f161,cI]
 have e:¬(24:Int)<b.ag.length:=o_
 rw[if_neg c1];simp[f161,e];refine lp (α:=Nat) (fun i=>⟨[(16,.p (.int .i64 i)),(15,.p (.int .i64 b.ag.length)),(14,.p (.seq (b.ag.map aR))),(2,.func 162 [] [.ptr 0 []]),(0,.p (.seq (b.ag.map aR)))],[.box false (.p (bJ t))]⟩) (fun i=>i<=b.ag.length/\∀j,j<i->fP (gS t) b.ag j=0) (fun i=>b.ag.length-i) 0 s_ ?_;rintro i ⟨k1,k2⟩
 by_cases hk:i<b.ag.length
 ·have gk:=aj.dP hk;have l:=bS (i:=i) o_;have a:=aK3 t (b.sp i) (b.ag.take i) hl k (d _ (b4 gk)) (by rw[ce];omega) (fun o h=>by
   obtain⟨j,f,rfl⟩:=c8.1 h;rw[ce]at f;rw[ee];have:=k2 j o_;have g:=aj.dP (t:=b) (i:=j) o_;rw[fP,g]at this;rw[aj.rM o_];exact⟨d _ (b4 g),C3 this⟩)
  rw[en]at a
  by_cases he:gS t (b.ag.take i) (b.sp i)=0
  ·rw[he]at a;have:=uf k2 gk he;simp[hk,gk,aa];refine⟨⟨k1,Nx _⟩,?_⟩;refine ef a [0] ?_;simp[l,aa,ba,sig];exact rd (i+1) ⟨hk,this⟩
  ·have c:=ug k2 gk he;rw[c];simp[hk,gk,aa];refine⟨⟨k1,Nx _⟩,?_⟩;refine ef a [0] ?_;simp[he,aa,ba,sig];exact cW.og s_ s_ s_ s_ s_
 ·have:i=b.ag.length:=by omega
  subst this;rw[l9.2 k2];simp
theorem IQ(t b:aj)(a:gH t)(c:mc b):az prog 71 [bJ t,.seq (b.ag.map aR)] (.int .i64 (gJ t b)):=by
 have k1:=ue t a;refine aJ nf (i_ func71) mix (by simp[f71]) ?_;rw[gJ]
 by_cases h:b9 t=0
 ·rw[if_neg (by simp[h])];have k2:=aK4 t b a.cl h c;rw[h]at k1;simp[f71,aa];refine c1_ k1 ?_;simp[aa];refine cf k2 [0] ?_;simp[aa,ba]
 ·rw[if_pos h];generalize b9 t=e at*;simp[f71,aa];refine c1_ k1 ?_;simp[h,aa]
def Gx(l:List bR)(n:List Nat):Option bR:=l.find? (fun s=>decide (s.name=n))
structure Un(b:aj):Prop where
 sl:b.ag.length<=24
 sp:∀s∈b.ag,oB s
 ne:∀i,i<b.ag.length->Gx (b.ag.take i) (b.sp i).name=none
theorem aO8{t b:aj}(l:mc b)(h:gJ t b=0):b9 t=0/\Un b/\(∀s∈b.ag,0<=t.on (vP s.pt)):=by
 rw[gJ]at h
 by_cases c:b9 t=0
 case neg=>rw[if_pos c]at h;exact absurd h c
 rw[if_neg (by simp[c]),kK]at h
 by_cases f:24<b.ag.length
 ·rw[if_pos f]at h;omega
 rw[if_neg f]at h;have k:=l9.1 h;have d:∀i,i<b.ag.length->gS t (b.ag.take i) (b.sp i)=0:=fun i hi=>by
  have:=k i hi
  rwa [fP,aj.dP hi]at this
 refine⟨c,⟨o_,fun s hs=>?_,fun i hi=>?_⟩,fun s hs=>?_⟩
 ·obtain⟨j,a,rfl⟩:=c8.1 hs;rw[aj.rM a];exact⟨l.sp _ (b4 (aj.dP a)),C3 (d j a)⟩
 ·have:=d i hi;rw[gS]at this
  split at this
  ·omega
  split at this
  ·omega
  rename_i g;rw[Gx,List.find?_eq_none];intro x hx e;exact g (c9.2 ⟨x,hx,e⟩)
 ·obtain⟨j,a,rfl⟩:=c8.1 hs;rw[aj.rM a];have:=d j a;rw[gS]at this
  split at this
  ·omega
  split at this
  ·omega
  split at this
  ·contradiction
  split at this
  ·omega
  omega
def hasB(b:aj)(name:List Nat)(i:Nat):Prop:=oI b name=i/\i<b.ag.length/\Gx b.ag name=some (b.sp i)
structure Uo(t b:aj)(Gs Gg:List Nat)(i j:Nat):Prop where
 ua:b9 t=0
 tl:t.cs.length<=1000000
 L:Un b
 big:∀s∈b.ag,bP 60 (vP s.pt)
 ci:hasB b Gs i
 bj:hasB b Gg j
theorem Uo.at{t b:aj}{Gs Gg:List Nat}{i j:Nat}(h:Uo t b Gs Gg i j){k:Nat}(hk:k<b.ag.length):eV (vP (b.sp k).pt)=ft (b.sp k).pt/\bP 60 (vP (b.sp k).pt):=by
 have m:=b4 (aj.dP hk);exact⟨(rX (h.L.sp _ m).2).1,h.big _ m⟩
def tZ(n:Nat)(l:List bR):Bool:=!((decide (n<l.length)&&decide (l.length<=24))||decide (26<l.length))&&l.all ib
theorem VZ(b:aj)(n:Nat)(hl:b.ag.length<=1000000)(v:n<=1000):az prog 18 [.seq (b.ag.map aR),.int .i64 n] (.bool (tZ n b.ag)):=by
 refine aJ nf (i_ func18) mix (by simp[f18]) ?_;have o:tZ n b.ag=(!((decide (n<b.ag.length)&&decide (b.ag.length<=24))||decide (26<b.ag.length))&&b.ag.all ib):=rfl;have tail:(n<b.ag.length->¬b.ag.length<=24)->¬26<b.ag.length->tZ n b.ag=b.ag.all ib:=fun d a=>by
  rw[o]
  by_cases h:n<b.ag.length
  ·have:=d h;simp[h,this,a]
  ·simp[h,a]
 have loop:(n<b.ag.length->¬b.ag.length<=24)->¬26<b.ag.length->∀i,i<b.ag.length->(ib (b.sp i)=false->tZ n b.ag=false):=fun d a i hi h=>by
  rw[tail d a];exact jL (aj.dP hi) h
 generalize tZ n b.ag=R at*
 by_cases c1:n<b.ag.length/\b.ag.length<=24
 ·have w:(n:Int)<b.ag.length:=by omega
  have e:(b.ag.length:Int)<=24:=o_
  have l:R=false:=by rw[o];simp[c1]
  simp[f18,aa,c1.1,e,l]
 by_cases c2:26<b.ag.length
 ·have g:(26:Int)<b.ag.length:=by omega
  have e:¬(b.ag.length:Int)<=24:=o_
  have l:R=false:=by rw[o];simp[c2]
  by_cases c3:n<b.ag.length
  ·simp[f18,aa,c3,e,g,l]
  ·simp[f18,aa,c3,g,l]
 have g:¬(26:Int)<b.ag.length:=o_
 have tl:=tail (fun d a=>c1 ⟨d,a⟩) c2;have j:=loop (fun d a=>c1 ⟨d,a⟩) c2;clear tail loop o
 by_cases c3:n<b.ag.length
 all_goals
  have e:n<b.ag.length->¬(b.ag.length:Int)<=24:=fun h=>by omega
  first
  |(have e:=e c3;simp[f18,aa,c3,e,g])
  |simp[f18,aa,c3,g]
  refine lp (α:=Nat) (fun i=>⟨[(5,.p (.int .i64 i)),(0,.p (.seq (b.ag.map aR)))],[]⟩) (fun i=>i<=b.ag.length/\(b.ag.take i).all ib=true) (fun i=>b.ag.length-i) 0 s_ ?_;rintro i ⟨k1,k2⟩
  by_cases hi:i<b.ag.length
  ·have c:=aj.dP hi;have u:=bS (i:=i) o_;have k:=nA (b.sp i).pt.x 40;have q:=nA (b.sp i).pt.y 40;have m:ib (b.sp i)=(decide ((b.sp i).name.length<=40)&&(decide ((b.sp i).pt.x.length<=40)&&decide ((b.sp i).pt.y.length<=40))):=rfl;have j:=j i hi
   by_cases t:(b.sp i).name.length<=40
   case neg=>
    have f:(40:Int)<(b.sp i).name.length:=o_
    have:=j (by rw[m];simp[t]);simp[hi,c,f,this,aa]
   have f:¬(40:Int)<(b.sp i).name.length:=o_
   by_cases a2:(b.sp i).pt.x.length<=40
   case neg=>
    have r:¬((b.sp i).pt.x.length:Int)<=40:=o_
    rw[decide_eq_false r]at k;have:=j (by rw[m];simp[a2]);simp[hi,c,f,aa];refine c2_ k ?_;simp[this,aa]
   have r:((b.sp i).pt.x.length:Int)<=40:=o_
   rw[decide_eq_true r]at k
   by_cases a3:(b.sp i).pt.y.length<=40
   case neg=>
    have s:¬((b.sp i).pt.y.length:Int)<=40:=o_
    rw[decide_eq_false s]at q;have:=j (by rw[m];simp[a3]);simp[hi,c,f,aa];refine c2_ k ?_;simp[hi,c,aa];refine c2_ q ?_;simp[this,aa]
   have s:((b.sp i).pt.y.length:Int)<=40:=o_
   rw[decide_eq_true s]at q;simp[hi,c,f,aa];refine c2_ k ?_;simp[hi,c,aa];refine c2_ q ?_;simp[u,aa];exact rd (i+1) ⟨hi,by rw[pX c,k2,m];simp[t,a2,a3]⟩
  ·have:i=b.ag.length:=by omega
   subst this;rw[cr]at k2;rw[tl,k2];simp
def ot(p:gO)(D:Nat):Bool:=fK p.x D&&fK p.y D
def yV(t b:aj)(n D:Nat):Bool:=
 fQ t&&(tZ n b.ag&&(decide (b.ag.length<=n)&&(decide (gJ t b=0)&&(decide (t.ag.length<=8)&&(t.aB.all (fun p=>fK p.a D&&fK p.b D)&&(t.ag.all (fun s=>ot s.pt D)&&b.ag.all (fun s=>ot s.pt D)))))))
theorem aAJ(t b:aj)(n D:Nat)(J:gH t)(H:mc b)(I:n<=1000)(N:D<=1000):az prog 27 [cg t,.seq (b.ag.map aR),.int .i64 n,.int .i64 D] (.bool (yV t b n D)):=by
 obtain⟨C,E,F,A,B⟩:=J;obtain⟨G,z⟩:=H;have j:=VF t C E F;have l:=VZ b n G I;have M:=IU t b ⟨C,E,F,A,B⟩ ⟨G,z⟩;refine aJ nf (i_ func27) mix (by simp[f27]) ?_;rw[yV];generalize gJ t b=e at*;cases v:fQ t
 ·rw[v]at j;simp[f27,aa];refine c1_ j ?_;simp[aa]
 rw[v]at j;cases w:tZ n b.ag
 ·rw[w]at l;simp[f27,aa];refine c1_ j ?_;simp[aa];refine c2_ l ?_;simp[aa]
 rw[w]at l;simp[f27,aa];refine c1_ j ?_;simp[aa];refine c2_ l ?_
 by_cases m:b.ag.length<=n
 case neg=>
  have r:n<b.ag.length:=o_
  simp[m,r,aa]
 have r:¬n<b.ag.length:=o_
 simp[m,r,aa];refine c2_ M ?_
 by_cases k:e=0
 case neg=>simp[k,aa]
 by_cases o:t.ag.length<=8
 case neg=>
  have u:(8:Int)<t.ag.length:=o_
  simp[k,o,u,aa]
 have u:¬(8:Int)<t.ag.length:=o_
 simp[k,o,u,aa];refine lp (α:=Nat) (fun i=>⟨[(9,.p (.int .i64 i)),(4,.ptr 0 []),(3,.p (.int .i64 D)),(1,.p (.seq (b.ag.map aR)))],[.box false (.p (cg t))]⟩) (fun i=>i<=t.aB.length/\(t.aB.take i).all (fun p=>fK p.a D&&fK p.b D)=true) (fun i=>t.aB.length-i) 0 s_ ?_;rintro i ⟨i1,i2⟩
 by_cases hi:i<t.aB.length
 ·have c:=aj.gz hi;have g:=bS (i:=i) o_;obtain⟨_,K,L⟩:=A _ (b4 c);have d:=B5 (t.pk i).a D K o_;have f2:=B5 (t.pk i).b D L o_;have bad:(fK (t.pk i).a D&&fK (t.pk i).b D)=false->t.aB.all (fun p=>fK p.a D&&fK p.b D)=false:=fun h=>jL c h;cases f:fK (t.pk i).a D
  ·rw[f]at d;rw[bad (by rw[f];rfl)];simp[hi,c,aa];refine c2_ d ?_;simp[aa]
  rw[f]at d;cases a2:fK (t.pk i).b D
  ·rw[a2]at f2;rw[bad (by rw[a2];simp)];simp[hi,c,aa];refine c2_ d ?_;simp[hi,c,aa];refine c2_ f2 ?_;simp[aa]
  rw[a2]at f2;simp[hi,c,aa];refine c2_ d ?_;simp[hi,c,aa];refine c2_ f2 ?_;simp[g,aa];exact rd (i+1) ⟨hi,by rw[pX c,i2,f,a2];rfl⟩
 have:i=t.aB.length:=o_
 subst this;rw[cr]at i2;rw[i2];clear i1 i2 hi;simp[aa];refine lp (α:=Nat) (fun i=>⟨[(10,.p (.int .i64 i)),(4,.ptr 0 []),(3,.p (.int .i64 D)),(1,.p (.seq (b.ag.map aR)))],[.box false (.p (cg t))]⟩) (fun i=>i<=t.ag.length/\(t.ag.take i).all (fun s=>ot s.pt D)=true) (fun i=>t.ag.length-i) 0 s_ ?_;rintro i ⟨i1,i2⟩
 by_cases hi:i<t.ag.length
 ·have c:=aj.dP hi;have g:=bS (i:=i) o_;have d:=Oz (t.sp i).pt D (B _ (b4 c)).2 o_;have q:ot (t.sp i).pt D=(fK (t.sp i).pt.x D&&fK (t.sp i).pt.y D):=rfl;rw[<-q]at d;cases f:ot (t.sp i).pt D
  ·rw[f]at d;rw[jL c f];simp[hi,c,aa];refine c2_ d ?_;simp[aa]
  rw[f]at d;simp[hi,c,aa];refine c2_ d ?_;simp[g,aa];exact rd (i+1) ⟨hi,by rw[pX c,i2,f];rfl⟩
 have:i=t.ag.length:=o_
 subst this;rw[cr]at i2;rw[i2];clear i1 i2 hi;simp[aa];refine lp (α:=Nat) (fun i=>⟨[(11,.p (.int .i64 i)),(3,.p (.int .i64 D)),(1,.p (.seq (b.ag.map aR)))],[]⟩) (fun i=>i<=b.ag.length/\(b.ag.take i).all (fun s=>ot s.pt D)=true) (fun i=>b.ag.length-i) 0 s_ ?_;rintro i ⟨i1,i2⟩
 by_cases hi:i<b.ag.length
 ·have c:=aj.dP hi;have g:=bS (i:=i) o_;have d:=Oz (b.sp i).pt D (z _ (b4 c)).2 o_;have q:ot (b.sp i).pt D=(fK (b.sp i).pt.x D&&fK (b.sp i).pt.y D):=rfl;rw[<-q]at d;cases f:ot (b.sp i).pt D
  ·rw[f]at d;rw[jL c f];simp[hi,c,aa];refine c2_ d ?_;simp[aa]
  rw[f]at d;simp[hi,c,aa];refine c2_ d ?_;simp[g,aa];exact rd (i+1) ⟨hi,by rw[pX c,i2,f];rfl⟩
 have:i=b.ag.length:=o_
 subst this;rw[cr]at i2;rw[i2];simp[m,k,o,aa]
theorem VT(b:aj)(hl:b.ag.length<=1000000):az prog 20 [.seq (b.ag.map aR)] (.seq (b.ag.map aR)):=by
 have f:(1000000:Nat)<cJ:=by decide
 have g:bl.wrap 1=1:=by decide
 refine aJ nf (i_ func20) mix (by simp[f20]) ?_;simp[f20,aa];refine lp (α:=Nat) (fun i=>⟨[(8,.p (.int .i64 i)),(7,.p (.int .i64 b.ag.length)),(6,.p (.seq (b.ag.map aR))),(3,.sl 0 i 3 0 i)],[.arr .grow i 3 ((b.ag.map (AV.p∘aR)).take i)]⟩) (fun i=>i<=b.ag.length) (fun i=>b.ag.length-i) 0 s_ ?_;rintro i i1
 by_cases hi:i<b.ag.length
 ·have a:=aj.dP hi;have e:=bS (i:=i) o_;have d:(b.ag.map (AV.p∘aR)).take (i+1)=(b.ag.map (AV.p∘aR)).take i++[.p (aR (b.sp i))]:=by
   rw[cy,c6,a];rfl
  have c:min i b.ag.length=i:=o_
  simp[hi,a,e,c,aa];exact⟨o_,rd (i+1) hi (hh:=by simp[d]) (hr2:=by simp[fo])⟩
 ·have:i=b.ag.length:=by omega
  subst this;simp[aa]
theorem JO(s:List Nat):(dh s).length<=s.length:=by
 rw[dh];split<;>simp
theorem wN{s:List Nat}(h:bK s=0)(hl:s.length<=40):bE 133 (aI s):=by
 obtain⟨k,f,g⟩:=jg h;have b:(10:Nat)^40<=2^133:=by decide
 unfold bK at h
 split at h
 ·cases h
 rename_i a;have a:kJ s=true:=by simpa using a
 simp only[kJ,ap,Bool.or_eq_true,decide_eq_true_eq]at a;obtain⟨⟨c,_⟩,a3⟩:=a;have i:(bM s).length<=40:=g4 (qz 47 (dh s)).1 (g4 (JO s) hl);have j:(b6 s).length<=40:=g4 (qz 47 (dh s)).2.1 (g4 (JO s) hl);have d:=g5 (B7 i (jR c)) b;refine⟨?_,?_⟩
 ·rw[f];have e:(if cq s=true then -(bd (bM s):Int)else bd (bM s)).natAbs=bd (bM s):=by split<;>omega
  rw[e];exact d
 ·rw[g]
  by_cases hf:eK s=true
  ·rw[if_pos hf];rcases a3 with a3|a3
   ·rw[hf]at a3;cases a3
   ·exact g5 (B7 j (jR a3.1.1)) b
  ·rw[if_neg hf];decide
def Lh(f:Nat->Bool):Nat->Nat
 |0=>0
 |n+1=>if Lh f n<n then Lh f n else if f n=true then n else n+1
def aj.jm(t:aj):Nat->Int
 |0=>0
 |m+1=>t.jm m+(t.at m).x*(t.at (t.nx m)).y-(t.at m).y*(t.at (t.nx m)).x
theorem W0{a b:bU}(c:bV a)(d:bV b):-100000000<=a.x*b.y/\a.x*b.y<=100000000/\-100000000<=a.y*b.x/\a.y*b.x<=100000000:=by
 simp only[bV]at c d;have e:=ud (a:=a.x) (b:=b.y) (A:=10000) (B:=10000) o_ o_ o_ o_;have f:=ud (a:=a.y) (b:=b.x) (A:=10000) (B:=10000) o_ o_ o_ o_;omega
theorem aj.I6{t:aj}(a:∀p∈t.cs,bV p):∀m,m<=t.cs.length->-(200000000*(m:Int))<=t.jm m/\t.jm m<=200000000*(m:Int)
 |0,_=>by simp[aj.jm]
 |m+1,h=>by
  have b:=aj.I6 a m o_;have:=W0 (aj.ia a (show m<t.cs.length by omega)) (aj.ia a (t.iT o_ m));rw[aj.jm];omega
def aj.jr(t:aj)(i:Nat)(s:Rat):V2:=(dU (t.at i)).add ((t.cw i).mul s)
theorem Jy{t:aj}(a:∀p∈t.cs,bV p){i k:Nat}{s:Rat}(hi:i<t.cs.length)(hs:bE k s):bP (k+44) (t.jr i s):=by
 have:=Hu (kx (aj.ia a hi)) (Hx (aj.okW a hi) hs);exact this.mono o_
def aj.shr(t:aj)(i:Nat)(v:V2):Rat:=((v.sub (dU (t.at i))).dot (t.cw i))/((t.cw i).dot (t.cw i))
theorem JS(v w:NV)(a:bP kQ v.q)(b:bP kQ w.q):az prog 107 [dQ v,dQ w] (dQ (v.add w)):=by
 have c:=vG v.x w.x (eH a.1) (eH b.1);have d:=vG v.y w.y (eH a.2) (eH b.2);refine aJ nf (i_ func107) mix (by simp[f107]) ?_;rw[NV.add,rS];simp[f107,aa];refine e2 c ?_;simp[aa];refine e2 d ?_;simp[aa]
theorem Wn(v:NV)(x:NF)(a:bP kQ v.q)(hx:bE kQ x.q):az prog 109 [dQ v,eF x] (dQ (v.times x)):=by
 have b:=qQ v.x x (eH a.1) (eH hx);have c:=qQ v.y x (eH a.2) (eH hx);refine aJ nf (i_ func109) mix (by simp[f109]) ?_;rw[NV.times,rS];simp[f109,aa];refine e2 b ?_;simp[aa];refine e2 c ?_;simp[aa]
theorem C9(v:NV)(h:bP 1800 v.q):az prog 91 [dQ v] (.aD [eV v.q,.int .i64 0]):=by
 have a:=A7 v.x (h.1.mono (by decide));have b:=A7 v.y (h.2.mono (by decide));rw[GQ (show bE 1800 v.x.q from h.1)]at a;rw[GQ (show bE 1800 v.y.q from h.2)]at b;have c:=AZ v.x (h.1.mono (by decide));have d:=AZ v.y (h.2.mono (by decide));obtain⟨x,y⟩:=v;refine aJ nf (i_ func91) mix (by simp[f91]) ?_;rw[rS,show eV (NV.q ⟨x,y⟩)=eV ⟨x.q,y.q⟩from rfl,vt];simp[f91,aa];refine c1_ a ?_;simp[aa];refine c1_ b ?_;simp[aa];refine e1_ c ?_;simp[aa];refine e1_ d ?_;simp[aa]
theorem Lo(x:NF)(h:bE 1800 x.q):az prog 98 [eF x] (.aD [.str (bg x.q),.int .i64 0]):=by
 have a:=A7 x (h.mono (by decide));rw[GQ h]at a;have b:=AZ x (h.mono (by decide));refine aJ nf (i_ func98) mix (by simp[f98]) ?_;simp[f98,aa];refine c1_ a ?_;simp[aa];refine c1_ b ?_;simp[aa]
noncomputable def aj.jy(t:aj):Nat->NF
 |0=>.int 0
 |m+1=>(t.jy m).add ((dB (t.at m)).er (dB (t.at (t.nx m))))
theorem aj.Dt(t:aj):∀m,(t.jy m).q=((t.jm m:Int):Rat)
 |0=>rfl
 |m+1=>by
  rw[aj.jy,aj.jm,Rat.intCast_sub,Rat.intCast_add,Rat.intCast_mul,Rat.intCast_mul,<-aj.Dt t m];show _+_=_;rw[NV.CP,zM,zM,V2.er];show _+((((t.at m).x:Int):Rat)*_-_)=_;rw[dU,dU]
  grind
noncomputable def xb(t:aj)(L:ey)(i:Nat):Heap:=[.box false (.p (bJ t)),.box false (.p (eF (t.jy i))),.loop L]
theorem JU(t:aj)(g:gH t):az prog 31 [bJ t] (.aD (if b9 t=0 then[.str (bg (kq (t.jm t.cs.length) 2)),.int .i64 0]else[.str [],.int .i64 (b9 t)])):=by
 have hl:=g.cl;have k1:=ue t g
 by_cases h:b9 t=0
 case neg=>
  rw[if_neg h];generalize b9 t=e at*;refine aJ nf (i_ func31) mix (by simp[f31]) ?_;simp[f31,aa];refine c1_ k1 ?_;simp[h,aa]
 rw[if_pos h];rw[h]at k1;obtain⟨v,w,b,_⟩:=nB h;have k2:=ry 0 (by decide) (by decide);have rK:∀m,m<=t.cs.length->bE 41 (t.jy m).q:=fun m o=>by
  rw[aj.Dt];have:=aj.I6 b m o;exact yk (k:=41) o_ (by decide)
 have k4:=ry 2 (by decide) (by decide);have c:(NF.int 2).q=2:=rfl;have k5:=Sz (t.jy t.cs.length) (.int 2) ((rK _ (gA _)).mono (by decide)) (by rw[c];exact⟨by decide+kernel,by decide+kernel⟩) (by rw[c];decide);have s:bE 1800 ((t.jy t.cs.length).div (.int 2)).q:=(aO6 (rK _ (gA _)) (show bE 2 (NF.int 2).q by rw[c];exact⟨by decide+kernel,by decide+kernel⟩)).mono (by decide);have k6:=Lo _ s;have e5:((t.jy t.cs.length).div (.int 2)).q=kq (t.jm t.cs.length) 2:=by
  rw[show((t.jy t.cs.length).div (.int 2)).q=(t.jy t.cs.length).q/(NF.int 2).q from rfl,aj.Dt,c,Xr,Rat.div_def];rfl
 rw[e5]at k6;have p:t.jy 0=.int 0:=rfl;rw[<-p]at k2;refine aJ nf (i_ func31) mix (by simp[f31]) ?_;simp[f31,aa];refine c1_ k1 ?_;simp[aa];refine c1_ k2 ?_;simp[aa];refine c1_ (JR t) ?_;simp;refine rf (KC t hl b) rfl s_ (xb t) t.cs.length s_ (fun L=>rfl) ?_ ?_ ?_
 ·intro L a i hi;refine⟨rfl,by simp[xb],fun _ hx=>?_⟩;simp[xb]at hx⊢;exact hx
 ·intro L a i x hi hx;rw[zl hi]at hx;injection hx with hx
  subst hx;have j:=kx (aj.ia b hi);have l:=kx (aj.ia b (t.iT o_ i));have n:=HP (dB (t.at i)) (dB (t.at (t.nx i))) (j.mono (by decide)) (l.mono (by decide));have r:bE 57 ((dB (t.at i)).er (dB (t.at (t.nx i)))).q:=by rw[NV.CP];exact Hp j l
  have d:=vG (t.jy i) ((dB (t.at i)).er (dB (t.at (t.nx i)))) ((rK i o_).mono (by decide)) (r.mono (by decide));rw[show(t.jy i).add ((dB (t.at i)).er (dB (t.at (t.nx i))))=t.jy (i+1)from rfl]at d;refine rP nf mix a rfl rfl k_ ?_;have f:=congrArg ey.env a;dsimp only at f;clear a;simp only[xb];generalize t.jy (i+1)=u at*;generalize t.jy i=S at*;generalize (dB (t.at i)).er (dB (t.at (t.nx i)))=C at*;simp[wG,rC,aa];refine e2 n ?_;simp[aa];refine e2 d ?_;simp[aa];refine⟨by repeat' first|rfl|apply ao,?_⟩;refine cW.og s_ s_ s_ s_ ?_;simp;exact uh f s_
 ·intro L a;refine .inl ⟨s_,?_⟩;simp only[xb];generalize t.jy t.cs.length=S at*;simp[aa];refine e1 k4 ?_;simp[aa];refine e2 k5 ?_;simp[aa];refine e1 k6 ?_;simp[aa]
def mB(t:aj)(e:Int)(s:List Nat):Int:=bQ [b9 t,bh (decide (e<0\/(t.cs.length:Int)<=e)) 10,bK s]
def oL(t:aj)(e:Int)(s:List Nat):Int:=if mB t e s=0 then dH (aI s)else mB t e s
theorem IX{t:aj}{e:Int}{s:List Nat}(h:mB t e s=0):b9 t=0/\0<=e/\e<t.cs.length/\bK s=0:=by
 rw[mB,lF]at h;have a:=h (bh (decide (e<0\/(t.cs.length:Int)<=e)) 10) s_
 by_cases c:e<0\/(t.cs.length:Int)<=e
 ·simp[bh,c]at a
 ·exact⟨h _ s_,o_,o_,h _ s_⟩
theorem Wa{t:aj}{e:Int}{s:List Nat}(h:oL t e s=0):mB t e s=0/\dH (aI s)=0:=by
 rw[oL]at h
 split at h
 ·exact⟨by assumption,h⟩
 ·contradiction
theorem VU(t:aj)(e:Int)(s:List Nat)(l:gH t)(hs:gn s):az prog 105 [bJ t,.int .i64 e,.str s] (.int .i64 (oL t e s)):=by
 have k1:=ue t l;have k2:=fun b=>iS b 10;have k3:=yK s hs.1 hs.2;have k4:=nE [b9 t,bh (decide (e<0\/(t.cs.length:Int)<=e)) 10,bK s] s_;rw[show bQ [b9 t,bh (decide (e<0\/(t.cs.length:Int)<=e)) 10,bK s]=mB t e s from rfl]at k4;have k5:=fun h:mB t e s=0=>CR s hs (IX h).2.2.2;have i:∀b:Bool,decide (e<0\/(t.cs.length:Int)<=e)=b->az prog 57 [.bool b,.int .i64 10] (.int .i64 (bh b 10))/\az prog 56 [.seq [.int .i64 (b9 t),.int .i64 (bh b 10),.int .i64 (bK s)]] (.int .i64 (mB t e s)):=fun b k=>by
  rw[k]at k4;exact⟨k2 b,by simpa using k4⟩
 rw[oL];clear k4 k2;generalize mB t e s=g at*;generalize b9 t=m at*;generalize bK s=n at*;generalize dH (aI s)=o at*;refine aJ nf (i_ func105) mix (by simp[f105]) ?_;simp[f105,aa];refine c1_ k1 ?_;simp[aa]
 by_cases c:e<0
 ·have d:¬0<=e:=by omega
  obtain⟨f1,f2⟩:=i true (by simp[c]);simp[c,d,aa];refine c2_ f1 ?_;simp[aa];refine c1_ k3 ?_;simp[aa];refine cp f2 (by simp;first|exact⟨rfl,rfl⟩|rfl) ?_
  by_cases a:g=0
  case neg=>simp[a,aa]
  simp[a,aa];refine c1_ (k5 a) ?_;simp[a,aa]
 have d:0<=e:=o_
 by_cases f:(t.cs.length:Int)<=e
 ·have j:¬e<t.cs.length:=by omega
  obtain⟨f1,f2⟩:=i true (by simp[c,f]);simp[c,d,f,j,aa];refine c2_ f1 ?_;simp[aa];refine c1_ k3 ?_;simp[aa];refine cp f2 (by simp;first|exact⟨rfl,rfl⟩|rfl) ?_
  by_cases a:g=0
  case neg=>simp[a,aa]
  simp[a,aa];refine c1_ (k5 a) ?_;simp[a,aa]
 ·have j:e<t.cs.length:=by omega
  obtain⟨f1,f2⟩:=i false (by simp[c,f]);simp[c,d,f,j,aa];refine c2_ f1 ?_;simp[aa];refine c1_ k3 ?_;simp[aa];refine cp f2 (by simp;first|exact⟨rfl,rfl⟩|rfl) ?_
  by_cases a:g=0
  case neg=>simp[a,aa]
  simp[a,aa];refine c1_ (k5 a) ?_;simp[a,aa]
noncomputable def aj.yJ(t:aj)(i:Nat)(s:List Nat):NV:=(dB (t.at i)).add ((t.nv i).times ⟨aI s,false⟩)
theorem aj.Qj(t:aj)(i:Nat)(s:List Nat):(t.yJ i s).q=t.jr i (aI s):=by
 rw[aj.yJ,NV.Lr,NV.HH,aj.HG,zM];rfl
theorem aB9(t:aj)(e:Int)(s:List Nat)(j:gH t)(hs:gn s)(hl:s.length<=40):az prog 36 [bJ t,.int .i64 e,.str s] (.aD (if oL t e s=0 then[eV (t.jr e.toNat (aI s)),.int .i64 0]else[wE,.int .i64 (oL t e s)])):=by
 have k1:=VU t e s j hs
 by_cases h:oL t e s=0
 case neg=>
  rw[if_neg h,wE];generalize oL t e s=x at*;refine aJ nf (i_ func36) mix (by simp[f36]) ?_;simp[f36,aa];refine c3_ k1 ?_;simp[h,aa]
 rw[if_pos h];rw[h]at k1;obtain⟨g1,g2⟩:=Wa h;obtain⟨p,y,z,g⟩:=IX g1;obtain⟨A,B,a,_⟩:=nB p;obtain⟨i,rfl⟩:∃i:Nat,e=i:=⟨e.toNat,o_⟩
 have hi:i<t.cs.length:=o_
 rw[show((i:Int)).toNat=i from by omega];have l:=kx (aj.ia a hi);have v:=kx (aj.ia a (t.iT o_ i));have b:=wN g hl;have k:bP 29 (t.nv i).q:=by rw[aj.HG];exact aj.okW a hi
 have m:=JT t i hi j.cl a;have c:=wJ (dB (t.at (t.nx i))) (dB (t.at i)) (v.mono (by decide)) (l.mono (by decide));rw[show(dB (t.at (t.nx i))).sub (dB (t.at i))=t.nv i from rfl]at c;have n:=kL s g hs.1;have o:=Wn (t.nv i) ⟨aI s,false⟩ (k.mono (by decide)) (b.mono (by decide));have d:=JS (dB (t.at i)) ((t.nv i).times ⟨aI s,false⟩) (l.mono (by decide)) (by rw[NV.HH];exact(Hx k b).mono (by decide));rw[show(dB (t.at i)).add ((t.nv i).times ⟨aI s,false⟩)=t.yJ i s from rfl]at d;have f:=C9 (t.yJ i s) (by rw[aj.Qj];exact(Jy a hi b).mono (by decide));rw[aj.Qj]at f;generalize t.jr i (aI s)=r at*;generalize t.yJ i s=C at*;generalize (t.nv i).times ⟨aI s,false⟩=u at*;generalize t.nv i=w at*;generalize (NF.mk (aI s) false)=D at*;refine aJ nf (i_ func36) mix (by simp[f36]) ?_;simp[f36,aa];refine c3_ k1 ?_;simp[aa];refine c2_ m ?_;simp[rC,aa];refine e2_ c ?_;simp[aa];refine e1_ n ?_;simp[aa];refine e2_ o ?_;simp[aa];refine e2_ d ?_;simp[aa];refine e1_ f ?_;simp[aa]
theorem Jz{t b:aj}(d:mc b)(h:gJ t b=0):b9 t=0/\(∀o∈b.ag,oB o):=by
 obtain⟨a,c,_⟩:=aO8 d h;exact⟨a,c.sp⟩
def aj.pv(t:aj)(i:Nat):Nat:=(i+t.cs.length-1)% t.cs.length
theorem KH{t:aj}(h:b9 t=0){j:Nat}(c:j<t.aB.length):fy t.cs.length (t.aB.take j) (t.pk j)=0:=by
 rw[zm]at h
 split at h
 case isFalse=>contradiction
 split at h
 case isFalse=>contradiction
 rename_i d b;rw[pZ,lF]at b;have a:=b (jY 12 (fy t.cs.length) t.aB) s_;rw[jY]at a
 split at a
 ·cases a
 have:=l9.1 a j c
 rwa [fP,aj.gz c]at this
theorem aQk{q:Rat}:dH q=0↔¬fN q<0/\¬0<dx q 1:=by
 rw[dH]
 by_cases h:fN q<0\/0<dx q 1
 ·rw[if_pos h];exact⟨fun h=>absurd h (by decide),fun⟨a,b⟩=>(h.elim a b).elim⟩
 ·rw[if_neg h];exact⟨fun _=>⟨fun a=>h (.inl a),fun b=>h (.inr b)⟩,fun _=>rfl⟩
theorem KB{t:aj}(h:b9 t=0){j:Nat}(a:j<t.ag.length):gG t (t.ag.take j) (t.sp j)=0:=by
 rw[zm]at h
 split at h
 case isFalse=>contradiction
 split at h
 case isFalse=>contradiction
 rw[jY]at h
 split at h
 ·cases h
 have:=l9.1 h j a
 rwa [fP,aj.dP a]at this
theorem aQr{t:aj}(h:b9 t=0){j:Nat}(a:j<t.ag.length):df (t.sp j).pt=0:=by
 have:=KB h a;rw[gG]at this
 split at this
 ·cases this
 split at this
 ·cases this
 split at this
 ·contradiction
 ·rename_i h;exact a1.1 h
@[simp] theorem aUg:aP wE=.agg 81:=rfl
def ze:PV:=.st 162 [.int .i64 0,.aH]
def Hn:PV:=.st 166 [.st 164 [ze,ze],.st 164 [ze,ze]]
def gC(v:NV):Nat->NV
 |0=>v
 |k+1=>⟨(gC v k).y.neg,(gC v k).x⟩
theorem Dh{v:NV}{k:Nat}(h:bP k v.q):∀n,bP k (gC v n).q
 |0=>h
 |n+1=>by
  have:=Dh h n;exact⟨by rw[show(gC v (n+1)).q.x= -(gC v n).q.y from rfl];exact vg this.2,this.1⟩
@[simp] theorem aUf:aP Hn=.agg 166:=rfl
def dM(v:V2):Nat->V2
 |0=>v
 |k+1=>⟨-(dM v k).y,(dM v k).x⟩
theorem KE(v:NV):∀k,(gC v k).q=dM v.q k
 |0=>rfl
 |k+1=>by
  have h:=KE v k;have a:(dM v.q k).x=(gC v k).x.q:=by rw[<-h];rfl
  have b:(dM v.q k).y=(gC v k).y.q:=by rw[<-h];rfl
  rw[dM,a,b];rfl
theorem uo{v:V2}{k:Nat}(h:bP k v):∀n,bP k (dM v n)
 |0=>h
 |n+1=>⟨vg (uo h n).2,(uo h n).1⟩
structure aQ where
 fV:Bool
 qs:Int
 cw:bU
def di(m:aQ):PV:=.st 65 [.bool m.fV,.int .i64 m.qs,aG m.cw]
@[simp] theorem aTW(m:aQ):aP (di m)=.agg 65:=rfl
@[simp] theorem aSE(m:aQ):cS (di m)=[.bool m.fV,.int .i64 m.qs,aG m.cw]:=rfl
def aQ.n(m:aQ):Nat:=((m.qs.tmod 4+4).tmod 4).toNat
theorem aQ.rK(m:aQ):-3<=m.qs.tmod 4/\m.qs.tmod 4<=3/\(m.qs.tmod 4+4).tmod 4=(m.n:Int)/\m.n<=3:=by
 have b:-3<=m.qs.tmod 4/\m.qs.tmod 4<=3:=by
  rcases Int.le_total 0 m.qs with h|h
  ·rw[b2 h];omega
  ·have:=Int.neg_tmod (-m.qs) 4;rw[Int.neg_neg]at this;rw[this,b2 o_];omega
 rw[aQ.n];rw[b2 (a:=m.qs.tmod 4+4) o_];omega
def eh(p:bU):Nat->bU
 |0=>p
 |k+1=>⟨-(eh p k).y,(eh p k).x⟩
def aQ.kU(m:aQ)(p:bU):bU:=if m.fV then⟨-p.x,p.y⟩else p
def aQ.pt(m:aQ)(p:bU):bU:=⟨(eh (m.kU p) m.n).x+m.cw.x,(eh (m.kU p) m.n).y+m.cw.y⟩
theorem De{p:bU}(h:bV p):∀k,bV (eh p k)
 |0=>h
 |k+1=>by
  have:=De h k;simp only[bV,eh]at*;omega
theorem Jd{m:aQ}{p:bU}(h:bV p):bV (m.kU p):=by
 rw[aQ.kU]
 split
 ·simp only[bV]at*;omega
 ·exact h
theorem Jm(m:aQ)(p:bU)(r:bV p)(j:bV m.cw):az prog 81 [di m,aG p] (aG (m.pt p)):=by
 obtain⟨v,w,d,z⟩:=m.rK;have e:bl.wrap (m.qs.tmod 4+4)=m.qs.tmod 4+4:=aK _ o_ o_;have s:=Jd (m:=m) r;have od:∀i,bV (eh (m.kU p) i):=fun i=>De s i;obtain⟨a,b⟩:=p;refine aJ nf (i_ func81) mix (by simp[f81]) ?_;have hq:m.kU ⟨a,b⟩=if m.fV=true then⟨-a,b⟩else⟨a,b⟩:=rfl
 rw[aQ.pt,Li];generalize m.kU ⟨a,b⟩=q at*;generalize m.n=N at*;obtain⟨u,qs,f,g⟩:=m;simp only[bV]at r j;cases u
 ·simp only[ax,if_false]at hq;subst hq;have o:bl.wrap (-a)= -a:=aK _ o_ o_;simp[f81,di,aG,aa,e,d,o];refine lp (α:=Nat) (fun i=>⟨[(16,.p (.int .i64 i)),(15,.p (.int .i64 N)),(4,.ptr 2 []),(3,.ptr 1 []),(2,.ptr 0 [])],[.box false (.p (.st 65 [.bool false,.int .i64 qs,.st 63 [.int .i64 f,.int .i64 g]])),.box false (.p (aG (eh ⟨a,b⟩ i))),.box false (.p (.st 63 [.int .i64 0,.int .i64 0]))]⟩) (fun i=>i<=N) (fun i=>N-i) 0 s_ ?_ (hh:=by simp[eh,aG]);intro i t;have h:=od i;have k:eh ⟨a,b⟩ (i+1)=⟨-(eh ⟨a,b⟩ i).y,(eh ⟨a,b⟩ i).x⟩:=rfl
  by_cases hi:i<N
  ·have j:=bS (i:=i) o_;generalize eh ⟨a,b⟩ i=R at*;obtain⟨x,y⟩:=R;simp only[bV]at h;have c:bl.wrap (-y)= -y:=aK _ o_ o_;simp[hi,aG,aa,e,d,c];simp[j,aa];exact rd (i+1) hi (hh:=by simp[k,aG])
  ·obtain rfl:i=N:=by omega
   generalize eh ⟨a,b⟩ i=R at*;obtain⟨x,y⟩:=R;simp only[bV]at h;have c:bl.wrap (x+f)=x+f:=aK _ o_ o_;have l:bl.wrap (y+g)=y+g:=aK _ o_ o_;simp[aG,aa,e,d,c,l]
 ·simp only[if_true]at hq;subst hq;have o:bl.wrap (-a)= -a:=aK _ o_ o_;simp[f81,di,aG,aa,e,d,o];refine lp (α:=Nat) (fun i=>⟨[(16,.p (.int .i64 i)),(15,.p (.int .i64 N)),(4,.ptr 2 []),(3,.ptr 1 []),(2,.ptr 0 [])],[.box false (.p (.st 65 [.bool true,.int .i64 qs,.st 63 [.int .i64 f,.int .i64 g]])),.box false (.p (aG (eh ⟨-a,b⟩ i))),.box false (.p (.st 63 [.int .i64 0,.int .i64 0]))]⟩) (fun i=>i<=N) (fun i=>N-i) 0 s_ ?_ (hh:=by simp[eh,aG]);intro i t;have h:=od i;have k:eh ⟨-a,b⟩ (i+1)=⟨-(eh ⟨-a,b⟩ i).y,(eh ⟨-a,b⟩ i).x⟩:=rfl
  by_cases hi:i<N
  ·have j:=bS (i:=i) o_;generalize eh ⟨-a,b⟩ i=R at*;obtain⟨x,y⟩:=R;simp only[bV]at h;have c:bl.wrap (-y)= -y:=aK _ o_ o_;simp[hi,aG,aa,e,d,c];simp[j,aa];exact rd (i+1) hi (hh:=by simp[k,aG])
  ·obtain rfl:i=N:=by omega
   generalize eh ⟨-a,b⟩ i=R at*;obtain⟨x,y⟩:=R;simp only[bV]at h;have c:bl.wrap (x+f)=x+f:=aK _ o_ o_;have l:bl.wrap (y+g)=y+g:=aK _ o_ o_;simp[aG,aa,e,d,c,l]
theorem Wg(m:aQ)(p:bU)(r:bV p)(j:bV m.cw):az prog 77 [di m,aG p] (aG (m.pt p)):=by
 obtain⟨v,w,d,z⟩:=m.rK;have e:bl.wrap (m.qs.tmod 4+4)=m.qs.tmod 4+4:=aK _ o_ o_;have s:=Jd (m:=m) r;have od:∀i,bV (eh (m.kU p) i):=fun i=>De s i;obtain⟨a,b⟩:=p;refine aJ nf (i_ func77) mix (by simp[f77]) ?_;have hq:m.kU ⟨a,b⟩=if m.fV=true then⟨-a,b⟩else⟨a,b⟩:=rfl
 rw[aQ.pt,Li];generalize m.kU ⟨a,b⟩=q at*;generalize m.n=N at*;obtain⟨u,qs,f,g⟩:=m;simp only[bV]at r j;cases u
 ·simp only[ax,if_false]at hq;subst hq;have o:bl.wrap (-a)= -a:=aK _ o_ o_;simp[f77,di,aG,aa,e,d,o];refine lp (α:=Nat) (fun i=>⟨[(5,.p (.int .i64 i)),(4,.ptr 2 []),(3,.ptr 1 []),(2,.ptr 0 [])],[.box false (.p (.st 65 [.bool false,.int .i64 qs,.st 63 [.int .i64 f,.int .i64 g]])),.box false (.p (aG (eh ⟨a,b⟩ i))),.box false (.p (.st 63 [.int .i64 0,.int .i64 0]))]⟩) (fun i=>i<=N) (fun i=>N-i) 0 s_ ?_ (hh:=by simp[eh,aG]);intro i t;have h:=od i;have k:eh ⟨a,b⟩ (i+1)=⟨-(eh ⟨a,b⟩ i).y,(eh ⟨a,b⟩ i).x⟩:=rfl
  by_cases hi:i<N
  ·have j:=bS (i:=i) o_;generalize eh ⟨a,b⟩ i=R at*;obtain⟨x,y⟩:=R;simp only[bV]at h;have c:bl.wrap (-y)= -y:=aK _ o_ o_;simp[hi,aG,aa,e,d,c];simp[j,aa];exact rd (i+1) hi (hh:=by simp[k,aG])
  ·obtain rfl:i=N:=by omega
   generalize eh ⟨a,b⟩ i=R at*;obtain⟨x,y⟩:=R;simp only[bV]at h;have c:bl.wrap (x+f)=x+f:=aK _ o_ o_;have l:bl.wrap (y+g)=y+g:=aK _ o_ o_;simp[aG,aa,e,d,c,l]
 ·simp only[if_true]at hq;subst hq;have o:bl.wrap (-a)= -a:=aK _ o_ o_;simp[f77,di,aG,aa,e,d,o];refine lp (α:=Nat) (fun i=>⟨[(5,.p (.int .i64 i)),(4,.ptr 2 []),(3,.ptr 1 []),(2,.ptr 0 [])],[.box false (.p (.st 65 [.bool true,.int .i64 qs,.st 63 [.int .i64 f,.int .i64 g]])),.box false (.p (aG (eh ⟨-a,b⟩ i))),.box false (.p (.st 63 [.int .i64 0,.int .i64 0]))]⟩) (fun i=>i<=N) (fun i=>N-i) 0 s_ ?_ (hh:=by simp[eh,aG]);intro i t;have h:=od i;have k:eh ⟨-a,b⟩ (i+1)=⟨-(eh ⟨-a,b⟩ i).y,(eh ⟨-a,b⟩ i).x⟩:=rfl
  by_cases hi:i<N
  ·have j:=bS (i:=i) o_;generalize eh ⟨-a,b⟩ i=R at*;obtain⟨x,y⟩:=R;simp only[bV]at h;have c:bl.wrap (-y)= -y:=aK _ o_ o_;simp[hi,aG,aa,e,d,c];simp[j,aa];exact rd (i+1) hi (hh:=by simp[k,aG])
  ·obtain rfl:i=N:=by omega
   generalize eh ⟨-a,b⟩ i=R at*;obtain⟨x,y⟩:=R;simp only[bV]at h;have c:bl.wrap (x+f)=x+f:=aK _ o_ o_;have l:bl.wrap (y+g)=y+g:=aK _ o_ o_;simp[aG,aa,e,d,c,l]
section
variable{H:Type}{W:a8}{ad:Nat->Prop}
theorem Xa{n:Nat}(d:a7 H)(c)(h:aY prog W ad (bN prog (n+1) 4 d) c):∃b:Bool,bN prog (n+1) 4 d=.bool b:=by
 cases d with
 |lit l=>
  cases l with
  |bool b=>exact⟨b,by simp only[bN,Hh]⟩
  |_=>simp only[bN,Hh,aY]at h
 |_=>simp only[bN,Hh,aY]at h
theorem aQ4:∃a b f2:bb,prog.underlying 66=some (.struct #[a,b,f2])/\a.type=4/\b.type=3/\f2.type=64:=⟨_,_,_,underlying66,rfl,rfl,rfl⟩
theorem UT:prog.underlyingId 66=65:=k_
theorem aOZ{m n:Nat}(o:m=n+2){d:a7 H}(h:∃cs,aY prog W ad (bN prog (m+1) 66 d) cs)(j:Rows.uptoBulk d<=1048576):∃p:aQ,bN prog (m+1) 66 d=di p:=by
 obtain⟨cs,h⟩:=h;obtain⟨f0,f1,f2,f,t0,t1,t2⟩:=aQ4;cases d with
 |agg l=>
  have k:∀x∈l,Rows.uptoBulk x<=1048576:=fun x hx=>by
   have:=rr.vE hx;rw[Rows.uptoBulk]at j;omega
  simp only[bN,f,aY]at h⊢;obtain⟨s,q,e,c,_⟩:=h;rw[UT,aQI]at e;cases e
  match l,c with
  |[],c=>simp[bm]at c
  |[x],c=>simp[bm]at c
  |[x,y],c=>simp[bm]at c
  |x::y::z::r,c=>
   simp only[dg,cx,bm,dp,dz,t0,t1,t2]at c⊢;obtain⟨c0,_,_,g1,_,c1,_,_,g2,_,c2,_,_,g3,_⟩:=c;subst o;obtain⟨a,g⟩:=Xa (n:=n+1) x c0 g1;obtain⟨b,i⟩:=wC (n:=n+1) y c1 g2;obtain⟨p,ep,_⟩:=HX (n:=n) rfl ⟨c2,g3⟩ (k z s_);exact⟨⟨a,b,p⟩,by rw[g,i,ep,UT];rfl⟩
 |_=>simp only[bN,f,aY]at h
theorem aOY{d:a7 H}(h:∃cs,aY prog W ad (bN prog 8 66 d) cs)(a:Rows.uptoBulk d<=1048576):∃p:aQ,bN prog 8 66 d=di p/\True:=by
 obtain⟨p,e⟩:=aOZ (n:=5) rfl h a;exact⟨p,e,trivial⟩
end
namespace Hk
mutual
def tY:PV->PV->Bool
 | .int .i64 a,.int .i64 b=>pM a b
 | .int .u64 a,.int .u64 b=>pM a b
 | .bool a,.bool b=>a==b
 | .str a,.str b=>tX a b
 | .aH,.aH=>true
 | .fM,.fM=>true
 | .bF f a,.bF g b=>bif f==g then mw a b else false
 | .seq a,.seq b=>mw a b
 | .fu a,.fu b=>vV a b
 | .st u a,.st v b=>bif gy u v then mw a b else false
 | .aD a,.aD b=>mw a b
 | .func f a b,.func g c d=>bif gy f g then(bif mw a c then mw b d else false)else false
 | .cG a,.cG b=>tY a b
 |_,_=>false
def mw:List PV->List PV->Bool
 |[],[]=>true
 |a::l,b::m=>bif tY a b then mw l m else false
 |_,_=>false
def vV:List (PV×PV)->List (PV×PV)->Bool
 |[],[]=>true
 |(a,c)::l,(b,d)::m=>bif tY a b then(bif tY c d then vV l m else false)else false
 |_,_=>false
end
mutual
theorem xT:∀{a b:PV},tY a b=true->a=b
 |a,b,h=>by
  unfold tY at h
  split at h
  ·rw[BB h]
  ·rw[BB h]
  ·rw[eq_of_beq h]
  ·rw[E5 h]
  ·rfl
  ·rfl
  ·rename_i f a g b;cases hf:f==g
   ·rw[hf]at h;cases h
   ·rw[hf,cond_true]at h;rw[eq_of_beq hf,qD h]
  ·rw[qD h]
  ·rw[Pz h]
  ·simp only[av]at h
   split at h
   ·rename_i i;rw[gx i,qD h]
   ·cases h
  ·rw[qD h]
  ·simp only[av]at h
   split at h
   ·rename_i i
    split at h
    ·rename_i e;rw[gx i,qD e,qD h]
    ·cases h
   ·cases h
  ·rw[xT h]
  ·cases h
theorem qD:∀{a b:List PV},mw a b=true->a=b
 |[],[],_=>rfl
 |[],_::_,h=>by simp[mw]at h
 |_::_,[],h=>by simp[mw]at h
 |a::l,b::m,h=>by
  simp only[mw,av]at h
  split at h
  ·rename_i e;rw[xT e,qD h]
  ·cases h
theorem Pz:∀{a b:List (PV×PV)},vV a b=true->a=b
 |[],[],_=>rfl
 |[],_::_,h=>by simp[vV]at h
 |_::_,[],h=>by simp[vV]at h
 |(a,c)::l,(b,d)::m,h=>by
  simp only[vV,av]at h
  split at h
  ·rename_i e
   split at h
   ·rename_i j;rw[xT e,xT j,Pz h]
   ·cases h
  ·cases h
end
def vq:List (a6×List PV×PV)->a6->List PV->Option PV
 |[],f,vs=>hk f vs
 |(g,us,v)::r,f,vs=>bif gy g f then(bif mw us vs then some v else vq r f vs)else vq r f vs
def mz:List (a6×List PV×PV)->Prop
 |[]=>True
 |(g,us,v)::r=>az prog g us v/\mz r
theorem D0:∀{l m:List (a6×List PV×PV)},mz l->mz m->mz (l++m)
 |[],_,_,h=>h
 |_::_,_,h,a=>⟨h.1,D0 h.2 a⟩
theorem AN:∀{l:List (a6×List PV×PV)},mz l->∀f vs v,vq l f vs=some v->az prog f vs v
 |[],_,f,vs,v,h=>aLm h
 |(g,us,w)::r,a,f,vs,v,h=>by
  simp only[vq,av]at h
  split at h
  ·rename_i b
   split at h
   ·rename_i hs;simp only[hg]at h;subst h;rw[<-qD hs,<-gx b];exact a.1
   ·exact AN a.2 f vs v h
  ·exact AN a.2 f vs v h
def GM(v:PV):Option PV->Bool
 |some w=>tY v w
 |none=>false
theorem Kb{v:PV}{o:Option PV}(h:GM v o=true):o=some v:=by
 cases o with
 |none=>cases h
 |some w=>rw[xT h]
def aPJ:a6->a6->Nat:=fun _ _=>0
theorem gU(l:List (a6×List PV×PV))(hl:mz l){f:a6}{vs:List PV}{v:PV}(h:GM v (UG (vq l) aPJ f vs)=true):az prog f vs v:=P2 (AN hl) (Kb h)
end Hk
end Go.an
namespace Go.Proofs
open Go.Shelf
def Tryz.IH:b0:=⟨fun|156=>139|165=>221|166=>52|169=>142|240=>138|241=>272|276=>220|277=>328|n=>n,fun|31=>140|9=>9|3=>3|4=>4|0=>0|20=>20|72=>118|76=>121|70=>115|37=>116|75=>120|127=>286|164=>282|5=>5|80=>224|n=>n,fun|n=>n⟩
theorem Tryz.Jp:Go.Proofs.Lays.n156 prog IH:={
 mixed:=k_
 f156:=func139.trans (congrArg some k_)
 f165:=func221.trans (congrArg some k_)
 f166:=func52.trans (congrArg some k_)
 f169:=func142.trans (congrArg some k_)
 f240:=func138.trans (congrArg some k_)
 f241:=func272.trans (congrArg some k_)
 f276:=func220.trans (congrArg some k_)
 f277:=func328.trans (congrArg some k_)
 t0:=underlying0
 a0:=isAgg0
 z0:=sizeOf0
 v0:=zeroValue0
 t3:=underlying3
 a3:=isAgg3
 z3:=sizeOf3
 v3:=zeroValue3
 t4:=underlying4
 a4:=isAgg4
 z4:=sizeOf4
 v4:=zeroValue4
 t9:=underlying9
 a9:=isAgg9
 z9:=sizeOf9
 v9:=zeroValue9
 t20:=underlying20
 a20:=isAgg20
 z20:=sizeOf20
 v20:=zeroValue20
 t31:=underlying140
 a31:=isAgg140
 z31:=sizeOf140
 v31:=zeroValue140
 t37:=underlying116
 a37:=isAgg116
 z37:=sizeOf116
 v37:=zeroValue116
 t70:=underlying115
 a70:=isAgg115
 z70:=sizeOf115
 v70:=zeroValue115
 t72:=underlying118
 a72:=isAgg118
 z72:=sizeOf118
 v72:=zeroValue118
 t75:=underlying120
 a75:=isAgg120
 z75:=sizeOf120
 v75:=zeroValue120
 t76:=underlying121
 a76:=isAgg121
 z76:=sizeOf121
 v76:=zeroValue121
 t127:=underlying286
 a127:=isAgg286
 z127:=sizeOf286
 v127:=zeroValue286
 t164:=underlying282
 a164:=isAgg282
 z164:=sizeOf282
 v164:=zeroValue282}
theorem Tryz.Ib:Builder.Extra prog IH:={
 sizeBuilder:=k_
 liesBuilder:=k_
 t5:=underlying5
 a5:=isAgg5
 z5:=sizeOf5
 v5:=zeroValue5
 infoByte:=k_
 cellsByte:=k_
 sizeByte:=k_
 neB5:=by decide}
open Go.RowKit in
theorem Tryz.strings_Join_none(a:Option Addr)(c:Nat)(sep:ByteArray)(w:a8):
 be prog 139 #[.slice a 0 c,.string sep] w fun e w'=>e=.returned (.string ⟨#[]⟩)/\w'=w:=Any.strings_Join_none Jp Ib a c sep w
open Go.RowKit in
theorem Tryz.strings_Join(bk o c:Nat)(xs:List ByteArray)(sep:ByteArray)(w:a8)(hcells:∀(j:Nat) x,xs[j]?=some x->w.cell? ⟨bk,o+j,none⟩=some (.string x))(hbk:bk<w.heap.size)(hN:xs.length<=140737488355328)(hcap:xs.length<=c)(hlen:(bv (xs.map (·.data.toList)) sep.data.toList).length<=140737488355328):
 be prog 139 #[.slice (some ⟨bk,o,none⟩) xs.length c,.string sep] w fun e w'=>e=.returned (.string ⟨(bv (xs.map (·.data.toList)) sep.data.toList).toArray⟩)/\Below w.heap.size w w':=Any.strings_Join Jp Ib bk o c xs sep w hcells hbk hN hcap hlen
def Tryz.VS:b0:=⟨fun|106=>203|213=>270|265=>326|n=>n,fun|9=>9|3=>3|n=>n,fun|n=>n⟩
theorem Tryz.aOI:Go.Proofs.Lays.n106 prog VS:={
 mixed:=k_
 f106:=func203.trans (congrArg some k_)
 f213:=func270.trans (congrArg some k_)
 f265:=func326.trans (congrArg some k_)
 t3:=underlying3
 a3:=isAgg3
 z3:=sizeOf3
 v3:=zeroValue3
 t9:=underlying9
 a9:=isAgg9
 z9:=sizeOf9
 v9:=zeroValue9}
open Go.RowKit in
theorem Tryz.strings_Compare(a b:ByteArray)(w:a8):
 be prog 203 #[.string a,.string b] w fun e w'=>e=.returned (.int .i64 (br a.data.toList b.data.toList))/\w'=w:=Any.strings_Compare aOI a b w
def Tryz.VR:b0:=⟨fun|138=>278|195=>333|218=>335|143=>279|219=>303|217=>353|225=>354|224=>355|267=>356|266=>378|314=>379|n=>n,fun|9=>9|3=>3|4=>4|5=>5|0=>0|46=>322|146=>402|51=>355|n=>n,fun|1=>0|n=>n⟩
theorem Tryz.aOL:Go.Proofs.Lays.n138 prog VR:={
 mixed:=k_
 f138:=func278.trans (congrArg some k_)
 f143:=func279.trans (congrArg some k_)
 f195:=func333.trans (congrArg some k_)
 f217:=func353.trans (congrArg some k_)
 f218:=func335.trans (congrArg some k_)
 f219:=func303.trans (congrArg some k_)
 f224:=func355.trans (congrArg some k_)
 f225:=func354.trans (congrArg some k_)
 f266:=func378.trans (congrArg some k_)
 f267:=func356.trans (congrArg some k_)
 f314:=func379.trans (congrArg some k_)
 t0:=underlying0
 a0:=isAgg0
 z0:=sizeOf0
 v0:=zeroValue0
 t3:=underlying3
 a3:=isAgg3
 z3:=sizeOf3
 v3:=zeroValue3
 t4:=underlying4
 a4:=isAgg4
 z4:=sizeOf4
 v4:=zeroValue4
 t5:=underlying5
 a5:=isAgg5
 z5:=sizeOf5
 v5:=zeroValue5
 t9:=underlying9
 a9:=isAgg9
 z9:=sizeOf9
 v9:=zeroValue9
 t46:=underlying322
 a46:=isAgg322
 z46:=sizeOf322
 v46:=zeroValue322
 t51:=underlying355
 a51:=isAgg355
 z51:=sizeOf355
 v51:=zeroValue355
 t146:=underlying402
 a146:=isAgg402
 z146:=sizeOf402
 v146:=zeroValue402
 g1:=k_}
open Go.RowKit Go.Lib in
theorem Tryz.strings_Count_one(s:ByteArray)(c:UInt8)(w:a8):
 be prog 278 #[.string s,.string ⟨#[c]⟩] w fun e w'=>e=.returned (.int .i64 (bo s.data.toList c))/\w'=w:=Any.strings_Count_one aOL s c w
end Go.Proofs
namespace Go.Proofs
def Tryz.Jg:b0:=⟨fun|4=>265|n=>n,fun|22=>22|25=>64|3=>3|4=>4|9=>9|20=>20|0=>0|2=>3|n=>n,fun|n=>n⟩
theorem Tryz.aLi:Go.Proofs.Lays8.n4 prog Jg:={
 mixed:=k_
 f4:=⟨f265.name,by decide,func265.trans (congrArg some k_)⟩
 t0:=underlying0
 a0:=isAgg0
 z0:=sizeOf0
 v0:=zeroValue0
 t3:=underlying3
 a3:=isAgg3
 z3:=sizeOf3
 v3:=zeroValue3
 t4:=underlying4
 a4:=isAgg4
 z4:=sizeOf4
 v4:=zeroValue4
 t9:=underlying9
 a9:=isAgg9
 z9:=sizeOf9
 v9:=zeroValue9
 t20:=underlying20
 a20:=isAgg20
 z20:=sizeOf20
 v20:=zeroValue20
 t22:=underlying22
 a22:=isAgg22
 z22:=sizeOf22
 v22:=zeroValue22}
end Go.Proofs
namespace Go.an
open Go.an renaming c1->c1_, c2->c2_, c3->c3_, e1->e1_, e2->e2_, e3->e3_
open Go.Proofs
def mF(a:List Nat):List (List Nat)->List Nat
 |[]=>[]
 |[s]=>s
 |s::r=>s++a++mF a r
theorem Jf(b:List UInt8):∀(c:List (List UInt8)),mF (dj b) (c.map dj)=dj (bv c b)
 |[]=>by simp[mF,Lib.join_nil,dj]
 |[x]=>by simp[mF,Lib.join_one]
 |x::y::r=>by
  have a:=Jf b (y::r);rw[Lib.join_cons]at a⊢;simp only[cx]at a⊢;rw[mF,a]
  ·simp[dj,Lib.joinTail]
  ·simp
theorem Jq{w:a8}{ad:Nat->Prop}:∀{l:List (List Nat)}{e:List Nat}{a:List (List Value)},bm prog w ad e (l.map .str) a->
 ∃d:List ByteArray,a.flatten=d.map .string/\l=d.map (fun b=>dj b.data.toList)
 |[],e,a,h=>by
  have:=xf h;subst this;exact⟨[],s_,s_⟩
 |s::l,[],a,h=>by simp[bm]at h
 |s::l,n::e,a,h=>by
  simp only[cx,bm,aY]at h;obtain⟨c,cs,rfl,⟨bs,rfl,f⟩,_,g⟩:=h;obtain⟨d,g1,g2⟩:=Jq g;exact⟨bs::d,by simp[g1],by simp[g2,f,dj]⟩
theorem aBz(full:Bool)(l:List (List Nat))(d:List Nat)(hl:l.length<=140737488355328)(k:(mF d l).length<=140737488355328):az prog 139 [.bF full (l.map .str),.str d] (.str (mF d l)):=by
 refine kG (jA func139 k_) fun w ad B t E s=>?_;obtain⟨x,y,rfl,f,g⟩:=nN s;simp only[aC]at f g;obtain⟨sp,rfl,rfl⟩:=g;obtain⟨aq,off,cap,ak,C,p,q,h,D,i,o,A,rfl⟩:=f;obtain⟨xs,g1,g2⟩:=Jq p;have b:(l.map PV.str).length=xs.length:=by rw[g2];simp
 cases c:xs with
 |nil=>
  subst c;have v:l=[]:=by simpa using g2
  subst v;refine(strings_Join_none (some ⟨aq,off,o⟩) cap sp w).mono ?_;rintro e w' ⟨rfl,rfl⟩;exact⟨_,rfl,⟨gA _,fun _ _=>rfl,rfl,rfl⟩,fun w ad=>by simpa[mF,dj]using vh (P:=prog) (w:=w) (ad:=ad) []⟩
 |cons F r=>
  have z:l.map PV.str≠[]:=by rw[g2,c];simp
  obtain rfl:o=none:=A.resolve_right (by rw[b,c]at i;simp at i;omega);have m:=Jf sp.data.toList (xs.map (·.data.toList))
  have e2:(xs.map (·.data.toList)).map dj=l:=by rw[g2];simp
  rw[e2]at m;have n:mF (sp.data.toList.map (·.toNat)) l=dj (bv (xs.map (·.data.toList)) sp.data.toList):=m
  rw[b];refine(strings_Join aq off cap xs sp w (fun j x hx=>?_) (t _ (q z)) (by simp at b;omega) o_ ?_).mono ?_
  ·have u:j<xs.length:=(cb.1 hx).1;rw[g1]at h;have:=h j (by simpa using u);rw[this];simp[(cb.1 hx).2]
  ·rw[n]at k;simpa[dj]using k
  ·rintro e w' ⟨rfl,a⟩;exact⟨_,rfl,⟨a.size,a.block,a.os,a.output⟩,fun w ad=>by rw[n];exact vh _⟩
def tO(c:Nat):List Nat->Nat->Nat
 |[],n=>n
 |x::r,n=>bif gy x c then tO c r (n+1)else tO c r n
theorem JJ(c:UInt8):∀(l:List UInt8)(n:Nat),tO c.toNat (dj l) n=n+bo l c
 |[],n=>by simp[tO,dj,bo]
 |x::r,n=>by
  have a:=JJ c r;simp only[dj]at a;simp only[dj,cx,tO,bo,List.count_cons]
  by_cases hx:x=c
  ·subst hx;simp[a,bo];omega
  ·have d:gy x.toNat c.toNat=false:=by
    cases b:gy x.toNat c.toNat
    ·rfl
    ·exact(hx (UInt8.toNat_inj.1 (gx b))).elim
   simp[d,a,bo,hx]
theorem aAU(s:List Nat)(c:Nat):az prog 278 [.str s,.str [c]] (.int .i64 (tO c s 0:Nat)):=by
 refine kG (jA func278 k_) fun w ad g _ _ f=>?_;obtain⟨x,y,rfl,a,d⟩:=nN f;obtain⟨b,rfl,rfl⟩:=one_byte d;obtain⟨bs,rfl,rfl⟩:=nX a;refine(strings_Count_one bs b w).mono ?_;rintro e w' ⟨rfl,rfl⟩;refine⟨_,rfl,⟨gA _,fun _ _=>rfl,rfl,rfl⟩,fun w ad=>?_⟩;have e1:=JJ b bs.data.toList 0;simp only[aC]at e1⊢;rw[e1];simp
def rz:List Nat->List Nat->Int
 |[],[]=>0
 |[],_::_=>-1
 |_::_,[]=>1
 |a::r,b::t=>bif g9 a b then -1 else bif g9 b a then 1 else rz r t
theorem JK:∀a b:List UInt8,rz (dj a) (dj b)=br a b
 |[],[]=>rfl
 |[],_::_=>rfl
 |_::_,[]=>rfl
 |a::r,b::t=>by
  have e:=JK r t;simp only[dj,cx,rz,br]at e⊢;have e1:g9 a.toNat b.toNat=decide (a<b):=by
   rw[ay,hb,decide_eq_true_eq,ho]
  have e2:g9 b.toNat a.toNat=decide (b<a):=by
   rw[ay,hb,decide_eq_true_eq,ho]
  rw[e1,e2,e]
  by_cases c:a<b
  ·simp[c]
  ·by_cases d:b<a
   ·simp[c,d]
   ·simp[c,d]
theorem KU(a b:List Nat):az prog 203 [.str a,.str b] (.int .i64 (rz a b)):=by
 refine kG (jA func203 k_) fun w ad g _ _ f=>?_;obtain⟨x,y,rfl,c,d⟩:=nN f;obtain⟨bs,rfl,rfl⟩:=nX c;obtain⟨cs,rfl,rfl⟩:=nX d;refine(strings_Compare bs cs w).mono ?_;rintro e w' ⟨rfl,rfl⟩;exact⟨_,rfl,⟨gA _,fun _ _=>rfl,rfl,rfl⟩,fun w ad=>by rw[JK];simp only[aC]⟩
def rO:PV:=.st 63 [.int .i64 0,.int .i64 0]
theorem Lg{H:Heap}(n:Nat)(M:1<=n)(N:n<=1000000):b8 prog 265 H [.p .aH,.p (.int .i64 n)] (H++[.arr .grow 0 2 (db n (.p rO))]) (.sl H.length 0 2 0 0):=by
 refine⟨jA func265 k_,fun w ad ai β J j f O=>?_⟩;simp only[bC,aA,aC]at f;obtain⟨_,_,rfl,rfl,_,_,rfl,rfl,rfl⟩:=f;obtain⟨i,c,hi,F,o,_⟩:=qj (P:=prog) (T:=64) (z:=rO) k_;have hs:i.size=2:=by
  have:(prog.info? 64).map (·.size)=some 2:=k_
  rw[hi]at this;simpa using this
 have u:i.bytes=16:=by
  have:(prog.info? 64).map (·.bytes)=some 16:=k_
  rw[hi]at this;simpa using this
 have q:c.cells.size=2:=by
  have:=(oX (o w ad)).1;have e:bO prog (aP rO)=2:=k_
  rw[e]at this;simpa using this
 have g:=Any8.slices_Grow_grow aLi i c hi F o_ none 0 0 n [] w (gA _) o_ (by rw[u];omega) o_ s_ (fun _=>rfl) (fun a h=>by cases h);rw[show Jg.t 25=64 from rfl,Nat.zero_add]at g;refine g.mono ?_;rintro e w' ⟨rfl,rfl⟩;have C:=j.n9 1;have D:cm prog w.drew ad β (H++db 1 .hole) ai:=cm.xJ (w:=w) (w':=w.drew) rfl C;have s:(H++db 1 Obj.hole)[H.length]?=some .hole:=s_
 have y:n<=grownCap w n 0 64:=by simp[grownCap,Question.cut]
 have l:=xm (β:=β) (H:=H++db 1 .hole) (o w.drew ad) n;rw[show c.cells.toList.length=2 by simpa using q]at l;have G:∀m,(bi c.cells m).toList=(db m c.cells.toList).flatten:=fun m=>Ah c.cells m o_;obtain⟨q1,r⟩:=Aq (T:=64) (k:=.grow) (ak:=2) (cap:=grownCap w n 0 64) D s
  (cells:=([]:List Value).toArray++bi c.cells (n-0)++bi c.cells (grownCap w n 0 64-n))
  (rest:=(bi c.cells (grownCap w n 0 64-n)).toList)
  s_ (fun h=>by have:=h.2;rw[<-c7]at this;simp at this;omega) l
  (by rw[cB];intro v E;rw[List.eq_of_mem_replicate E];simp[aE])
  (by simp[G]) (by simp only[Array.size_append,Md,q];simp;omega) (by simpa using y) (fun h=>by cases h) (fun h=>by cases h)
 rw[Ft]at q1 r;have aN:=qh β H 1;have I:cj prog ai ad w β H ad w β (H++db 1 .hole):=⟨fun _ x=>x,fun _ x=>.inl x,Ext.refl _ _ _,aN,j.n9 _,nM _ _,fun b⟨L,d⟩=>⟨L,by rw[lx,if_pos (cb.1 d).1];exact d⟩⟩
 refine⟨_,_,ad,rfl,I.trans (cj.drew (w1:=w.drew) rfl ⟨rfl,rfl⟩ q1),?_,?_⟩
 ·simp only[aA,bY,b7]at r⊢;refine⟨rfl,fun k K hl=>?_⟩;have A:(H++[Obj.arr .grow 0 2 (db n (.p rO))])[H.length]?=some (.arr .grow 0 2 (db n (.p rO))):=by simp
  unfold fp at hl;rw[A]at hl;cases hl;exact⟨o_,fun B=>by have:=B.2;rw[<-c7]at this;simp at this;omega,fun _=>by simp[Bd.at]⟩
 ·simp only[aE];exact⟨.arr .grow 0 2 (db n (.p rO)),s_,gA _⟩
namespace gN
def wX:List PV->Option (List (List Nat))
 |[]=>some []
 | .str s::r=>match wX r with
  |some l=>some (s::l)
  |none=>none
 |_=>none
theorem IZ:∀{l:List PV}{a:List (List Nat)},wX l=some a->l=a.map .str
 |[],a,h=>by simp[wX]at h;subst h;rfl
 |v::r,a,h=>by
  cases v<;>simp only[wX]at h<;>try (cases h;done)
  split at h
  ·rename_i l hl;simp only[hg]at h;subst h;rw[IZ hl];rfl
  ·cases h
def GB(f:a6)(vs:List PV):Option PV:=
 bif gy f 139 then match vs with
  |[.bF _ l,.str sep]=>match wX l with
   |some d=>bif ha d.length 1000&&ha (mF sep d).length 100000 then some (.str (mF sep d))else none
   |none=>none
  |_=>none
 else bif gy f 278 then match vs with
  |[.str s,.str [c]]=>some (.int .i64 (tO c s 0:Nat))
  |_=>none
 else bif gy f 303 then match vs with
  |[.str s,.str [c]]=>some (.int .i64 (ou c s 0))
  |_=>none
 else bif gy f 203 then match vs with
  |[.str a,.str b]=>some (.int .i64 (rz a b))
  |_=>none
 else bif gy f 54 then match vs with
  |[.int .i64 n]=>bif Hk.pU n then some (.str (bW n))else none
  |_=>none
 else none
theorem aLl{f:a6}{vs:List PV}{v:PV}(h:GB f vs=some v):az prog f vs v:=by
 unfold GB at h;simp only[av]at h
 split at h
 ·rename_i hf;rw[gx hf]
  split at h
  ·split at h
   ·rename_i a hs;simp only[hd,hg,ap]at h;obtain⟨⟨g1,g2⟩,rfl⟩:=h;rw[IZ hs];exact aBz _ _ _ (g4 (gP g1) (by decide)) (g4 (gP g2) (by decide))
   ·cases h
  ·cases h
 split at h
 ·rename_i hf;rw[gx hf]
  split at h
  ·simp only[hg]at h;subst h;exact aAU _ _
  ·cases h
 split at h
 ·rename_i hf;rw[gx hf]
  split at h
  ·simp only[hg]at h;subst h;exact KR _ _
  ·cases h
 split at h
 ·rename_i hf;rw[gx hf]
  split at h
  ·simp only[hg]at h;subst h;exact KU _ _
  ·cases h
 split at h
 ·rename_i hf;rw[gx hf]
  split at h
  ·simp only[hd,hg]at h;obtain⟨g1,rfl⟩:=h;have:=Hk.Bl.1 g1;exact KQ _ o_ o_
  ·cases h
 ·cases h
def yW(f:a6)(args:List AV)(H:Heap):Option (AV×Heap):=
 bif gy f 138 then match args with
  |[.ptr b []]=>match H[b]? with
   |some (.box false (.p (.st u [.dX,x])))=>bif gy u 117 then some (.p (.aD []),H.set b (.box false (.st 117 [.ptr b [],.p x])))else none
   |some (.box false (.st u [.p .dX,x]))=>bif gy u 117 then some (.p (.aD []),H.set b (.box false (.st 117 [.ptr b [],x])))else none
   |some (.box false (.st u [.ptr b' [],_]))=>bif gy u 117&&gy b' b then some (.p (.aD []),H)else none
   |_=>none
  |_=>none
 else bif gy f 265 then match args with
  |[.p .aH,.p (.int .i64 (.ofNat n))]=>bif ha 1 n&&ha n 1000000 then some (.sl H.length 0 2 0 0,H++[.arr .grow 0 2 (db n (.p rO))])else none
  |_=>none
 else none
theorem aLk{f:a6}{args:List AV}{H H':Heap}{v:AV}(h:yW f args H=some (v,H')):b8 prog f H args H' v:=by
 unfold yW at h;simp only[av]at h
 split at h
 ·rename_i hf;rw[gx hf]
  split at h
  case h_2=>cases h
  split at h
  ·rename_i a;simp only[hd,hg,hj]at h;obtain⟨b,rfl,rfl⟩:=h;rw[gx b]at a;exact Gy a (.inl rfl)
  ·rename_i a;simp only[hd,hg,hj]at h;obtain⟨b,rfl,rfl⟩:=h;rw[gx b]at a;exact Gy a (.inr rfl)
  ·rename_i a;simp only[hd,hg,hj,ap]at h;obtain⟨⟨b,c⟩,rfl,rfl⟩:=h;rw[gx b,gx c]at a;exact S8 a
  ·cases h
 split at h
 ·rename_i hf;rw[gx hf]
  split at h
  ·simp only[hd,hg,hj,ap]at h;obtain⟨⟨b,c⟩,rfl,rfl⟩:=h;exact Lg _ (gP b) (gP c)
  ·cases h
 ·cases h
def kZ(_ f:a6):Nat:=
 bif gy f 53 then 2
 else bif gy f 147 then 3
 else bif gy f 148 then 3
 else bif gy f 149 then 3
 else bif gy f 150 then 3
 else bif gy f 265 then 1 else 0
def facts(l:List (a6×List PV×PV))(f:a6)(vs:List PV):Option PV:=match GB f vs with
 |some v=>some v
 |none=>Hk.vq l f vs
noncomputable def wZ(fs:a6->List PV->Option PV):ny:=⟨vF Hd,fs,yW,kZ,fun _ _ _=>none⟩
theorem WC{l:List (a6×List PV×PV)}(hl:Hk.mz l):nU prog (wZ (facts l)):=by
 refine⟨mix,fun f fn hf=>FD Kz hf,fun f vs v hk=>?_,fun f args H v H' hk=>aLk hk,fun f args H al v hk=>by simp only[wZ]at hk;cases hk⟩;simp only[wZ,facts]at hk
 split at hk
 ·rename_i h;simp only[hg]at hk;subst hk;exact aLl h
 ·exact Hk.AN hl f vs v hk
noncomputable def runT(l:List (a6×List PV×PV))(f:a6)(vs:List PV):Option PV:=pR prog nf (wZ (facts l)) (kI prog nf (wZ (facts l)) 20) f vs
theorem gU(l:List (a6×List PV×PV))(hl:Hk.mz l){f:a6}{vs:List PV}{v:PV}(h:Hk.GM v (runT l f vs)=true):az prog f vs v:=reckon 20 (WC hl) (Hk.Kb h)
end gN
namespace CI
def T:PV:=.st 35 [.bF true [.st 63 [.int .i64 0,.int .i64 0],.st 63 [.int .i64 2000,.int .i64 0],.st 63 [.int .i64 2000,.int .i64 1000],.st 63 [.int .i64 0,.int .i64 1000]],.int .i64 30,.bF true [.st 87 [.str [97],.int .i64 0,.str [48],.str [49,47,50,48]],.st 87 [.str [98],.int .i64 2,.str [49,57,47,50,48],.str [49]]],.bF true [.st 84 [.str [102,111,111,116],.st 81 [.str [49,53,48,48],.str [53,48,48]]],.st 84 [.str [104,101,97,100],.st 81 [.str [53,48,48],.str [53,48,48]]]]]
def B:PV:=.bF true [.st 84 [.str [99,117,101],.st 81 [.str [53,48,48],.str [53,48,48]]],.st 84 [.str [111,110,101],.st 81 [.str [49,53,48,48],.str [53,48,48]]],.st 84 [.str [116,119,111],.st 81 [.str [49,53,54,48],.str [53,48,48]]]]
def B1:PV:=.bF false [.st 84 [.str [99,117,101],.st 81 [.str [53,48,48],.str [53,48,48]]]]
def M:PV:=.st 35 [.bF false [.st 63 [.int .i64 0,.int .i64 0],.st 63 [.int .i64 0,.int .i64 1000],.st 63 [.int .i64 (-2000),.int .i64 1000],.st 63 [.int .i64 (-2000),.int .i64 0]],.int .i64 30,.bF false [.st 87 [.str [97],.int .i64 3,.str [49,57,47,50,48],.str [49]],.st 87 [.str [98],.int .i64 1,.str [48],.str [49,47,50,48]]],.bF false [.st 84 [.str [102,111,111,116],.st 81 [.str [45,49,53,48,48],.str [53,48,48]]],.st 84 [.str [104,101,97,100],.st 81 [.str [45,53,48,48],.str [53,48,48]]]]]
def k0:List (a6×List PV×PV):=[(263,[.str [51,48]],.aD [.int .i64 30,.gK])]
theorem wV:Hk.mz k0:=⟨KW [51,48] 30 (by decide+kernel) (by decide),trivial⟩
theorem c0:az prog 51 [T] (.int .i64 0):=gN.gU k0 wV k_
theorem c1:az prog 71 [T,B] (.int .i64 0):=gN.gU k0 wV k_
theorem c2:az prog 71 [T,B1] (.int .i64 0):=gN.gU k0 wV k_
theorem c3:az prog 51 [M] (.int .i64 0):=gN.gU k0 wV k_
def k1:List (a6×List PV×PV):=[(51,[T],.int .i64 0),(71,[T,B],.int .i64 0),(71,[T,B1],.int .i64 0),(51,[M],.int .i64 0)]++k0
theorem jn:Hk.mz k1:=Hk.D0 (l:=[(51,[T],.int .i64 0),(71,[T,B],.int .i64 0),(71,[T,B1],.int .i64 0),(51,[M],.int .i64 0)]) ⟨c0,c1,c2,c3,trivial⟩ wV
theorem d0:az prog 31 [T] (.aD [.str [50,48,48,48,48,48,48],.int .i64 0]):=gN.gU k1 jn k_
theorem d1:az prog 36 [T,.int .i64 0,.str [49,47,52]] (.aD [.st 81 [.str [53,48,48],.str [48]],.int .i64 0]):=gN.gU k1 jn k_
theorem d2:az prog 42 [T,.st 81 [.str [50,48,48,48],.str [48]]] (.aD [.int .i64 0,.str [49],.int .i64 0]):=gN.gU k1 jn k_
theorem d3:az prog 44 [T,.int .i64 0,.str [49,47,50,48]] (.aD [.str [97],.int .i64 0]):=gN.gU k1 jn k_
theorem d4:az prog 44 [T,.int .i64 0,.str [49,47,49,48]] (.aD [.str [],.int .i64 7]):=gN.gU k1 jn k_
theorem d5:az prog 45 [T,B,.st 81 [.str [49,52,52,48],.str [53,48,48]]] (.aD [.bool true,.int .i64 0]):=gN.gU k1 jn k_
theorem d6:az prog 45 [T,B,.st 81 [.str [49,52,53,48],.str [53,48,48]]] (.aD [.bool false,.int .i64 0]):=gN.gU k1 jn k_
theorem d7:az prog 46 [T,B,.str [102,111,111,116],.st 81 [.str [49,48],.str [48]]] (.aD [.st 81 [.str [49,54,50,48],.str [53,48,48]],.int .i64 0]):=gN.gU k1 jn k_
theorem d8:az prog 47 [T,B] (.aD [.st 106 [.int .i64 1,.int .i64 2],.str [51,54,48,48],.int .i64 0]):=gN.gU k1 jn k_
theorem d9:az prog 32 [T,B] (.aD [.bF false [.st 106 [.int .i64 1,.int .i64 2]],.int .i64 0]):=gN.gU k1 jn k_
theorem d10:az prog 48 [T,.str [102,111,111,116],.str [116,114,105,97,110,103,108,101],.st 106 [.int .i64 2,.int .i64 0]] (.aD [.bF false [.st 81 [.str [49,53,48,48],.str [53,48,48]],.st 81 [.str [51,49,48,53,47,50],.str [52,55,48]],.st 81 [.str [51,49,48,53,47,50],.str [53,51,48]]],.int .i64 0]):=gN.gU k1 jn k_
theorem d11:az prog 29 [T,.st 65 [.bool true,.int .i64 0,.st 63 [.int .i64 0,.int .i64 0]]] (.aD [.st 35 [.bF false [.st 63 [.int .i64 0,.int .i64 0],.st 63 [.int .i64 0,.int .i64 1000],.st 63 [.int .i64 (-2000),.int .i64 1000],.st 63 [.int .i64 (-2000),.int .i64 0]],.int .i64 30,.bF false [.st 87 [.str [97],.int .i64 3,.str [49,57,47,50,48],.str [49]],.st 87 [.str [98],.int .i64 1,.str [48],.str [49,47,50,48]]],.bF false [.st 84 [.str [102,111,111,116],.st 81 [.str [45,49,53,48,48],.str [53,48,48]]],.st 84 [.str [104,101,97,100],.st 81 [.str [45,53,48,48],.str [53,48,48]]]]],.int .i64 0]):=gN.gU k1 jn k_
theorem d12:az prog 49 [M] (.aD [.st 35 [.bF false [.st 63 [.int .i64 (-2000),.int .i64 0],.st 63 [.int .i64 0,.int .i64 0],.st 63 [.int .i64 0,.int .i64 1000],.st 63 [.int .i64 (-2000),.int .i64 1000]],.int .i64 30,.bF false [.st 87 [.str [97],.int .i64 0,.str [49,57,47,50,48],.str [49]],.st 87 [.str [98],.int .i64 2,.str [48],.str [49,47,50,48]]],.bF false [.st 84 [.str [102,111,111,116],.st 81 [.str [45,49,53,48,48],.str [53,48,48]]],.st 84 [.str [104,101,97,100],.st 81 [.str [45,53,48,48],.str [53,48,48]]]]],.int .i64 0]):=gN.gU k1 jn k_
theorem d13:az prog 30 [T,B,.st 65 [.bool false,.int .i64 1,.st 63 [.int .i64 0,.int .i64 0]]] (.aD [.bF false [.st 84 [.str [99,117,101],.st 81 [.str [45,53,48,48],.str [53,48,48]]],.st 84 [.str [111,110,101],.st 81 [.str [45,53,48,48],.str [49,53,48,48]]],.st 84 [.str [116,119,111],.st 81 [.str [45,53,48,48],.str [49,53,54,48]]]],.int .i64 0]):=gN.gU k1 jn k_
theorem d14:az prog 10 [T] (.aD [.str [114,97,100,105,117,115,32,51,48,10,99,111,114,110,101,114,32,48,32,48,10,99,111,114,110,101,114,32,50,48,48,48,32,48,10,99,111,114,110,101,114,32,50,48,48,48,32,49,48,48,48,10,99,111,114,110,101,114,32,48,32,49,48,48,48,10,112,111,99,107,101,116,32,97,32,48,32,48,32,49,47,50,48,10,112,111,99,107,101,116,32,98,32,50,32,49,57,47,50,48,32,49,10,115,112,111,116,32,102,111,111,116,32,49,53,48,48,32,53,48,48,10,115,112,111,116,32,104,101,97,100,32,53,48,48,32,53,48,48,10],.int .i64 0]):=gN.gU k1 jn k_
theorem d15:az prog 12 [.str [114,97,100,105,117,115,32,51,48,10,115,112,111,116,32,97,32,48,10]] (.aD [.st 35 [.aH,.int .i64 0,.aH,.aH],.int .i64 2,.int .i64 25]):=gN.gU k1 jn k_
theorem d16:az prog 19 [T,B1] (.aD [.str [98,97,108,108,32,99,117,101,32,53,48,48,32,53,48,48,10],.int .i64 0]):=gN.gU k1 jn k_
def k2:List (a6×List PV×PV):=[(31,[T],.aD [.str [50,48,48,48,48,48,48],.int .i64 0]),(36,[T,.int .i64 0,.str [49,47,52]],.aD [.st 81 [.str [53,48,48],.str [48]],.int .i64 0]),(42,[T,.st 81 [.str [50,48,48,48],.str [48]]],.aD [.int .i64 0,.str [49],.int .i64 0]),(44,[T,.int .i64 0,.str [49,47,50,48]],.aD [.str [97],.int .i64 0]),(44,[T,.int .i64 0,.str [49,47,49,48]],.aD [.str [],.int .i64 7]),(45,[T,B,.st 81 [.str [49,52,52,48],.str [53,48,48]]],.aD [.bool true,.int .i64 0]),(45,[T,B,.st 81 [.str [49,52,53,48],.str [53,48,48]]],.aD [.bool false,.int .i64 0]),(46,[T,B,.str [102,111,111,116],.st 81 [.str [49,48],.str [48]]],.aD [.st 81 [.str [49,54,50,48],.str [53,48,48]],.int .i64 0]),(47,[T,B],.aD [.st 106 [.int .i64 1,.int .i64 2],.str [51,54,48,48],.int .i64 0]),(32,[T,B],.aD [.bF false [.st 106 [.int .i64 1,.int .i64 2]],.int .i64 0]),(48,[T,.str [102,111,111,116],.str [116,114,105,97,110,103,108,101],.st 106 [.int .i64 2,.int .i64 0]],.aD [.bF false [.st 81 [.str [49,53,48,48],.str [53,48,48]],.st 81 [.str [51,49,48,53,47,50],.str [52,55,48]],.st 81 [.str [51,49,48,53,47,50],.str [53,51,48]]],.int .i64 0]),(29,[T,.st 65 [.bool true,.int .i64 0,.st 63 [.int .i64 0,.int .i64 0]]],.aD [.st 35 [.bF false [.st 63 [.int .i64 0,.int .i64 0],.st 63 [.int .i64 0,.int .i64 1000],.st 63 [.int .i64 (-2000),.int .i64 1000],.st 63 [.int .i64 (-2000),.int .i64 0]],.int .i64 30,.bF false [.st 87 [.str [97],.int .i64 3,.str [49,57,47,50,48],.str [49]],.st 87 [.str [98],.int .i64 1,.str [48],.str [49,47,50,48]]],.bF false [.st 84 [.str [102,111,111,116],.st 81 [.str [45,49,53,48,48],.str [53,48,48]]],.st 84 [.str [104,101,97,100],.st 81 [.str [45,53,48,48],.str [53,48,48]]]]],.int .i64 0]),(49,[M],.aD [.st 35 [.bF false [.st 63 [.int .i64 (-2000),.int .i64 0],.st 63 [.int .i64 0,.int .i64 0],.st 63 [.int .i64 0,.int .i64 1000],.st 63 [.int .i64 (-2000),.int .i64 1000]],.int .i64 30,.bF false [.st 87 [.str [97],.int .i64 0,.str [49,57,47,50,48],.str [49]],.st 87 [.str [98],.int .i64 2,.str [48],.str [49,47,50,48]]],.bF false [.st 84 [.str [102,111,111,116],.st 81 [.str [45,49,53,48,48],.str [53,48,48]]],.st 84 [.str [104,101,97,100],.st 81 [.str [45,53,48,48],.str [53,48,48]]]]],.int .i64 0]),(30,[T,B,.st 65 [.bool false,.int .i64 1,.st 63 [.int .i64 0,.int .i64 0]]],.aD [.bF false [.st 84 [.str [99,117,101],.st 81 [.str [45,53,48,48],.str [53,48,48]]],.st 84 [.str [111,110,101],.st 81 [.str [45,53,48,48],.str [49,53,48,48]]],.st 84 [.str [116,119,111],.st 81 [.str [45,53,48,48],.str [49,53,54,48]]]],.int .i64 0]),(10,[T],.aD [.str [114,97,100,105,117,115,32,51,48,10,99,111,114,110,101,114,32,48,32,48,10,99,111,114,110,101,114,32,50,48,48,48,32,48,10,99,111,114,110,101,114,32,50,48,48,48,32,49,48,48,48,10,99,111,114,110,101,114,32,48,32,49,48,48,48,10,112,111,99,107,101,116,32,97,32,48,32,48,32,49,47,50,48,10,112,111,99,107,101,116,32,98,32,50,32,49,57,47,50,48,32,49,10,115,112,111,116,32,102,111,111,116,32,49,53,48,48,32,53,48,48,10,115,112,111,116,32,104,101,97,100,32,53,48,48,32,53,48,48,10],.int .i64 0]),(12,[.str [114,97,100,105,117,115,32,51,48,10,115,112,111,116,32,97,32,48,10]],.aD [.st 35 [.aH,.int .i64 0,.aH,.aH],.int .i64 2,.int .i64 25]),(19,[T,B1],.aD [.str [98,97,108,108,32,99,117,101,32,53,48,48,32,53,48,48,10],.int .i64 0])]++k1
theorem aOq:Hk.mz k2:=Hk.D0 (l:=[(31,[T],.aD [.str [50,48,48,48,48,48,48],.int .i64 0]),(36,[T,.int .i64 0,.str [49,47,52]],.aD [.st 81 [.str [53,48,48],.str [48]],.int .i64 0]),(42,[T,.st 81 [.str [50,48,48,48],.str [48]]],.aD [.int .i64 0,.str [49],.int .i64 0]),(44,[T,.int .i64 0,.str [49,47,50,48]],.aD [.str [97],.int .i64 0]),(44,[T,.int .i64 0,.str [49,47,49,48]],.aD [.str [],.int .i64 7]),(45,[T,B,.st 81 [.str [49,52,52,48],.str [53,48,48]]],.aD [.bool true,.int .i64 0]),(45,[T,B,.st 81 [.str [49,52,53,48],.str [53,48,48]]],.aD [.bool false,.int .i64 0]),(46,[T,B,.str [102,111,111,116],.st 81 [.str [49,48],.str [48]]],.aD [.st 81 [.str [49,54,50,48],.str [53,48,48]],.int .i64 0]),(47,[T,B],.aD [.st 106 [.int .i64 1,.int .i64 2],.str [51,54,48,48],.int .i64 0]),(32,[T,B],.aD [.bF false [.st 106 [.int .i64 1,.int .i64 2]],.int .i64 0]),(48,[T,.str [102,111,111,116],.str [116,114,105,97,110,103,108,101],.st 106 [.int .i64 2,.int .i64 0]],.aD [.bF false [.st 81 [.str [49,53,48,48],.str [53,48,48]],.st 81 [.str [51,49,48,53,47,50],.str [52,55,48]],.st 81 [.str [51,49,48,53,47,50],.str [53,51,48]]],.int .i64 0]),(29,[T,.st 65 [.bool true,.int .i64 0,.st 63 [.int .i64 0,.int .i64 0]]],.aD [.st 35 [.bF false [.st 63 [.int .i64 0,.int .i64 0],.st 63 [.int .i64 0,.int .i64 1000],.st 63 [.int .i64 (-2000),.int .i64 1000],.st 63 [.int .i64 (-2000),.int .i64 0]],.int .i64 30,.bF false [.st 87 [.str [97],.int .i64 3,.str [49,57,47,50,48],.str [49]],.st 87 [.str [98],.int .i64 1,.str [48],.str [49,47,50,48]]],.bF false [.st 84 [.str [102,111,111,116],.st 81 [.str [45,49,53,48,48],.str [53,48,48]]],.st 84 [.str [104,101,97,100],.st 81 [.str [45,53,48,48],.str [53,48,48]]]]],.int .i64 0]),(49,[M],.aD [.st 35 [.bF false [.st 63 [.int .i64 (-2000),.int .i64 0],.st 63 [.int .i64 0,.int .i64 0],.st 63 [.int .i64 0,.int .i64 1000],.st 63 [.int .i64 (-2000),.int .i64 1000]],.int .i64 30,.bF false [.st 87 [.str [97],.int .i64 0,.str [49,57,47,50,48],.str [49]],.st 87 [.str [98],.int .i64 2,.str [48],.str [49,47,50,48]]],.bF false [.st 84 [.str [102,111,111,116],.st 81 [.str [45,49,53,48,48],.str [53,48,48]]],.st 84 [.str [104,101,97,100],.st 81 [.str [45,53,48,48],.str [53,48,48]]]]],.int .i64 0]),(30,[T,B,.st 65 [.bool false,.int .i64 1,.st 63 [.int .i64 0,.int .i64 0]]],.aD [.bF false [.st 84 [.str [99,117,101],.st 81 [.str [45,53,48,48],.str [53,48,48]]],.st 84 [.str [111,110,101],.st 81 [.str [45,53,48,48],.str [49,53,48,48]]],.st 84 [.str [116,119,111],.st 81 [.str [45,53,48,48],.str [49,53,54,48]]]],.int .i64 0]),(10,[T],.aD [.str [114,97,100,105,117,115,32,51,48,10,99,111,114,110,101,114,32,48,32,48,10,99,111,114,110,101,114,32,50,48,48,48,32,48,10,99,111,114,110,101,114,32,50,48,48,48,32,49,48,48,48,10,99,111,114,110,101,114,32,48,32,49,48,48,48,10,112,111,99,107,101,116,32,97,32,48,32,48,32,49,47,50,48,10,112,111,99,107,101,116,32,98,32,50,32,49,57,47,50,48,32,49,10,115,112,111,116,32,102,111,111,116,32,49,53,48,48,32,53,48,48,10,115,112,111,116,32,104,101,97,100,32,53,48,48,32,53,48,48,10],.int .i64 0]),(12,[.str [114,97,100,105,117,115,32,51,48,10,115,112,111,116,32,97,32,48,10]],.aD [.st 35 [.aH,.int .i64 0,.aH,.aH],.int .i64 2,.int .i64 25]),(19,[T,B1],.aD [.str [98,97,108,108,32,99,117,101,32,53,48,48,32,53,48,48,10],.int .i64 0])]) ⟨d0,d1,d2,d3,d4,d5,d6,d7,d8,d9,d10,d11,d12,d13,d14,d15,d16,trivial⟩ jn
end CI
theorem W6:az prog 9 [] (.bool true):=gN.gU CI.k2 CI.aOq k_
theorem WT(v:NV)(m:aQ)(f:bP 1800 v.q):az prog 130 [dQ v,.int .i64 m.qs] (dQ (gC v m.n)):=by
 obtain⟨o,r,j,s⟩:=m.rK;have k:bl.wrap (m.qs.tmod 4+4)=m.qs.tmod 4+4:=aK _ o_ o_;generalize m.n=q at*;generalize m.qs=qs at*;refine aJ nf (i_ func130) mix (by simp[f130]) ?_;simp[f130,k,j,aa];refine lp (α:=Nat) (fun i=>⟨[(9,.p (.int .i64 i)),(8,.p (.int .i64 q)),(4,.ptr 1 []),(2,.ptr 0 [])],[.box false (.p (dQ (gC v i))),.box false (.p Hn)]⟩) (fun i=>i<=q) (fun i=>q-i) 0 s_ ?_ (hh:=by simp[Hn,ze,gC]);intro i l
 by_cases hi:i<q
 ·have g:=bS (i:=i) o_;have h:=BD (gC v i).y ((Dh f i).2.mono (by decide));have d:dQ (gC v (i+1))=.st 166 [eF (gC v i).y.neg,eF (gC v i).x]:=rfl;have e:dQ (gC v i)=.st 166 [eF (gC v i).x,eF (gC v i).y]:=rfl;generalize (gC v i).y.neg=a at*;generalize (gC v i).x=b at*;generalize (gC v i).y=c at*;rw[e];simp[hi,aa];refine e1_ h ?_;simp[g,aa];refine⟨by repeat' first|rfl|apply ao,?_⟩;exact rd (i+1) hi (hh:=by simp[d])
 ·obtain rfl:i=q:=by omega
  simp[aa]
theorem Wc(v:V2)(m:aQ)(h:bP 1800 v):az prog 113 [eV v,.int .i64 m.qs] (eV (dM v m.n)):=by
 obtain⟨o,r,d,s⟩:=m.rK;have e:bl.wrap (m.qs.tmod 4+4)=m.qs.tmod 4+4:=aK _ o_ o_;generalize m.n=q at*;generalize m.qs=qs at*;refine aJ nf (i_ func113) mix (by simp[f113]) ?_;simp[f113,aa];refine lp (α:=Nat) (fun i=>⟨[(5,.p (.int .i64 i)),(4,.ptr 1 []),(2,.ptr 0 []),(1,.p (.int .i64 qs))],[.box false (.p (eV (dM v i))),.box false (.p wE)]⟩) (fun i=>i<=q) (fun i=>q-i) 0 s_ ?_ (hh:=by simp[wE,dM]);intro i l
 by_cases hi:i<q
 ·have j:=bS (i:=i) o_;have k:=F6 (dM v i).y ((uo h i).2.mono (by decide));have f:eV (dM v (i+1))=.st 81 [.str (bg (-(dM v i).y)),.str (bg (dM v i).x)]:=rfl;have g:eV (dM v i)=.st 81 [.str (bg (dM v i).x),.str (bg (dM v i).y)]:=rfl;generalize bg (-(dM v i).y)=a at*;generalize bg (dM v i).x=b at*;generalize bg (dM v i).y=c at*;rw[g];simp[hi,e,d,aa];refine e1_ k ?_;simp[j,aa];refine⟨by repeat' first|rfl|apply ao,?_⟩;exact rd (i+1) hi (hh:=by simp[f])
 ·obtain rfl:i=q:=by omega
  simp[e,d,aa]
def aQ.gw(m:aQ)(v:V2):V2:=if m.fV then⟨-v.x,v.y⟩else v
def aQ.ow(m:aQ)(v:NV):NV:=if m.fV then⟨v.x.neg,v.y⟩else v
def aQ.pl(m:aQ)(v:V2):V2:=(dM (m.gw v) m.n).add (dU m.cw)
def aQ.vec(m:aQ)(v:NV):NV:=(gC (m.ow v) m.n).add (dB m.cw)
theorem KL(m:aQ)(v:NV):(m.ow v).q=m.gw v.q:=by
 rw[aQ.ow,aQ.gw];split<;>rfl
theorem aQ.zJ(m:aQ)(v:NV):(m.vec v).q=m.pl v.q:=by
 rw[aQ.vec,aQ.pl,<-zM,<-KL,<-KE];rfl
theorem wR{m:aQ}{v:V2}{k:Nat}(h:bP k v):bP k (m.gw v):=by
 rw[aQ.gw];split
 ·exact⟨vg h.1,h.2⟩
 ·exact h
theorem nG{m:aQ}{v:V2}{k:Nat}(h:bP k v)(a:bV m.cw):bP (k+15) (m.pl v):=Hu (uo (wR h) m.n) (kx a)
theorem WU(m:aQ)(v:V2)(b:bP 1500 v)(c:bV m.cw):az prog 37 [di m,eV v] (eV (m.pl v)):=by
 have k1:=F6 v.x (b.1.mono (by decide));have k2:=Wc (m.gw v) m ((wR b).mono (by decide));have k3:=CQ m.cw c;have k4:=aAK (dM (m.gw v) m.n) (dU m.cw) ((uo (wR b) m.n).mono (by decide)) ((kx c).mono (by decide));rw[show(dM (m.gw v) m.n).add (dU m.cw)=m.pl v from rfl]at k4;have a:m.gw v=if m.fV=true then⟨-v.x,v.y⟩else v:=rfl
 generalize m.pl v=Z at*;generalize dM (m.gw v) m.n=Y at*;generalize m.gw v=X at*;generalize dU m.cw=W at*;obtain⟨d,qs,cw⟩:=m;obtain⟨e,f⟩:=v;refine aJ nf (i_ func37) mix (by simp[f37]) ?_;cases d
 ·simp only[ax,if_false]at a;subst a;simp only[vt]at*;simp[f37,di,aa];refine e2_ k2 ?_;simp[aa];refine e1_ k3 ?_;simp[aa];refine e2_ k4 ?_;simp[aa]
 ·simp only[if_true]at a;subst a;simp only[vt]at*;simp[f37,di,aa];refine c1_ k1 ?_;simp[aa];refine e2_ k2 ?_;simp[aa];refine e1_ k3 ?_;simp[aa];refine e2_ k4 ?_;simp[aa]
theorem Jo(m:aQ)(v:NV)(c:bP 1500 v.q)(d:bV m.cw):az prog 89 [di m,dQ v] (dQ (m.vec v)):=by
 have k1:=BD v.x (c.1.mono (by decide));have b:bP 1500 (m.ow v).q:=by rw[KL];exact wR c
 have k2:=WT (m.ow v) m (b.mono (by decide));have k3:=CN m.cw d;have k4:=JS (gC (m.ow v) m.n) (dB m.cw) ((Dh b m.n).mono (by decide)) ((kx d).mono (by decide));rw[show(gC (m.ow v) m.n).add (dB m.cw)=m.vec v from rfl]at k4;have a:m.ow v=if m.fV=true then⟨v.x.neg,v.y⟩else v:=rfl
 generalize m.vec v=Z at*;generalize gC (m.ow v) m.n=Y at*;generalize m.ow v=X at*;generalize dB m.cw=W at*;obtain⟨e,qs,cw⟩:=m;obtain⟨f,g⟩:=v;refine aJ nf (i_ func89) mix (by simp[f89]) ?_;cases e
 ·simp only[ax,if_false]at a;subst a;simp[f89,di,aa];refine e2_ k2 ?_;simp[aa];refine e1_ k3 ?_;simp[aa];refine e2_ k4 ?_;simp[aa]
 ·simp only[if_true]at a;subst a;simp only[rS]at*;simp[f89,di,aa];refine c1_ k1 ?_;simp[aa];refine e2_ k2 ?_;simp[aa];refine e1_ k3 ?_;simp[aa];refine e2_ k4 ?_;simp[aa]
theorem KM(s:List Nat)(h:bK s=0)(hs:gn s)(a:bE 133 (aI s)):az prog 86 [.str s] (.aD [.str (bg (1-aI s)),.int .i64 0]):=by
 have b:bE 1 (NF.int 1).q:=⟨by decide,by decide⟩
 have k1:=ry 1 (by decide) (by decide);have k2:=kL s h hs.1;have k3:=yo (.int 1) ⟨aI s,false⟩ (b.mono (by decide)) (a.mono (by decide));have k4:=Lo ((NF.int 1).sub ⟨aI s,false⟩) ((aO7 b (show bE 133 (⟨aI s,false⟩:NF).q from a)).mono (by decide));rw[NF.jF,show(NF.int 1).q-(⟨aI s,false⟩:NF).q=1-aI s from rfl]at k4;generalize (NF.int 1).sub ⟨aI s,false⟩=D at*;generalize NF.int 1=O at*;generalize (⟨aI s,false⟩:NF)=S at*;refine aJ nf (i_ func86) mix (by simp[f86]) ?_;simp[f86,aa];refine c1_ k1 ?_;simp[aa];refine c1_ k2 ?_;simp[aa];refine c2_ k3 ?_;simp[aa];refine c1_ k4 ?_;simp[aa]
def gR(t:aj)(m:aQ):Int:=if dd m.cw=true then 3 else if t.cs.any (fun p=>dd (m.pt p))=true then 3 else 0
theorem Wb(m:aQ)(p:bU)(a:bV p)(c:bV m.cw):b8 prog 171 [.box false (.p (di m))] [.p (aG p),.ptr 0 []] [.box false (.p (di m))] (.p (.bool (dd (m.pt p)))):=by
 have k1:=Jm m p a c;have k2:=DD (m.pt p);generalize dd (m.pt p)=b at*;generalize m.pt p=q at*;refine dS nf (i_ func171) mix (by simp[f171]) ?_;simp[f171,aa];refine c2_ k1 ?_;simp[aa];refine c1_ k2 ?_;simp[aa];exact cW.og s_ s_ s_ s_ s_
theorem V4(m:aQ)(l:List bU)(h:l.length<=1000000)(b:bV m.cw)(a:∀p∈l,bV p):
 b8 prog 214 [.box false (.p (di m))] [.p (.seq (l.map aG)),.func 171 [] [.ptr 0 []]] [.box false (.p (di m))] (.p (.int .i64 (idxFrom (fun p=>dd (m.pt p)) l 0))):=by
 refine dS nf (i_ func214) mix (by simp[f214]) ?_;simp[f214];refine lp (α:=Nat) (fun i=>⟨[(8,.p (.int .i64 i)),(7,.p (.int .i64 l.length)),(1,.func 171 [] [.ptr 0 []]),(0,.p (.seq (l.map aG)))],[.box false (.p (di m))]⟩) (fun i=>i<=l.length/\idxFrom (fun p=>dd (m.pt p)) l 0=idxFrom (fun p=>dd (m.pt p)) (l.drop i) i) (fun i=>l.length-i) 0 s_ ?_;rintro i ⟨k1,k2⟩;have c:=bS (i:=i) o_
 by_cases hi:i<l.length
 ·rw[cc hi,idxFrom]at k2;simp[hi];refine cf (Wb m l[i] (a _ (ei hi)) b) [0] ?_
  by_cases hk:dd (m.pt l[i])=true
  ·simp[hk]at k2;simp[hk,k2,ba]
  ·simp[hk]at k2;simp[hk,c,ba];exact rd (i+1) ⟨hi,k2⟩
 ·have:i=l.length:=by omega
  subst this;simp[idxFrom]at k2;simp[k2]
theorem VW(m:aQ)(l:List bU)(h:l.length<=1000000)(b:bV m.cw)(a:∀p∈l,bV p):
 b8 prog 131 [.box false (.p (di m))] [.p (.seq (l.map aG)),.func 171 [] [.ptr 0 []]] [.box false (.p (di m))] (.p (.bool (l.any (fun p=>dd (m.pt p))))):=by
 refine dS nf (i_ func131) mix (by simp[f131]) ?_;simp[f131];refine cf (V4 m l h b a) [0] ?_;have:=pW (fun p=>dd (m.pt p)) l 0;simp[ba,<-this]
theorem Jn(t:aj)(m:aQ)(hl:t.cs.length<=1000000)(c:∀p∈t.cs,bV p):az prog 78 [di m,bJ t] (.int .i64 (gR t m)):=by
 have k1:=DD m.cw;rw[gR]
 by_cases hf:dd m.cw=true
 ·rw[hf]at k1;rw[if_pos hf];refine aJ nf (i_ func78) mix (by simp[f78]) ?_;simp[f78,aa];refine c1_ k1 ?_;simp[aa]
 have a:dd m.cw=false:=by simpa using hf
 rw[a]at k1;have k2:=VW m t.cs hl (rQ a) c;have k3:=iS (t.cs.any (fun p=>dd (m.pt p))) 3;rw[if_neg hf];rw[bh]at k3;generalize t.cs.any (fun p=>dd (m.pt p))=b at*;refine aJ nf (i_ func78) mix (by simp[f78]) ?_;simp[f78,aa];refine c1_ k1 ?_;simp[aa];refine cf k2 [0] ?_;simp[aa,ba];refine c2_ k3 ?_;simp[aa]
theorem V0(t:aj)(m:aQ)(hl:t.cs.length<=1000000)(k:∀p∈t.cs,bV p):az prog 28 [cg t,di m] (.int .i64 (gR t m)):=by
 have k1:=DE m.cw;rw[gR]
 by_cases hf:dd m.cw=true
 ·rw[hf]at k1;rw[if_pos hf];refine aJ nf (i_ func28) mix (by simp[f28]) ?_;simp[f28,aa];refine c1_ k1 ?_;simp[aa]
 have g:dd m.cw=false:=by simpa using hf
 rw[g]at k1;rw[if_neg hf];have j:∀p∈t.cs,az prog 77 [di m,aG p] (aG (m.pt p)):=fun p l=>Wg m p (k p l) (rQ g);generalize c:(if t.cs.any (fun p=>dd (m.pt p))=true then(3:Int)else 0)=R;refine aJ nf (i_ func28) mix (by simp[f28]) ?_;simp[f28,aa];refine c1_ k1 ?_;simp[aa];refine lp (α:=Nat) (fun i=>⟨[(5,.p (.int .i64 i)),(3,.ptr 1 []),(2,.ptr 0 [])],[.box false (.p (cg t)),.box false (.p (di m))]⟩) (fun i=>i<=t.cs.length/\(t.cs.take i).any (fun p=>dd (m.pt p))=false) (fun i=>t.cs.length-i) 0 s_ ?_;rintro i ⟨o,e⟩
 by_cases hi:i<t.cs.length
 ·have b:=aj.get hi;have h:=b4 b;have f:=j _ h;have a:=DE (m.pt (t.at i));have n:=bS (i:=i) o_;rcases d:dd (m.pt (t.at i))with _|_
  ·rw[d]at a;simp[hi,b,aa];refine e2_ f ?_;simp[aa];refine e1_ a ?_;simp[n,aa];exact rd (i+1) ⟨hi,by rw[cy,b,List.any_append,e];simp[d]⟩
  ·rw[d]at a;have:t.cs.any (fun p=>dd (m.pt p))=true:=c9.2 ⟨_,h,d⟩;rw[if_pos this]at c;subst c;simp[hi,b,aa];refine e2_ f ?_;simp[aa];refine e1_ a ?_;simp[aa]
 ·obtain rfl:i=t.cs.length:=by omega
  rw[cr]at e;rw[if_neg (by rw[e];simp)]at c;subst c;simp[aa]
theorem zG{N:Nat×Nat->Prop}{α β:Type}{f:β->PV}{g:α->β}{k:Nat}{l:List α}:aV N ((l.map ((AV.p∘f)∘g)).take k)=True:=by
 have:=fo (N:=N) (f:=f∘g) (k:=k) (l:=l);exact this
def aQ.sp(m:aQ)(s:bR):bR:=⟨s.name,lX (m.pl (vP s.pt))⟩
def gB(n:Nat)(p:bZ):bZ:=⟨p.name,n-1-p.bH,bg (1-aI p.b),bg (1-aI p.a)⟩
theorem aK0(m:aQ)(p:bU)(a:bV p)(b:bV m.cw):b8 prog 80 [.box false (.p (di m))] [.p (aG p),.ptr 0 []] [.box false (.p (di m))] (.p (.aD [aG (m.pt p),.int .i64 0])):=by
 have k1:=Jm m p a b;generalize m.pt p=q at*;refine dS nf (i_ func80) mix (by simp[f80]) ?_;simp[f80,aa];refine c2_ k1 ?_;simp[aa];exact cW.og s_ s_ s_ s_ s_
theorem aK2(m:aQ)(s:bR)(hs:kX s)(hc:df s.pt=0)(a:bP 133 (vP s.pt))(b:bV m.cw):b8 prog 88 [.box false (.p (di m))] [.p (aR s),.ptr 0 []] [.box false (.p (di m))] (.p (.aD [aR (m.sp s),.int .i64 0])):=by
 have k1:=sc s.pt (iY hc).1 (iY hc).2 hs.2;have k2:=Jo m (.from s.pt) (show bP 1500 (NV.from s.pt).q from a.mono (by decide)) b;have c:bP 148 (m.vec (.from s.pt)).q:=by rw[aQ.zJ];exact nG a b
 have k3:=C9 (m.vec (.from s.pt)) (c.mono (by decide));rw[aQ.zJ,mu,uc]at k3;rw[aQ.sp];generalize m.vec (.from s.pt)=V at*;generalize lX (m.pl (vP s.pt))=P at*;generalize NV.from s.pt=W at*;obtain⟨name,pt⟩:=s;refine dS nf (i_ func88) mix (by simp[f88]) ?_;simp[f88,aR,aa];refine e1_ k1 ?_;simp[aa];refine e2_ k2 ?_;simp[aa];refine e1_ k3 ?_;simp[aa];refine⟨by repeat' first|rfl|apply ao,?_⟩;exact cW.og s_ s_ s_ s_ s_
theorem aKZ(m:aQ)(s:bR)(hs:kX s)(hc:df s.pt=0)(a:bP 133 (vP s.pt))(b:bV m.cw):b8 prog 93 [.box false (.p (di m))] [.p (aR s),.ptr 0 []] [.box false (.p (di m))] (.p (.aD [aR (m.sp s),.int .i64 0])):=by
 have k1:=sc s.pt (iY hc).1 (iY hc).2 hs.2;have k2:=Jo m (.from s.pt) (show bP 1500 (NV.from s.pt).q from a.mono (by decide)) b;have c:bP 148 (m.vec (.from s.pt)).q:=by rw[aQ.zJ];exact nG a b
 have k3:=C9 (m.vec (.from s.pt)) (c.mono (by decide));rw[aQ.zJ,mu,uc]at k3;rw[aQ.sp];generalize m.vec (.from s.pt)=V at*;generalize lX (m.pl (vP s.pt))=P at*;generalize NV.from s.pt=W at*;obtain⟨name,pt⟩:=s;refine dS nf (i_ func93) mix (by simp[f93]) ?_;simp[f93,aR,aa];refine e1_ k1 ?_;simp[aa];refine e2_ k2 ?_;simp[aa];refine e1_ k3 ?_;simp[aa];refine⟨by repeat' first|rfl|apply ao,?_⟩;exact cW.og s_ s_ s_ s_ s_
theorem aK1(n:Nat)(cs:List bU)(p:bZ)(s:1<=n)(t:n<=1000)(j:0<=p.bH)(k:p.bH<n)(c:cs.length=n)(g:bK p.a=0)(i:bK p.b=0)(q:gn p.a)(r:gn p.b)(m:bE 133 (aI p.a))(o:bE 133 (aI p.b)):
 b8 prog 85 [.box false (.sl 1 n 2 0 n),.arr .grow n 2 (cs.map (AV.p∘aG))] [.p (bn p),.ptr 0 []] [.box false (.sl 1 n 2 0 n),.arr .grow n 2 (cs.map (AV.p∘aG))] (.p (.aD [bn (gB n p),.int .i64 0])):=by
 have k1:=KM p.b i r o;have k2:=KM p.a g q m;obtain⟨name,e,a,b⟩:=p;have k3:=nE [0,0] s_;simp only[cx,dz]at k3;rw[show bQ [0,0]=0 from rfl]at k3;simp only at j k;have d:bl.wrap ((n:Int)-1)=(n:Int)-1:=aK _ o_ o_;have f:bl.wrap ((n:Int)-1-e)=(n:Int)-1-e:=aK _ o_ o_;have l:cs≠[]:=by intro h;rw[h]at c;simp at c;omega
 rw[gB];dsimp only at*;generalize bg (1-aI b)=v at*;generalize bg (1-aI a)=u at*;refine dS nf (i_ func85) mix (by simp[f85]) ?_;simp[f85,bn,aa];refine c1_ k1 ?_;simp[aa];refine c1_ k2 ?_;simp[aa,l,c,d,f];refine ep k3 (by simp;first|exact⟨rfl,rfl⟩|rfl) (by simp;first|exact⟨rfl,rfl⟩|rfl) ?_;simp[aa,d,f];refine⟨by rfl,?_⟩;exact cW.og s_ s_ s_ s_ s_
theorem aLa(m:aQ)(l:List bU)(h:l.length<=1000000)(g:bV m.cw)(d:∀p∈l,bV p):b8 prog 79 [.box false (.p (di m))] [.p (.seq (l.map aG)),.func 80 [] [.ptr 0 []]] [.box false (.p (di m)),.arr .grow l.length 2 ((l.map m.pt).map (AV.p∘aG))] (.aD [.sl 1 l.length 2 0 l.length,.p (.int .i64 0)]):=by
 have j:(1000000:Nat)<cJ:=by decide
 have k:bl.wrap 1=1:=by decide
 refine dS nf (i_ func79) mix (by simp[f79]) ?_;simp[f79,aa];refine lp (α:=Nat) (fun i=>⟨[(13,.p (.int .i64 i)),(12,.p (.int .i64 l.length)),(11,.p (.seq (l.map aG))),(6,.sl 1 i 2 0 i),(1,.func 80 [] [.ptr 0 []])],[.box false (.p (di m)),.arr .grow i 2 (((l.map m.pt).map (AV.p∘aG)).take i)]⟩) (fun i=>i<=l.length) (fun i=>l.length-i) 0 s_ ?_;rintro i i1
 by_cases hi:i<l.length
 ·obtain⟨x,a⟩:∃x,l[i]?=some x:=⟨_,b5 hi⟩
  have hx:l[i]=x:=by rw[b5 hi]at a;injection a
  have b:=aK0 m x (d x (b4 a)) g;have f:=bS (i:=i) o_;have e:(l.map ((AV.p∘aG)∘m.pt)).take (i+1)=(l.map ((AV.p∘aG)∘m.pt)).take i++[.p (aG (m.pt x))]:=by
   rw[cy,c6,a];rfl
  have c:min i l.length=i:=o_
  generalize hy:m.pt x=y at*;simp[hi,a,hx,aa];refine cf b [0] ?_;simp[ba,sig,f,c,aa,iv];exact⟨o_,rd (i+1) hi (hh:=by simp[e]) (hr2:=by simp[zG])⟩
 ·have:i=l.length:=by omega
  subst this;simp[aa]
theorem aLb(m:aQ)(l:List bR)(h:l.length<=1000000)(g:bV m.cw)(b:∀s∈l,kX s/\df s.pt=0/\bP 133 (vP s.pt)):b8 prog 87 [.box false (.p (di m))] [.p (.seq (l.map aR)),.func 88 [] [.ptr 0 []]] [.box false (.p (di m)),.arr .grow l.length 3 ((l.map m.sp).map (AV.p∘aR))] (.aD [.sl 1 l.length 3 0 l.length,.p (.int .i64 0)]):=by
 have j:(1000000:Nat)<cJ:=by decide
 have k:bl.wrap 1=1:=by decide
 refine dS nf (i_ func87) mix (by simp[f87]) ?_;simp[f87,aa];refine lp (α:=Nat) (fun i=>⟨[(13,.p (.int .i64 i)),(12,.p (.int .i64 l.length)),(11,.p (.seq (l.map aR))),(6,.sl 1 i 3 0 i),(1,.func 88 [] [.ptr 0 []])],[.box false (.p (di m)),.arr .grow i 3 (((l.map m.sp).map (AV.p∘aR)).take i)]⟩) (fun i=>i<=l.length) (fun i=>l.length-i) 0 s_ ?_;rintro i i1
 by_cases hi:i<l.length
 ·obtain⟨x,a⟩:∃x,l[i]?=some x:=⟨_,b5 hi⟩
  have hx:l[i]=x:=by rw[b5 hi]at a;injection a
  have c:=aK2 m x (b x (b4 a)).1 (b x (b4 a)).2.1 (b x (b4 a)).2.2 g;have f:=bS (i:=i) o_;have e:(l.map ((AV.p∘aR)∘m.sp)).take (i+1)=(l.map ((AV.p∘aR)∘m.sp)).take i++[.p (aR (m.sp x))]:=by
   rw[cy,c6,a];rfl
  have d:min i l.length=i:=o_
  generalize hy:m.sp x=y at*;simp[hi,a,hx,aa];refine cf c [0] ?_;simp[ba,sig,f,d,aa,iv];exact⟨o_,rd (i+1) hi (hh:=by simp[e]) (hr2:=by simp[zG])⟩
 ·have:i=l.length:=by omega
  subst this;simp[aa]
theorem aK8(m:aQ)(l:List bR)(h:l.length<=1000000)(g:bV m.cw)(b:∀s∈l,kX s/\df s.pt=0/\bP 133 (vP s.pt)):b8 prog 92 [.box false (.p (di m))] [.p (.seq (l.map aR)),.func 93 [] [.ptr 0 []]] [.box false (.p (di m)),.arr .grow l.length 3 ((l.map m.sp).map (AV.p∘aR))] (.aD [.sl 1 l.length 3 0 l.length,.p (.int .i64 0)]):=by
 have j:(1000000:Nat)<cJ:=by decide
 have k:bl.wrap 1=1:=by decide
 refine dS nf (i_ func92) mix (by simp[f92]) ?_;simp[f92,aa];refine lp (α:=Nat) (fun i=>⟨[(13,.p (.int .i64 i)),(12,.p (.int .i64 l.length)),(11,.p (.seq (l.map aR))),(6,.sl 1 i 3 0 i),(1,.func 93 [] [.ptr 0 []])],[.box false (.p (di m)),.arr .grow i 3 (((l.map m.sp).map (AV.p∘aR)).take i)]⟩) (fun i=>i<=l.length) (fun i=>l.length-i) 0 s_ ?_;rintro i i1
 by_cases hi:i<l.length
 ·obtain⟨x,a⟩:∃x,l[i]?=some x:=⟨_,b5 hi⟩
  have hx:l[i]=x:=by rw[b5 hi]at a;injection a
  have c:=aKZ m x (b x (b4 a)).1 (b x (b4 a)).2.1 (b x (b4 a)).2.2 g;have f:=bS (i:=i) o_;have e:(l.map ((AV.p∘aR)∘m.sp)).take (i+1)=(l.map ((AV.p∘aR)∘m.sp)).take i++[.p (aR (m.sp x))]:=by
   rw[cy,c6,a];rfl
  have d:min i l.length=i:=o_
  generalize hy:m.sp x=y at*;simp[hi,a,hx,aa];refine cf c [0] ?_;simp[ba,sig,f,d,aa,iv];exact⟨o_,rd (i+1) hi (hh:=by simp[e]) (hr2:=by simp[zG])⟩
 ·have:i=l.length:=by omega
  subst this;simp[aa]
theorem aK9(n:Nat)(cs:List bU)(l:List bZ)(h:l.length<=1000000)(g:1<=n)(j:n<=1000)(e:cs.length=n)(k:∀p∈l,0<=p.bH/\p.bH<n/\bK p.a=0/\bK p.b=0/\gn p.a/\gn p.b/\bE 133 (aI p.a)/\bE 133 (aI p.b)):b8 prog 84 [.box false (.sl 1 n 2 0 n),.arr .grow n 2 (cs.map (AV.p∘aG))] [.p (.seq (l.map bn)),.func 85 [] [.ptr 0 []]] [.box false (.sl 1 n 2 0 n),.arr .grow n 2 (cs.map (AV.p∘aG)),.arr .grow l.length 4 ((l.map (gB n)).map (AV.p∘bn))] (.aD [.sl 2 l.length 4 0 l.length,.p (.int .i64 0)]):=by
 have r:(1000000:Nat)<cJ:=by decide
 have s:bl.wrap 1=1:=by decide
 refine dS nf (i_ func84) mix (by simp[f84]) ?_;simp[f84,aa];refine lp (α:=Nat) (fun i=>⟨[(13,.p (.int .i64 i)),(12,.p (.int .i64 l.length)),(11,.p (.seq (l.map bn))),(6,.sl 2 i 4 0 i),(1,.func 85 [] [.ptr 0 []])],[.box false (.sl 1 n 2 0 n),.arr .grow n 2 (cs.map (AV.p∘aG)),.arr .grow i 4 (((l.map (gB n)).map (AV.p∘bn)).take i)]⟩) (fun i=>i<=l.length) (fun i=>l.length-i) 0 s_ ?_;rintro i i1
 by_cases hi:i<l.length
 ·obtain⟨x,c⟩:∃x,l[i]?=some x:=⟨_,b5 hi⟩
  have hx:l[i]=x:=by rw[b5 hi]at c;injection c
  have d:=(fun q=>aK1 n cs x g j q.1 q.2.1 e q.2.2.1 q.2.2.2.1 q.2.2.2.2.1 q.2.2.2.2.2.1 q.2.2.2.2.2.2.1 q.2.2.2.2.2.2.2) (k x (b4 c))
  have o:=bS (i:=i) o_;have m:(l.map ((AV.p∘bn)∘(gB n))).take (i+1)=(l.map ((AV.p∘bn)∘(gB n))).take i++[.p (bn ((gB n) x))]:=by
   rw[cy,c6,c];rfl
  have f:min i l.length=i:=o_
  generalize hy:(gB n) x=y at*;simp[hi,c,hx,aa];refine cf d [0,1] ?_;simp[ba,sig,o,f,aa,iv];exact⟨o_,rd (i+1) hi (hh:=by simp[m]) (hr2:=by simp[zG])⟩
 ·have:i=l.length:=by omega
  subst this;simp[aa]
theorem WV(l:List bZ)(h:l.length<=1000000):az prog 82 [.seq (l.map bn)] (.seq (l.map bn)):=by
 have b:(1000000:Nat)<cJ:=by decide
 cases l with
 |nil=>
  refine .inl (IV (pre:=[]) (post:=[]) ?_ ?_)
  ·refine yM nf (i_ func82) mix (by simp[f82]) ?_;simp[f82,dy,cU]
  ·refine yM nf (i_ func82) mix (by simp[f82]) ?_;simp[f82,cJ,dy,cU]
 |cons a r=>
  refine aJ nf (i_ func82) mix (by simp[f82]) ?_;simp at h;simp[f82,dy,cU];exact⟨vr (fun r=>⟨by simp[aa],by simp[aa]⟩) r,o_⟩
def yP(t b:aj)(m:aQ):Int:=if gJ t b=0 then gR t m else gJ t b
theorem rT{t:aj}{m:aQ}(h:gR t m=0):bV m.cw/\∀p∈t.cs,bV (m.pt p):=by
 rw[gR]at h
 split at h
 ·cases h
 rename_i a
 split at h
 ·cases h
 rename_i b;refine⟨rQ (by simpa using a),fun p c=>rQ ?_⟩;cases hq:dd (m.pt p)
 ·rfl
 ·exact absurd (c9.2 ⟨p,c,hq⟩) b
theorem We(t b:aj)(m:aQ)(f:gH t)(d:mc b)(g:∀s∈b.ag,df s.pt=0->bP 133 (vP s.pt)):
 az prog 30 [bJ t,.seq (b.ag.map aR),di m] (.aD [.seq (if yP t b m=0 then(b.ag.map m.sp).map aR else[]),.int .i64 (yP t b m)]):=by
 have k1:=IQ t b f d;rw[yP]
 by_cases a:gJ t b=0
 case neg=>
  rw[if_neg a,if_neg a];generalize gJ t b=L at*;refine aJ nf (i_ func30) mix (by simp[f30]) ?_;simp[f30,aa];refine c2_ k1 ?_;simp[a,aa]
 rw[if_pos a];rw[a]at k1;obtain⟨j,e⟩:=Jz d a;obtain⟨k,l,h,_⟩:=nB j;have k2:=Jn t m f.cl h
 by_cases c:gR t m=0
 case neg=>
  rw[if_neg c];generalize gR t m=M at*;refine aJ nf (i_ func30) mix (by simp[f30]) ?_;simp[f30,aa];refine c2_ k1 ?_;simp[aa];refine c2_ k2 ?_;simp[c,aa]
 rw[if_pos c,c];rw[c]at k2;obtain⟨i,_⟩:=rT c;have k3:=aK8 m b.ag d.sl i (fun s hs=>⟨(e s hs).1,(e s hs).2,g s hs (e s hs).2⟩);refine aJ nf (i_ func30) mix (by simp[f30]) ?_;simp[f30,aa];refine c2_ k1 ?_;simp[aa];refine c2_ k2 ?_;simp[aa];refine cf k3 [1] ?_;simp[ba,sig,aa]
def fE(n:Nat)(f:Nat->bU):List AV:=(dk n).map fun j=>.p (aG (f j))
theorem uq(n:Nat)(f:Nat->bU):(fE n f).length=n:=by simp[fE]
theorem Dl{n j:Nat}(f:Nat->bU)(h:j<n):(fE n f)[j]?=some (.p (aG (f j))):=by
 rw[fE,c6,gb h];rfl
theorem WE{n j:Nat}{f:Nat->bU}(h:j<(fE n f).length):(fE n f)[j]'h=.p (aG (f j)):=(cb.1 (Dl f (by rw[uq]at h;exact h))).2
theorem JB{n i:Nat}{v:bU}{f g:Nat->bU}(c:g i=v)(b:∀k,k≠i->g k=f k):(fE n f).set i (.p (aG v))=fE n g:=by
 apply gg (by simp[fE]);intro k d a;simp only[fE,eb,ge]at a;rw[List.getElem_set];simp only[fE,List.getElem_map,List.getElem_range]
 split
 ·rename_i h;rw[<-h,c]
 ·rename_i h;rw[b k (fun e=>h e.symm)]
theorem Jc{n:Nat}{f g:Nat->bU}(h:∀k,k<n->f k=g k):fE n f=fE n g:=by
 rw[fE,fE];exact List.map_congr_left fun k hk=>by rw[h k (ej.1 hk)]
theorem zF{N:Nat×Nat->Prop}{n:Nat}{f:Nat->bU}:aV N (fE n f)=True:=by
 rw[cB,eq_iff_iff,iff_true];intro x hx;obtain⟨a,_,rfl⟩:=dl.1 hx;trivial
def jw(f:Nat->bU)(n k p:Nat):bU:=if p=0 then f 0 else if p<=k\/n-k<=p then f (n-p)else f p
theorem aLc(f:Nat->bU)(n ar:Nat)(E:2<=n)(h:n<=1000):
 b8 prog 83 [.arr .grow ar 2 (fE n f)] [.sl 0 ar 2 1 (n-1)] [.arr .grow ar 2 (fE n (fun p=>if p=0 then f 0 else f (n-p)))] (.p (.aD [])):=by
 have G:bl.wrap ((n:Int)-2)=(n:Int)-2:=aK _ o_ o_;have e1:bl.wrap (((n-1:Nat):Int)-1)=(n:Int)-2:=by
  rw[aK _ o_ o_];omega
 have l:∀g,¬fE n g=[]:=fun g s=>by have:=uq n g;rw[s]at this;simp at this;omega
 have m:fE n (jw f n 0)=fE n f:=Jc fun p a=>by
  rw[jw]
  by_cases c:p=0
  ·rw[if_pos c,c]
  ·rw[if_neg c,if_neg o_]
 refine dS nf (i_ func83) mix (by simp[f83]) ?_;simp[f83,aa,e1,l,uq];refine lp (α:=Nat) (fun k=>⟨[(3,.p (.int .i64 ((n:Int)-2-k))),(2,.p (.int .i64 k)),(0,.sl 0 ar 2 1 (n-1))],[.arr .grow ar 2 (fE n (jw f n k))]⟩) (fun k=>2*k<=n-1) (fun k=>n-k) 0 s_ ?_ (hn:=by simp[m]) (hh:=by simp[m]) (hr2:=by simp[zF]);intro k hk
 by_cases hc:2*k<n-2
 ·obtain⟨j,F⟩:∃j,j+k+2=n:=⟨n-2-k,o_⟩
  have t:(n:Int)-2-(k:Int)=(j:Int):=o_
  have u:(k:Int)<j:=o_
  have w:bl.wrap ((k:Int)+1)=(k:Int)+1:=aK _ o_ o_;have x:bl.wrap ((j:Int)-1)=(j:Int)-1:=aK _ o_ o_;have o:jw f n k (1+j)=f (1+j):=by rw[jw,if_neg o_,if_neg o_]
  have q:jw f n k (1+k)=f (1+k):=by rw[jw,if_neg o_,if_neg o_]
  have b:=Dl (n:=n) (jw f n k) (show 1+j<n by omega);have e:=Dl (n:=n) (jw f n k) (show 1+k<n by omega);rw[o]at b;rw[q]at e;have C:=JB (n:=n) (i:=1+k) (v:=f (1+j)) (f:=jw f n k) (g:=fun p=>if p=1+k then f (1+j)else jw f n k p) (if_pos rfl) (fun p a=>if_neg a);have D:=JB (n:=n) (i:=1+j) (v:=f (1+k)) (f:=fun p=>if p=1+k then f (1+j)else jw f n k p) (g:=jw f n (k+1)) (by rw[jw,if_neg o_,if_pos o_,show n-(1+j)=1+k by omega]) (fun p a=>by
   by_cases c:p=1+k
   ·rw[if_pos c,jw,if_neg o_,if_pos o_,show n-p=1+j by omega]
   ·rw[if_neg c,jw,jw]
    by_cases c0:p=0
    ·rw[if_pos c0,if_pos c0]
    ·rw[if_neg c0,if_neg c0]
     by_cases d:p<=k\/n-k<=p
     ·rw[if_pos d,if_pos o_]
     ·rw[if_neg d,if_neg o_])
  have y:j<n-1:=o_
  have z:k<n-1:=o_
  have A:1+j<n:=o_
  have B:1+k<n:=o_
  simp[t,u,l,uq,aa,b,e,WE,o,q,y,z,A,B,C,D,w,x];refine⟨by repeat' first|rfl|apply ao,?_⟩;exact rd (k+1) o_ (he:=by simp;omega) (hr2:=by simp[zF])
 ·have r:¬(k:Int)<(n:Int)-2-k:=by omega
  simp[r,aa];refine .inl (Jc fun p a=>?_);rw[jw]
  by_cases c:p=0
  ·rw[if_pos c,if_pos c]
  ·rw[if_neg c,if_neg c]
   by_cases d:p<=k\/n-k<=p
   ·rw[if_pos d]
   ·rw[if_neg d,show n-p=p by omega]
theorem Wx{p:gO}(hx:p.x.length<=40)(a:p.y.length<=40)(h:df p=0):bP 133 (vP p):=by
 obtain⟨g1,g2⟩:=iY h;exact⟨wN g1 hx,wN g2 a⟩
theorem V7{t:aj}(h:fQ t=true):∀s∈t.ag,df s.pt=0->bP 133 (vP s.pt):=by
 intro s hs a;simp only[fQ,ap,e7]at h;have:=h.2.2 s hs;simp only[ib,ap,decide_eq_true_eq]at this;exact Wx this.2.1 this.2.2 a
theorem uj(n:Nat)(f:Nat->bU):fE n f=((dk n).map f).map (AV.p∘aG):=by
 rw[fE,List.map_map];rfl
theorem ui{σ:Nat->Nat}{n:Nat}{f:Nat->bU}:cF σ (fE n f)=fE n f:=by rw[uj,iv]
def aQ.src(m:aQ)(n i:Nat):Nat:=if m.fV then(if i=0 then 0 else n-i)else i
def aQ.cs(m:aQ)(t:aj):List bU:=(dk t.cs.length).map (fun i=>m.pt (t.at (m.src t.cs.length i)))
def aQ.aB(m:aQ)(t:aj):List bZ:=if m.fV then t.aB.map (gB t.cs.length)else t.aB
def cA(m:aQ)(t:aj):aj:=⟨m.cs t,t.aU,m.aB t,t.ag.map m.sp⟩
def Cc(t:aj)(m:aQ):Int:=if b9 t=0 then gR t m else b9 t
def GV:aj:=⟨[],0,[],[]⟩
theorem J8(t:aj)(m:aQ):t.cs.map m.pt=(dk t.cs.length).map (fun i=>m.pt (t.at i)):=by
 apply gg s_;intro k a b;simp only[eb]at a;simp
theorem Uy{t:aj}(g:gH t)(h:b9 t=0)(hs:fQ t=true):∀p∈t.aB,0<=p.bH/\p.bH<t.cs.length/\bK p.a=0/\bK p.b=0/\gn p.a/\gn p.b/\bE 133 (aI p.a)/\bE 133 (aI p.b):=by
 intro p d;obtain⟨i,hi,rfl⟩:=c8.1 d;have c:=KH h hi;rw[aj.Ct hi]at d⊢;obtain⟨c1,c2⟩:=CT c;have f:0<=(t.pk i).bH/\(t.pk i).bH<t.cs.length:=by
  rw[fy]at c
  split at c
  ·cases c
  split at c
  ·cases c
  split at c
  ·cases c
  ·omega
 obtain⟨_,s1,s2⟩:=g.pk _ d;simp only[fQ,ap,e7]at hs;have e:=hs.2.1 _ d;simp only[jv,ap,decide_eq_true_eq]at e;exact⟨f.1,f.2,c1,c2,s1,s2,wN c1 e.2.1,wN c2 e.2.2⟩
theorem Wd(t:aj)(m:aQ)(a:gH t)(hs:fQ t=true):az prog 29 [bJ t,di m] (.aD [bJ (if Cc t m=0 then cA m t else GV),.int .i64 (Cc t m)]):=by
 have k1:=ue t a;rw[Cc]
 by_cases b:b9 t=0
 case neg=>
  rw[if_neg b,if_neg b];generalize b9 t=L at*;refine aJ nf (i_ func29) mix (by simp[f29]) ?_;simp[f29,aa];refine c1_ k1 ?_;simp[b,GV,bJ,aa]
 rw[if_pos b];have w:=Uy a b hs;have y:=V7 hs;have k:∀s∈t.ag,df s.pt=0:=fun s h=>by
  obtain⟨i,hi,rfl⟩:=c8.1 h;have:=aQr b hi
  rwa [show t.ag[i]=t.sp i by simp]
 rw[b]at k1;obtain⟨D,E,l,_⟩:=nB b;have k2:=Jn t m a.cl l
 by_cases d:gR t m=0
 case neg=>
  rw[if_neg d];generalize gR t m=M at*;refine aJ nf (i_ func29) mix (by simp[f29]) ?_;simp[f29,aa];refine c1_ k1 ?_;simp[aa];refine c2_ k2 ?_;simp[d,GV,bJ,aa]
 rw[if_pos d,d];rw[d]at k2;obtain⟨q,_⟩:=rT d;have k3:=aLa m t.cs a.cl q l;have k4:=WV t.aB a.pl;have k5:=aLb m t.ag a.sl q (fun s h=>⟨a.sp s h,k s h,y s h (k s h)⟩);have B:=a.cl;have C:(1000000:Nat)<cJ:=by decide
 rw[J8]at k3;have e1:(t.cs.map m.pt).map (AV.p∘aG)=fE t.cs.length (fun i=>m.pt (t.at i)):=by rw[J8,uj]
 have e2:((dk t.cs.length).map (fun i=>m.pt (t.at i))).map (AV.p∘aG)=fE t.cs.length (fun i=>m.pt (t.at i)):=(uj _ _).symm;rw[e2]at k3;obtain⟨n,g⟩:∃n,n=t.cs.length:=⟨_,rfl⟩
 have f:m.cs t=(dk n).map (fun i=>m.pt (t.at (m.src n i))):=by rw[aQ.cs,<-g]
 have o:m.aB t=if m.fV=true then t.aB.map (gB n)else t.aB:=by rw[aQ.aB,<-g]
 rw[<-g]at k3;have j:bJ (cA m t)=.st 35 [.seq ((m.cs t).map aG),.int .i64 t.aU,.seq ((m.aB t).map bn),.seq ((t.ag.map m.sp).map aR)]:=rfl;refine aJ nf (i_ func29) mix (by simp[f29]) ?_;rcases e:m.fV with _|_
 ·simp[f29,aa];refine c1_ k1 ?_;simp[aa];refine c2_ k2 ?_;simp[aa];refine cf k3 [1] ?_;simp[ba,sig,aa,ui];refine c1_ k4 ?_;simp[aa,e];refine cf k5 [1] ?_ (hargs:=by simp[sig,nF]);simp[ba,sig,aa];rw[j,f,o,e];simp[uj,aQ.src,e];rw[cv s_,ri];intro x _;simp
 ·have q1:=aLc (fun i=>m.pt (t.at i)) n n o_ o_;have e3:(fun p=>if p=0 then m.pt (t.at 0)else m.pt (t.at (n-p)))=fun i=>m.pt (t.at (m.src n i)):=by
   funext i
   rw[aQ.src,e,if_pos rfl]
   by_cases c:i=0
   ·rw[if_pos c,if_pos c]
   ·rw[if_neg c,if_neg c]
  rw[e3]at q1;have z:(m.cs t).length=n:=by rw[f];simp
  have e4:fE n (fun i=>m.pt (t.at (m.src n i)))=(m.cs t).map (AV.p∘aG):=by rw[f,uj]
  have k6:=aK9 n (m.cs t) t.aB a.pl o_ o_ z (fun p h=>by rw[g];exact w p h);rw[<-e4]at k6;have r:1<=n:=o_
  have u:¬1=n:=o_
  have v:¬fE n (fun i=>m.pt (t.at i))=[]:=fun A=>by have:=uq n (fun i=>m.pt (t.at i));rw[A]at this;simp at this;omega
  simp[f29,aa];refine c1_ k1 ?_;simp[aa];refine c2_ k2 ?_;simp[aa];refine cf k3 [1] ?_;simp[ba,sig,aa,ui];refine c1_ k4 ?_;simp[aa,e,r,u,v,uq];refine cf q1 [3] ?_ (al:=by simp[sig,ui]) (hr:=by simp[zF]);simp[ba,sig,aa,ui];refine cf k6 [4,3] ?_ (al:=by simp[sig,ui]) (hr:=by simp[zF]);simp[ba,sig,aa,ui];refine cf k5 [1] ?_ (hargs:=by simp[sig,nF]);simp[ba,sig,aa];rw[j,f,o,e];simp[uj];rw[cv s_,ri];intro x _;simp
section
variable{α:Type}
def jV(g:α->Bool)(A:List α):Nat->Nat
 |0=>0
 |j+1=>match A[j]? with
  |some a=>if g a=true then jV g A j else j+1
  |none=>j+1
def pN(b:α->α->Bool)(A:List α)(x:α):List α:=A.take (jV (fun a=>b a x) A A.length)++x::A.drop (jV (fun a=>b a x) A A.length)
def dv(a:α->α->Bool):List α->Nat->List α
 |_,0=>[]
 |l,i+1=>match l[i]? with
  |some x=>pN a (dv a l i) x
  |none=>dv a l i
theorem Jw(g:α->Bool)(A:List α):∀j,jV g A j<=j
 |0=>gA _
 |j+1=>by
  rw[jV]
  split
  ·split
   ·have:=Jw g A j;omega
   ·exact gA _
  ·exact gA _
theorem WJ(b:α->α->Bool)(A:List α)(x:α):(pN b A x).length=A.length+1:=by
 have:=Jw (fun a=>b a x) A A.length;rw[pN,eo,e6,ce,ed];omega
theorem rV(a:α->α->Bool)(l:List α):∀i,i<=l.length->(dv a l i).length=i
 |0,_=>rfl
 |i+1,h=>by
  rw[dv,b5 o_];dsimp only;rw[WJ,rV a l i o_]
theorem Jr(a:α->α->Bool)(l:List α){x:α}(h:l[0]?=some x):dv a l 1=[x]:=by
 rw[dv,h];rfl
def eP(A:List α)(x:α)(R:List α)(j:Nat):List α:=A.take j++x::(A.drop j++R)
theorem Dj{A R:List α}{x:α}{j:Nat}:(eP A x R j).length=A.length+1+R.length:=by
 rw[eP,eo,e6,eo,ce,ed];omega
theorem Dk{A R:List α}{x:α}{j:Nat}(h:j<=A.length):(eP A x R j)[j]?=some x:=by
 rw[eP,dq (by rw[ce];omega),ce,g6 h,Nat.sub_self];rfl
theorem JF{A R:List α}{x:α}{j:Nat}(h:j+1<=A.length):(eP A x R (j+1))[j]?=A[j]?:=by
 rw[eP,ea (by rw[ce];omega),da,if_pos o_]
theorem JE{A R:List α}{x a:α}{j:Nat}(h:A[j]?=some a):((eP A x R (j+1)).set (j+1) a).set j x=eP A x R j:=by
 obtain⟨b,c⟩:=cb.1 h;apply List.ext_getElem?;intro k;have hl:(eP A x R (j+1)).length=A.length+1+R.length:=Dj
 by_cases c1:k=j
 ·subst c1;rw[fb (by rw[List.length_set,hl];omega),Dk o_]
 ·rw[fv (fun e=>c1 e.symm)]
  by_cases c2:k=j+1
  ·subst c2;rw[fb (by rw[hl];omega),eP,dq (by rw[ce];omega),ce,g6 o_,show j+1-j=0+1 by omega,ec,ea (by rw[ed];omega),List.getElem?_drop,Nat.add_zero,h]
  ·rw[fv (fun e=>c2 e.symm),eP,eP]
   by_cases c3:k<j
   ·rw[ea (by rw[ce];omega),ea (by rw[ce];omega),da,da,if_pos o_,if_pos c3]
   ·obtain⟨d,rfl⟩:∃d,k=j+2+d:=⟨k-j-2,o_⟩
    rw[dq (by rw[ce];omega),dq (by rw[ce];omega),ce,ce,g6 o_,g6 o_,show j+2+d-(j+1)=d+1 by omega,show j+2+d-j=(d+1)+1 by omega,ec,ec,cc b,gi,ec]
theorem JG{A R:List α}{x:α}:eP A x R A.length=A++x::R:=by
 rw[eP,cr,List.drop_length];rfl
theorem JA{b:α->α->Bool}{A R:List α}{x:α}:eP A x R (jV (fun a=>b a x) A A.length)=pN b A x++R:=by
 rw[eP,pN,List.append_assoc];rfl
end
theorem WI{α:Type}{b:α->α->Bool}{A:List α}{x a:α}(h:a∈pN b A x):a∈A\/a=x:=by
 rw[pN,List.mem_append,gt]at h;rcases h with h|h|h
 ·exact .inl (fl h)
 ·exact .inr h
 ·exact .inl (List.mem_of_mem_drop h)
theorem zA{α:Type}{b:α->α->Bool}{l:List α}{a:α}:∀i,a∈dv b l i->a∈l
 |0,h=>by cases h
 |i+1,h=>by
  rw[dv]at h
  split at h
  ·rename_i x hx;rcases WI h with h|rfl
   ·exact zA i h
   ·exact b4 hx
  ·exact zA i h
def cL(l:List bZ):List AV:=l.map (AV.p∘bn)
theorem aK6(c:bZ->bZ->Int)(d:bZ->bZ->Bool)(l:List bZ)(n ar:Nat)(X:l.length=n)(ab:1<=n)(ac:n<=1000)(hc:∀a∈l,∀b∈l,az prog 198 [bn a,bn b] (.int .i64 (c a b)))(U:∀a∈l,∀b∈l,(c a b<0↔d b a=true)):
 b8 prog 308 [.arr .grow ar 4 (cL l)] [.sl 0 ar 4 0 n,.p (.int .i64 0),.p (.int .i64 n),.p (.func 198 [] [])] [.arr .grow ar 4 (cL (dv d l n))] (.p (.aD [])):=by
 have Z:bl.wrap 1=1:=by decide
 have W:∀i,∀a∈dv d l i,a∈l:=fun i a h=>zA i h;have Y:∀i,i<=n->(dv d l i).length=i:=fun i h=>rV d l i o_;obtain⟨ae,O⟩:∃x,l[0]?=some x:=⟨_,b5 o_⟩
 have aN:dv d l 1++l.drop 1=l:=by
  rw[Jr d l O];obtain⟨_,z⟩:=cb.1 O;have F:=cc (l:=l) (i:=0) o_;rw[gp]at F;rw[<-z];exact F.symm
 have H:dv d l n++l.drop n=dv d l n:=by rw[fd o_,gm]
 have o:∀(N:Nat×Nat->Prop)(q:List bZ),aV N (cL q)=True:=fun N q=>by
  rw[cB,eq_iff_iff,iff_true];intro x hx;obtain⟨a,_,rfl⟩:=dl.1 hx;trivial
 refine dS nf (i_ func308) mix (by simp[f308]) ?_;simp[f308,aa,Z];refine lp (α:=Nat) (fun i=>⟨[(8,.p (.int .i64 i)),(3,.p (.func 198 [] [])),(2,.p (.int .i64 n)),(1,.p (.int .i64 0)),(0,.sl 0 ar 4 0 n)],[.arr .grow ar 4 (cL (dv d l i++l.drop i))]⟩) (fun i=>1<=i/\i<=n) (fun i=>n-i) 1 ⟨o_,o_⟩ ?_ (hn:=by simp only[aN];try simp) (hh:=by simp only[aN];try simp) (hr2:=by simp[o]);rintro i ⟨i1,i2⟩
 by_cases hi:i<n
 ·have L:=bS (i:=i) o_;obtain⟨x,hx⟩:∃x,l[i]?=some x:=⟨_,b5 o_⟩
  have P:=b4 hx;have B:=Y i o_;have C:=W i;have G:l.drop i=x::l.drop (i+1):=by
   obtain⟨_,z⟩:=cb.1 hx;rw[<-z,<-cc o_]
  have K:dv d l (i+1)=pN d (dv d l i) x:=by rw[dv,hx]
  have I:dv d l i++l.drop i=eP (dv d l i) x (l.drop (i+1)) i:=by rw[G,<-JG,B]
  have t:eP (dv d l i) x (l.drop (i+1)) (jV (fun a=>d a x) (dv d l i) i)=dv d l (i+1)++l.drop (i+1):=by
   rw[K,<-JA,B]
  have T:(l.drop (i+1)).length=n-(i+1):=by rw[ed,X]
  rw[I];clear I G K aN H;generalize D:l.drop (i+1)=R at*;generalize dv d l i=A at*;have V:(i:Int)<n:=o_
  simp[V,hi,aa];refine lp (α:=Nat) (fun j=>⟨[(9,.p (.int .i64 j)),(8,.p (.int .i64 i)),(3,.p (.func 198 [] [])),(2,.p (.int .i64 n)),(1,.p (.int .i64 0)),(0,.sl 0 ar 4 0 n)],[.arr .grow ar 4 (cL (eP A x R j))]⟩) (fun j=>j<=i/\jV (fun a=>d a x) A i=jV (fun a=>d a x) A j) (fun j=>j) i ⟨gA _,rfl⟩ ?_ (hr2:=by simp[o]);rintro j ⟨ad,e⟩;rcases j with _|j
  ·rw[jV]at e;rw[e]at t;simp[aa,L];rw[t,<-D];exact rd (i+1) ⟨o_,o_⟩ (hr2:=by simp[o])
  ·obtain⟨a,m⟩:∃a,A[j]?=some a:=⟨_,b5 o_⟩
   have E:=hc x P a (C a (b4 m));have J:=U x P a (C a (b4 m));rw[jV,m]at e;dsimp only at e;have g:(cL (eP A x R (j+1)))[j+1]?=some (.p (bn x)):=by rw[cL,c6,Dk o_];rfl
   have k:(cL (eP A x R (j+1)))[j]?=some (.p (bn a)):=by rw[cL,c6,JF o_,m];rfl
   have Q:((cL (eP A x R (j+1))).set (j+1) (.p (bn a))).set j (.p (bn x))=cL (eP A x R j):=by
    rw[cL,cL,<-JE m,ew,ew];rfl
   have f:(cL (eP A x R (j+1))).length=n:=by rw[cL,eb,Dj,T];omega
   have y:bl.wrap (j:Int)=j:=aK _ o_ o_;generalize S:cL (eP A x R (j+1))=M at*;have u:¬M=[]:=by intro h;rw[h]at f;simp at f;omega
   have v:j+1<n:=o_
   have w:j<n:=o_
   have r:∀h,M[j+1]'h=.p (bn x):=fun h=>(cb.1 g).2;have s:∀h,M[j]'h=.p (bn a):=fun h=>(cb.1 k).2
   by_cases hq:c x a<0
   ·rw[if_pos (J.1 hq)]at e;simp[aa,u,v,w,g,k,r,s,f,y];refine⟨o_,?_⟩;refine e2_ E ?_;simp[aa,u,v,w,g,k,r,s,f,y,hq];rw[Q];refine⟨o_,by repeat' first|rfl|apply ao,?_⟩;exact rd j ⟨o_,e⟩ (hr2:=by simp[o])
   ·rw[if_neg (fun h=>hq (J.2 h))]at e;rw[e]at t;simp[aa,u,v,w,g,k,r,s,f,y];refine⟨o_,?_⟩;refine e2_ E ?_;simp[aa,u,v,w,g,k,r,s,f,y,hq,L];rw[<-S,t,<-D];exact rd (i+1) ⟨o_,o_⟩ (hr2:=by simp[o])
 ·obtain rfl:i=n:=by omega
  simp[H,aa]
def dt(l:List bR):List AV:=l.map (AV.p∘aR)
theorem aK7(c:bR->bR->Int)(d:bR->bR->Bool)(l:List bR)(n ar:Nat)(X:l.length=n)(ab:1<=n)(ac:n<=1000)(hc:∀a∈l,∀b∈l,az prog 202 [aR a,aR b] (.int .i64 (c a b)))(U:∀a∈l,∀b∈l,(c a b<0↔d b a=true)):
 b8 prog 318 [.arr .grow ar 3 (dt l)] [.sl 0 ar 3 0 n,.p (.int .i64 0),.p (.int .i64 n),.p (.func 202 [] [])] [.arr .grow ar 3 (dt (dv d l n))] (.p (.aD [])):=by
 have Z:bl.wrap 1=1:=by decide
 have W:∀i,∀a∈dv d l i,a∈l:=fun i a h=>zA i h;have Y:∀i,i<=n->(dv d l i).length=i:=fun i h=>rV d l i o_;obtain⟨ae,O⟩:∃x,l[0]?=some x:=⟨_,b5 o_⟩
 have aN:dv d l 1++l.drop 1=l:=by
  rw[Jr d l O];obtain⟨_,z⟩:=cb.1 O;have F:=cc (l:=l) (i:=0) o_;rw[gp]at F;rw[<-z];exact F.symm
 have H:dv d l n++l.drop n=dv d l n:=by rw[fd o_,gm]
 have o:∀(N:Nat×Nat->Prop)(q:List bR),aV N (dt q)=True:=fun N q=>by
  rw[cB,eq_iff_iff,iff_true];intro x hx;obtain⟨a,_,rfl⟩:=dl.1 hx;trivial
 refine dS nf (i_ func318) mix (by simp[f318]) ?_;simp[f318,aa,Z];refine lp (α:=Nat) (fun i=>⟨[(8,.p (.int .i64 i)),(3,.p (.func 202 [] [])),(2,.p (.int .i64 n)),(1,.p (.int .i64 0)),(0,.sl 0 ar 3 0 n)],[.arr .grow ar 3 (dt (dv d l i++l.drop i))]⟩) (fun i=>1<=i/\i<=n) (fun i=>n-i) 1 ⟨o_,o_⟩ ?_ (hn:=by simp only[aN];try simp) (hh:=by simp only[aN];try simp) (hr2:=by simp[o]);rintro i ⟨i1,i2⟩
 by_cases hi:i<n
 ·have L:=bS (i:=i) o_;obtain⟨x,hx⟩:∃x,l[i]?=some x:=⟨_,b5 o_⟩
  have P:=b4 hx;have B:=Y i o_;have C:=W i;have G:l.drop i=x::l.drop (i+1):=by
   obtain⟨_,z⟩:=cb.1 hx;rw[<-z,<-cc o_]
  have K:dv d l (i+1)=pN d (dv d l i) x:=by rw[dv,hx]
  have I:dv d l i++l.drop i=eP (dv d l i) x (l.drop (i+1)) i:=by rw[G,<-JG,B]
  have t:eP (dv d l i) x (l.drop (i+1)) (jV (fun a=>d a x) (dv d l i) i)=dv d l (i+1)++l.drop (i+1):=by
   rw[K,<-JA,B]
  have T:(l.drop (i+1)).length=n-(i+1):=by rw[ed,X]
  rw[I];clear I G K aN H;generalize D:l.drop (i+1)=R at*;generalize dv d l i=A at*;have V:(i:Int)<n:=o_
  simp[V,hi,aa];refine lp (α:=Nat) (fun j=>⟨[(9,.p (.int .i64 j)),(8,.p (.int .i64 i)),(3,.p (.func 202 [] [])),(2,.p (.int .i64 n)),(1,.p (.int .i64 0)),(0,.sl 0 ar 3 0 n)],[.arr .grow ar 3 (dt (eP A x R j))]⟩) (fun j=>j<=i/\jV (fun a=>d a x) A i=jV (fun a=>d a x) A j) (fun j=>j) i ⟨gA _,rfl⟩ ?_ (hr2:=by simp[o]);rintro j ⟨ad,e⟩;rcases j with _|j
  ·rw[jV]at e;rw[e]at t;simp[aa,L];rw[t,<-D];exact rd (i+1) ⟨o_,o_⟩ (hr2:=by simp[o])
  ·obtain⟨a,m⟩:∃a,A[j]?=some a:=⟨_,b5 o_⟩
   have E:=hc x P a (C a (b4 m));have J:=U x P a (C a (b4 m));rw[jV,m]at e;dsimp only at e;have g:(dt (eP A x R (j+1)))[j+1]?=some (.p (aR x)):=by rw[dt,c6,Dk o_];rfl
   have k:(dt (eP A x R (j+1)))[j]?=some (.p (aR a)):=by rw[dt,c6,JF o_,m];rfl
   have Q:((dt (eP A x R (j+1))).set (j+1) (.p (aR a))).set j (.p (aR x))=dt (eP A x R j):=by
    rw[dt,dt,<-JE m,ew,ew];rfl
   have f:(dt (eP A x R (j+1))).length=n:=by rw[dt,eb,Dj,T];omega
   have y:bl.wrap (j:Int)=j:=aK _ o_ o_;generalize S:dt (eP A x R (j+1))=M at*;have u:¬M=[]:=by intro h;rw[h]at f;simp at f;omega
   have v:j+1<n:=o_
   have w:j<n:=o_
   have r:∀h,M[j+1]'h=.p (aR x):=fun h=>(cb.1 g).2;have s:∀h,M[j]'h=.p (aR a):=fun h=>(cb.1 k).2
   by_cases hq:c x a<0
   ·rw[if_pos (J.1 hq)]at e;simp[aa,u,v,w,g,k,r,s,f,y];refine⟨o_,?_⟩;refine e2_ E ?_;simp[aa,u,v,w,g,k,r,s,f,y,hq];rw[Q];refine⟨o_,by repeat' first|rfl|apply ao,?_⟩;exact rd j ⟨o_,e⟩ (hr2:=by simp[o])
   ·rw[if_neg (fun h=>hq (J.2 h))]at e;rw[e]at t;simp[aa,u,v,w,g,k,r,s,f,y];refine⟨o_,?_⟩;refine e2_ E ?_;simp[aa,u,v,w,g,k,r,s,f,y,hq,L];rw[<-S,t,<-D];exact rd (i+1) ⟨o_,o_⟩ (hr2:=by simp[o])
 ·obtain rfl:i=n:=by omega
  simp[H,aa]
end Go.an
