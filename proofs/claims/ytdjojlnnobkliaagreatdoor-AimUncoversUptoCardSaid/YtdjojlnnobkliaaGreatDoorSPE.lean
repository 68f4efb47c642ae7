import Derived.Test.YtdjojlnnobkliaaGreatDoorSPD
import Derived.Deep.DeepHandedRow
import Derived.Deep.DeepWitnessRowRef
import Derived.Seven
import Derived.SevenTiedAt
import Derived.Test.YtdjojlnnobkliaaGreatDoorSPA
import Derived.KernelRfl
import Derived.Shelf.Spec.BitsCarry
import Derived.Shelf.Strings.Builder1
import Derived.Shelf.Strings.Builder2
import Derived.Shelf.Strings.Trim
import Derived.Shelf.Small.Utf8
import Derived.Shelf.Small.Bits
import Derived.Shelf.Small.Strs
import Derived.Shelf.Small.Wraps
import Derived.Shelf.Strings.BuilderF
import Derived.Shelf.Strings.Builder2Cap
import Derived.Shelf.Strconv.Atoi
import Derived.Shelf.Strconv.Itoa0
import Derived.Shelf.Strconv.Itoa1
import Derived.Shelf.LaysM
import Derived.Shelf.Strconv.Itoa2
import Derived.Shelf.Strconv.Itoa3
import Derived.Shelf.Strconv.AtoiErrFast
import Derived.Shelf.Strconv.ParseIntEmpty
import Derived.Shelf.Strconv.AtoiFail
import Derived.Shelf.Strconv.Clone
import Derived.Shelf.Strconv.SyntaxError
import Derived.Shelf.LaysC
import Derived.Shelf.Strconv.ToError
import Derived.Shelf.Strconv.Lower
import Derived.Shelf.Strconv.ParseUint10
import Derived.Shelf.Strconv.ParseUint10Empty
import Derived.Shelf.Strconv.ParseUint10Any
import Derived.Shelf.Strconv.ParseInt10
import Derived.Shelf.Strconv.AtoiLong
import Derived.Shelf.Strconv.AtoiInnerAll
import Derived.Shelf.Strconv.RangeError
import Derived.Shelf.Strconv.ToErrorRange
import Derived.Shelf.Strconv.AtoiAll
import Derived.Shelf.Strconv.ParseUintEmpty
import Derived.Shelf.Strings.Search1
import Derived.Shelf.Strings.Search2
import Derived.Shelf.Strings.Cut
import Derived.Shelf.Strings.Shaped
import Derived.Shelf.Strings.Prefix
import Derived.Shelf.Unicode.Decode
import Derived.Shelf.Strings.Runes
import Derived.Shelf.Strings.AsciiSet
import Derived.Shelf.Bits.Mul64
import Derived.Shelf.Strings.Repeat
import Derived.Shelf.Unicode.DecodeSlow
import Derived.Shelf.Unicode.DecodeAny
import Derived.Shelf.Unicode.DecodeLast
import Derived.Shelf.Slices.Turned
import Derived.Test.YtdjojlnnobkliaaGreatDoorProg
import Derived.Lib.ItoaNum
import Derived.Lib.Strings
import Derived.Lib.Repeat
import Derived.Lib.Bytealg
import Derived.Test.YtdjojlnnobkliaaGreatDoorSThA
import Derived.Lib.Walk
import Derived.Lib.ItoaMem
import Derived.WalkKit
import Derived.BigCall
import Derived.BigGuard
import Derived.Lib.AppendIntMem
import Derived.Lib.Builder
import Derived.Laws.Externs
import Derived.Shelf.RegionOpenPlain
/- Parts of a proof. -/
set_option maxRecDepth 100000
set_option maxHeartbeats 4000000
set_option linter.unusedSimpArgs false
set_option linter.unusedVariables false
set_option linter.unusedSectionVars false
open Go.Proofs.Tryz
open Array renaming size_replicate->bV, getElem?_append_left->bW
open Bool renaming and_eq_true->b2, or_eq_true->b3, and_false->b4, and_true->b5, not_eq_true'->cb, false_and->cc
open Classical renaming choose_spec->ce, choose->ck, em->cv
open Go renaming World->cx, Calls->cy, Program->c6, run_callFunc_extern->da, FuncId->db, Value->dg, OpenSpec->dl, TypeId->dp, Checked->dq, ReturnsInHanded->dz
open Go.IntKind renaming u64->ea, i64->eb, wrap_i64->ec
open Go.Lib renaming bitLen->ed, decDigits->ee, nDigits->ei, indexByte->ej, zeros24->en, trimPrefix->eq, hasPrefix->ew, pow10Tab->e6, TabIs->e7, repeatL->e8, decDigits_length->e9, itoa->fb, atoiAll->fd
open Go.Oper renaming upon_value->fl
open Go.Proofs.Lays renaming n99->fm, n285->fp, n283->fv, n264->gb, n219->gc, n134->ge, n129->gg, n105->gi, n103->gj, n101->gm
open Go.Result renaming andThen->gt
open Go.Shelf renaming Ren->gw
open Go.Sort renaming grow->gx
open Go.Value renaming int->gy
open Int renaming natAbs_mul->gB, natAbs_natCast->gE, ediv_emod_unique->g0, natCast_mul->g5, lt_trichotomy->g6, ediv_nonneg->g7, lt_of_le_of_lt->g8, emod_lt_of_pos->g9, lt_or_le->ha, le_of_lt->hb, ediv_le_self->hd, emod_nonneg->hg, natAbs_sign_of_ne_zero->hl, natAbs_neg->ho, fdiv_eq_ediv_of_nonneg->hp, ediv_lt_of_lt_mul->hr, tmod_lt_of_pos->ht, ofNat_dvd_left->hv, lt_tmod_of_pos->hz, natAbs_add_le->hA, natCast_add->hB, mul_ne_zero->hC, mul_le_mul->hD, ediv_one->hE, mul_sub->hG, mul_neg->hJ
open List renaming range->hK, getElem?_eq_getElem->hL, take_of_length_le->hM, map_cons->hN, exists_cons_of_ne_nil->hO, append_nil->hP, replicate->hQ, ext_getElem->hS, cons_append->hT, length_nil->hU, map_congr_left->hV, all_cons->hW, length_eq_zero_iff->hX, length_cons->hZ, take_succ_eq_append_getElem->h3, mem_map->h4, all_reverse->h5, dropLast_concat_getLast->h6, mem_range->h7, map_take->h8, map_map->h9, getElem?_range->ih, getElem_range->ii, length_range->ik, getElem?_map->ip, getElem_set->ix, getElem_map->iz, all_eq_true->i6, nil_append->i7, length_map->i8, head?_cons->jp, foldl_cons->js, all_append->jF, range_one->j1, mem_cons->j2, map_nil->j3, all_nil->j4
open List.cons renaming injEq->j5
open Nat renaming mul_comm->j6, mod_eq_of_lt->j7, div_lt_iff_lt_mul->j8, lt_of_lt_of_le->j9, pow_le_pow_right->kb, pow_succ->kc, div_div_eq_div_mul->kd, pow_pos->kh, lt_of_le_of_lt->kk, mul_le_mul_right->km, mod_lt->ko, mul_le_mul_left->kp, div_add_mod->kt, div_eq_of_lt->kv, mul_assoc->kw, le_refl->kC, add_mul->kF, pow_add->kK, lt_or_ge->kN, pow_zero->kW, mod_add_div->la, mul_lt_mul''->lb, eq_zero_or_pos->lc, add_sub_cancel->li, add_mul_mod_self_right->lk, le_div_iff_mul_le->ll, add_mul_div_left->lm, add_comm->lq, div_mul_le_self->ls, mul_lt_mul_of_pos_right->lu, one_mul->lv, mul_add->lw, add_mul_div_right->lz, mul_right_comm->l0, div_le_self->l1, div_one->l2, zero_add->l3, pow_one->l4, le_trans->l5, mod_mul_right_mod->md, mul_mod_mul_left->mm, mod_one->mo, add_zero->mp, mod_mul_right_div_self->ms, add_mul_mod_self_left->mx, add_sub_cancel_left->m0, zero_mul->m1, lt_trans->m2, gcd->m3, div_lt_self->m4, mul_div_mul_right->m5, eq_of_beq_eq_true->m6, zero_le->m7, mul_pos->m8, mul_one->m9, mul_le_mul->na, div_pos->nb, div_le_div_right->nc, beq->nk, lt_div_mul_add->nl, mul_left_comm->nm, and_two_pow_sub_one_eq_mod->nn, pow_mul->np, mod_mul->ns, add_mod->nz, strongRecOn->n0, min_eq_left->n1, pow_lt_pow_iff_right->n2, add_assoc->n3, le_mul_of_pos_right->n4, zero_mod->n5, sub_zero->n6, le_of_eq->n7, le_mul_of_pos_left->n8, gcd_comm->oa, mul_mod_mul_right->ob, not_lt->oc, lt_of_succ_lt->od, gcd_one_right->oe, add_mod_right->oj, lt_succ_self->ol, gcd_dvd_left->oo, mul_ne_zero->op, mul_add_div->oq, lt_succ_iff->ou, le_of_lt->ow, pow_two->ox, or_comm->oy, mod_le->oz
open Rat renaming divInt->oP, normalize_eq_mkRat->oQ, num_eq_zero->oS, sub_eq_add_neg->o0, add_def'->o1, neg_num->o2, neg_den->o3, mul_def->o4, inv_def->o5, div_def->pa, not_lt->pb, lt_iff->pd
open UInt8 renaming toNat_inj->pi, ofNat->pm, toNat_ofNat'->pp
namespace Go.aq
open Go.Proofs
section
variable{H:Type}{enc:dp×dg->H}
theorem aHR{p:Pinned}{C:dq}{P:c6}(b:p.checked=C)(d:C.prog=P){s:dl}{c:OpenClaim}(f:db)(fn:Func)
 (l:c.program=p.name)(hs:c.sum=p.sum)(q:c.spec=s.name)
 (r:c.start=.entering)(o:c.outside=[])(al:c.inits=[])(u:c.under=none)(i:c.initsInPlace=[]/\c.initsUnfollowed=false/\c.initsRecurse=false/\c.initsNamed=[]/\c.initsPassed=[])(n:c.noBlocks=false)(k:c.leaving=false)(g:c.followed=none)(m:c.narrowed=s.cond.isSome)(t:c.still=false)
 (e:P.funcNamed c.func=some f)(hf:P.funcs[f]?=some fn)
 (closed:joinedFacts P f fn s.bare c=true)
 (j:fn.isInstance P c.origin c.targs)(v:fn.isWrapper P c.wrapper c.mainSum)
 (h:∀os:Os,os.Started->∀(H:Type)(a:dp×dg->H)(F:Stop.Interp),
  dz c.assume C os f .any (s.preRow a P fn c.domain c.apart c.laid) ((s.at F).post a P fn c.apart c.fresh c.handsOn c.again)):c.holds p s:=by
 subst b;subst d;exact OpenClaim.holds_of_cond f fn l hs q r o al u i n k g m t e hf closed j v (fun os st H a _ F=>by rw[OpenClaim.pre_eq_preRow];exact h os st H a F)
theorem Xm{a:Assume}{C:dq}{P:c6}(q:C.prog=P){os:Os}{f:db}{fn:Func}{s:dl}{F:Stop.Interp}{h:List PathCond}{apart fresh handsOn again:Bool}{laid:List (String×DataW Unit)}
 (x:ownKnob P.godebug=none)(y:os.Started)(u:P.inits.idxOf? f=none)(r:P.funcs[f]?=some fn)
 (z:∃(w:cx)(tape:Tape)(i:Input),w.os=os/\(w.forCall tape i).Shaped P/\i.vars=[]/\Input.okWide P (w.forCall tape i) .any w.heap.size f i/\
  s.preRow enc P fn h apart laid (w.forCall tape i).memory i.args/\a.holds P (lone (Frame.enter P f i.args .normal) [] (w.forCall tape i)))
 (CU:∀(W:cx)(d:Nat)(args:Array dg)(b c:List (DataW H))(g:List MemPlace),
  (∀(j:Nat) t v,fn.params[j]?=some t->args[j]?=some v->Value.okWide P W .any d t v)->
  DataW.Whole enc P fn.params.toList s.vars apart W args.toList b c g->
  (∀k,s.cond=some k->k H (b++c)=true)->
  laidMetH P laid W->
  cy P f args W fun e l=>∃v,e=.returned v/\(s.at F).post enc P fn apart fresh handsOn again W args v l):
 dz a C os f .any (s.preRow enc P fn h apart laid) ((s.at F).post enc P fn apart fresh handsOn again):=by
 subst q;exact returnsInHanded_of_row x y u r z (fun W d args b c g m n _ o _ p _ _=>CU W d args b c g m n o p)
theorem V6{C:dq}{P:c6}(b:C.prog=P){os:Os}{f:db}{fn:Func}{s:dl}{a:List PathCond}{apart:Bool}{laid:List (String×DataW Unit)}(w0:cx)(args:Array dg)(d:w0.os=os)
 (h:(w0.forCall (fun _ _=>0) ⟨#[],args,[]⟩).variablesRefB P=true)
 (e:((w0.forCall (fun _ _=>0) ⟨#[],args,[]⟩).heap.toList.drop P.globals.size).take ((begin P (fun _ _=>0) default).world.heap.size-P.globals.size)=
  (begin P (fun _ _=>0) default).world.heap.toList.drop P.globals.size)
 (c:Input.okWideB P (w0.forCall (fun _ _=>0) ⟨#[],args,[]⟩) f ⟨#[],args,[]⟩=true)
 (g:s.preRow enc P fn a apart laid (w0.forCall (fun _ _=>0) ⟨#[],args,[]⟩).memory args):
 ∃(w:cx)(tape:Tape)(i:Input),w.os=os/\(w.forCall tape i).Shaped P/\i.vars=[]/\Input.okWide P (w.forCall tape i) .any w.heap.size f i/\
  s.preRow enc P fn a apart laid (w.forCall tape i).memory i.args/\({modest:=false}:Assume).holds P (lone (Frame.enter P f i.args .normal) [] (w.forCall tape i)):=by
 subst b;exact witness_row_atRef (C:=C) false w0 args d h e c g
theorem Z9{p:Pinned}{C:dq}{P:c6}(m:p.checked=C)(n:C.prog=P)(d:Looks){s:dl}{c:OpenClaim}(kinds:List LaidKind)(e:Bool)(a:Bool×String)(b:Bool){g:db}{i:Func}
 (hc:c.holds p s)(A:c.wfByText s=true)(z:c.laidByTextAt d p kinds e)
 (aN:c.start=.entering)(w:c.noBlocks=false/\c.again=false)(u:P.mainIs=some (a.1,a.2.toList))(v:(!a.1&&a.2.isEmpty&&!b)=false)
 (o:P.funcNamed c.func=some g)(hf:P.funcs[g]?=some i)(r:b=P.looks [])(x:∀t∈i.params.toList,P.wantsStandIn t=false)
 (q:false=c.goesBy P):
 Claim7.holds p (.plain s) {stood:={row:=c,standIns:=[],harness:=a,looks:=b},kinds:=[],alts:=[],laidByText:=true,laidKinds:=kinds,laidTests:=e,laidLooks:=d}:=by
 subst m;subst n;refine Claim7.holds_tied_plain_at d [] kinds e a b hc (fun _ h=>by cases h) A (fun _ h=>by cases h) z aN w u v (fun f fn k l=>?_) q;rw[o]at k;cases k;rw[hf]at l;cases l;exact⟨r,fun j t y=>x t (by simpa using Array.mem_of_getElem? y)⟩
end
theorem I4:Go.Proofs.YtdjojlnnobkliaaGreatDoor.Tryz.pinned.checked=checked:=rfl
theorem xZ:checked.prog=prog:=rfl
theorem aHb:true=prog.looks []:=k_
theorem aHj:ownKnob prog.godebug=none:=k_
theorem mix:prog.follows .mixedOrders=true:=k_
abbrev nf:db->Bool:=fun _=>false
def wB:Nat:=18446744073709551616
theorem rC(x y c:Nat)(hc:c<=1):aB prog 317 [.int .u64 x,.int .u64 y,.int .u64 c] (.aE [.int .u64 ((x+y+c)% wB:Nat),.int .u64 ((x+y+c)/wB:Nat)]):=by
 refine .inr fun w ad a h=>?_;simp only[br,aF]at h;obtain⟨_,_,rfl,rfl,_,_,rfl,rfl,_,_,rfl,rfl,rfl⟩:=h;refine⟨.tuple #[.int .u64 ((x+y+c)% wB:Nat),.int .u64 ((x+y+c)/wB:Nat)],?_,?_⟩
 ·show(callFunc 317 #[.int .u64 x,.int .u64 y,.int .u64 c]).run prog w=_;rw[da func317 k_ k_ k_ (e:=add64Entry) k_,run_add64 x y c o_ o_ o_ o_];simp only[gt,wB];congr 5<;>omega
 ·simp only[aF,br];exact⟨[.int .u64 ((x+y+c)% wB:Nat),.int .u64 ((x+y+c)/wB:Nat)],⟨_,_,rfl,rfl,_,_,rfl,rfl,rfl⟩,rfl⟩
theorem Z0(x y c:Nat)(hc:c<=1):aB prog 342 [.int .u64 x,.int .u64 y,.int .u64 c] (.aE [.int .u64 ((x+wB-y-c)% wB:Nat),.int .u64 ((if x<y+c then 1 else 0:Nat):Int)]):=by
 refine .inr fun w ad a h=>?_;simp only[br,aF]at h;obtain⟨_,_,rfl,rfl,_,_,rfl,rfl,_,_,rfl,rfl,rfl⟩:=h;refine⟨.tuple #[.int .u64 ((x+wB-y-c)% wB:Nat),.int .u64 ((if x<y+c then 1 else 0:Nat):Int)],?_,?_⟩
 ·show(callFunc 342 #[.int .u64 x,.int .u64 y,.int .u64 c]).run prog w=_;rw[da func342 k_ k_ k_ (e:=sub64Entry) k_,run_sub64 x y c hc];rfl
 ·simp only[aF,br];exact⟨[.int .u64 ((x+wB-y-c)% wB:Nat),.int .u64 ((if x<y+c then 1 else 0:Nat):Int)],⟨_,_,rfl,rfl,_,_,rfl,rfl,rfl⟩,rfl⟩
def nw(B:Nat):Nat->Nat->List Nat
 |0,_=>[]
 |f+1,n=>if n=0 then[]else n% B::nw B f (n/B)
def aA(B n:Nat):List Nat:=nw B (n+1) n
def iZ(B:Nat):List Nat->Nat
 |[]=>0
 |d::l=>d+B*iZ B l
def ae(B n i:Nat):Nat:=n/B^i% B
section
variable{B:Nat}
theorem Jt(a:2<=B):∀(f g n:Nat),n<f->n<g->nw B f n=nw B g n
 |0,_,_,h,_=>by omega
 |_,0,_,_,h=>by omega
 |f+1,g+1,n,b,c=>by
  simp only[nw]
  split
  ·rfl
  ·rename_i d;have:n/B<n:=m4 o_ o_;rw[Jt a f g (n/B) o_ o_]
theorem mT:aA B 0=[]:=by simp[aA,nw]
theorem tS(a:2<=B){n:Nat}(h:n≠0):aA B n=n% B::aA B (n/B):=by
 have:n/B<n:=m4 o_ o_;rw[aA,nw,if_neg h,aA,Jt a n (n/B+1) (n/B) this o_]
theorem Lg(a:2<=B)(n:Nat):iZ B (aA B n)=n:=by
 induction n using n0 with
 |ind n b=>
  by_cases h:n=0
  ·subst h;simp[mT,iZ]
  ·rw[tS a h,iZ,b _ (m4 o_ o_)];exact la n B
theorem auy(a:2<=B):∀(i n:Nat),(aA B n)[i]?.getD 0=ae B n i
 |i,n=>by
  induction i generalizing n with
  |zero=>
   by_cases h:n=0
   ·subst h;simp[mT,ae]
   ·rw[tS a h];simp[ae]
  |succ i b=>
   by_cases h:n=0
   ·subst h;simp[mT,ae]
   ·rw[tS a h,List.getElem?_cons_succ,b];simp only[ae,kd,kc];rw[j6 B]
theorem eD(a:2<=B){n i:Nat}(h:i<(aA B n).length):(aA B n)[i]=ae B n i:=by
 have:=auy a i n;rw[hL h]at this;exact this
theorem cq(b:2<=B)(n:Nat):n<B^(aA B n).length:=by
 induction n using n0 with
 |ind n c=>
  by_cases h:n=0
  ·subst h;simp[mT]
  ·rw[tS b h,hZ,kc];have:=c _ (m4 (n:=n) (k:=B) o_ o_);have d:=la n B;have e:=ko n (show 0<B by omega);have a:(n/B+1)*B<=B^(aA B (n/B)).length*B:=km B this;rw[kF,j6 (n/B) B]at a;omega
theorem dN(b:2<=B):∀(k n:Nat),n<B^k->(aA B n).length<=k
 |0,n,h=>by
  have:n=0:=by simpa using h
  subst this;simp[mT]
 |k+1,n,h=>by
  by_cases a:n=0
  ·subst a;simp[mT]
  ·rw[tS b a,hZ];have:=dN b k (n/B) (by
    rw[j8 o_,<-kc];exact h)
   omega
theorem J3(a:2<=B){k n:Nat}(h:B^k<=n):k<(aA B n).length:=by
 have:=cq a n;exact(n2 (by omega:1<B)).1 (kk h this)
def et:List Nat->List Nat
 |[]=>[]
 |d::l=>match et l with
  |[]=>if d=0 then[]else[d]
  |t=>d::t
theorem Dr(a:2<=B):∀{l:List Nat},(∀d∈l,d<B)->aA B (iZ B l)=et l
 |[],_=>by simp[iZ,mT,et]
 |d::l,h=>by
  have c:=Dr a (l:=l) fun x hx=>h x (List.mem_cons_of_mem _ hx);have f:=h d List.mem_cons_self;simp only[et,iZ]
  by_cases b:d+B*iZ B l=0
  ·have k:d=0:=by omega
   have m:iZ B l=0:=by
    rcases Nat.mul_eq_zero.1 (show B*iZ B l=0 by omega)with e|e
    ·omega
    ·exact e
   rw[b,mT,<-c,m,mT];simp[k]
  ·rw[tS a b];have e1:(d+B*iZ B l)% B=d:=by rw[mx,j7 f]
   have e2:(d+B*iZ B l)/B=iZ B l:=by
    rw[lm _ _ o_,kv f,l3]
   rw[e1,e2,c]
   split
   ·rename_i g;have i:=c;rw[g,j a]at i;rw[if_neg (by rw[i]at b;simpa using b),g]
   ·rfl
where j (a:2<=B) {n:Nat}:(aA B n=[])=(n=0):=by
        apply propext;constructor
        ·intro h;rw[<-Lg a n,h];rfl
        ·rintro rfl;exact mT
def row(B m n:Nat):List Nat:=(hK m).map (ae B n)
theorem M5{m n:Nat}:(row B m n).length=m:=by simp[row]
theorem Yv(m n:Nat):row B (m+1) n=n% B::row B m (n/B):=by
 rw[row,List.range_succ_eq_map,hN,h9];congr 1
 ·simp[ae]
 ·rw[row];apply hV;intro i _;simp only[Function.comp,ae,kd,kc];rw[j6]
theorem M0(a:2<=B):∀(m n:Nat),iZ B (row B m n)=n% B^m
 |0,n=>by simp[row,iZ,mo]
 |m+1,n=>by
  rw[Yv,iZ,M0 a m,kc,j6 (B^m),ns]
theorem jM(a:2<=B){m n:Nat}(h:n<B^m):et (row B m n)=aA B n:=by
 rw[<-Dr a (l:=row B m n),M0 a,j7 h];intro d b;simp only[row,h4]at b;obtain⟨i,_,rfl⟩:=b;exact ko _ o_
theorem auN(b:2<=B)(n:Nat):aA B n=row B (aA B n).length n:=by
 apply hS (by simp[row]);intro i a c;rw[eD b a];simp[row]
end
section
variable{B:Nat}
theorem mod_pow_succ(n i:Nat):n% B^(i+1)=n% B^i+B^i*ae B n i:=by
 rw[kc,ns,ae]
def dh(B a b i:Nat):Nat:=(a% B^i+b% B^i)/B^i
theorem ym(a b:Nat):dh B a b 0=0:=by simp[dh,mo]
theorem mc(f:2<=B)(a b i:Nat):dh B a b i<=1:=by
 have c:0<B^i:=kh o_;have d:=ko a c;have e:=ko b c;rw[dh];have:(a% B^i+b% B^i)/B^i<2:=by rw[j8 c];omega
 omega
theorem qU(e:2<=B)(a b i:Nat):(ae B a i+ae B b i+dh B a b i)% B=ae B (a+b) i/\(ae B a i+ae B b i+dh B a b i)/B=dh B a b (i+1):=by
 have c:0<B^i:=kh o_;constructor
 ·have d:(a+b)/B^i=dh B a b i+(a/B^i+b/B^i):=by
   rw[dh]
   conv=>lhs;rw[<-la a (B^i),<-la b (B^i)]
   rw[show a% B^i+B^i*(a/B^i)+(b% B^i+B^i*(b/B^i))=(a% B^i+b% B^i)+B^i*(a/B^i+b/B^i)by rw[lw];omega];rw[lm _ _ c]
  rw[ae,ae,ae,d,nz,<-nz (a/B^i),<-nz,lq]
 ·conv=>rhs;rw[dh,mod_pow_succ,mod_pow_succ,kc,<-kd]
  rw[show a% B^i+B^i*ae B a i+(b% B^i+B^i*ae B b i)=(a% B^i+b% B^i)+B^i*(ae B a i+ae B b i)by rw[lw];omega];rw[lm _ _ c,dh,lq ((a% B^i+b% B^i)/B^i)]
theorem jL{n i:Nat}(h:n<B^i):ae B n i=0:=by
 rw[ae,kv h,n5]
theorem cz(a:2<=B)(n i:Nat):ae B n i<B:=ko _ o_
def fg(B a b i:Nat):Nat:=if a% B^i<b% B^i then 1 else 0
theorem B4(a b:Nat):fg B a b 0=0:=by simp[fg,mo]
theorem Lo(d:2<=B){a b:Nat}(k:b<=a)(i:Nat):
 (ae B a i<ae B b i+fg B a b i/\fg B a b (i+1)=1/\ae B a i+B=ae B (a-b) i+(ae B b i+fg B a b i))\/
 (ae B b i+fg B a b i<=ae B a i/\fg B a b (i+1)=0/\ae B a i=ae B (a-b) i+(ae B b i+fg B a b i)):=by
 have g:0<B^i:=kh o_;obtain⟨c,rfl⟩:=Nat.le.dest k;have j:=qU d b c i;rw[show b+c-b=c by omega];have hc:∀i,fg B (b+c) b i=dh B b c i:=by
  intro i;have g:0<B^i:=kh o_;have l:=ko b g;have m:=ko c g;rw[fg,dh,nz]
  by_cases h:b% B^i+c% B^i<B^i
  ·rw[j7 h,kv h,if_neg (oc.2 (Nat.le_add_right _ _))]
  ·have e1:(b% B^i+c% B^i)/B^i=1:=by
    rw[show b% B^i+c% B^i=(b% B^i+c% B^i-B^i)+B^i*1 by omega,lm _ _ g,kv o_]
   have e2:(b% B^i+c% B^i)% B^i=b% B^i+c% B^i-B^i:=by
    rw[Nat.mod_eq_sub_mod o_,j7 o_]
   rw[e1,e2,if_pos o_]
 rw[hc,hc];have n:=cz d b i;have o:=cz d c i;have p:=mc d b c i;have f:=la (ae B b i+ae B c i+dh B b c i) B;rw[j.1,j.2]at f;have q:=mc d b c (i+1);have r:=cz d (b+c) i;rcases(show dh B b c (i+1)=0\/dh B b c (i+1)=1 by omega)with e|e
 ·right;rw[e]at f⊢;simp at f;exact⟨o_,rfl,o_⟩
 ·left;rw[e]at f⊢;simp at f;exact⟨o_,rfl,o_⟩
def iY(B a b i j:Nat):Nat:=(a% B^i)*b+ae B a i*(b% B^j)*B^i
def di(B a b i j k:Nat):Nat:=if k<i+j then ae B (iY B a b i j) k else ae B ((a% B^i)*b) k
def mulC(B a b i j:Nat):Nat:=iY B a b i j/B^(i+j)-(a% B^i)*b/B^(i+j)
theorem aGr(a b i j:Nat):(a% B^i)*b<=iY B a b i j:=by rw[iY];omega
theorem Km(a b i:Nat):iY B a b i 0=(a% B^i)*b:=by simp[iY,mo]
theorem Cn(a b i:Nat):mulC B a b i 0=0:=by simp[mulC,Km]
theorem Ko(a b i j:Nat):iY B a b i (j+1)=iY B a b i j+ae B a i*ae B b j*B^(i+j):=by
 rw[iY,iY,mod_pow_succ,lw,kF,kK];have:ae B a i*(B^j*ae B b j)*B^i=ae B a i*ae B b j*(B^i*B^j):=by
  rw[j6 (B^j),<-kw,kw,j6 (B^j)]
 omega
theorem L6(a b i:Nat){n:Nat}(h:b<B^n):iY B a b i n=(a% B^(i+1))*b:=by
 rw[iY,j7 h,mod_pow_succ,kF];congr 1;rw[l0,j6 (ae B a i)]
theorem xY(n k:Nat):n/B^(k+1)=n/B^k/B:=by rw[kc,kd]
theorem C2(g:2<=B)(a b i j:Nat):
 (ae B a i*ae B b j+di B a b i j (i+j)+mulC B a b i j)% B=ae B (iY B a b i (j+1)) (i+j)/\
 (ae B a i*ae B b j+di B a b i j (i+j)+mulC B a b i j)/B=mulC B a b i (j+1):=by
 have f:0<B^(i+j):=kh o_;have d:iY B a b i (j+1)/B^(i+j)=iY B a b i j/B^(i+j)+ae B a i*ae B b j:=by
  rw[Ko,lz _ _ f]
 have h:(a% B^i)*b/B^(i+j)<=iY B a b i j/B^(i+j):=nc (aGr a b i j);have c:di B a b i j (i+j)=(a% B^i)*b/B^(i+j)% B:=by rw[di,if_neg o_,ae]
 have e:ae B a i*ae B b j+di B a b i j (i+j)+mulC B a b i j+B*((a% B^i)*b/B^(i+j)/B)=iY B a b i (j+1)/B^(i+j):=by
  rw[d,c,mulC];have:=la ((a% B^i)*b/B^(i+j)) B;omega
 constructor
 ·conv=>rhs;rw[ae,<-e]
  rw[mx]
 ·conv=>rhs;rw[mulC,show i+(j+1)=i+j+1 from rfl,xY,xY,<-e,lm _ _ o_]
  rw[li]
theorem Kp(f:2<=B){a b i j k:Nat}(hk:k≠i+j):di B a b i (j+1) k=di B a b i j k:=by
 rw[di,di]
 by_cases h:k<i+j
 ·rw[if_pos o_,if_pos h,Ko];have e:0<B^k:=kh o_;obtain⟨d,c⟩:∃d,i+j=k+1+d:=⟨i+j-(k+1),by
   have:k+1<=i+j:=h;rw[Nat.add_sub_cancel' this]⟩
  rw[c,kK,kc];generalize ae B a i*ae B b j=x;rw[ae,ae,show x*(B^k*B*B^d)=x*B^d*B*B^k by simp only[kw,j6,nm]];rw[lz _ _ e,lk]
 ·rw[if_neg o_,if_neg h]
theorem L7(a b i j:Nat):di B a b i (j+1) (i+j)=ae B (iY B a b i (j+1)) (i+j):=by
 rw[di,if_pos o_]
theorem vJ(d:2<=B)(a:Nat){b n:Nat}(i:Nat)(h:b<B^n):(a% B^i)*b<B^(i+n):=by
 have c:0<B^i:=kh o_;rw[kK];exact lb (ko _ c) h
theorem Jc(c:2<=B){a b i n:Nat}(h:b<B^n):mulC B a b i n=ae B ((a% B^(i+1))*b) (i+n):=by
 have h1:=vJ c a i h;have d:=vJ c a (i+1) h;rw[mulC,L6 a b i h,kv h1,n6];refine(j7 ?_).symm;rw[j8 (kh o_),j6 B,<-kc,show(i+n).succ=i+1+n by omega];exact d
theorem pD(a b i k:Nat):di B a b i 0 k=ae B ((a% B^i)*b) k:=by
 rw[di,Km];split<;>rfl
theorem L8(c:2<=B){a b i n k:Nat}(h:b<B^n)(hk:k≠i+n):di B a b i n k=ae B ((a% B^(i+1))*b) k:=by
 rw[di]
 split
 ·rw[L6 a b i h]
 ·rename_i h1;have e1:(a% B^i)*b<B^k:=j9 (vJ c a i h) (kb o_ o_);have e2:(a% B^(i+1))*b<B^k:=j9 (vJ c a (i+1) h) (kb o_ o_);rw[jL e1,jL e2]
theorem tQ(d:2<=B)(a b i:Nat):∀j,mulC B a b i j<B
 |0=>by rw[Cn];omega
 |j+1=>by
  have h:=(C2 d a b i j).2;have f:=tQ d a b i j;have g:di B a b i j (i+j)<B:=by rw[di];split<;>exact cz d _ _
  have e:ae B a i*ae B b j<=(B-1)*(B-1):=na (by have:=cz d a i;omega) (by have:=cz d b j;omega);rw[<-h,j8 o_];obtain⟨c,rfl⟩:∃c,B=c+1:=⟨B-1,o_⟩
  simp only[li]at e;rw[kF,lw];omega
end
section
variable{B:Nat}
theorem JZ{V W d:Nat}(a:0<V/d):W/V<=W/d/(V/d):=by
 have c:0<d:=by
  rcases lc d with h|h
  ·subst h;simp at a
  ·exact h
 have e:0<V:=by
  rcases lc V with h|h
  ·subst h;simp at a
  ·exact h
 rw[ll a,ll c];have a1:W/V*V<=W:=ls W V;have b:V/d*d<=V:=ls V d
 calc W/V*(V/d)*d=W/V*(V/d*d):=kw _ _ _
  _<=W/V*V:=kp _ b
  _<=W:=a1
theorem Xs{V W d q:Nat}(e:0<d)(c:0<V)(h:W/d<q*(V/d)):W/V<q:=by
 rw[j8 c];have a1:W<(W/d+1)*d:=by
  have:=nl (a:=W) e;rw[kF];omega
 have b:V/d*d<=V:=ls V d
 calc W<(W/d+1)*d:=a1
  _<=q*(V/d)*d:=km _ h
  _=q*(V/d*d):=kw _ _ _
  _<=q*V:=kp _ b
theorem V0{V W d q:Nat}(b:0<d)(g:q*d<=V)(a:0<V)(h:q*(V/d)<=W/d):q<=W/V+1:=by
 rcases lc q with hq|hq
 ·subst hq;exact m7 _
 have:q-1<=W/V:=by
  rw[ll a,Nat.sub_mul,lv];have a1:V<=V/d*d+d:=ow (nl b);have c:W/d*d<=W:=ls W d;have e:q*V<=q*(V/d)*d+q*d:=by
   calc q*V<=q*(V/d*d+d):=kp _ a1
    _=q*(V/d)*d+q*d:=by rw[lw,kw]
  have f:q*(V/d)*d<=W/d*d:=km _ h;omega
 omega
theorem CQ{q b c T a r:Nat}(d:q*b+r=T):q*(b*B+c)<=T*B+a↔q*c<=r*B+a:=by
 subst d;rw[lw,kF,kw];omega
theorem s8(n k:Nat):n/B^k=n/B^(k+1)*B+ae B n k:=by
 rw[xY,ae,j6];exact(kt _ _).symm
theorem rl(n j i:Nat):ae B (n/B^j) i=ae B n (j+i):=by
 rw[ae,ae,kd,kK]
theorem Dt{n m i:Nat}(h:i<m):ae B (n% B^m) i=ae B n i:=by
 obtain⟨d,rfl⟩:∃d,m=i+(d+1):=⟨m-i-1,o_⟩
 rw[ae,ae,kK,ms,kc,j6 (B^d),md]
theorem yf{n c m i:Nat}(h:i<m):ae B (n+c*B^m) i=ae B n i:=by
 rw[<-Dt (n:=n+c*B^m) h,lk,Dt h]
def Rz(B W V q n:Nat):Nat:=W+B^(n+1)-q*V
theorem aHE{W V q n:Nat}(h:q*V<=W){i:Nat}(hi:i<n+1):ae B (Rz B W V q n) i=ae B (W-q*V) i:=by
 rw[Rz,show W+B^(n+1)-q*V=(W-q*V)+1*B^(n+1)by omega,yf hi]
theorem Kr(b:2<=B){R d j:Nat}(k:Nat):ae B (R% B^j+d*B^j) k=if k<j then ae B R k else ae B d (k-j):=by
 have a:0<B^j:=kh o_
 split
 ·rename_i h;rw[yf h,Dt h]
 ·rename_i h;obtain⟨e,rfl⟩:∃e,k=j+e:=⟨k-j,o_⟩
  rw[<-rl,lz _ _ a,kv (ko _ a),l3,m0]
theorem yv{R V j:Nat}:R% (V*B^j)=R% B^j+(R/B^j% V)*B^j/\R/(V*B^j)=R/B^j/V:=by
 constructor
 ·rw[j6 V,ns,j6 (B^j)]
 ·rw[j6 V,kd]
end
section
variable{c v1 v0 T u1 q r:Nat}
def hq(c b a T u1:Nat):Nat:=(T*c+u1)/(b*c+a)
theorem QB(a:T<v1*c+v0)(b:u1<c):hq c v1 v0 T u1<c:=by
 rw[hq,j8 o_]
 calc T*c+u1<T*c+c:=by omega
  _=(T+1)*c:=by rw[kF,lv]
  _<=(v1*c+v0)*c:=km _ a
  _=c*(v1*c+v0):=j6 _ _
theorem Ny(b:0<v1)(f:v0<c)(e:u1<c):hq c v1 v0 T u1<=T/v1:=by
 have hc:0<c:=o_
 have a1:(v1*c+v0)/c=v1:=by rw[j6,oq hc,kv f,mp]
 have a:(T*c+u1)/c=T:=by rw[j6,oq hc,kv e,mp]
 have h:=JZ (V:=v1*c+v0) (W:=T*c+u1) (d:=c) (by rw[a1];exact b)
 rwa [a1,a]at h
theorem Dm(a:0<v1)(hc:0<c)(d:q*v1+r=T)(f:hq c v1 v0 T u1<=q)(e:q*v0<=c*r+u1):q=hq c v1 v0 T u1:=by
 have b:0<v1*c+v0:=by have:=m8 a hc;omega
 have h:q*(v1*c+v0)<=T*c+u1:=(CQ d).2 (by rw[j6 r];exact e);have:q<=hq c v1 v0 T u1:=by rw[hq,ll b];exact h
 omega
theorem Pj(b:0<v1)(hc:0<c)(f:q*v1+r=T)(i:hq c v1 v0 T u1<=q)(a:c<=q/\hq c v1 v0 T u1<c\/c*r+u1<q*v0):hq c v1 v0 T u1<=q-1:=by
 rcases a with⟨a,g⟩|a
 ·omega
 ·have d:0<v1*c+v0:=by have:=m8 b hc;omega
  have h:¬q*(v1*c+v0)<=T*c+u1:=fun e=>by
   have:=(CQ f).1 e;rw[j6 r]at this;omega
  have:hq c v1 v0 T u1<q:=by rw[hq,j8 d];omega
  omega
theorem XY(a:T<v1*c+v0)(e:v0<c)(b:q*v1+r=T)(d:c<=r):q<c:=by
 rcases kN q c with h|h
 ·exact h
 ·have:c*v1<=q*v1:=km _ h;rw[j6 c]at this;omega
theorem Mo(b:0<v1)(d:T<v1*c+v0)(g:v0<c)(a:q*v1+r=T)(f:c<=r)(e:hq c v1 v0 T u1<=q):q=hq c v1 v0 T u1:=by
 have i:=XY d g a f;refine Dm b o_ a e ?_;have a1:q*v0<=c*v0:=km _ o_;have h:c*v0<=c*r:=kp _ o_;omega
theorem QA(a:0<v1)(b:T<v1*c+v0)(d:c<=2*v1)(e:v0<c):T/v1<=c+1:=by
 have:T/v1<c+2:=by
  rw[j8 a,kF,j6 c];omega
 omega
theorem Nx:T*c+u1-hq c v1 v0 T u1*(v1*c+v0)=(T*c+u1)% (v1*c+v0):=by
 rw[hq];generalize T*c+u1=A;generalize v1*c+v0=V;have:=kt A V;rw[j6 (A/V)];omega
theorem ayV{Y U c:Nat}(hY:0<Y):U/Y=U/c/Y*c+((U/c% Y)*c+U% c)/Y/\U% Y=((U/c% Y)*c+U% c)% Y:=by
 have e:U=(U/c% Y*c+U% c)+(U/c/Y*c)*Y:=by
  have a:=kt U c;have b:=kt (U/c) Y;have d:(Y*(U/c/Y)+U/c% Y)*c=U/c*c:=by rw[b]
  rw[kF,j6 Y,l0]at d;rw[j6 c]at a;omega
 constructor
 ·conv=>lhs;rw[e]
  rw[lz _ _ hY,lq]
 ·conv=>lhs;rw[e]
  rw[lk]
end
section
variable{B W V n q r:Nat}
theorem aIF(b:2<=B)(c:2<=n)(a:V<B^n):V/B^(n-2)=ae B V (n-1)*B+ae B V (n-2):=by
 obtain⟨k,rfl⟩:∃k,n=k+2:=⟨n-2,o_⟩
 have e1:k+2-2=k:=o_
 have e2:k+2-1=k+1:=o_
 rw[e1,e2,s8];have:V/B^(k+1)=ae B V (k+1):=by
  rw[ae,j7];rw[j8 (kh o_),j6,<-kc];exact a
 rw[this]
theorem aIC(c:2<=B)(d:2<=n)(a:B^(n-1)<=V)(b:V<B^n):V/B^(n-1)=ae B V (n-1)/\0<ae B V (n-1):=by
 obtain⟨k,rfl⟩:∃k,n=k+1:=⟨n-1,o_⟩
 have e2:k+1-1=k:=o_
 rw[e2]at*;have:V/B^k=ae B V k:=by
  rw[ae,j7];rw[j8 (kh o_),j6,<-kc];exact b
 exact⟨this,by rw[<-this];exact nb a (kh o_)⟩
theorem CP(b:2<=B)(c:2<=n)(a:B^(n-1)<=V):0<V:=j9 (kh o_) a
theorem NC(c:2<=B)(f:2<=n)(d:B^(n-1)<=V)(e:V<B^n):W/V<=W/B^(n-1)/ae B V (n-1):=by
 obtain⟨a,b⟩:=aIC c f d e;rw[<-a];exact JZ (by rw[a];exact b)
theorem Pk(a:2<=B)(c:2<=n)(b:V<B^n)(d:q*ae B V (n-1)+r=W/B^(n-1)):
 q*(V/B^(n-2))<=W/B^(n-2)↔q*ae B V (n-2)<=r*B+ae B W (n-2):=by
 rw[aIF a c b,s8,show n-2+1=n-1 by omega];exact CQ d
theorem Ez(b:2<=B)(c:2<=n)(a:B^(n-1)<=V)(d:V<B^n)(g:q*ae B V (n-1)+r=W/B^(n-1))(hq:q<B)(h:q*ae B V (n-2)<=r*B+ae B W (n-2)):q<=W/V+1:=by
 have f:0<B^(n-2):=kh o_;refine V0 f ?_ (CP b c a) ((Pk b c d g).2 h);have e:n-1=n-2+1:=o_
 rw[e,kc,j6]at a;exact l5 (km _ o_) a
theorem Pm(a:2<=B)(b:2<=n)(c:B^(n-1)<=V)(d:V<B^n)(f:q*ae B V (n-1)+r=W/B^(n-1))(g:r*B+ae B W (n-2)<q*ae B V (n-2)):W/V<q:=by
 have e:0<B^(n-2):=kh o_;refine Xs e (CP a b c) ?_;rcases kN (W/B^(n-2)) (q*(V/B^(n-2)))with h|h
 ·exact h
 ·have:=(Pk a b d f).1 h;omega
theorem NA(a:2<=B)(b:B<=r)(hq:q<B):q*ae B V (n-2)<=r*B+ae B W (n-2):=by
 have d:ae B V (n-2)<B:=cz a _ _;have a1:q*ae B V (n-2)<=B*B:=na o_ o_;have c:B*B<=r*B:=km _ b;omega
theorem Dn(e:2<=B)(f:1<=n)(c:V<B^n)(a:W<V*B):W/B^n<=ae B V (n-1)/\W/V<B:=by
 obtain⟨k,rfl⟩:∃k,n=k+1:=⟨n-1,o_⟩
 have e2:k+1-1=k:=o_
 rw[e2];have hk:0<B^k:=kh o_;have b:V/B^k=ae B V k:=by
  rw[ae,j7];rw[j8 hk,j6,<-kc];exact c
 refine⟨?_,?_⟩
 ·rw[<-b,kc,j6,<-kd];refine nc ?_;have:W/B<V:=by rw[j8 o_];exact a
  omega
 ·have d:0<V:=by
   rcases lc V with h|h
   ·subst h;simp at a
   ·exact h
  rw[j8 d,j6];exact a
def iO(B V q i:Nat):Nat:=q*(V% B^i)/B^i
theorem W4:iO B V q 0=0:=by simp[iO,mo]
theorem Yw(b:2<=B)(i:Nat):(q*ae B V i+iO B V q i)% B=ae B (q*V) i/\(q*ae B V i+iO B V q i)/B=iO B V q (i+1):=by
 have a:0<B^i:=kh o_;have e:q*(V% B^(i+1))/B^i=q*ae B V i+iO B V q i:=by
  rw[mod_pow_succ,lw,nm,lm _ _ a,iO,lq]
 rw[<-e];constructor
 ·have e2:q*V=q*(V% B^(i+1))+q*(V/B^(i+1))*B^(i+1):=by
   have:=la V (B^(i+1))
   conv=>lhs;rw[<-this]
   rw[lw,j6 (B^(i+1)),kw]
  conv=>rhs;rw[e2,yf o_]
  rfl
 ·rw[iO,xY]
theorem aHN(b:2<=B)(hq:q<B)(i:Nat):iO B V q i<B:=by
 have a:0<B^i:=kh o_;rw[iO,j8 a];exact lb hq (ko _ a)
theorem Yy(c:2<=B)(hq:q<B)(a:V<B^n):iO B V q n=ae B (q*V) n:=by
 have b:0<B^n:=kh o_;rw[iO,j7 a,ae];refine(j7 ?_).symm;rw[j8 b];exact lb hq a
theorem VJ(hq:q<B)(a:V<B^n):q*V<B^(n+1):=by
 rw[kc,j6 (B^n)];exact lb hq a
theorem vF{m i:Nat}(hi:i<m):ae B (W+B^m) i=ae B W i:=by
 have:=yf (B:=B) (n:=W) (c:=1) hi
 rwa [lv]at this
theorem Vm(b:W<B^(n+1))(a:q*V<B^(n+1)):fg B (W+B^(n+1)) (q*V) (n+1)=if W<q*V then 1 else 0:=by
 rw[fg,oj,j7 b,j7 a]
theorem aHF(h:q*V<=W)(b:q<=W/V+1)(a:0<V)(c:W/V<=q):q=W/V/\W-q*V=W% V:=by
 have e:q=W/V:=by
  have:=(ll a).2 h;omega
 refine⟨e,?_⟩;have:=kt W V;rw[e,j6];omega
theorem YD(h:W<q*V)(b:q<=W/V+1)(a:0<V)(c:W/V<=q):q=W/V+1/\∀M,q*V<=W+M->W+M-q*V+V=W% V+M:=by
 have e:q=W/V+1:=by
  have:¬q<=W/V:=fun e=>by
   have:=(ll a).1 e;omega
  omega
 refine⟨e,fun M d=>?_⟩;have:=kt W V;have e2:q*V=V*(W/V)+V:=by rw[e,kF,lv,j6]
 omega
end
section
variable{S T:Nat}
theorem IW{x0 x1:Nat}(h:x0<S)(c:0<T):(x0+S*x1)% (S*T)=x0+S*(x1% T):=by
 have d:0<S:=o_
 have e:x1=x1% T+T*(x1/T):=(la x1 T).symm
 conv=>lhs;rw[e,lw,<-kw,<-n3,mx]
 refine j7 ?_;have a:x1% T+1<=T:=ko _ c;have b:S*(x1% T+1)<=S*T:=kp _ a;rw[lw,m9]at b;omega
theorem Xz(w:Nat):ae (S*T) (w*S) 0=(ae (S*T) w 0*S)% (S*T):=by
 simp only[ae,kW,l2];rw[Nat.mod_mul_mod]
theorem XA(b:0<S)(a:0<T)(w i:Nat):ae (S*T) (w*S) (i+1)=(ae (S*T) w (i+1)*S)% (S*T)+ae (S*T) w i/T:=by
 have d:0<S*T:=m8 b a;have e0:w*S/(S*T)^(i+1)=w/(S*T)^i/T:=by
  rw[kc,j6 S T,<-kw,m5 _ _ b,kd]
 have e1:w/(S*T)^(i+1)=w/(S*T)^i/(S*T):=by rw[kc,kd]
 simp only[ae];rw[e0,e1];generalize w/(S*T)^i=x;have e2:x/T=x% (S*T)/T+S*(x/(S*T)):=by
  conv=>lhs;rw[<-la x (S*T)]
  rw[show S*T*(x/(S*T))=T*(S*(x/(S*T)))by rw[j6 S T,kw],lm _ _ a]
 have c:x% (S*T)/T<S:=by rw[j8 a];exact ko _ d
 rw[e2,IW c a];have e3:x/(S*T)% (S*T)*S% (S*T)=S*(x/(S*T)% T):=by
  rw[j6 _ S,mm,j6 S T,md]
 rw[e3,lq]
theorem aH8(a:0<S)(e:0<T)(R i:Nat):ae (S*T) (R/S) i=ae (S*T) R i/S+(ae (S*T) R (i+1)*T)% (S*T):=by
 have d:0<S*T:=m8 a e;have e0:R/S/(S*T)^i=R/(S*T)^i/S:=by rw[kd,j6,kd]
 have e1:R/(S*T)^(i+1)=R/(S*T)^i/(S*T):=by rw[kc,kd]
 simp only[ae];rw[e0,e1];generalize R/(S*T)^i=x;have e2:x/S=x% (S*T)/S+T*(x/(S*T)):=by
  conv=>lhs;rw[<-la x (S*T)]
  rw[kw,lm _ _ a]
 have c:x% (S*T)/S<T:=by rw[j8 a,j6 T];exact ko _ d
 have b:=IW (S:=T) (T:=S) (x0:=x% (S*T)/S) (x1:=x/(S*T)) c a;rw[j6 T S]at b;rw[e2,b];have e3:x/(S*T)% (S*T)*T% (S*T)=T*(x/(S*T)% S):=by
  rw[j6 _ T,j6 S T,mm,j6 T S,md]
 rw[e3]
end
theorem DU{a b s:Nat}(c:b<2^s):a*2^s|||b=a*2^s+b:=by
 have:=Nat.shiftLeft_add_eq_or_of_lt c a;rw[Nat.shiftLeft_eq]at this;exact this.symm
def eW(l:List Nat):List PV:=l.map fun x:Nat=>.int .u64 x
theorem RL(w:List Nat):fa prog 1 (w.map (AV.p∘fun x:Nat=>PV.int .u64 x)):=by
 rw[vp];intro v a;obtain⟨x,_,rfl⟩:=h4.1 a;simp[aa,aL,bG]
theorem B6:∀l:List Nat,et (l++[0])=et l
 |[]=>by simp[et]
 |d::l=>by rw[hT,et,B6 l,et]
theorem vk:∀(l:List Nat)(d:Nat),d≠0->et (l++[d])=l++[d]
 |[],d,h=>by simp[et,h]
 |x::l,d,h=>by
  rw[hT,et,vk l d h]
  split
  ·rename_i e;simp at e
  ·rfl
theorem tU(w:List Nat)(h:w.length<=1048576):aB prog 318 [.seq (eW w)] (.seq (eW (et w))):=by
 refine aJ nf (i_ func318) mix (by simp[f318]) ?_;simp only[eW];simp[f318];refine lp (α:=Nat) (fun i=>⟨[(3,.p (.int .i64 i)),(0,.p (.seq (w.map fun x:Nat=>.int .u64 x)))],[]⟩) (fun i=>i<=w.length/\et w=et (w.take i)) (fun i=>i) w.length s_ ?_;rintro i ⟨k1,k2⟩
 by_cases hi:0<i
 ·obtain⟨j,rfl⟩:∃j,i=j+1:=⟨i-1,o_⟩
  have d:eb.wrap (j:Int)=j:=aQ _ o_ o_;have a:j<w.length:=o_
  have c:(0:Int)<(j:Int)+1:=o_
  have k3:=k2;rw[h3 a]at k2
  by_cases b:w[j]=0
  ·rw[b,B6]at k2;have e:((w[j]:Nat):Int)=0:=by omega
   simp[c,d,a,b];exact rd j ⟨o_,k2⟩
  ·rw[vk _ _ b,<-h3 a]at k2;simp[c,d,a,b];refine⟨⟨o_,o_,RL w⟩,?_⟩;rw[k2,h8];exact bD.refl _
 ·obtain rfl:i=0:=by omega
  simp[et]at k2;simp[k2];exact RL w
def eN(n:Nat):PV:=.seq ((aA wB n).map fun x:Nat=>.int .u64 x)
theorem bm:2<=wB:=by decide
def fQ(a b:Nat):Int:=if a<b then -1 else if b<a then 1 else 0
theorem Jx{a b:Nat}(h:(aA wB a).length<(aA wB b).length):a<b:=by
 have d:=cq bm a;rcases kN a b with c|c
 ·exact c
 ·have:=dN bm (aA wB a).length b (kk c d);omega
theorem K4{a b i:Nat}(h:a/wB^(i+1)=b/wB^(i+1))(e:ae wB a i<ae wB b i):a<b:=by
 rw[kc,<-kd,<-kd]at h;have e1:=kt (a/wB^i) wB;have e2:=kt (b/wB^i) wB;rw[ae,ae]at e;rw[h]at e1;rcases kN a b with d|d
 ·exact d
 ·have:=nc (c:=wB^i) d;omega
theorem Zb{a b i:Nat}(h:a/wB^(i+1)=b/wB^(i+1))(c:ae wB a i=ae wB b i):a/wB^i=b/wB^i:=by
 rw[kc,<-kd,<-kd]at h;have e1:=kt (a/wB^i) wB;have e2:=kt (b/wB^i) wB;rw[ae,ae]at c;rw[h]at e1;omega
theorem IE(a b:Nat)(z:(aA wB a).length<=1048576)(A:(aA wB b).length<=1048576):aB prog 309 [eN a,eN b] (.int .i64 (fQ a b)):=by
 refine aJ nf (i_ func309) mix (by simp[f309]) ?_
 by_cases g:(aA wB a).length=(aA wB b).length
 case neg=>
  have n:¬((aA wB a).length:Int)=(aA wB b).length:=o_
  by_cases u:(aA wB a).length<(aA wB b).length
  ·have k:((aA wB a).length:Int)<(aA wB b).length:=by omega
   have:=Jx u;have hc:fQ a b= -1:=if_pos this;simp[f309,eN,n,k,hc]
  ·have k:¬((aA wB a).length:Int)<(aA wB b).length:=by omega
   have:=Jx (a:=b) (b:=a) o_;have hc:fQ a b=1:=by rw[fQ,if_neg o_,if_pos this]
   simp[f309,eN,n,k,hc]
 have r:∀i(h:i<(aA wB a).length),(aA wB a)[i]=ae wB a i:=fun i h=>eD bm h;have s:∀i(h:i<(aA wB b).length),(aA wB b)[i]=ae wB b i:=fun i h=>eD bm h;have q:=cq bm a;have m:=cq bm b;rw[<-g]at m;have t:a/wB^(aA wB a).length=b/wB^(aA wB a).length:=by rw[kv q,kv m]
 have B:a=b\/a≠b:=o_
 simp only[eN];generalize aA wB a=x at*;generalize aA wB b=y at*;have w:eb.wrap ((y.length:Int)-1)=y.length-1:=aQ _ o_ o_;simp[f309,g,w];refine lp (α:=Nat) (fun i=>⟨[(5,.p (.int .i64 ((i:Int)-1))),(1,.p (.seq (y.map fun x:Nat=>.int .u64 x))),(0,.p (.seq (x.map fun x:Nat=>.int .u64 x)))],[]⟩) (fun i=>i<=y.length/\a/wB^i=b/wB^i) (fun i=>i) y.length ⟨kC _,by rw[<-g];exact t⟩ ?_;rintro i ⟨k1,k2⟩
 by_cases hi:0<i
 ·obtain⟨j,rfl⟩:∃j,i=j+1:=⟨i-1,o_⟩
  have c:j<x.length:=o_
  have d:j<y.length:=o_
  have v:eb.wrap ((j:Int)-1)=j-1:=aQ _ o_ o_;have e:=r j c;have f:=s j d
  by_cases hq:ae wB a j=ae wB b j
  ·simp[c,d,e,f,hq,v];exact rd j ⟨o_,Zb k2 hq⟩
  ·have o:¬(ae wB a j:Int)=ae wB b j:=by omega
   by_cases l:ae wB a j<ae wB b j
   ·have:=K4 k2 l;have hc:fQ a b= -1:=if_pos this;simp[c,d,e,f,o,l,hc]
   ·have:=K4 k2.symm (show ae wB b j<ae wB a j by omega);have hc:fQ a b=1:=by rw[fQ,if_neg o_,if_pos this]
    simp[c,d,e,f,o,l,hc]
 ·obtain rfl:i=0:=by omega
  rw[kW,l2,l2]at k2;have hc:fQ a b=0:=by rw[fQ,if_neg o_,if_neg o_]
  simp[hc]
@[simp] theorem KR{α:Type}{f:α->PV}:∀{l:List α},eQ (l.map (AV.p∘f))=some (l.map f)
 |[]=>rfl
 |x::l=>by simp only[hN,Function.comp,eQ];rw[show(l.map (AV.p∘f))=l.map (fun x=>AV.p (f x))from rfl]at*;have:=@KR α f l;rw[show(l.map (AV.p∘f))=l.map (fun x=>AV.p (f x))from rfl]at this;simp[this]
def uA(x:Nat):AV:=.p (.int .u64 x)
def gT(n i:Nat)(f:Nat->Nat):List AV:=(hK n).map fun j=>uA (if j<i then f j else 0)
theorem Dy(n i:Nat)(f:Nat->Nat):(gT n i f).length=n:=by simp[gT]
theorem L9(n:Nat)(f:Nat->Nat):hQ n (AV.p (.int .u64 0))=gT n 0 f:=by
 apply hS (by simp[gT]);intro i a b;simp[gT,uA]
theorem Dx{n i:Nat}(f:Nat->Nat)(h:i<n):(gT n i f).set i (.p (.int .u64 (f i)))=gT n (i+1) f:=by
 apply hS (by simp[gT]);intro j h1 c;simp only[gT,i8,ik]at c;rw[ix];simp only[gT,iz,ii,uA]
 by_cases a:i=j
 ·subst a;rw[if_pos rfl,if_pos o_]
 ·rw[if_neg a]
  by_cases b:j<i
  ·rw[if_pos b,if_pos o_]
  ·rw[if_neg b,if_neg o_]
theorem Ma(n:Nat)(f:Nat->Nat):gT n n f=((hK n).map f).map (AV.p∘fun x:Nat=>PV.int .u64 x):=by
 rw[gT,h9];apply hV;intro j a;rw[if_pos (h7.1 a)];rfl
@[simp] theorem aOx{N:Nat×Nat->Prop}{n i:Nat}{f:Nat->Nat}:aV N (gT n i f)=True:=by
 rw[cM,eq_iff_iff,iff_true];intro v a;simp only[gT,h4]at a;obtain⟨x,_,rfl⟩:=a;trivial
theorem vG{n i j:Nat}(f:Nat->Nat)(h:j<n):(gT n i f)[j]?=some (uA (if j<i then f j else 0)):=by
 rw[gT,ip,ih h];rfl
theorem VE{A C n:Nat}(a:A<wB^n)(b:C<wB^n):dh wB A C n=ae wB (A+C) n:=by
 have c:0<wB^n:=kh (by decide);have:=mc bm A C n;rw[dh,j7 a,j7 b]at*;rw[ae,j7];exact kk this (by decide)
theorem Ds{n i:Nat}(h:(aA wB n).length<=i):ae wB n i=0:=jL (j9 (cq bm n) (kb (by decide) h))
theorem VI(a b:Nat)(E:(aA wB a).length<=1000000)(F:(aA wB b).length<=1000000):aB prog 308 [eN a,eN b] (eN (a+b)):=by
 refine aJ nf (i_ func308) mix (by simp[f308]) ?_;simp[f308,-bu];rw[bu];simp[-bu];refine join (fun s=>∃A C,A+C=a+b/\(aA wB C).length<=(aA wB A).length/\(aA wB A).length<=1000000/\aP s.env 0=.p (eN A)/\aP s.env 1=.p (eN C)/\s.heap=[]) ?_ ?_
 ·by_cases T:(aA wB a).length<(aA wB b).length
  ·have j:((aA wB a).length:Int)<(aA wB b).length:=by omega
   simp[eN,j];exact⟨b,a,o_,o_,F,rfl,rfl⟩
  ·have j:¬((aA wB a).length:Int)<(aA wB b).length:=by omega
   simp[eN,j];exact⟨a,b,rfl,o_,E,rfl,rfl⟩
 rintro⟨Q,S⟩ ⟨A,C,hs,K,U,f0,f1,B⟩;dsimp only at f0 f1 B;subst B;rw[<-hs];simp only[eN]at f0 f1⊢;have G:∀i(h:i<(aA wB A).length),(aA wB A)[i]=ae wB A i:=fun i h=>eD bm h;have H:∀i(h:i<(aA wB C).length),(aA wB C)[i]=ae wB C i:=fun i h=>eD bm h;have I:=cq bm A;have J:=j9 (cq bm C) (kb (show 0<wB by decide) K);have t:=VE I J;have L:=@Ds C;have M:et ((hK ((aA wB A).length+1)).map (ae wB (A+C)))=aA wB (A+C):=jM bm (by
  have R:2*wB^(aA wB A).length<=wB^((aA wB A).length+1):=by rw[kc,j6];exact kp _ bm
  omega)
 have d:=tU ((hK ((aA wB A).length+1)).map (ae wB (A+C))) (by simp;omega);rw[M]at d;generalize aA wB (A+C)=z at*;generalize aA wB A=x at*;generalize aA wB C=y at*;obtain⟨n,c⟩:∃n,x.length=n:=⟨_,rfl⟩
 obtain⟨m,o⟩:∃m,y.length=m:=⟨_,rfl⟩
 rw[c]at t d;have u:=Ma (n+1) (ae wB (A+C));have k:((hK (n+1)).map (ae wB (A+C))).length=n+1:=s_
 generalize (hK (n+1)).map (ae wB (A+C))=l at d u k;have V:n<=1000000:=o_
 have W:m<=n:=o_
 have N:eb.wrap ((n:Int)+1)=n+1:=b6 o_;simp[f0,f1,c,N];refine⟨⟨o_,by simp only[cV];omega⟩,?_⟩;rw[L9 (n+1) (ae wB (A+C))];refine lp (α:=Nat) (fun i=>⟨[(22,.p (.int .i64 i)),(21,.p (.int .i64 n)),(6,.p (.int .u64 (dh wB A C i:Nat))),(5,.sl 0 0 1 0 (n+1)),(1,.p (.seq (y.map fun x:Nat=>.int .u64 x))),(0,.p (.seq (x.map fun x:Nat=>.int .u64 x)))],[.arr .exact 0 1 (gT (n+1) i (ae wB (A+C)))]⟩)
  (fun i=>i<=n) (fun i=>n-i) 0 s_ ?_ (he:=by simp[f0,f1,ym])
 intro i k1;have D:=b6 (i:=i) o_
 by_cases hi:i<n
 ·have g:i<x.length:=by rw[c];exact hi
  have hx:=G i g;have e:=rC (ae wB A i) (ae wB C i) (dh wB A C i) (mc bm A C i);obtain⟨g1,g2⟩:=qU bm A C i;rw[g1,g2]at e;have aN:=Dx (n:=n+1) (ae wB (A+C)) (show i<n+1 by omega);have al:i<(gT (n+1) i (ae wB (A+C))).length:=by rw[Dy];omega
  have w:(gT (n+1) i (ae wB (A+C))).length=n+1:=Dy _ _ _;have X:gT (n+1) i (ae wB (A+C))≠[]:=by intro h;rw[h]at w;simp at w
  have f:i<n+1:=o_
  by_cases q:i<m
  ·have v:i<y.length:=by rw[o];exact q
   have O:=H i v;have r:(i:Int)<m:=o_
   simp[c,o,hi,q,r,hx,O,g,v];refine c3 e ?_;simp[f,aN,D,vG _ f,aa,aL,bG,uA];exact rd (i+1) (show i+1<=n by omega)
  ·have r:¬(i:Int)<m:=by omega
   have P:=L (i:=i) o_;rw[P]at e;simp[c,o,hi,q,r,hx,g];refine c3 e ?_;simp[f,aN,D,vG _ f,aa,aL,bG,uA];exact rd (i+1) (show i+1<=n by omega)
 have:i=n:=o_
 subst this;simp[c,t,vG _ (ol i),Dx _ (ol i),u,aa,aL,bG,uA];refine cp d (by simp[k];exact⟨rfl,rfl⟩) ?_ (h1:=by simp[eW,hM,k]);simp;exact bD.refl _
end Go.aq
namespace Go.aq
open Go.Proofs
theorem Xv{x y c d:Nat}(h:x+wB=d+(y+c))(a:d<wB):(x+wB-y-c)% wB=d:=by rw[show x+wB-y-c=d by omega];exact j7 a
theorem XQ{x y c d:Nat}(h:x=d+(y+c))(a:d<wB):(x+wB-y-c)% wB=d:=by rw[show x+wB-y-c=d+wB by omega,oj];exact j7 a
theorem O7{A C:Nat}(h:C<=A)(i:Nat):aB prog 342 [.int .u64 (ae wB A i),.int .u64 (ae wB C i),.int .u64 (fg wB A C i)] (.aE [.int .u64 (ae wB (A-C) i),.int .u64 (fg wB A C (i+1))]):=by
 have c:fg wB A C i<=1:=by rw[fg];split<;>omega
 have a:=Z0 (ae wB A i) (ae wB C i) (fg wB A C i) c;have b:=cz bm (A-C) i;have e:=cz bm A i;have f:=cz bm C i;have d:wB=18446744073709551616:=rfl;rcases Lo bm h i with⟨e1,e2,e3⟩|⟨e1,e2,e3⟩
 ·rw[if_pos e1,Xv e3 b]at a;rw[e2];exact a
 ·rw[if_neg o_,XQ e3 b]at a;rw[e2];exact a
theorem JH(A C:Nat)(k:C<=A)(D:(aA wB A).length<=1000000):aB prog 310 [eN A,eN C] (eN (A-C)):=by
 refine aJ nf (i_ func310) mix (by simp[f310]) ?_;have F:(aA wB C).length<=(aA wB A).length:=dN bm _ _ (kk k (cq bm A));have s:∀i(h:i<(aA wB A).length),(aA wB A)[i]=ae wB A i:=fun i h=>eD bm h;have t:∀i(h:i<(aA wB C).length),(aA wB C)[i]=ae wB C i:=fun i h=>eD bm h;have u:=@Ds C;have v:et ((hK (aA wB A).length).map (ae wB (A-C)))=aA wB (A-C):=jM bm (kk (Nat.sub_le A C) (cq bm A));have b:=tU ((hK (aA wB A).length).map (ae wB (A-C))) (by simp;omega);rw[v]at b;simp only[eN];generalize aA wB (A-C)=z at*;generalize aA wB A=x at*;generalize aA wB C=y at*;obtain⟨n,a⟩:∃n,x.length=n:=⟨_,rfl⟩
 obtain⟨m,f⟩:∃m,y.length=m:=⟨_,rfl⟩
 rw[a]at b;have o:=Ma n (ae wB (A-C));have e:((hK n).map (ae wB (A-C))).length=n:=s_
 generalize (hK n).map (ae wB (A-C))=l at b o e;have E:n<=1000000:=o_
 have H:m<=n:=o_
 simp[f310,a];refine⟨by simp only[cV];omega,?_⟩;rw[L9 n (ae wB (A-C))];refine lp (α:=Nat) (fun i=>⟨[(14,.p (.int .i64 i)),(13,.p (.int .i64 n)),(6,.p (.int .u64 (fg wB A C i:Nat))),(5,.sl 0 0 1 0 n),(1,.p (.seq (y.map fun x:Nat=>.int .u64 x))),(0,.p (.seq (x.map fun x:Nat=>.int .u64 x)))],[.arr .exact 0 1 (gT n i (ae wB (A-C)))]⟩)
  (fun i=>i<=n) (fun i=>n-i) 0 s_ ?_ (he:=by simp[B4])
 intro i k1;have r:=b6 (i:=i) o_
 by_cases hi:i<n
 ·have d:i<x.length:=by rw[a];exact hi
  have hx:=s i d;have c:=O7 k i;have aN:=Dx (n:=n) (ae wB (A-C)) hi;have G:(gT n i (ae wB (A-C))).length=n:=Dy _ _ _
  by_cases g:i<m
  ·have q:i<y.length:=by rw[f];exact g
   have w:=t i q;have j:(i:Int)<m:=o_
   simp[a,f,hi,g,j,hx,w,d,q];refine c3 c ?_;simp[hi,aN,r,vG _ hi,aa,aL,bG,uA];exact rd (i+1) (show i+1<=n by omega)
  ·have j:¬(i:Int)<m:=by omega
   have B:=u (i:=i) o_;rw[B]at c;simp[a,f,hi,g,j,hx,d];refine c3 c ?_;simp[hi,aN,r,vG _ hi,aa,aL,bG,uA];exact rd (i+1) (show i+1<=n by omega)
 have:i=n:=o_
 subst this;simp[a,o,aa,aL,bG,uA];refine cp b (by simp[e];exact⟨rfl,rfl⟩) ?_ (h1:=by simp[eW,hM,e]);simp;exact bD.refl _
end Go.aq
namespace Go.Proofs
open Go.Shelf
def Tryz.Vi:gw:=⟨fun|134=>334|129=>324|n=>n,fun|53=>329|3=>3|4=>4|46=>371|5=>5|9=>9|n=>n,fun|n=>n⟩
theorem Tryz.aGg:ge prog Vi:={
 mixed:=k_
 f129:=func324.trans (congrArg some k_)
 f134:=func334.trans (congrArg some k_)
 t3:=underlying3
 a3:=isAgg3
 z3:=sizeOf3
 v3:=zeroValue3
 t4:=underlying4
 a4:=isAgg4
 z4:=sizeOf4
 v4:=zeroValue4
 t5:=underlying5
 a5:=isAgg5
 z5:=sizeOf5
 v5:=zeroValue5
 t9:=underlying9
 a9:=isAgg9
 z9:=sizeOf9
 v9:=zeroValue9
 t46:=underlying371
 a46:=isAgg371
 z46:=sizeOf371
 v46:=zeroValue371
 t53:=underlying329
 a53:=isAgg329
 z53:=sizeOf329
 v53:=zeroValue329}
theorem Tryz.bits_LeadingZeros64(x:Int)(w:cx)(a:0<=x)(b:x<=18446744073709551615):
 cy prog 334 #[.int .u64 x] w fun e w'=>e=.returned (.int .i64 (64-(ed x.toNat:Int)))/\w'=w:=Any.bits_LeadingZeros64 aGg x w a b
def Tryz.Vj:gw:=⟨fun|129=>324|n=>n,fun|53=>329|3=>3|4=>4|46=>371|5=>5|9=>9|n=>n,fun|n=>n⟩
theorem Tryz.aGf:gg prog Vj:={
 mixed:=k_
 f129:=func324.trans (congrArg some k_)
 t3:=underlying3
 a3:=isAgg3
 z3:=sizeOf3
 v3:=zeroValue3
 t4:=underlying4
 a4:=isAgg4
 z4:=sizeOf4
 v4:=zeroValue4
 t5:=underlying5
 a5:=isAgg5
 z5:=sizeOf5
 v5:=zeroValue5
 t9:=underlying9
 a9:=isAgg9
 z9:=sizeOf9
 v9:=zeroValue9
 t46:=underlying371
 a46:=isAgg371
 z46:=sizeOf371
 v46:=zeroValue371
 t53:=underlying329
 a53:=isAgg329
 z53:=sizeOf329
 v53:=zeroValue329}
theorem Tryz.bits_Len64(x:Int)(w:cx)(a:0<=x)(b:x<=18446744073709551615):
 cy prog 324 #[.int .u64 x] w fun e w'=>e=.returned (.int .i64 (ed x.toNat))/\w'=w:=Any.bits_Len64 aGf x w a b
def Tryz.Vg:gw:=⟨fun|264=>275|n=>n,fun|53=>329|46=>371|n=>n,fun|n=>n⟩
theorem Tryz.aGi:gb prog Vg:={
 mixed:=k_
 f264:=func275.trans (congrArg some k_)
 t46:=underlying371
 a46:=isAgg371
 z46:=sizeOf371
 v46:=zeroValue371
 t53:=underlying329
 a53:=isAgg329
 z53:=sizeOf329
 v53:=zeroValue329}
open Go.RowKit Go.Lib in
theorem Tryz.bits_Mul64(x y:Nat)(hx:x<18446744073709551616)(hy:y<18446744073709551616)(w:cx):
 cy prog 275 #[.int .u64 x,.int .u64 y] w fun e w'=>e=.returned (.tuple #[.int .u64 ((x*y/18446744073709551616:Nat):Int),.int .u64 ((x*y% 18446744073709551616:Nat):Int)])/\w'=w:=Any.bits_Mul64 aGi x y hx hy w
end Go.Proofs
namespace Go.aq
open Go.Proofs
section
variable[Gl]{P:c6}
theorem kJ{f:db}{fn:Func}(h:P.funcs[f]?=some fn)(hs:(fn.body.isSome&&(fn.name != "runtime.NumGoroutine"))=true):Enters P f:=by
 intro args w;simp only[b2,bne_iff_ne]at hs;cases a:fn.body with
 |none=>rw[a]at hs;simp at hs
 |some c=>simp[callFunc,h,hs.2,a]
theorem l9{f:db}{args:List PV}{v:PV}(l:Enters P f)
 (h:∀(w:cx)(ad:Nat->Prop)(a:List dg),(∀k,ad k->k<w.heap.size)->mZ P w ad->br P w ad args a->
  cy P f a.toArray w fun e w'=>∃b,e=.returned b/\(w.heap.size<=w'.heap.size/\(∀k,k<w.heap.size->w'.heap[k]?=w.heap[k]?)/\w'.os=w.os/\w'.output=w.output)/\∀(w:cx)(ad:Nat->Prop),aF P w ad v b):aB P f args v:=by
 refine .inl ⟨l,fun w ad a d m j=>(h w ad a d m j).mono ?_⟩;rintro e w' ⟨b,rfl,⟨c,g,n⟩,i⟩;exact⟨b,ad,rfl,fun _ x=>x,fun _ x=>.inl x,fun k hk=>j9 (d k hk) c,c,g,n,i _ _⟩
theorem qW{w:cx}{ad:Nat->Prop}{a b:PV}{cs:List dg}(h:br P w ad [a,b] cs):∃x y,cs=[x,y]/\aF P w ad a x/\aF P w ad b y:=by
 simp only[br]at h;obtain⟨x,xs,rfl,c,y,e,rfl,d,rfl⟩:=h;exact⟨x,y,rfl,c,d⟩
theorem yY{w:cx}{ad:Nat->Prop}{a:PV}{cs:List dg}(h:br P w ad [a] cs):∃x,cs=[x]/\aF P w ad a x:=by
 simp only[br]at h;obtain⟨x,xs,rfl,b,rfl⟩:=h;exact⟨x,rfl,b⟩
end
theorem zk(x y:Nat)(hx:x<18446744073709551616)(g:y<18446744073709551616):aB prog 275 [.int .u64 x,.int .u64 y] (.aE [.int .u64 ((x*y/18446744073709551616:Nat):Int),.int .u64 ((x*y% 18446744073709551616:Nat):Int)]):=by
 refine l9 (kJ func275 k_) fun w ad h _ _ f=>?_;obtain⟨a,b,rfl,c,d⟩:=qW f;simp only[aF]at c d;subst c d;refine(bits_Mul64 x y hx g w).mono ?_;rintro e w' ⟨rfl,rfl⟩;refine⟨_,rfl,⟨kC _,fun _ _=>rfl,rfl,rfl⟩,fun w ad=>?_⟩;simp only[aF,br];exact⟨[_,_],⟨_,_,rfl,rfl,_,_,rfl,rfl,rfl⟩,rfl⟩
theorem O9(x:Nat)(hx:x<18446744073709551616):aB prog 334 [.int .u64 x] (.int .i64 (64-(ed x:Int))):=by
 refine l9 (kJ func334 k_) fun w ad d _ _ c=>?_;obtain⟨a,rfl,b⟩:=yY c;simp only[aF]at b;subst b;refine(bits_LeadingZeros64 x w o_ o_).mono ?_;rintro e w' ⟨rfl,rfl⟩;refine⟨_,rfl,⟨kC _,fun _ _=>rfl,rfl,rfl⟩,fun w ad=>?_⟩;simp only[aF];rfl
end Go.aq
namespace Go.aq
open Go.Proofs
theorem fB(n:Int)(h:0<=n)(a:n<wB):ea.wrap n=n:=IntWalk.u64_in n ⟨h,by simp only[wB]at a;omega⟩
def cm(n:Nat)(f:Nat->Nat):List AV:=(hK n).map fun j=>uA (f j)
theorem MQ(n:Nat)(f:Nat->Nat):(cm n f).length=n:=by simp[cm]
theorem mS{n j:Nat}(f:Nat->Nat)(h:j<n):(cm n f)[j]?=some (.p (.int .u64 (f j))):=by
 rw[cm,ip,ih h];rfl
theorem C3{n:Nat}{f:Nat->Nat}(h:∀j,f j=0):hQ n (AV.p (.int .u64 0))=cm n f:=by
 apply hS (by simp[cm]);intro i a b;simp[cm,uA,h]
theorem pK{n i v:Nat}{f g:Nat->Nat}(d:g i=v)(c:∀k,k≠i->g k=f k):(cm n f).set i (.p (.int .u64 v))=cm n g:=by
 apply hS (by simp[cm]);intro j e b;simp only[cm,i8,ik]at b;rw[ix];simp only[cm,iz,ii,uA]
 by_cases a:i=j
 ·subst a;rw[if_pos rfl,d]
 ·rw[if_neg a,c j o_]
theorem C4(n:Nat)(f:Nat->Nat):cm n f=((hK n).map f).map (AV.p∘fun x:Nat=>PV.int .u64 x):=by
 rw[cm,h9];rfl
theorem Co{n:Nat}{f g:Nat->Nat}(h:∀k,f k=g k):cm n f=cm n g:=by rw[show f=g from funext h]
@[simp] theorem aOw{N:Nat×Nat->Prop}{n:Nat}{f:Nat->Nat}:aV N (cm n f)=True:=by
 rw[cM,eq_iff_iff,iff_true];intro v a;simp only[cm,h4]at a;obtain⟨x,_,rfl⟩:=a;trivial
@[simp] theorem aOA{σ:Nat->Nat}{n:Nat}{f:Nat->Nat}:cO σ (cm n f)=cm n f:=by
 have:∀l:List Nat,cO σ (l.map fun j=>uA (f j))=l.map fun j=>uA (f j):=by
  intro l
  induction l with
  |nil=>rfl
  |cons a r b=>simp only[hN,cO,b];rfl
 exact this _
theorem mul_two(P o k:Nat)(h:(P+o+k)/wB<wB)(a:o<wB)(hk:k<wB):
 ((P% wB+o+0)% wB+k+0)% wB=(P+o+k)% wB/\P/wB+(P% wB+o+0)/wB+((P% wB+o+0)% wB+k+0)/wB=(P+o+k)/wB/\P/wB+(P% wB+o+0)/wB<wB:=by
 simp only[wB]at*;omega
theorem VG(a b:Nat)(D:(aA wB a).length+(aA wB b).length<=1000000):aB prog 279 [eN a,eN b] (eN (a*b)):=by
 refine aJ nf (i_ func279) mix (by simp[f279]) ?_;have P:∀i(h:i<(aA wB a).length),(aA wB a)[i]=ae wB a i:=fun i h=>eD bm h;have Q:∀i(h:i<(aA wB b).length),(aA wB b)[i]=ae wB b i:=fun i h=>eD bm h;have t:=cq bm a;have q:=cq bm b;have U:et ((hK ((aA wB a).length+(aA wB b).length)).map (ae wB (a*b)))=aA wB (a*b):=jM bm (by
  rw[kK];exact lb t q)
 have e:=tU ((hK ((aA wB a).length+(aA wB b).length)).map (ae wB (a*b))) (by simp;omega);rw[U]at e;simp only[eN];generalize aA wB (a*b)=z at*;generalize aA wB a=x at*;generalize aA wB b=y at*;obtain⟨n,d⟩:∃n,x.length=n:=⟨_,rfl⟩
 obtain⟨m,c⟩:∃m,y.length=m:=⟨_,rfl⟩
 rw[d]at t e D;rw[c]at q e D;have E:=C4 (n+m) (ae wB (a*b));have u:((hK (n+m)).map (ae wB (a*b))).length=n+m:=s_
 generalize (hK (n+m)).map (ae wB (a*b))=l at e E u;have ag:eb.wrap ((n:Int)+m)=((n+m:Nat):Int):=by rw[aQ _ o_ o_];omega
 have T:((n:Int)+m).toNat=n+m:=o_
 have S:0<=(n:Int)+m:=o_
 have X:eb.wrap ((n:Int)+m)=(n:Int)+m:=aQ _ o_ o_;simp[f279,d,c,X,T,S];refine⟨by simp only[cV];omega,?_⟩;rw[C3 (f:=di wB a b 0 0) (by intro j;simp[pD,mo,ae])];refine lp (α:=Nat) (fun i=>⟨[(22,.p (.int .i64 i)),(21,.p (.int .i64 n)),(20,.p (.seq (x.map fun x:Nat=>.int .u64 x))),(5,.sl 0 0 1 0 (n+m)),(1,.p (.seq (y.map fun x:Nat=>.int .u64 x)))],[.arr .exact 0 1 (cm (n+m) (di wB a b i 0))]⟩)
  (fun i=>i<=n) (fun i=>n-i) 0 s_ ?_ (he:=s_)
 intro i k1;have V:=b6 (i:=i) o_
 by_cases hi:i<n
 ·have F:i<x.length:=by rw[d];exact hi
  have hx:=P i F;simp[d,c,hi,F,hx];refine lp (α:=Nat) (fun j=>⟨[(29,.p (.int .i64 j)),(28,.p (.int .i64 m)),(27,.p (.seq (y.map fun x:Nat=>.int .u64 x))),(8,.p (.int .u64 (mulC wB a b i j:Nat))),(7,.p (.int .u64 (ae wB a i:Nat))),(6,.p (.int .i64 i)),(22,.p (.int .i64 i)),(21,.p (.int .i64 n)),(20,.p (.seq (x.map fun x:Nat=>.int .u64 x))),(5,.sl 0 0 1 0 (n+m)),(1,.p (.seq (y.map fun x:Nat=>.int .u64 x)))],[.arr .exact 0 1 (cm (n+m) (di wB a b i j))]⟩)
   (fun j=>j<=m) (fun j=>m-j) 0 s_ ?_ (he:=by simp[Cn])
  intro j k2;have W:=b6 (i:=j) o_;have A:((i:Int)+j).toNat=i+j:=o_
  have w:0<=(i:Int)+j:=o_
  have I:eb.wrap ((i:Int)+j)=(i:Int)+j:=aQ _ o_ o_
  by_cases G:j<m
  ·have H:j<y.length:=by rw[c];exact G
   have Z:=Q j H;have s:i+j<n+m:=o_
   have o:=mS (di wB a b i j) s;have r:=C2 bm a b i j;have M:=tQ bm a b i j;have N:=tQ bm a b i (j+1);have O:di wB a b i j (i+j)<wB:=by rw[di];split<;>exact cz bm _ _
   obtain⟨e1,e2,e3⟩:=mul_two (ae wB a i*ae wB b j) (di wB a b i j (i+j)) (mulC wB a b i j) (by rw[r.2];exact N) O M;rw[r.1]at e1;rw[r.2]at e2;have J:=zk (ae wB a i) (ae wB b j) (cz bm _ _) (cz bm _ _);rw[show(18446744073709551616:Nat)=wB from rfl]at J;have ab:=rC (ae wB a i*ae wB b j% wB) (di wB a b i j (i+j)) 0 o_;have K:=rC ((ae wB a i*ae wB b j% wB+di wB a b i j (i+j)+0)% wB) (mulC wB a b i j) 0 o_;rw[e1]at K;have hs:=pK (n:=n+m) (i:=i+j) (f:=di wB a b i j) (g:=di wB a b i (j+1)) (L7 a b i j) (fun k hk=>Kp bm hk);generalize ae wB a i*ae wB b j% wB=L at*;generalize ae wB a i*ae wB b j/wB=B at*;generalize (L+di wB a b i j (i+j)+0)% wB=ac at*;generalize (L+di wB a b i j (i+j)+0)/wB=C at*;generalize (ac+mulC wB a b i j+0)/wB=ad at*;have w1:ea.wrap ((B:Int)+C)=((B+C:Nat):Int):=by rw[fB _ o_ o_];omega
   have af:ea.wrap ((B:Int)+C+ad)=(mulC wB a b i (j+1):Nat):=by rw[fB _ o_ o_];omega
   simp[d,c,G,H,Z];refine c2 J ?_;simp[I,A,w,s,o,aa,aL,bG];refine c3 ab ?_;simp[w1];refine c3 K ?_;simp[I,A,w,s,o,hs,w1,af,W,aa,aL,bG];exact rd (j+1) (show j+1<=m by omega)
  have:j=m:=o_
  subst this;have Y:eb.wrap ((i:Int)+j)=(i:Int)+j:=aQ _ o_ o_;have al:i+j<n+j:=o_
  have o:=mS (di wB a b i j) al;have hs:=pK (n:=n+j) (i:=i+j) (f:=di wB a b i j) (g:=di wB a b (i+1) 0) (v:=mulC wB a b i j) (by rw[pD,Jc bm q]) (fun k hk=>by rw[pD,L8 bm q hk]);simp[c,Y,A,w,hi,al,o,hs,V,aa,aL,bG];exact rd (i+1) (show i+1<=n by omega)
 have:i=n:=o_
 subst this;have R:cm (i+m) (di wB a b i 0)=cm (i+m) (ae wB (a*b)):=Co fun k=>by rw[pD,j7 t]
 simp[d,R,E];refine cp e (by simp[u];exact⟨rfl,rfl⟩) ?_ (h1:=by simp[eW,hM,u]);simp;exact bD.refl _
theorem zf(n:Nat):ea.wrap (n:Int)=(n% wB:Nat):=by
 rw[show ea.wrap (n:Int)=(n:Int)% 18446744073709551616 from rfl];rfl
theorem xm(x s:Nat)(hs:s<64):ea.wrap ((x:Int)*2^(min s ea.bits))=(x*2^s% wB:Nat):=by
 rw[show ea.bits=64 from rfl,n1 o_,<-zf];congr 1
theorem uK(x s:Nat)(hs:s<=64):(x:Int).fdiv (2^(min s ea.bits))=(x/2^s:Nat):=by
 rw[show ea.bits=64 from rfl,n1 hs,show(2:Int)^s=((2^s:Nat):Int)by push_cast;rfl,hp _ (Int.natCast_nonneg _)];rfl
theorem E0(a b:Nat)(c:a<wB)(d:b<wB):ea.wrap ((a% 2^ea.bits|||b% 2^ea.bits:Nat):Int)=(a|||b:Nat):=by
 rw[show(2^ea.bits:Nat)=wB from rfl,j7 c,j7 d,zf,j7];exact Nat.or_lt_two_pow (n:=64) c d
def cu(a s i:Nat):Nat:=if i=0 then 0 else ae wB a (i-1)/2^(64-s)
def gL(a s i k:Nat):Nat:=if k<i then ae wB (a*2^s) k else if k=i then cu a s i else 0
theorem zE{s:Nat}(hs:s<64):2^s*2^(64-s)=wB:=by rw[<-kK,show s+(64-s)=64 by omega];rfl
theorem MC(a s i:Nat)(hs:s<64):cu a s i|||(ae wB a i*2^s% wB)=ae wB (a*2^s) i:=by
 have c:0<2^s:=kh (by decide);have d:0<2^(64-s):=kh (by decide);have b:=zE hs;have hc:cu a s i<2^s:=by
  rw[cu];split
  ·exact c
  ·rw[j8 d,b];exact cz bm _ _
 have e:ae wB a i*2^s% wB=ae wB a i% 2^(64-s)*2^s:=by
  rw[<-b,j6,mm,j6]
 rw[oy,e,DU hc,<-e];cases i with
 |zero=>rw[cu,if_pos rfl,mp,<-b];exact(Xz a).symm
 |succ i=>rw[cu,if_neg o_,li,<-b];exact(XA c d a i).symm
theorem Ce{n:Nat}{f g:Nat->Nat}(h:∀k,k<n->f k=g k):cm n f=cm n g:=by
 rw[cm,cm];exact hV fun k hk=>by rw[h k (h7.1 hk)]
theorem agh(a s n:Nat)(hs:s<64)(h:ae wB a n=0):cu a s n=ae wB (a*2^s) n:=by
 rw[<-MC a s n hs,h,m1,n5,Nat.or_zero]
theorem KX(a s:Nat)(hs:s<64)(A:(aA wB a).length<=1000000):cC prog 335 [] [.p (eN a),.p (.int .i64 s)] [.arr .exact 0 1 (cm ((aA wB a).length+1) (ae wB (a*2^s)))] (.sl 0 0 1 0 ((aA wB a).length+1)):=by
 refine fk nf (i_ func335) mix (by simp[f335]) ?_;have C:∀i(h:i<(aA wB a).length),(aA wB a)[i]=ae wB a i:=fun i h=>eD bm h;have F:=@Ds a;simp only[eN];generalize aA wB a=x at*;obtain⟨n,c⟩:∃n,x.length=n:=⟨_,rfl⟩
 rw[c]at A;have J:eb.wrap ((n:Int)+1)=(n:Int)+1:=b6 o_;simp[f335,c,J];refine⟨⟨o_,by simp only[cV];omega⟩,?_⟩;rw[C3 (f:=gL a s 0) (by intro j;simp[gL,cu])];refine lp (α:=Nat) (fun i=>⟨[(14,.p (.int .i64 i)),(13,.p (.int .i64 n)),(12,.p (.seq (x.map fun x:Nat=>.int .u64 x))),(5,.sl 0 0 1 0 (n+1)),(1,.p (.int .i64 s))],[.arr .exact 0 1 (cm (n+1) (gL a s i))]⟩)
  (fun i=>i<=n) (fun i=>n-i) 0 s_ ?_ (he:=s_)
 intro i k1;have w:=b6 (i:=i) o_
 by_cases hi:i<n
 ·have l:i<x.length:=by rw[c];exact hi
  have hx:=C i l;have e:i<n+1:=o_
  have o:=mS (gL a s i) e;have E:ae wB a i*2^s% wB<wB:=ko _ (by decide);have B:gL a s i i<wB:=by
   rw[gL,if_neg o_,if_pos rfl,cu];split
   ·decide
   ·exact kk (l1 _ _) (cz bm _ _)
  have e1:=xm (ae wB a i) s hs;have e2:=E0 (gL a s i i) (ae wB a i*2^s% wB) B E;have e3:gL a s i i|||(ae wB a i*2^s% wB)=ae wB (a*2^s) i:=by rw[<-MC a s i hs,gL,if_neg o_,if_pos rfl]
  rw[e3]at e2;have y:eb.wrap (64-(s:Int))=((64-s:Nat):Int):=by rw[aQ _ o_ o_];omega
  have e4:=uK (ae wB a i) (64-s) o_;have r:i+1<n+1:=o_
  have u:=pK (n:=n+1) (i:=i) (f:=gL a s i) (g:=fun k=>if k=i then ae wB (a*2^s) i else gL a s i k) (if_pos rfl) (fun k hk=>if_neg hk);have G:=pK (n:=n+1) (i:=i+1) (v:=ae wB a i/2^(64-s)) (f:=fun k=>if k=i then ae wB (a*2^s) i else gL a s i k) (g:=gL a s (i+1)) (by
   simp[gL,cu]) (fun k hk=>by
   by_cases d:k=i
   ·subst d;simp[gL]
   ·simp only[gL,d,if_false]
    by_cases b:k<i
    ·rw[if_pos o_,if_pos b]
    ·rw[if_neg o_,if_neg hk,if_neg b])
  have D:=mS (n:=n+1) (fun k=>if k=i then ae wB (a*2^s) i else gL a s i k) r;have H:s=0->cm (n+1) (fun k=>if k=i then ae wB (a*2^s) i else gL a s i k)=cm (n+1) (gL a s (i+1)):=fun h=>by
   have K:ae wB a i/2^(64-s)=0:=by rw[h];exact kv (cz bm _ _)
   refine Co fun k=>?_
   by_cases d:k=i
   ·subst d;simp[gL]
   ·simp only[gL,d,if_false]
    by_cases b:k<i
    ·rw[if_pos b,if_pos o_]
    ·by_cases q:k=i+1
     ·rw[q,if_neg o_,if_neg o_,if_pos rfl,cu,if_neg o_,li,K]
     ·rw[if_neg b,if_neg o_,if_neg q]
  generalize ae wB a i*2^s% wB=L at*;generalize ae wB a i/2^(64-s)=M at*;generalize (fun k=>if k=i then ae wB (a*2^s) i else gL a s i k)=g1 at*;obtain⟨t,I⟩:∃t,t=64-s:=⟨_,rfl⟩
  rw[<-I]at y e4
  by_cases m:0<s
  ·simp[c,hi,e,l,hx,o,e1,e2,m,y,e4,w,u,r,D,G,aa,aL,bG];refine⟨⟨by rfl,by rfl,by rfl⟩,?_⟩;refine⟨o_,?_⟩;exact rd (i+1) (show i+1<=n by omega)
  ·have z:s=0:=by omega
   simp[c,hi,e,l,hx,o,e1,e2,m,w,u,H z,aa,aL,bG];refine⟨⟨by rfl,by rfl,by rfl⟩,?_⟩;exact rd (i+1) (show i+1<=n by omega)
 have:i=n:=o_
 subst this;simp[c];refine .inl (Ce fun k hk=>?_);rw[gL]
 by_cases b:k<i
 ·rw[if_pos b]
 ·obtain rfl:k=i:=by omega
  rw[if_neg b,if_pos rfl,agh a s k hs (F o_)]
theorem yy:∀(n x:Nat),x<=n->0<x->x<2^64->1<=ed x/\2^(ed x-1)<=x/\x<2^ed x
 |0,x,h,a,_=>by omega
 |n+1,x,h,a,c=>by
  have d:=Lib.bitLen_half x o_ c
  by_cases b:x=1
  ·subst b;decide
  ·obtain⟨i1,i2,i3⟩:=yy n (x/2) o_ o_ o_;rw[d];generalize ed (x/2)=L at*;obtain⟨k,rfl⟩:∃k,L=k+1:=⟨L-1,o_⟩
   rw[show 1+(k+1)=k+2 by omega,show k+2-1=k+1 by omega,kc,kc];rw[kc]at i3;simp only[li]at i2;omega
theorem PW{x:Nat}(a:0<x)(h:x<2^64):ed x<=64:=by
 obtain⟨_,b,_⟩:=yy x x (kC _) a h;have:=(n2 (show 1<2 by decide)).1 (kk b h);omega
def wH:Nat:=4294967296
theorem wHH:wH*wH=wB:=rfl
theorem L5{y:Nat}(a:0<y)(h:y<2^64):∃s,s<64/\ed y+s=64/\wB<=2*(y*2^s)/\y*2^s<wB:=by
 obtain⟨d,b,c⟩:=yy y y (kC _) a h;have e:=PW a h;refine⟨64-ed y,o_,o_,?_,?_⟩
 ·have:=km (2^(64-ed y)) b;rw[<-kK,show ed y-1+(64-ed y)=63 by omega]at this;simp only[wB];omega
 ·have:=lu c (kh (show 0<2 by decide) (n:=64-ed y));rw[<-kK,show ed y+(64-ed y)=64 by omega]at this;simp only[wB];omega
structure R6(hi lo y s:Nat) where
 Y:Nat
 v1:Nat
 v0:Nat
 T:Nat
 u:Nat
 u1:Nat
 u0:Nat
 q1:Nat
 R:Nat
 q0:Nat
 hY:Y=y*2^s
 eY:Y=v1*wH+v0
 Bb:v1<wH
 lW:v0<wH
 uN:wH<=2*v1
 xq:T<Y
 AU:hi*2^s<wB
 E3:hi*2^s|||lo/2^(64-s)=T
 eu:u=lo*2^s% wB
 Ex:u1=u/wH
 Ew:u0=u% wH
 Ba:u1<wH
 A9:u0<wH
 oO:q1=hq wH v1 v0 T u1
 A3:q1<wH
 eR:R=T*wH+u1-q1*Y
 xo:R<Y
 Ry:q1*Y<=T*wH+u1
 w8:q0=hq wH v1 v0 R u0
 A2:q0<wH
 Rx:q0*Y<=R*wH+u0
 Dw:q1*wH+q0=(hi*wB+lo)/y
 rem:(R*wH+u0-q0*Y)/2^s=(hi*wB+lo)% y
theorem au2{hi lo y:Nat}(n:hi<y)(G:y<wB)(A:lo<wB):∃s,s<64/\ed y+s=64/\Nonempty (R6 hi lo y s):=by
 obtain⟨s,hs,v,H,l⟩:=L5 (y:=y) o_ G;have f:=zE hs;have a:0<2^s:=kh (by decide);have w:0<2^(64-s):=kh (by decide);refine⟨s,hs,v,⟨?_⟩⟩;have e0:y*2^s=y*2^s/wH*wH+y*2^s% wH:=by rw[j6 _ wH,kt]
 have D:y*2^s% wH<wH:=ko _ (by decide);have E:y*2^s/wH<wH:=by rw[j8 (by decide)];exact l
 have F:wH<=2*(y*2^s/wH):=by simp only[wH,wB]at*;omega
 have z:lo/2^(64-s)<2^s:=by rw[j8 w,f];exact A
 have t:hi*2^s<wB:=m2 (lu n a) l;have g:hi*2^s+lo/2^(64-s)<y*2^s:=by
  have:=km (2^s) (show hi+1<=y from n);rw[kF,lv]at this;omega
 have B:hi*2^s|||lo/2^(64-s)=hi*2^s+lo/2^(64-s):=DU z
 have m:lo*2^s% wB/wH<wH:=by rw[j8 (by decide)];exact ko _ (by decide)
 have b:lo*2^s% wB% wH<wH:=ko _ (by decide);have h:(hi*wB+lo)*2^s=((hi*2^s+lo/2^(64-s))*wH+lo*2^s% wB/wH)*wH+lo*2^s% wB% wH:=by
  have e1:lo*2^s=lo/2^(64-s)*wB+lo*2^s% wB:=by
   have e2:lo*2^s/wB=lo/2^(64-s):=by
    rw[<-f,j6 lo,Nat.mul_div_mul_left _ _ a]
   rw[<-e2,j6 _ wB,kt]
  have e3:lo*2^s% wB=lo*2^s% wB/wH*wH+lo*2^s% wB% wH:=by rw[j6 _ wH,kt]
  rw[kF,l0,e1,kF (_*wH),kw (_+_) wH wH,wHH,kF];generalize hi*2^s*wB=a1;rw[<-e1];generalize lo*2^s% wB=a2 at*;generalize lo/2^(64-s)*wB=a3 at*;omega
 have k:0<y*2^s:=o_
 obtain⟨b1,d⟩:=ayV (Y:=y*2^s) (U:=(hi*wB+lo)*2^s) (c:=wH) k;have i:(hi*wB+lo)*2^s/wH=(hi*2^s+lo/2^(64-s))*wH+lo*2^s% wB/wH:=by
  rw[h,lq,lz _ _ (by decide),kv b,l3]
 have j:(hi*wB+lo)*2^s% wH=lo*2^s% wB% wH:=by
  rw[h,lq,lk,j7 b]
 rw[i,j,m5 _ _ a]at b1;rw[i,j,j6 _ (2^s),j6 y,mm]at d;rw[j6 (2^s) y]at d;generalize x:y*2^s=Y at*;generalize hi*2^s+lo/2^(64-s)=T at*;generalize C:lo*2^s% wB=u at*;have r:=Nx (T:=T) (c:=wH) (u1:=u/wH) (v1:=Y/wH) (v0:=Y% wH);rw[<-e0]at r;have q:=Nx (T:=(T*wH+u/wH)% Y) (c:=wH) (u1:=u% wH) (v1:=Y/wH) (v0:=Y% wH);rw[<-e0]at q;have p:hq wH (Y/wH) (Y% wH) T (u/wH)=(T*wH+u/wH)/Y:=by rw[hq,<-e0]
 have o:hq wH (Y/wH) (Y% wH) ((T*wH+u/wH)% Y) (u% wH)=((T*wH+u/wH)% Y*wH+u% wH)/Y:=by rw[hq,<-e0]
 have e:(T*wH+u/wH)% Y<Y:=ko _ k;exact{
  Y:=Y,v1:=Y/wH,v0:=Y% wH,T:=T,u:=u,u1:=u/wH,u0:=u% wH
  q1:=hq wH (Y/wH) (Y% wH) T (u/wH),R:=(T*wH+u/wH)% Y,q0:=hq wH (Y/wH) (Y% wH) ((T*wH+u/wH)% Y) (u% wH)
  hY:=x.symm,eY:=e0,Bb:=E,lW:=D,uN:=F,xq:=g,AU:=t,E3:=B,eu:=C.symm,Ex:=rfl,Ew:=rfl,Ba:=m,A9:=b
  oO:=rfl,A3:=QB (by rw[<-e0];exact g) m,eR:=r.symm,xo:=e
  Ry:=by rw[p];exact ls _ _
  w8:=rfl,A2:=QB (by rw[<-e0];exact e) b
  Rx:=by rw[o];exact ls _ _
  Dw:=by rw[p,o,<-b1]
  rem:=by rw[q,<-d,Nat.mul_div_cancel_left _ a]}
section
variable[Gl]{P:c6}{ag:db->Bool}{q:Nat×Nat}
theorem sy{b:Code}{Q:bA->St->Prop}{s:St}{id:Nat}(R:St->Prop)(f:eP P ag q (.loop b) (rJ id (rW R (fun _ _=>False))) s)(c:∀s',R s'->Q .normal s'):eP P ag q (.loop b) (rJ id Q) s:=by
 refine nM _ (fun e s a=>?_) f;cases e with
 |normal=>exact c s a
 |exit i=>
  simp only[rJ,oB]at a⊢
  by_cases d:i=id
  ·simp[d,rW]at a⊢;exact c s a
  ·simp[d,rW]at a
 |ret=>exact a.elim
end
theorem K5(a:Nat)(b:a<wB):ea.wrap ((a% 2^ea.bits&&&4294967295% 2^ea.bits:Nat):Int)=(a% wH:Nat):=by
 rw[show(2^ea.bits:Nat)=wB from rfl,j7 b,show 4294967295% wB=2^32-1 from rfl,nn,zf];rw[show(2:Nat)^32=wH from rfl,j7 (j9 (ko _ (by decide)) (show wH<=wB by decide))]
theorem R4{a b c:Int}{R:Nat}(h:a+b-c=R)(hR:R<wB):ea.wrap (ea.wrap (ea.wrap a+b)-ea.wrap c)=R:=by
 show(((a% 18446744073709551616+b)% 18446744073709551616)-c% 18446744073709551616)% 18446744073709551616=R;have:R<18446744073709551616:=hR;omega
theorem NU(hi lo y:Nat)(aA:hi<y)(ai:y<wB)(ag:lo<wB):aB prog 333 [.int .u64 hi,.int .u64 lo,.int .u64 y] (.aE [.int .u64 ((hi*wB+lo)/y:Nat),.int .u64 ((hi*wB+lo)% y:Nat)]):=by
 refine aJ nf (i_ func333) mix (by simp[f333]) ?_;have H:¬(y:Int)=0:=o_
 have N:¬(y:Int)<=hi:=o_
 have ae:¬y<=hi:=o_
 have ad:¬y=0:=o_
 by_cases ac:hi=0
 ·subst ac;have af:ea.wrap ((lo:Int)/y)=(lo:Int)/y:=fB _ (g7 o_ o_) (g8 (hd _ o_) o_);have av:(lo:Int).tmod y=(lo:Int)% y:=Int.tmod_eq_emod_of_nonneg o_;simp[f333,H,N,ad,ae,af,av]
 obtain⟨s,hs,aQ,⟨Y,b,v0,T,u,u1,u0,q1,R,q0,ab,eY,Bb,lW,uN,xq,AU,E3,eu,Ex,Ew,Ba,A9,oO,A3,eR,xo,Ry,w8,A2,Rx,Dw,rem⟩⟩:=au2 aA ai ag;have ay:=O9 y ai;obtain⟨t,ah⟩:∃t,t=64-s:=⟨_,rfl⟩
 have O:wH=4294967296:=rfl;have aw:wB=18446744073709551616:=rfl;have X:Y<wB:=by
  rw[O]at Bb lW eY;rw[aw];omega
 have au:ea.wrap (64-((ed y:Nat):Int))=s:=by rw[fB _ o_ o_];omega
 have f2:ea.wrap (64-(s:Int))=t:=by rw[fB _ o_ o_];omega
 have f3:ea.wrap ((y:Int)*2^(min s ea.bits))=Y:=by rw[xm y s hs,<-ab,j7 X]
 have f4:(Y:Int).fdiv (2^(min 32 ea.bits))=b:=by
  rw[uK Y 32 o_];rw[O]at lW eY;congr 1;omega
 have f5:ea.wrap ((hi:Int)*2^(min s ea.bits))=(hi*2^s:Nat):=by rw[xm hi s hs,j7 AU]
 have f6:(lo:Int).fdiv (2^(min t ea.bits))=(lo/2^t:Nat):=uK lo t o_;have f7:=E0 (hi*2^s) (lo/2^t) AU (kk (l1 _ _) ag);rw[ah,E3,<-ah]at f7;have f8:ea.wrap ((lo:Int)*2^(min s ea.bits))=u:=by rw[xm lo s hs,<-eu]
 have aM:u<wB:=by rw[eu];exact ko _ (by decide)
 have f9:(u:Int).fdiv (2^(min 32 ea.bits))=u1:=by
  rw[uK u 32 o_];congr 1;rw[Ex];rfl
 have d:0<b:=by rw[O]at uN;omega
 have al:¬b=0:=o_
 have am:¬(b:Int)=0:=o_
 have aN:T<wB:=o_
 generalize hi*2^s=aO at*;generalize lo/2^t=aR at*;have aF:T/b<=wH+1:=QA d (by rw[<-eY];exact xq) uN lW;have aK:T/b*b+T% b=T:=by rw[j6,kt]
 have aS:T% b<b:=ko _ d;have aH:=Ny (T:=T) (u1:=u1) d lW Ba;have g1:ea.wrap ((T:Int)/b)=(T/b:Nat):=by rw[fB _ (g7 o_ o_) (g8 (hd _ o_) o_)];rfl
 generalize T/b=K at*;generalize T% b=aj at*;have g2:ea.wrap ((T:Int)-ea.wrap ((K:Int)*b))=aj:=by
  have e:((K*b:Nat):Int)=(K:Int)*b:=by push_cast;rfl
  rw[fB ((K:Int)*b) o_ o_,fB _ o_ o_];omega
 have b1:=K5 Y X;have aa:=K5 u aM;rw[show Y% wH=v0 by rw[eY,lq,lk,j7 lW]]at b1;rw[<-Ew]at aa;have aY:b<4294967296:=Bb;have aW:v0<4294967296:=lW;have aV:u1<4294967296:=Ba;have aU:u0<4294967296:=A9;have aX:4294967296<=2*b:=uN;have aG:R/b<=wH+1:=QA d (by rw[<-eY];exact xo) uN lW;have aL:R/b*b+R% b=R:=by rw[j6,kt]
 have aT:R% b<b:=ko _ d;have ap:R<wB:=o_
 have aI:=Ny (T:=R) (u1:=u0) d lW A9;have aC:ea.wrap ((R:Int)/b)=(R/b:Nat):=by rw[fB _ (g7 o_ o_) (g8 (hd _ o_) o_)];rfl
 generalize R/b=L at*;generalize R% b=ak at*;have aD:ea.wrap ((R:Int)-ea.wrap ((L:Int)*b))=ak:=by
  have e:((L*b:Nat):Int)=(L:Int)*b:=by push_cast;rfl
  rw[fB ((L:Int)*b) o_ o_,fB _ o_ o_];omega
 have an:ea.wrap (ea.wrap (ea.wrap ((T:Int)*4294967296)+u1)-ea.wrap ((q1:Int)*Y))=R:=by
  refine R4 (h:=?_) (hR:=ap);have e1:((T*wH:Nat):Int)=(T:Int)*4294967296:=by push_cast;rfl
  have e2:((q1*Y:Nat):Int)=(q1:Int)*Y:=by push_cast;rfl
  omega
 have M2:ea.wrap (ea.wrap ((q1:Int)*4294967296)+q0)=((q1*wH+q0:Nat):Int):=by
  have H:q1*4294967296+q0<18446744073709551616:=by
   have N:q1<4294967296:=A3;have af:q0<4294967296:=A2;omega
  rw[fB ((q1:Int)*4294967296) o_ o_,fB _ o_ o_];push_cast;rfl
 obtain⟨Z,P⟩:∃Z,Z=R*wH+u0-q0*Y:=⟨_,rfl⟩
 have aq:Z<wB:=by
  have H:Z/2^s<y:=by rw[P,rem];exact ko _ o_
  rw[j8 (kh (by decide)),<-ab]at H;omega
 have ao:ea.wrap (ea.wrap (ea.wrap ((R:Int)*4294967296)+u0)-ea.wrap ((q0:Int)*Y))=Z:=by
  refine R4 (h:=?_) (hR:=aq);have e1:((R*wH:Nat):Int)=(R:Int)*4294967296:=by push_cast;rfl
  have e2:((q0*Y:Nat):Int)=(q0:Int)*Y:=by push_cast;rfl
  omega
 have M:=uK Z s o_;rw[P,rem]at M;rw[<-P]at M;rw[Dw]at M2;simp[f333,H,N,ad,ae,ac];refine c1 ay ?_;simp[au,f2,f3,f4,f5,f6,f7,f8,f9,al,am,g1,g2,b1,aa];refine sy (fun s'=>aP s'.env 15=.p (.int .u64 q1)/\aP s'.env 14=.p (.int .u64 u0)/\aP s'.env 13=.p (.int .u64 u1)/\aP s'.env 11=.p (.int .u64 T)/\aP s'.env 10=.p (.int .u64 v0)/\aP s'.env 9=.p (.int .u64 b)/\aP s'.env 8=.p (.int .u64 s)/\aP s'.env 2=.p (.int .u64 Y)/\s'.heap=[]) ?_ ?_
 ·refine lp (α:=Nat×Nat) (fun a=>⟨[(16,.p (.int .u64 a.2)),(15,.p (.int .u64 a.1)),(14,.p (.int .u64 u0)),(13,.p (.int .u64 u1)),(11,.p (.int .u64 T)),(10,.p (.int .u64 v0)),(9,.p (.int .u64 b)),(8,.p (.int .u64 s)),(2,.p (.int .u64 Y))],[]⟩) (fun a=>a.1*b+a.2=T/\hq wH b v0 T u1<=a.1/\a.2<wH/\a.1<=wH+1) (fun a=>a.1) (K,aj) ⟨aK,aH,o_,aF⟩ ?_;rintro⟨x,r⟩ ⟨k1,k2,k3,k4⟩;dsimp only at k1 k2 k3 k4;have aE:r<4294967296:=k3;have W:x<=4294967297:=k4;have g:ea.wrap ((x:Int)*v0)=(x*v0:Nat):=by
   have:=na W (show v0<=4294967295 by omega);rw[fB _ (by rw[<-g5];omega) (by rw[<-g5];omega)];push_cast;rfl
  have v:ea.wrap (4294967296*(r:Int))=4294967296*r:=fB _ o_ o_;have w:ea.wrap (4294967296*(r:Int)+u1)=4294967296*r+u1:=fB _ o_ o_;have m:ea.wrap ((r:Int)+b)=r+b:=fB _ o_ o_
  by_cases i:4294967296<=x\/4294967296*r+u1<x*v0
  ·have j:=Pj d (show 0<wH by decide) k1 k2 (i.imp (fun h=>⟨h,by rw[<-oO];exact A3⟩) id);obtain⟨k,rfl⟩:∃k,x=k+1:=⟨x-1,by
    rcases i with h|h
    ·omega
    ·rcases lc x with e|e
     ·rw[e]at h;omega
     ·omega⟩
   have l:ea.wrap (k:Int)=k:=fB _ o_ o_;have k5:k*b+(r+b)=T:=by rw[<-k1,kF];omega
   rw[li]at j;have kB:k<=wH+1:=o_
   by_cases Q:4294967296<=r+b
   ·have hq:=Mo d (by rw[<-eY];exact xq) lW k5 Q j;have f:(4294967296:Int)<=(r:Int)+b:=by omega
    rw[<-oO]at hq;subst hq;rcases kN (k+1) 4294967296 with hc|hc
    ·have n:((k:Int)+1<4294967296):=by omega
     have c:¬((4294967296:Int)<=(k:Int)+1):=o_
     have o:(4294967296*(r:Int)+u1<((k+1)*v0:Nat)):=o_
     have q:4294967296*r+u1<(k+1)*v0:=o_
     generalize (k+1)*v0=J at*;push_cast at g;simp[g,v,w,l,m,n,c,o,q,f]
    ·have c:((4294967296:Int)<=(k:Int)+1):=by omega
     simp[l,m,c,f]
   ·have f:¬(4294967296:Int)<=(r:Int)+b:=by omega
    rcases kN (k+1) 4294967296 with hc|hc
    ·have n:((k:Int)+1<4294967296):=by omega
     have c:¬((4294967296:Int)<=(k:Int)+1):=o_
     have o:(4294967296*(r:Int)+u1<((k+1)*v0:Nat)):=o_
     have q:4294967296*r+u1<(k+1)*v0:=o_
     generalize (k+1)*v0=J at*;push_cast at g;simp[g,v,w,l,m,n,c,o,q,f];exact rd (k,r+b) ⟨k5,j,show r+b<4294967296 by omega,kB⟩
    ·have c:((4294967296:Int)<=(k:Int)+1):=by omega
     simp[l,m,c,f];exact rd (k,r+b) ⟨k5,j,show r+b<4294967296 by omega,kB⟩
  ·have az:¬4294967296<=x:=fun h=>i (.inl h);have U:¬4294967296*r+u1<x*v0:=fun h=>i (.inr h);have hq:=Dm d (show 0<wH by decide) k1 k2 (oc.1 U);rw[<-oO]at hq;subst hq;have S:¬(4294967296:Int)<=x:=by omega
   have V:¬(4294967296*(r:Int)+u1<(x*v0:Nat)):=o_
   generalize x*v0=J at*;simp[g,v,w,S,V]
 rintro⟨ar,ax⟩ ⟨z,A,B,C,D,E,F,G,I⟩;dsimp only at z A B C D E F G I;subst I;simp[z,A,B,C,D,E,F,G,an,al,am,aC,aD];refine sy (fun s'=>aP s'.env 18=.p (.int .u64 q0)/\aP s'.env 15=.p (.int .u64 q1)/\aP s'.env 17=.p (.int .u64 R)/\aP s'.env 14=.p (.int .u64 u0)/\aP s'.env 10=.p (.int .u64 v0)/\aP s'.env 9=.p (.int .u64 b)/\aP s'.env 8=.p (.int .u64 s)/\aP s'.env 2=.p (.int .u64 Y)/\s'.heap=[]) ?_ ?_
 ·refine lp (α:=Nat×Nat) (fun a=>⟨[(16,.p (.int .u64 a.2)),(18,.p (.int .u64 a.1)),(15,.p (.int .u64 q1)),(17,.p (.int .u64 R)),(14,.p (.int .u64 u0)),(10,.p (.int .u64 v0)),(9,.p (.int .u64 b)),(8,.p (.int .u64 s)),(2,.p (.int .u64 Y))],[]⟩) (fun a=>a.1*b+a.2=R/\hq wH b v0 R u0<=a.1/\a.2<wH/\a.1<=wH+1) (fun a=>a.1) (L,ak) ⟨aL,aI,o_,aG⟩ ?_ (he:=by simp[z,A,B,C,D,E,F,G]);rintro⟨x,r⟩ ⟨k1,k2,k3,k4⟩;dsimp only at k1 k2 k3 k4;have aE:r<4294967296:=k3;have W:x<=4294967297:=k4;have g:ea.wrap ((x:Int)*v0)=(x*v0:Nat):=by
   have:=na W (show v0<=4294967295 by omega);rw[fB _ (by rw[<-g5];omega) (by rw[<-g5];omega)];push_cast;rfl
  have v:ea.wrap (4294967296*(r:Int))=4294967296*r:=fB _ o_ o_;have w:ea.wrap (4294967296*(r:Int)+u0)=4294967296*r+u0:=fB _ o_ o_;have m:ea.wrap ((r:Int)+b)=r+b:=fB _ o_ o_
  by_cases i:4294967296<=x\/4294967296*r+u0<x*v0
  ·have j:=Pj d (show 0<wH by decide) k1 k2 (i.imp (fun h=>⟨h,by rw[<-w8];exact A2⟩) id);obtain⟨k,rfl⟩:∃k,x=k+1:=⟨x-1,by
    rcases i with h|h
    ·omega
    ·rcases lc x with e|e
     ·rw[e]at h;omega
     ·omega⟩
   have l:ea.wrap (k:Int)=k:=fB _ o_ o_;have k5:k*b+(r+b)=R:=by rw[<-k1,kF];omega
   rw[li]at j;have kB:k<=wH+1:=o_
   by_cases Q:4294967296<=r+b
   ·have hq:=Mo d (by rw[<-eY];exact xo) lW k5 Q j;have f:(4294967296:Int)<=(r:Int)+b:=by omega
    rw[<-w8]at hq;subst hq;rcases kN (k+1) 4294967296 with hc|hc
    ·have n:((k:Int)+1<4294967296):=by omega
     have c:¬((4294967296:Int)<=(k:Int)+1):=o_
     have o:(4294967296*(r:Int)+u0<((k+1)*v0:Nat)):=o_
     have q:4294967296*r+u0<(k+1)*v0:=o_
     generalize (k+1)*v0=J at*;push_cast at g;simp[g,v,w,l,m,n,c,o,q,f]
    ·have c:((4294967296:Int)<=(k:Int)+1):=by omega
     simp[l,m,c,f]
   ·have f:¬(4294967296:Int)<=(r:Int)+b:=by omega
    rcases kN (k+1) 4294967296 with hc|hc
    ·have n:((k:Int)+1<4294967296):=by omega
     have c:¬((4294967296:Int)<=(k:Int)+1):=o_
     have o:(4294967296*(r:Int)+u0<((k+1)*v0:Nat)):=o_
     have q:4294967296*r+u0<(k+1)*v0:=o_
     generalize (k+1)*v0=J at*;push_cast at g;simp[g,v,w,l,m,n,c,o,q,f];exact rd (k,r+b) ⟨k5,j,show r+b<4294967296 by omega,kB⟩
    ·have c:((4294967296:Int)<=(k:Int)+1):=by omega
     simp[l,m,c,f];exact rd (k,r+b) ⟨k5,j,show r+b<4294967296 by omega,kB⟩
  ·have az:¬4294967296<=x:=fun h=>i (.inl h);have U:¬4294967296*r+u0<x*v0:=fun h=>i (.inr h);have hq:=Dm d (show 0<wH by decide) k1 k2 (oc.1 U);rw[<-w8]at hq;subst hq;have S:¬(4294967296:Int)<=x:=by omega
   have V:¬(4294967296*(r:Int)+u0<(x*v0:Nat)):=o_
   generalize x*v0=J at*;simp[g,v,w,S,V]
 rintro⟨ar,ax⟩ ⟨z,A,B,C,D,E,F,G,I⟩;dsimp only at z A B C D E F G I;subst I;simp[z,A,B,C,D,E,F,G,M2,ao,M]
def dH(j n:Nat)(g f:Nat->Nat)(k:Nat):Nat:=if j<=k/\k<j+n then f (k-j)else g k
theorem tx{j:Nat}{g f:Nat->Nat}:dH j 0 g f=g:=by
 funext k;rw[dH,if_neg o_]
theorem yM{m j i:Nat}{g f:Nat->Nat}{v:Nat}(a:f i=v):(cm m (dH j i g f)).set (j+i) (.p (.int .u64 v))=cm m (dH j (i+1) g f):=by
 refine pK ?_ fun k hk=>?_
 ·rw[dH,if_pos o_,m0,a]
 ·rw[dH,dH]
  by_cases h:j<=k/\k<j+i
  ·rw[if_pos h,if_pos o_]
  ·rw[if_neg h,if_neg o_]
theorem yN{m j i:Nat}{g f:Nat->Nat}(h:j+i<m):(cm m (dH j i g f))[j+i]?=some (.p (.int .u64 (g (j+i)))):=by
 rw[mS _ h,dH,if_neg o_]
theorem Yi{j n:Nat}{g f a:Nat->Nat}:dH j n (dH j n g f) a=dH j n g a:=by
 funext k;rw[dH,dH,dH];split<;>rfl
theorem ayo(X V m j n:Nat)(t:(aA wB V).length=n)(G:2<=n)(bj:j+n+1<=m)(bn:m<=1000002)(aO:X<V*wB^(j+1)):
 cC prog 336 [.arr .exact 0 1 (cm m (ae wB X))] [.sl 0 0 1 j (n+1),.p (eN V)] [.arr .exact 0 1 (cm m (ae wB (X% (V*wB^j))))] (.p (.int .u64 (X/(V*wB^j):Nat))):=by
 refine fk nf (i_ func336) mix (by simp[f336]) ?_;have l:=cq bm V;have I:wB^(n-1)<=V:=by
  rcases kN V (wB^(n-1))with h|h
  ·have:=dN bm (n-1) V h;omega
  ·exact h
 rw[t]at l;have U:∀i(h:i<(aA wB V).length),(aA wB V)[i]=ae wB V i:=fun i h=>eD bm h;have aC:0<V:=CP bm G I;obtain⟨W,w⟩:∃W,X/wB^j=W:=⟨_,rfl⟩
 have af:W<V*wB:=by
  rw[<-w,j8 (kh (by decide)),kw,j6 wB,<-kc];exact aO
 have T:W<wB^(n+1):=m2 af (by rw[kc];exact lu l (by decide));have aj:∀i,i<n+1->(cm m (ae wB X))[j+i]?=some (.p (.int .u64 (ae wB W i))):=fun i hi=>by rw[mS _ o_,<-w,rl]
 have aS:X/(V*wB^j)=W/V:=by rw[yv.2,w]
 have aF:∀f:Nat->Nat,(∀i,i<n+1->f i=ae wB (W% V) i)->cm m (dH j (n+1) (ae wB X) f)=cm m (ae wB (X% (V*wB^j))):=fun f hf=>Ce fun k hk=>by
  rw[yv.1,w,Kr bm,dH]
  by_cases u:k<j
  ·rw[if_neg o_,if_pos u]
  ·rw[if_neg u]
   by_cases H:k<j+(n+1)
   ·rw[if_pos o_,hf _ o_]
   ·have e1:ae wB X k=0:=by
     obtain⟨e,rfl⟩:∃e,k=j+e:=⟨k-j,o_⟩
     rw[<-rl,w];exact jL (j9 T (kb (by decide) o_))
    have e2:ae wB (W% V) (k-j)=0:=jL (j9 (kk (oz _ _) T) (kb (by decide) o_));rw[if_neg o_,e1,e2]
 rw[aS];simp only[eN];generalize aA wB V=x at*;have ay:∀i,i<n->i<x.length:=fun i h=>by omega
 have e1:eb.wrap ((n:Int)-1)=((n-1:Nat):Int):=by rw[aQ _ o_ o_];omega
 have e2:eb.wrap ((n:Int)-2)=((n-2:Nat):Int):=by rw[aQ _ o_ o_];omega
 obtain⟨b,E⟩:∃b,b=n-1:=⟨_,rfl⟩
 obtain⟨d,am⟩:∃d,d=n-2:=⟨_,rfl⟩
 rw[<-E]at e1;rw[<-am]at e2;have F:=U b o_;have aH:=U d o_;have ba:b<x.length:=o_
 have bb:d<x.length:=o_
 have L:x[b]?=some (ae wB V b):=by rw[hL ba,F]
 have a9:x[d]?=some (ae wB V d):=by rw[hL bb,aH]
 have O:b<n:=o_
 have Y:d<n:=o_
 have R:b<n+1:=o_
 have Z:d<n+1:=o_
 have au:=aj n o_;have g1:=aj b o_;have g2:=aj d o_;have aX:n=b+1:=o_
 have ax:W/wB^n=ae wB W n:=by
  rw[ae,j7];rw[j8 (kh (by decide)),j6,<-kc];exact T
 have ag:W/wB^b=ae wB W n*wB+ae wB W b:=by rw[s8,<-aX,ax]
 simp[f336,-bu,t];rw[bu];simp[-bu,t];rw[bu];simp[-bu,t];rw[bu];simp[-bu,t];rw[bu];simp[-bu,t];refine join (fun s=>∃q r o:Nat,q*ae wB V b+(r+o*wB)=W/wB^b/\W/V<=q/\q<wB/\r<wB/\o<=1/\aP s.env 0=.sl 0 0 1 j (n+1)/\aP s.env 1=.p (.seq (x.map fun x:Nat=>.int .u64 x))/\aP s.env 5=.p (.int .i64 n)/\aP s.env 6=.p (.int .u64 q)/\aP s.env 7=.p (.int .u64 r)/\aP s.env 8=.p (.int .u64 o)/\s.heap=[.arr .exact 0 1 (cm m (ae wB X))]) ?_ ?_
 ·by_cases hc:ae wB V b<=ae wB W n
  ·have ah:(ae wB V b:Int)<=ae wB W n:=by omega
   simp[e1,e2,F,L,O,R,au,g1,ah,t,aa,aL,bG];refine e3 (rC (ae wB W b) (ae wB V b) 0 o_) ?_;simp;have a1:=cz bm W b;have ar:=cz bm V b;have aJ:ae wB W n=ae wB V b:=by
    have:=(Dn bm o_ l af).1;rw[ax,<-E]at this;omega
   refine⟨18446744073709551615,(ae wB W b+ae wB V b)% wB,(ae wB W b+ae wB V b)/wB,?_,?_,by decide,ko _ (by decide),?_,rfl,rfl,rfl⟩
   ·rw[ag,aJ];simp only[wB];omega
   ·have:=(Dn bm o_ l af).2;simp only[wB]at this;omega
   ·simp only[wB]at*;omega
  ·have ah:¬(ae wB V b:Int)<=ae wB W n:=by omega
   simp[e1,e2,F,L,O,R,au,g1,ah,t,aa,aL,bG];refine e3 (NU (ae wB W n) (ae wB W b) (ae wB V b) o_ (cz bm _ _) (cz bm _ _)) ?_;simp;have a1:=cz bm W b;have ar:=cz bm V b;refine⟨(ae wB W n*wB+ae wB W b)/ae wB V b,(ae wB W n*wB+ae wB W b)% ae wB V b,0,?_,?_,?_,?_,o_,rfl,rfl,rfl⟩
   ·rw[ag,m1,mp,j6,kt]
   ·rw[<-ag,E];exact NC bm G I l
   ·rw[j8 o_];have:=km wB (show ae wB W n+1<=ae wB V b by omega);rw[kF,lv]at this;rw[j6 wB];omega
   ·exact m2 (ko _ o_) ar
 rintro⟨aK,aU⟩ ⟨q,r,o,k1,k2,k3,k4,k5,y,z,A,B,ao,ap,K⟩;dsimp only at y z A B ao ap K;subst K;simp[y,z,A,B,ao,ap];refine sy (fun s=>∃q:Nat,W/V<=q/\q<=W/V+1/\q<wB/\aP s.env 0=.sl 0 0 1 j (n+1)/\aP s.env 1=.p (.seq (x.map fun x:Nat=>.int .u64 x))/\aP s.env 5=.p (.int .i64 n)/\aP s.env 6=.p (.int .u64 q)/\s.heap=[.arr .exact 0 1 (cm m (ae wB X))]) ?_ ?_
 ·have a0:q*ae wB V b+(r+o*wB)=W/wB^b/\W/V<=q/\q<wB/\r<wB/\o<=1:=⟨k1,k2,k3,k4,k5⟩
  clear k1 k2 k3 k4 k5;refine lp (α:=Nat×Nat×Nat) (fun a=>⟨[(8,.p (.int .u64 a.2.2)),(7,.p (.int .u64 a.2.1)),(6,.p (.int .u64 a.1)),(5,.p (.int .i64 n)),(1,.p (.seq (x.map fun x:Nat=>.int .u64 x))),(0,.sl 0 0 1 j (n+1))],[.arr .exact 0 1 (cm m (ae wB X))]⟩)
   (fun a=>a.1*ae wB V b+(a.2.1+a.2.2*wB)=W/wB^b/\W/V<=a.1/\a.1<wB/\a.2.1<wB/\a.2.2<=1) (fun a=>a.1) (q,r,o) a0 ?_ (he:=by simp[y,z,A,B,ao,ap])
  rintro⟨q,r,o⟩ ⟨k1,k2,k3,k4,k5⟩;dsimp only at k1 k2 k3 k4 k5
  by_cases aY:o=0
  ·subst aY;rw[m1,mp]at k1;have S:=zk q (ae wB V d) k3 (cz bm _ _);rw[show(18446744073709551616:Nat)=wB from rfl]at S;have bf:=kt (q*ae wB V d) wB;have bg:q*ae wB V d% wB<wB:=ko _ (by decide);have aw:=fun h=>Ez bm G I l (by rw[<-E];exact k1) k3 (by rw[<-am];exact h);have av:=fun h=>Pm (q:=q) (r:=r) bm G I l (by rw[<-E];exact k1) (by rw[<-am];exact h);have bh:=cz bm W d;generalize q*ae wB V d% wB=lo at*;generalize q*ae wB V d/wB=hi at*;generalize q*ae wB V d=P at*;have v:=rC r (ae wB V b) 0 o_;simp[e1,e2,F,L,aH,a9,O,R,Y,Z,t];refine c2 S ?_;rcases Nat.lt_trichotomy hi r with h|h|h
   ·have hI:(hi:Int)<r:=by omega
    simp[hI];refine⟨q,k2,aw (by
     have:=kp wB (show hi+1<=r by omega);rw[lw,m9,j6 wB r]at this;omega),k3,rfl⟩
   ·subst h
    by_cases bk:lo<=ae wB W d
    ·have hI:(lo:Int)<=ae wB W d:=by omega
     simp[hI,e2,g2,Y,Z];exact⟨q,k2,aw (by rw[j6 hi];omega),k3,rfl⟩
    ·have hI:¬(lo:Int)<=ae wB W d:=by omega
     have J:=av (by rw[j6 hi];omega);have a2:0<q:=kk (m7 _) J;obtain⟨k,rfl⟩:∃k,q=k+1:=⟨q-1,o_⟩
     have w1:ea.wrap (k:Int)=k:=fB _ o_ o_;simp[hI,e1,e2,g2,O,R,Y,Z,F,L,w1,aa,aL,bG];refine c3 v ?_;simp;have z1:=la (hi+ae wB V b) wB;have z2:k*ae wB V b+((hi+ae wB V b)% wB+(hi+ae wB V b)/wB*wB)=W/wB^b:=by
      rw[j6 _ wB,z1,<-k1,kF,lv,n3,lq hi]
     have z3:=cz bm V b;have z4:(hi+ae wB V b)/wB<=1:=by
      have z5:=k4;simp only[wB]at z3 z5⊢;omega
     exact rd (k,(hi+ae wB V b)% wB,(hi+ae wB V b)/wB) ⟨z2,ou.1 J,od k3,ko _ (by decide),z4⟩
   ·have hI:¬(hi:Int)<r:=by omega
    have aN:¬(hi:Int)=r:=o_
    have aR:=kp wB (show r+1<=hi by omega);rw[lw,m9,j6 wB r]at aR;have J:=av o_;have a2:0<q:=kk (m7 _) J;obtain⟨k,rfl⟩:∃k,q=k+1:=⟨q-1,o_⟩
    have w1:ea.wrap (k:Int)=k:=fB _ o_ o_;simp[hI,aN,e1,e2,g2,O,R,Y,Z,F,L,w1,aa,aL,bG];refine c3 v ?_;simp;have z1:=la (r+ae wB V b) wB;have z2:k*ae wB V b+((r+ae wB V b)% wB+(r+ae wB V b)/wB*wB)=W/wB^b:=by
     rw[j6 _ wB,z1,<-k1,kF,lv,n3,lq r]
    have z3:=cz bm V b;have z4:(r+ae wB V b)/wB<=1:=by
     have z5:=k4;simp only[wB]at z3 z5⊢;omega
    exact rd (k,(r+ae wB V b)% wB,(r+ae wB V b)/wB) ⟨z2,ou.1 J,od k3,ko _ (by decide),z4⟩
  ·have aZ:o=1:=by omega
   subst aZ;simp;exact⟨q,k2,Ez bm G I l (by rw[<-E];exact k1) k3 (NA bm o_ k3),k3,rfl⟩
 rintro⟨aK,aU⟩ ⟨q,k2,k3,k4,y,z,A,B,K⟩;dsimp only at y z A B K;subst K;have a3:q*V<wB^(n+1):=VJ k4 l;have aD:q*V<=W+wB^(n+1):=o_
 obtain⟨D,ad⟩:∃D,D=W+wB^(n+1)-q*V:=⟨_,rfl⟩
 have aG:∀i,i<n+1->aB prog 342 [.int .u64 (ae wB W i),.int .u64 (ae wB (q*V) i),.int .u64 (fg wB (W+wB^(n+1)) (q*V) i)] (.aE [.int .u64 (ae wB D i),.int .u64 (fg wB (W+wB^(n+1)) (q*V) (i+1))]):=fun i hi=>by
  have h:=O7 aD i;rw[<-ad,vF hi]at h;exact h
 have a5:∀i,(q*ae wB V i% wB+iO wB V q i+0)% wB=ae wB (q*V) i/\ea.wrap (((q*ae wB V i/wB:Nat):Int)+((q*ae wB V i% wB+iO wB V q i+0)/wB:Nat))=(iO wB V q (i+1):Nat):=fun i=>by
  obtain⟨u,H⟩:=Yw (q:=q) (V:=V) bm i;have aM:=aHN (V:=V) bm k4 (i+1);rw[<-u,<-H];rw[<-H]at aM;generalize q*ae wB V i=P at*;generalize iO wB V q i=c at*;have e:P/wB+(P% wB+c+0)/wB=(P+c)/wB:=by simp only[wB];omega
  refine⟨by simp only[wB];omega,?_⟩;rw[fB _ o_ o_];omega
 have aT:=Vm (V:=V) (q:=q) T a3;have a4:=Yy bm k4 l;have bl:(cm m (ae wB X)).length=m:=MQ _ _;simp[y,z,A,B];refine lp (α:=Nat) (fun i=>⟨[(105,.p (.int .i64 i)),(104,.p (.int .i64 n)),(12,.p (.int .u64 (iO wB V q i:Nat))),(11,.p (.int .u64 (fg wB (W+wB^(n+1)) (q*V) i:Nat))),(6,.p (.int .u64 q)),(5,.p (.int .i64 n)),(1,.p (.seq (x.map fun x:Nat=>.int .u64 x))),(0,.sl 0 0 1 j (n+1))],[.arr .exact 0 1 (cm m (dH j i (ae wB X) (ae wB D)))]⟩)
  (fun i=>i<=n) (fun i=>n-i) 0 s_ ?_ (hn:=by simp[tx]) (he:=by simp[y,z,A,B,W4,B4]) (hh:=by simp[tx])
 intro i k5;have a7:=b6 (i:=i) o_
 by_cases hi:i<n
 ·have N:i<x.length:=ay i hi;have M:=U i N;have an:x[i]?=some (ae wB V i):=by rw[hL N,M]
  have S:=zk q (ae wB V i) k4 (cz bm _ _);rw[show(18446744073709551616:Nat)=wB from rfl]at S;have v:=rC (q*ae wB V i% wB) (iO wB V q i) 0 o_;obtain⟨bc,bd⟩:=a5 i;have ab:=aG i o_;rw[bc]at v;generalize q*ae wB V i% wB=lo at*;generalize q*ae wB V i/wB=bi at*;generalize (lo+iO wB V q i+0)/wB=c' at*;have al:i<n+1:=o_
  have C:(cm m (dH j i (ae wB X) (ae wB D)))[j+i]?=some (.p (.int .u64 (ae wB W i))):=by rw[yN o_,<-w,rl]
  have ac:=yM (m:=m) (j:=j) (i:=i) (g:=ae wB X) (f:=ae wB D) rfl;simp[t,hi,M,an];refine c2 S ?_;simp;refine c3 v ?_;simp[bd,al,C];refine c3 ab ?_;simp[al,C,ac,a7,aa,aL,bG];exact rd (i+1) (show i+1<=n by omega)
 have aV:i=n:=o_
 subst aV;have C:(cm m (dH j i (ae wB X) (ae wB D)))[j+i]?=some (.p (.int .u64 (ae wB W i))):=by rw[yN o_,<-w,rl]
 have ac:=yM (m:=m) (j:=j) (i:=i) (g:=ae wB X) (f:=ae wB D) rfl;have ab:=aG i o_;rw[<-a4]at ab;simp[C];refine c3 ab ?_;rw[aT]
 by_cases aE:q*V<=W
 ·obtain⟨y1,y2⟩:=aHF aE k3 aC k2;have ai:=aF (ae wB D) fun k hk=>by rw[ad,<-y2];exact aHE aE hk
  have aq:(q:Int)=(W:Int)/V:=by rw[y1];rfl
  have ak:(if W<q*V then 1 else 0:Nat)=0:=if_neg o_;rw[ak];simp[C,ac,ai,<-aq,aa,aL,bG]
 ·obtain⟨y1,y2⟩:=YD o_ k3 aC k2;have y3:=y2 (wB^(i+1)) aD;rw[<-ad]at y3;have ai:=aF (ae wB (D+V)) fun k hk=>by rw[y3,vF hk]
  have ak:(if W<q*V then 1 else 0:Nat)=1:=if_pos o_;have aq:ea.wrap ((q:Int)-1)=(W:Int)/V:=by
   have e:((W/V:Nat):Int)=(W:Int)/V:=rfl;rw[<-e];generalize W/V=Q at*;rw[fB _ o_ o_];omega
  rw[ak];simp[C,ac,aa,aL,bG];refine lp (α:=Nat) (fun k=>⟨[(157,.p (.int .i64 k)),(156,.p (.int .i64 i)),(17,.p (.int .u64 (dh wB D V k:Nat))),(6,.p (.int .u64 q)),(5,.p (.int .i64 i)),(1,.p (.seq (x.map fun x:Nat=>.int .u64 x))),(0,.sl 0 0 1 j (i+1))],[.arr .exact 0 1 (cm m (dH j k (dH j (i+1) (ae wB X) (ae wB D)) (ae wB (D+V))))]⟩)
   (fun k=>k<=i) (fun k=>i-k) 0 s_ ?_ (hn:=by simp[tx]) (he:=by simp[ym]) (hh:=by simp[tx])
  intro k k6;have a8:=b6 (i:=k) o_;have gk:(cm m (dH j k (dH j (i+1) (ae wB X) (ae wB D)) (ae wB (D+V))))[j+k]?=some (.p (.int .u64 (ae wB D k))):=by rw[yN o_,dH,if_pos o_,m0]
  have aI:=yM (m:=m) (j:=j) (i:=k) (g:=dH j (i+1) (ae wB X) (ae wB D)) (f:=ae wB (D+V)) rfl;obtain⟨u,H⟩:=qU bm D V k
  by_cases hk:k<i
  ·have N:k<x.length:=ay k hk;have M:=U k N;have an:x[k]?=some (ae wB V k):=by rw[hL N,M]
   have v:=rC (ae wB D k) (ae wB V k) (dh wB D V k) (mc bm _ _ _);rw[u,H]at v;have az:k<i+1:=o_
   simp[t,hk,az,M,an,gk,aa,aL,bG];refine e3 v ?_;simp[az,gk,aI,a8,aa,aL,bG];refine⟨⟨by rfl,by rfl,by rfl⟩,?_⟩;exact rd (k+1) (show k+1<=i by omega)
  have aW:k=i:=o_
  subst aW;have a6:ae wB V k=0:=jL l;rw[a6,mp]at u;have be:ea.wrap ((ae wB D k:Int)+(dh wB D V k:Nat))=(ae wB (D+V) k:Nat):=by rw[<-hB,zf,u]
  simp[gk,aI,be,aq,ai,Yi,aa,aL,bG]
theorem Yf{a b i:Nat}(c:0<b):(a/wB^(i+1)% b*wB+ae wB a i)/b=ae wB (a/b) i/\(a/wB^(i+1)% b*wB+ae wB a i)% b=a/wB^i% b:=by
 have e:=s8 (B:=wB) a i;have g:=kt (a/wB^(i+1)) b;have f:a/wB^i=(a/wB^(i+1)% b*wB+ae wB a i)+a/wB^(i+1)/b*wB*b:=by
  rw[e];generalize ae wB a i=d;generalize a/wB^(i+1)/b=Q at*;generalize a/wB^(i+1)% b=R at*;rw[<-g,kF,j6 b,l0 Q b wB];omega
 have j:(a/wB^(i+1)% b*wB+ae wB a i)/b<wB:=by
  rw[j8 c];have k:=cz bm a i;have h:=km wB (show a/wB^(i+1)% b+1<=b from ko _ c);rw[kF,lv]at h;rw[j6 wB];omega
 constructor
 ·conv=>rhs;rw[ae,kd,j6 b,<-kd,f,lz _ _ c,lk,j7 j]
 ·rw[f,lk]
def qF(Q i k:Nat):Nat:=if i<=k then ae wB Q k else 0
theorem N4{m Q i:Nat}:(cm m (qF Q (i+1))).set i (.p (.int .u64 (ae wB Q i)))=cm m (qF Q i):=by
 refine pK ?_ fun k hk=>?_
 ·rw[qF,if_pos (kC _)]
 ·rw[qF,qF]
  by_cases h:i<=k
  ·rw[if_pos h,if_pos o_]
  ·rw[if_neg h,if_neg o_]
theorem Na{m Q:Nat}:cm m (qF Q 0)=cm m (ae wB Q):=Co fun k=>by rw[qF,if_pos (m7 _)]
theorem Nb{m Q:Nat}:hQ m (AV.p (.int .u64 0))=cm m (qF Q m):=by
 rw[C3 (f:=fun _=>0) (fun _=>rfl)];exact Ce fun k hk=>by rw[qF,if_neg o_]
theorem DB{m N:Nat}(h:N<wB^m)(b:m<=1048576):∃l:List Nat,l.length=m/\cm m (ae wB N)=l.map (AV.p∘fun x:Nat=>PV.int .u64 x)/\aB prog 318 [.seq (eW l)] (eN N):=by
 refine⟨(hK m).map (ae wB N),s_,C4 m _,?_⟩;have a:=tU ((hK m).map (ae wB N)) (by simp;omega);rw[show et ((hK m).map (ae wB N))=aA wB N from jM bm h]at a;exact a
theorem pN{a b:Nat}:fQ a b<0↔a<b:=by
 rw[fQ];split
 ·simp[*]
 ·split<;>simp[*]
theorem V9(r:Nat):((r:Int)% 2^ea.bits).toNat=r% 2^ea.bits:=by
 rw[show ea.bits=64 from rfl];omega
theorem awy{b d n a s V:Nat}(g:b/wB^a=d)(h:n=a+1)(hs:s<64)(o:wB<=2*(d*2^s))(i:d*2^s<wB)(f:V=b*2^s):V<wB^n/\wB^n<=2*V:=by
 have m:0<wB^a:=kh (by decide);have j:0<2^s:=kh (by decide);have k:b<(d+1)*wB^a:=by
  rw[<-g,kF,lv];exact nl m
 have l:(d+1)*2^s<=wB:=by
  have c:=zE hs;have e:d<2^(64-s):=by
   rw[<-c,j6 d]at i;exact Nat.lt_of_mul_lt_mul_left i
  rw[<-c,j6];exact kp _ e
 constructor
 ·rw[f,h,kc,j6 _ wB];refine j9 (lu k j) ?_;rw[l0];exact km _ l
 ·rw[f,h,kc,j6 _ wB];refine l5 (km _ o) ?_;have c:d*wB^a<=b:=by rw[<-g];exact ls _ _
  have e:=km (2^s) c;rw[kw 2,l0 d];exact kp _ e
theorem X7{a n b s V:Nat}(f:a<wB^b)(hs:s<64)(e:wB^n<=2*V)(i:n<=b):a*2^s<V*wB^(b-n+1):=by
 have d:2*2^s<=wB:=by
  have c:2^(s+1)<=2^64:=kb (by decide) hs;rw[kc,j6]at c;exact c
 have g:=km (wB^(b-n+1)) e;rw[<-kK,show n+(b-n+1)=b+1 by omega,kc,kw]at g;have c:=kp a d;have h:=lu f (show 0<wB by decide);rw[nm]at c;generalize wB^b*wB=z1 at*;generalize V*wB^(b-n+1)=z2 at*;generalize a*2^s=z3 at*;generalize a*wB=z4 at*;clear d e f;omega
theorem awD{a b n d c:Nat}(h:a<wB^c)(f:0<b)(i:n=d+1)(g:wB^d<=b)(j:n<=c):a/b<wB^(c-n+1):=by
 rw[j8 f];refine j9 h ?_;have e:=kp (wB^(c-n+1)) g;rw[<-kK,show c-n+1+d=c by omega]at e;exact e
theorem X8{a b s k:Nat}(c:0<2^s):a*2^s% (b*2^s*wB^(k+1))/(b*2^s*wB^k)=ae wB (a/b) k:=by
 rw[kc,<-kw,ms,<-kd,m5 _ _ c,ae]
theorem MR{n N:Nat}{f g:Nat->Nat}(a:n<=N)(h:∀k,k<n->f k=g k):((hK N).map f).take n=(hK n).map g:=by
 rw[<-h8,List.take_range,n1 a];exact hV fun k hk=>h k (h7.1 hk)
theorem CX(a b:Nat)(A:0<b)(bd:(aA wB a).length<=1000000)(bL:(aA wB b).length<=1000000):aB prog 299 [eN a,eN b] (.aE [eN (a/b),eN (a% b)]):=by
 refine aJ nf (i_ func299) mix (by simp[f299]) ?_;have bg:=IE a b o_ o_;simp[f299];refine c2 bg ?_
 by_cases I:a<b
 ·have G:=pN.2 I;simp[G,kv I,j7 I,eN,aA,nw]
 have G:¬fQ a b<0:=fun h=>I (pN.1 h);have bj:∀i(h:i<(aA wB a).length),(aA wB a)[i]=ae wB a i:=fun i h=>eD bm h;have U:∀i(h:i<(aA wB b).length),(aA wB b)[i]=ae wB b i:=fun i h=>eD bm h;have B:=cq bm a;have q:=cq bm b
 by_cases K:(aA wB b).length=1
 ·rw[K,l4]at q;have W:((aA wB b).length:Int)=1:=by omega
  obtain⟨l,C,L,z⟩:=DB (m:=(aA wB a).length) (N:=a/b) (kk (l1 _ _) B) o_;have au:=tU [a% b] s_;have bi:et [a% b]=aA wB (a% b):=by
   have M:a% b<wB:=m2 (ko _ A) q;have:=jM bm (m:=1) (n:=a% b) (by rw[l4];exact M);rw[<-this,row,j1,hN,j3,ae,kW,l2,j7 M]
  rw[bi]at au;have be:(aA wB b)[0]?=some b:=by
   rw[hL o_,U 0 o_,ae,kW,l2,j7 q]
  have bf:∀h:0<(aA wB b).length,(aA wB b)[0]'h=b:=fun h=>by rw[U 0 h,ae,kW,l2,j7 q]
  have aE:a/wB^(aA wB a).length% b=0:=by rw[kv B,n5]
  simp only[eN]at z⊢;generalize aA wB (a/b)=bE at*;generalize aA wB (a% b)=aV at*;generalize aA wB a=x at*;generalize aA wB b=y at*;obtain⟨n,w⟩:∃n,x.length=n:=⟨_,rfl⟩
  rw[w]at C L aE bd;have e1:eb.wrap ((n:Int)-1)=n-1:=aQ _ o_ o_;simp[G,K,W,w,e1];refine⟨by simp only[cV];omega,?_⟩;rw[Nb (Q:=a/b)];refine lp (α:=Nat) (fun i=>⟨[(8,.p (.int .i64 ((i:Int)-1))),(7,.p (.int .u64 (a/wB^i% b:Nat))),(6,.sl 0 0 1 0 n),(1,.p (.seq (y.map fun x:Nat=>.int .u64 x))),(0,.p (.seq (x.map fun x:Nat=>.int .u64 x)))],[.arr .exact 0 1 (cm n (qF (a/b) i))]⟩)
   (fun i=>i<=n) (fun i=>i) n (kC _) ?_ (he:=by simp[aE])
  intro i k1
  by_cases hi:0<i
  ·obtain⟨k,rfl⟩:∃k,i=k+1:=⟨i-1,o_⟩
   have e2:eb.wrap ((k:Int)-1)=k-1:=aQ _ o_ o_;have aT:k<x.length:=o_
   have hx:=bj k aT;have ad:x[k]?=some (ae wB a k):=by rw[hL aT,hx]
   have ar:=NU (a/wB^(k+1)% b) (ae wB a k) b (ko _ A) q (cz bm _ _);obtain⟨r,ag⟩:=Yf (a:=a) (i:=k) A;rw[r,ag]at ar;have aN:=N4 (m:=n) (Q:=a/b) (i:=k);have gk:=mS (n:=n) (qF (a/b) (k+1)) (show k<n by omega);have aG:k<n:=o_
   generalize a/wB^(k+1)% b=bF at*;simp[w,e2,hx,ad,be,bf,K,aG,aa,aL,bG];refine e3 ar ?_;simp[aN,gk,e2,aG,aa,aL,bG];refine⟨by rfl,?_⟩;exact rd k (show k<=n by omega)
  ·obtain rfl:i=0:=by omega
   simp[Na,L];refine cp z (by simp[C];exact⟨rfl,rfl⟩) ?_ (h1:=by simp[eW,hM,C]);simp;refine cp au (by simp;exact⟨rfl,rfl⟩) ?_ (h1:=by simp[eW]);simp;exact bD.refl _
 have bO:2<=(aA wB b).length:=by
  rcases kN (aA wB b).length 1 with h|h
  ·have e:(aA wB b).length=0:=by omega
   rw[e,kW]at q;omega
  ·omega
 have W:¬((aA wB b).length:Int)=1:=o_
 obtain⟨n,w⟩:∃n,(aA wB b).length=n:=⟨_,rfl⟩
 obtain⟨c,Y⟩:∃c,(aA wB a).length=c:=⟨_,rfl⟩
 obtain⟨o,Z⟩:∃o,n=o+1:=⟨n-1,o_⟩
 have aC:wB^o<=b:=by
  rcases kN b (wB^o)with h|h
  ·have:=dN bm o b h;omega
  ·exact h
 obtain⟨d,J⟩:∃d,d=ae wB b o:=⟨_,rfl⟩
 have aD:d<wB:=by rw[J];exact cz bm _ _
 have az:b/wB^o=d:=by
  rw[J,ae,j7];rw[j8 (kh (by decide)),j6,<-kc,show o.succ=n from Z.symm,<-w];exact q
 have bh:0<d:=by rw[<-az];exact nb aC (kh (by decide))
 obtain⟨s,hs,bK,bu,bv⟩:=L5 bh aD;have aK:=O9 d aD;obtain⟨V,E⟩:∃V,V=b*2^s:=⟨_,rfl⟩
 have D:0<2^s:=kh (by decide);have bb:b<=V:=by rw[E];exact n4 _ D
 have ba:0<V:=j9 A bb;obtain⟨ax,bc⟩:=awy az Z hs bu bv E;have aw:(aA wB V).length=n:=by
  have u:=dN bm n V ax;rcases kN (aA wB V).length n with h|h
  ·have ap:=j9 (cq bm V) (kb (show 0<wB by decide) (show(aA wB V).length<=o by omega));omega
  ·omega
 have z:=DB (m:=n+1) (N:=V) (j9 ax (kb (by decide) o_)) o_;obtain⟨l,C,L,z⟩:=z;have ac:=KX b s hs o_;have ab:=KX a s hs o_;have af:o<(aA wB b).length:=o_
 have hx:=U o af;have ad:(aA wB b)[o]?=some d:=by rw[hL af,hx,J]
 rw[w,<-E]at ac;rw[Y]at ab;have aO:n<=c:=by
  rcases kN c n with h|h
  ·have:=j9 B (kb (show 0<wB by decide) (show(aA wB a).length<=o by omega));omega
  ·exact h
 rw[Y]at B;have a3:=X7 (n:=n) B hs bc aO;have a5:=awD (n:=n) B A Z aC aO;have a6:a% b<wB^n:=m2 (ko _ A) (by rw[w]at q;exact q);have bx:et ((hK n).map (ae wB (a% b)))=aA wB (a% b):=jM bm a6;have im:∀X j,j+n+1<=c+1->X<V*wB^(j+1)->_:=fun X j u ap=>ayo X V (c+1) j n aw o_ u o_ ap;simp only[eN]at z⊢ab ac im;generalize aA wB V=bC at*;generalize bz:aA wB (a/b)=bE at*;generalize bP:aA wB (a% b)=aV at*;generalize aA wB a=x at*;generalize aA wB b=y at*;have e1:eb.wrap ((n:Int)-1)=o:=by rw[aQ _ o_ o_];omega
 have bt:(64:Int)-(ed d:Nat)=s:=o_
 rw[bt]at aK;rw[<-J]at hx;have bn:¬(n:Int)=1:=o_
 have bo:¬n=1:=o_
 simp[G,K,W,bn,bo,w,e1,hx,ad,af,aa,aL,bG];refine c1 aK ?_;simp;refine P8 ac ?_;simp[L];refine cp z (by simp[C];exact⟨rfl,rfl⟩) ?_ (h1:=by simp[eW,hM,C]);simp;refine P8 ab ?_;obtain⟨m,aM⟩:∃m,m=c-n:=⟨_,rfl⟩
 have e2:eb.wrap ((c:Int)-n)=m:=by rw[aQ _ o_ o_];omega
 have e3:eb.wrap ((m:Int)+1)=m+1:=b6 o_;simp[aw,Y,e2,e3];refine⟨⟨o_,by simp only[cV];omega⟩,?_⟩;have aq:a*2^s% (V*wB^(m+1))=a*2^s:=j7 (by rw[aM];exact a3);rw[Nb (Q:=a/b)];refine sy (fun s'=>aP s'.env 9=.p (.int .i64 s)/\aP s'.env 11=.sl 1 0 1 0 (c+1)/\aP s'.env 12=.p (.int .i64 n)/\aP s'.env 13=.sl 2 0 1 0 (m+1)/\s'.heap=[.arr .frozen 0 1 (l.map (AV.p∘fun x:Nat=>PV.int .u64 x)),.arr .exact 0 1 (cm (c+1) (ae wB (a% b*2^s))),.arr .exact 0 1 (cm (m+1) (ae wB (a/b)))]) ?_ ?_
 ·refine lp (α:=Nat) (fun j=>⟨[(14,.p (.int .i64 ((j:Int)-1))),(13,.sl 2 0 1 0 (m+1)),(12,.p (.int .i64 n)),(11,.sl 1 0 1 0 (c+1)),(10,.p (.seq (bC.map fun x:Nat=>.int .u64 x))),(9,.p (.int .i64 s))],[.arr .frozen 0 1 (l.map (AV.p∘fun x:Nat=>PV.int .u64 x)),.arr .exact 0 1 (cm (c+1) (ae wB (a*2^s% (V*wB^j)))),.arr .exact 0 1 (cm (m+1) (qF (a/b) j))]⟩)
   (fun j=>j<=m+1) (fun j=>j) (m+1) (kC _) ?_ (hn:=by simp[aq]) (hh:=by simp[aq])
  intro j k1
  by_cases bN:0<j
  ·obtain⟨k,rfl⟩:∃k,j=k+1:=⟨j-1,o_⟩
   have e4:eb.wrap ((k:Int)-1)=k-1:=aQ _ o_ o_;have e5:eb.wrap ((k:Int)+n)=k+n:=aQ _ o_ o_;have aX:eb.wrap ((k:Int)+n+1)=k+n+1:=aQ _ o_ o_;have aN:=im (a*2^s% (V*wB^(k+1))) k o_ (ko _ (m8 ba (kh (by decide))));have hq:a*2^s% (V*wB^(k+1))/(V*wB^k)=ae wB (a/b) k:=by
    rw[E];exact X8 D
   have M:a*2^s% (V*wB^(k+1))% (V*wB^k)=a*2^s% (V*wB^k):=by
    rw[kc,<-kw,md]
   rw[hq,M]at aN;generalize a*2^s% (V*wB^(k+1))=X at*;generalize ay:a*2^s% (V*wB^k)=bH at*;have a2:((k:Int)+n+1).toNat=k+n+1:=o_
   have f2:(0:Int)<=(k:Int)+n+1:=o_
   have f3:(k:Int)+n+1<=(c:Int)+1:=o_
   have f4:k<=k+n+1:=o_
   have f5:¬k=k+n+1:=o_
   have f6:k+n+1-k=n+1:=o_
   have f7:k<m+1:=o_
   have gk:=mS (n:=m+1) (qF (a/b) (k+1)) f7;have bB:=N4 (m:=m+1) (Q:=a/b) (i:=k);simp[e4,e5,aX,MQ,a2,f2,f3,f4,f5,f6];rw[show(if k=0 then({v:=.sl 1 0 1 0 (k+n+1),al:=[(1,.arr .exact 0 1 (cm (c+1) (ae wB X)))]}:aY)else{v:=.sl 1 0 1 k (n+1),al:=[(1,.arr .exact 0 1 (cm (c+1) (ae wB X)))]})={v:=.sl 1 0 1 k (n+1),al:=[(1,.arr .exact 0 1 (cm (c+1) (ae wB X)))]}by split<;>simp[*]];simp;refine⟨o_,?_⟩;refine cf aN [1] ?_;simp[gk,bB,e4,f7,aa,aL,bG];exact rd k (show k<=m+1 by omega) (hn:=by simp[ay]) (hh:=by simp[ay])
  ·obtain rfl:j=0:=by omega
   have a4:a*2^s% V=a% b*2^s:=by rw[E,ob]
   simp[Na,a4]
 rintro⟨bI,bM⟩ ⟨ah,ai,aj,ak,aR⟩;dsimp only at ah ai aj ak aR;subst aR;obtain⟨R,H⟩:∃R,R=a% b*2^s:=⟨_,rfl⟩
 rw[<-H];simp[ah,ai,aj,ak];refine lp (α:=Nat) (fun i=>⟨[(97,.p (.int .i64 i)),(96,.p (.int .i64 n)),(13,.sl 2 0 1 0 (m+1)),(12,.p (.int .i64 n)),(11,.sl 1 0 1 0 (c+1)),(9,.p (.int .i64 s))],[.arr .frozen 0 1 (l.map (AV.p∘fun x:Nat=>PV.int .u64 x)),.arr .exact 0 1 (cm (c+1) (dH 0 i (ae wB R) (ae wB (a% b)))),.arr .exact 0 1 (cm (m+1) (ae wB (a/b)))]⟩)
  (fun i=>i<=n) (fun i=>n-i) 0 (m7 _) ?_ (hn:=by simp[tx]) (he:=by simp[ah,ai,aj,ak]) (hh:=by simp[tx])
 intro i k1;have O:=b6 (i:=i) o_
 by_cases hi:i<n
 ·have F:i<c+1:=by omega
  have aF:i+1<c+1:=o_
  have an:(cm (c+1) (dH 0 i (ae wB R) (ae wB (a% b))))[i]?=some (.p (.int .u64 (ae wB R i))):=by
   have:=yN (m:=c+1) (j:=0) (i:=i) (g:=ae wB R) (f:=ae wB (a% b)) o_
   rwa [l3]at this
  have am:=uK (ae wB R i) s o_;have bl:i<c:=o_
  by_cases ao:0<s
  ·obtain⟨t,bw⟩:∃t,t=64-s:=⟨_,rfl⟩
   have a0:eb.wrap (64-(s:Int))=(t:Int):=by rw[aQ _ o_ o_];omega
   have a1:=xm (ae wB R (i+1)) t o_;have aN:=zE hs;rw[<-bw]at aN;have a8:0<2^t:=kh (by decide);have bs:ae wB R i/2^s<2^t:=by rw[j8 D,j6,aN];exact cz bm _ _
   have aS:ae wB R (i+1)*2^t% wB=ae wB R (i+1)% 2^s*2^t:=by rw[<-aN,ob]
   have br:ae wB R i/2^s|||(ae wB R (i+1)*2^t% wB)=ae wB (a% b) i:=by
    have u:=aH8 D a8 R i;rw[aN,H,Nat.mul_div_cancel _ D,<-H]at u;rw[oy,aS,DU bs,<-aS,u,lq]
   have T:=E0 (ae wB R i/2^s) (ae wB R (i+1)*2^t% wB) (kk (l1 _ _) (cz bm _ _)) (ko _ (by decide));rw[br]at T;generalize ae wB R i/2^s=r at*;generalize ae wB R (i+1)*2^t% wB=ag at*;have aW:ea.wrap ((r% 2^ea.bits|||((ag:Int)% 2^ea.bits).toNat:Nat):Int)=(ae wB (a% b) i:Nat):=by
    rw[V9];exact T
   have S:=pK (n:=c+1) (i:=i) (v:=r) (f:=dH 0 i (ae wB R) (ae wB (a% b))) (g:=fun k=>if k=i then r else dH 0 i (ae wB R) (ae wB (a% b)) k) (if_pos rfl) (fun k hk=>if_neg hk);have g2:=mS (n:=c+1) (fun k=>if k=i then r else dH 0 i (ae wB R) (ae wB (a% b)) k) F;have g3:=mS (n:=c+1) (fun k=>if k=i then r else dH 0 i (ae wB R) (ae wB (a% b)) k) aF;rw[if_pos rfl]at g2;rw[if_neg o_,dH,if_neg o_]at g3;have bA:=pK (n:=c+1) (i:=i) (v:=ae wB (a% b) i) (f:=fun k=>if k=i then r else dH 0 i (ae wB R) (ae wB (a% b)) k) (g:=dH 0 (i+1) (ae wB R) (ae wB (a% b))) (by rw[dH,if_pos o_,n6]) (fun k hk=>by
    rw[if_neg hk,dH,dH]
    by_cases h:k<i
    ·rw[if_pos o_,if_pos o_]
    ·rw[if_neg o_,if_neg o_])
   generalize (fun k=>if k=i then r else dH 0 i (ae wB R) (ae wB (a% b)) k)=bJ at*;simp[hi,F,an,am,ao,O,S,aa,aL,bG];simp[F,aF,bl,a0,O,g2,g3,aa,aL,bG];simp[a1,T,aW,F,O,bA,g2,aa,aL,bG];refine⟨o_,⟨by rfl,by rfl,by rfl,by rfl,by rfl⟩,?_⟩;exact rd (i+1) (show i+1<=n by omega)
  ·have aU:s=0:=by omega
   have a7:ae wB R i=ae wB (a% b) i:=by rw[H,aU,kW,m9]
   have S:=yM (m:=c+1) (j:=0) (i:=i) (g:=ae wB R) (f:=ae wB (a% b)) (v:=ae wB R i) a7.symm;rw[l3]at S;have aZ:(ae wB R i:Int).fdiv (2^(min s ea.bits))=(ae wB R i:Nat):=by rw[am,aU,kW,l2]
   simp[hi,F,an,ao,O,S,aZ,aa,aL,bG];exact rd (i+1) (show i+1<=n by omega)
 obtain rfl:i=n:=o_
 obtain⟨bQ,aH,bp,av⟩:=DB (m:=m+1) (N:=a/b) (by rw[aM];exact a5) o_;obtain⟨P,aI,bq,a9⟩:∃P:List Nat,P.length=c+1/\cm (c+1) (dH 0 i (ae wB R) (ae wB (a% b)))=P.map (AV.p∘fun x:Nat=>PV.int .u64 x)/\aB prog 318 [.seq (eW (P.take i))] (.seq (aV.map fun x:Nat=>.int .u64 x)):=by
  refine⟨(hK (c+1)).map (dH 0 i (ae wB R) (ae wB (a% b))),s_,C4 _ _,?_⟩;have e:((hK (c+1)).map (dH 0 i (ae wB R) (ae wB (a% b)))).take i=(hK i).map (ae wB (a% b)):=by
   exact MR o_ fun k hk=>by rw[dH,if_pos o_,n6]
  rw[e];have u:=tU ((hK i).map (ae wB (a% b))) (by simp;omega);rw[bx]at u;exact u
 simp only[eN,bz]at av;simp[bp,bq];refine ep av (by simp[aH];exact⟨rfl,rfl⟩) (by simp;exact⟨rfl,rfl⟩) ?_ (h1:=by simp[eW,hM,aH]);simp[aI];refine⟨o_,?_⟩;have bk:i<=c+1:=o_
 refine ep a9 (by simp[aI,bk];exact⟨rfl,rfl⟩) (by simp;exact⟨rfl,rfl⟩) ?_ (h1:=by simp[eW,h8]);simp;rfl
def bL(k:Nat)(q:Rat):Prop:=q.num.natAbs<2^k/\q.den<2^k
theorem bL.mono{k l:Nat}{q:Rat}(h:bL k q)(a:k<=l):bL l q:=
 ⟨j9 h.1 (kb o_ a),j9 h.2 (kb o_ a)⟩
theorem ma{n:Int}{d:Nat}(h:d≠0):(oP n d).num=n/(m3 n.natAbs d:Nat)/\(oP n d).den=d/m3 n.natAbs d:=by
 have:oP n d=Rat.normalize n d h:=by
  rw[oQ];rfl
 rw[this,Rat.normalize_eq h];exact⟨rfl,rfl⟩
theorem zt{n:Int}{d k:Nat}(h:d≠0)(a:n.natAbs<2^k)(b:d<2^k):bL k (oP n d):=by
 obtain⟨e1,e2⟩:=ma (n:=n) h;refine⟨?_,?_⟩
 ·rw[e1];refine kk ?_ a;rw[Int.natAbs_ediv_of_dvd (hv.2 (oo _ _))];exact l1 _ _
 ·rw[e2];exact kk (l1 _ _) b
theorem wO{a b:Nat}{x y:Rat}(h:bL a x)(c:bL b y):bL (a+b+1) (x+y):=by
 have e:x+y=oP (x.num*y.den+y.num*x.den) ((x.den*y.den:Nat):Int):=by rw[o1];rfl
 rw[e];have e1:2^(a+b+1)=2^a*2^b+2^a*2^b:=by rw[kc,kK];omega
 refine zt (op x.den_nz y.den_nz) ?_ ?_
 ·rw[e1];refine kk (hA _ _) ?_;rw[gB,gB,gE,gE];have g1:=lb h.1 c.2;have g2:=lb c.1 h.2;rw[j6 (2^b)]at g2;omega
 ·have:=lb h.2 c.2;rw[e1];omega
theorem yV{a:Nat}{x:Rat}(h:bL a x):bL a (-x):=by
 refine⟨by rw[o2,ho];exact h.1,by rw[o3];exact h.2⟩
theorem tq{a b:Nat}{x y:Rat}(h:bL a x)(c:bL b y):bL (a+b+1) (x-y):=by
 rw[o0];exact wO h (yV c)
theorem gC{a b:Nat}{x y:Rat}(h:bL a x)(c:bL b y):bL (a+b) (x*y):=by
 have e:x*y=oP (x.num*y.num) ((x.den*y.den:Nat):Int):=by
  rw[o4,oQ];rfl
 rw[e];refine zt (op x.den_nz y.den_nz) ?_ ?_
 ·rw[gB,kK];exact lb h.1 c.1
 ·rw[kK];exact lb h.2 c.2
theorem Xr{x:Rat}(h:x≠0):(x⁻¹).num=x.num.sign*x.den/\(x⁻¹).den=x.num.natAbs:=by
 have a:x.num≠0:=fun e=>h (oS.1 e);have e:x⁻¹=oP (x.num.sign*x.den) (x.num.natAbs:Nat):=by
  rw[o5];rcases g6 x.num 0 with h|h|h
  ·have e1:x.num.sign= -1:=Int.sign_eq_neg_one_of_neg h;have e2:((x.num.natAbs:Nat):Int)= -x.num:=by omega
   rw[e1,e2,show(-1*(x.den:Int))= -(x.den:Int)by omega,Rat.divInt_neg',Int.neg_neg]
  ·exact(a h).elim
  ·have e1:x.num.sign=1:=Int.sign_eq_one_of_pos h;have e2:((x.num.natAbs:Nat):Int)=x.num:=by omega
   rw[e1,e2,Int.one_mul]
 have b:m3 (x.num.sign*x.den).natAbs x.num.natAbs=1:=by
  rw[gB,hl a,lv,gE,oa];exact x.reduced
 obtain⟨e1,e2⟩:=ma (n:=x.num.sign*x.den) (d:=x.num.natAbs) o_;rw[e,e1,e2,b];simp
theorem BZ{a:Nat}{x:Rat}(h:bL a x):bL a x⁻¹:=by
 by_cases b:x=0
 ·subst b;have:(0:Rat)⁻¹=0:=Rat.inv_zero;rw[this];exact h
 ·obtain⟨e1,e2⟩:=Xr b;have c:x.num≠0:=fun e=>b (oS.1 e);refine⟨?_,by rw[e2];exact h.1⟩;rw[e1,gB,hl c,lv,gE];exact h.2
theorem Yg{a b:Nat}{x y:Rat}(h:bL a x)(c:bL b y):bL (a+b) (x/y):=by
 rw[pa];exact gC h (BZ c)
theorem nu{k:Nat}{n:Int}(h:n.natAbs<2^k)(hk:0<k):bL k (n:Rat):=by
 refine⟨h,?_⟩;show(1:Nat)<2^k;exact Nat.one_lt_two_pow o_
structure NI where
 v:Int
 m:Bool
def NI.sm(a:NI):Bool:=decide (-9223372036854775808<a.v/\a.v<9223372036854775808)||(decide (a.v= -9223372036854775808)&&a.m)
def NI.of(n:Int):NI:=⟨n,true⟩
def NI.mk'(n:Int):NI:=⟨n,false⟩
def NI.neg(a:NI):NI:=.mk' (-a.v)
def NI.abs(a:NI):NI:=if a.v<0 then .mk' (-a.v)else a
def NI.add(a b:NI):NI:=⟨a.v+b.v,a.sm&&b.sm⟩
def NI.sub(a b:NI):NI:=a.add b.neg
def NI.mul(a b:NI):NI:=.mk' (a.v*b.v)
def NI.div(a b:NI):NI:=⟨a.v/b.v,decide (a.v% b.v≠0)⟩
def NI.mod(a b:NI):NI:=.mk' (a.v% b.v)
structure NF where
 q:Rat
 m:Bool
def NF.num(a:NF):NI:=⟨a.q.num,a.m⟩
def NF.den(a:NF):NI:=.mk' a.q.den
def NF.whole(a:NI):NF:=⟨a.v,a.m⟩
def NF.int(n:Int):NF:=⟨n,true⟩
def NF.fD(a:NF):Bool:=decide (a.q.den=1)
def NF.add(a b:NF):NF:=⟨a.q+b.q,a.fD&&b.fD&&(a.num.sm&&b.num.sm)⟩
def NF.neg(a:NF):NF:=⟨-a.q,false⟩
def NF.sub(a b:NF):NF:=a.add b.neg
def NF.mul(a b:NF):NF:=⟨a.q*b.q,false⟩
def NF.inv(a:NF):NF:=⟨a.q⁻¹,false⟩
def NF.div(a b:NF):NF:=⟨a.q/b.q,false⟩
@[simp] theorem NI.sf(a b:NI):(a.add b).v=a.v+b.v:=rfl
@[simp] theorem NI.mu(a b:NI):(a.mul b).v=a.v*b.v:=rfl
@[simp] theorem NI.ER(a:NI):a.neg.v= -a.v:=rfl
@[simp] theorem NI.RM(a b:NI):(a.sub b).v=a.v-b.v:=by show a.v+-b.v=_;omega
@[simp] theorem NF.BT(a b:NF):(a.add b).q=a.q+b.q:=rfl
@[simp] theorem NF.aOz(a:NF):a.neg.q= -a.q:=rfl
@[simp] theorem NF.fO(a b:NF):(a.sub b).q=a.q-b.q:=by show a.q+-b.q=_;rw[o0]
@[simp] theorem NF.aOy(a b:NF):(a.mul b).q=a.q*b.q:=rfl
@[simp] theorem NF.aNM(a:NF):a.inv.q=a.q⁻¹:=rfl
@[simp] theorem NF.aML(a b:NF):(a.div b).q=a.q/b.q:=rfl
@[simp] theorem NF.aNL(n:Int):(NF.int n).q=n:=rfl
def ff(z:Int):PV:=.st 121 [.int .i64 z,.aO]
def kY(z:Int):PV:=.st 121 [.int .i64 (if z<0 then -1 else 1),eN z.natAbs]
def EG(p:PV)(z:Int):Prop:=(p=ff z/\-9223372036854775808<=z/\z<=9223372036854775807)\/(p=kY z/\9223372036854775808<=z.natAbs)
theorem Qm(a:NI):∃p,p=if a.sm=true then ff a.v else kY a.v:=⟨_,rfl⟩
noncomputable def eI(a:NI):PV:=ck (Qm a)
theorem jt(a:NI):eI a=if a.sm=true then ff a.v else kY a.v:=ce (Qm a)
theorem NI.Aa{a:NI}(h:-9223372036854775808<a.v)(b:a.v<9223372036854775808):a.sm=true:=by
 simp[NI.sm,h,b]
theorem NI.pQ{a:NI}(h:a.sm=true):-9223372036854775808<=a.v/\a.v<=9223372036854775807:=by
 simp only[NI.sm,b3,decide_eq_true_eq,b2]at h;omega
theorem NI.zI{a:NI}(h:¬a.sm=true):9223372036854775808<=a.v.natAbs:=by
 simp only[NI.sm,b3,decide_eq_true_eq,b2,not_or,not_and]at h;omega
theorem NI.Re(z:Int):(NI.mk' z).sm=decide (-9223372036854775808<z/\z<9223372036854775808):=by
 rw[NI.sm,NI.mk',b4,Bool.or_false]
theorem NI.iN(z:Int):(NI.mk' z).v=z:=rfl
theorem mz(a:NI):EG (eI a) a.v:=by
 rw[jt]
 by_cases h:a.sm=true
 ·rw[if_pos h];have:=NI.pQ h;exact .inl ⟨rfl,this⟩
 ·rw[if_neg h];exact .inr ⟨rfl,NI.zI h⟩
theorem oJ{z:Int}(h:-9223372036854775808<z)(a:z<9223372036854775808):eI (.mk' z)=ff z:=by
 rw[jt,NI.Re,if_pos (by simp[h,a]),NI.iN]
theorem Ql{z:Int}(h:9223372036854775808<=z.natAbs):eI (.mk' z)=kY z:=by
 rw[jt,NI.Re,if_neg (by simp;omega),NI.iN]
theorem ui{z:Int}(h:-9223372036854775808<=z)(c:z<=9223372036854775807):eI (.of z)=ff z:=by
 rw[jt,if_pos]
 ·rfl
 ·by_cases b:z= -9223372036854775808
  ·subst b;rfl
  ·exact NI.Aa (a:=.of z) (by show _<z;omega) (by show z<_;omega)
@[simp] theorem bxN(u:dp)(h:¬u=358):(Gl.bx u:Option dp)=none:=by
 have a:nk u 358=false:=by
  cases a:nk u 358
  ·rfl
  ·exact(h (m6 a)).elim
 show(bif nk u 358 then some 359 else none)=none;rw[a];rfl
@[simp] theorem aMx:(Gl.bx 358:Option dp)=some 359:=(rfl)
theorem lO:aA wB 0=[]:=by simp[aA,nw]
theorem tT{n:Nat}(a:0<n)(h:n<wB):aA wB n=[n]:=by
 have h1:=jM bm (m:=1) (n:=n) (by rw[l4];exact h);rw[<-h1,row,j1,hN,j3,ae,kW,l2,j7 h];have:=vk [] n o_
 rwa [i7]at this
theorem sv(n:Int):aB prog 231 [.int .i64 n] (ff n):=by
 refine aJ nf (i_ func231) mix (by simp[f231]) ?_;simp[f231,ff]
theorem Eb(n:Int)(h:-9223372036854775808<=n)(b:n<=9223372036854775807):aB prog 276 [.int .i64 n] (.int .u64 (n.natAbs:Nat)):=by
 refine aJ nf (i_ func276) mix (by simp[f276]) ?_
 by_cases a:n<0
 ·have e:ea.wrap (eb.wrap (-n))=(n.natAbs:Nat):=by
   by_cases hm:n= -9223372036854775808
   ·subst hm;rfl
   ·rw[aQ _ o_ o_,fB _ o_ (by simp only[wB];omega)];omega
  simp[f276,a,e]
 ·have e:ea.wrap n=(n.natAbs:Nat):=by rw[fB _ o_ (by simp only[wB];omega)];omega
  simp[f276,a,e]
theorem nY(p:PV)(z:Int)(h:EG p z):aB prog 277 [p] (.aE [.bool (decide (z<0)),eN z.natAbs]):=by
 refine aJ nf (i_ func277) mix (by simp[f277]) ?_;rcases h with⟨rfl,b,d⟩|⟨rfl,b⟩
 ·have hs:=Eb z b d
  by_cases a:z=0
  ·subst a;simp[f277,ff,eN,lO,dC,cU]
  ·simp[f277,ff,a,dC,cU];refine e1 hs ?_;simp[eN,tT (n:=z.natAbs) o_ (by simp only[wB];omega)]
   done
 ·have e:aA wB z.natAbs≠[]:=fun h=>by
   have:=cq bm z.natAbs;rw[h,hU,kW]at this;omega
  simp only[kY,eN];obtain⟨c,cs,hc⟩:=hO e;rw[hc];have f:decide ((if z<0 then(-1:Int)else 1)<0)=decide (z<0):=by split<;>simp[*]
  generalize (if z<0 then(-1:Int)else 1)=g at*;simp[f277,dC,cU,f]
theorem wy(neg:Bool)(n:Nat)(j:(aA wB n).length<=1048576):aB prog 278 [.bool neg,eN n] (eI (.mk' (if neg then -(n:Int)else n))):=by
 by_cases g:n=0
 ·subst g;rw[show(if neg=true then -((0:Nat):Int)else((0:Nat):Int))=0 by simp,oJ (by decide) (by decide)];refine aJ nf (i_ func278) mix (by simp[f278]) ?_;simp[f278,ff,eN,lO,dC,cU]
 by_cases p:n<=9223372036854775807
 ·have d:=tT (n:=n) o_ (by simp only[wB];omega);have hI:(n:Int)<=9223372036854775807:=by omega
  have w1:eb.wrap (n:Int)=n:=aQ _ o_ o_;have f:eb.wrap (-(n:Int))= -n:=aQ _ o_ o_;cases neg
  ·rw[if_neg (by decide),oJ o_ o_];refine aJ nf (i_ func278) mix (by simp[f278]) ?_;simp[f278,ff,eN,d,hI,w1,f,dC,cU]
  ·rw[if_pos rfl,oJ o_ o_];refine aJ nf (i_ func278) mix (by simp[f278]) ?_;simp[f278,ff,eN,d,hI,w1,f,dC,cU]
 ·have k:aA wB n≠[]:=fun h=>by
   have:=cq bm n;rw[h,hU,kW]at this;omega
  have e:(aA wB n).length=1->(aA wB n)[0]?=some n:=fun h=>by
   have a:=cq bm n;rw[h,l4]at a;rw[tT o_ a];rfl
  have hI:¬(n:Int)<=9223372036854775807:=o_
  have b:(if neg then -(n:Int)else n).natAbs=n:=by cases neg<;>simp
  have l:(if(if neg then -(n:Int)else n)<0 then(-1:Int)else 1)=if neg then -1 else 1:=by
   cases neg
   ·simp only[Bool.false_eq_true,if_false];rw[if_neg o_]
   ·simp only[if_true];rw[if_pos o_]
  rw[Ql (by rw[b];omega)];refine aJ nf (i_ func278) mix (by simp[f278]) ?_;rw[kY,b,l];simp only[eN];obtain⟨c,cs,hc⟩:=hO k;rw[hc]at e⊢;rw[hc]at j;cases cs with
  |nil=>
   have i:c=n:=by simpa using e rfl
   subst i;cases neg<;>simp[f278,hI,dC,cU]
  |cons c2 cs=>
   have m:¬((cs.length:Int)+1+1=1):=o_
   have o:¬((cs.length:Int)+1+1=0):=o_
   cases neg<;>simp[f278,m,o,dC,cU]
def okW(z:Int):Prop:=(aA wB z.natAbs).length<=900000
theorem aFH{p:PV}{z:Int}(h:EG p z):∃a b,p=.st 121 [a,b]:=by
 rcases h with⟨rfl,_⟩|⟨rfl,_⟩
 ·exact⟨_,_,rfl⟩
 ·exact⟨_,_,rfl⟩
theorem vX(a:NI):∃x y,eI a=.st 121 [x,y]:=aFH (mz a)
theorem uf(a:NI)(l:okW a.v):aB prog 240 [eI a] (eI a.neg):=by
 have h:=mz a;have d:=nY (eI a) a.v h;have b:=wy (!decide (a.v<0)) a.v.natAbs (by rw[okW]at l;omega);have k:(if(!decide (a.v<0))=true then -((a.v.natAbs:Nat):Int)else a.v.natAbs)= -a.v:=by
  by_cases e:a.v<0
  ·simp[e];omega
  ·simp[e];omega
 rw[k]at b;rw[show a.neg=.mk' (-a.v)from rfl];generalize a.v=z at*;generalize n:eI a=p at*;obtain⟨o,q,g⟩:=vX (.mk' (-z));rcases h with⟨rfl,i,m⟩|⟨rfl,i⟩
 ·by_cases f:z= -9223372036854775808
  ·rw[g]at b⊢;refine aJ nf (i_ func240) mix (by simp[f240]) ?_;subst f;simp only[ff]at d⊢;simp[f240,dC,cU];refine c1 d ?_;simp[eN]at b⊢;refine c2 b ?_;simp[aa,aL,bG]
  ·rw[oJ o_ o_];have w:eb.wrap (-z)= -z:=aQ _ o_ o_;refine aJ nf (i_ func240) mix (by simp[f240]) ?_;simp[f240,ff,f,w,dC,cU]
 ·rw[g]at b⊢;refine aJ nf (i_ func240) mix (by simp[f240]) ?_;have j:aA wB z.natAbs≠[]:=fun h=>by
   have:=cq bm z.natAbs;rw[h,hU,kW]at this;omega
  simp only[kY,eN]at d b⊢;obtain⟨c,cs,hc⟩:=hO j;rw[hc]at d b⊢;generalize (if z<0 then(-1:Int)else 1)=r at*;simp[f240,dC,cU];refine c1 d ?_;simp at b⊢;refine c2 b ?_;simp[aa,aL,bG]
theorem tY(a:NI):aB prog 259 [eI a] (.int .i64 (if a.v<0 then -1 else if a.v=0 then 0 else 1)):=by
 have h:=mz a;generalize a.v=z at*;generalize eI a=p at*;refine aJ nf (i_ func259) mix (by simp[f259]) ?_;rcases h with⟨rfl,b,c⟩|⟨rfl,b⟩
 ·simp[f259,ff];rcases g6 z 0 with h|h|h
  ·have e:z<1:=by omega
   simp[h,e];omega
  ·subst h;simp
  ·have e1:¬z<0:=by omega
   have e2:¬z=0:=o_
   have e3:¬z<1:=o_
   simp[e1,e2,e3]
 ·simp[f259,kY,eN]
  by_cases h:z<0
  ·simp[h]
  ·have e2:¬z=0:=by omega
   simp[h,e2]
theorem WJ{z:Int}(h:-18446744073709551616<=z)(a:z<=18446744073709551614):eb.wrap z=if z< -9223372036854775808 then z+18446744073709551616 else if 9223372036854775807<z then z-18446744073709551616 else z:=by
 rw[ec]
 split
 ·omega
 ·split<;>omega
theorem nV{z:Int}(h:okW z):(aA wB z.natAbs).length<=900000:=h
theorem U8{a b L:Nat}(c:(aA wB a).length<=L)(d:(aA wB b).length<=L):(aA wB (a+b)).length<=L+1:=by
 refine dN bm _ _ ?_;have e:=j9 (cq bm a) (kb (show 0<wB by decide) c);have f:=j9 (cq bm b) (kb (show 0<wB by decide) d);have g:2*wB^L<=wB^(L+1):=by rw[kc,j6];exact kp _ bm
 omega
theorem TQ{a b:Int}(i:okW a)(j:okW b):
 ((decide (a<0)=decide (b<0)/\aB prog 278 [.bool (decide (a<0)),eN (a.natAbs+b.natAbs)] (eI (.mk' (a+b))))\/
  (decide (a<0)≠decide (b<0)/\b.natAbs<=a.natAbs/\aB prog 278 [.bool (decide (a<0)),eN (a.natAbs-b.natAbs)] (eI (.mk' (a+b))))\/
  (decide (a<0)≠decide (b<0)/\a.natAbs<b.natAbs/\aB prog 278 [.bool (decide (b<0)),eN (b.natAbs-a.natAbs)] (eI (.mk' (a+b))))):=by
 have m:=U8 (a:=a.natAbs) (b:=b.natAbs) i j;have l:∀n,n<=a.natAbs+b.natAbs->(aA wB n).length<=1048576:=fun n h=>by
  have:=dN bm _ _ (kk h (cq bm (a.natAbs+b.natAbs)));omega
 have f:∀(neg:Bool)(n:Nat),n<=a.natAbs+b.natAbs->(if neg then -(n:Int)else n)=a+b->aB prog 278 [.bool neg,eN n] (eI (.mk' (a+b))):=fun neg n h e=>by
  have g:=wy neg n (l n h);rw[e]at g;exact g
 by_cases d:decide (a<0)=decide (b<0)
 ·have c:=f (decide (a<0)) (a.natAbs+b.natAbs) (kC _) (by
   by_cases h:a<0
   ·have:b<0:=by simpa[h]using d
    simp[h];omega
   ·have:¬b<0:=by simpa[h]using d
    simp[h];omega)
  exact .inl ⟨d,c⟩
 ·by_cases k:b.natAbs<=a.natAbs
  ·have c:=f (decide (a<0)) (a.natAbs-b.natAbs) o_ (by
    by_cases h:a<0
    ·have:¬b<0:=by simpa[h]using d
     simp[h];omega
    ·have:b<0:=by simpa[h]using d
     simp[h];omega)
   exact .inr (.inl ⟨d,k,c⟩)
  ·have c:=f (decide (b<0)) (b.natAbs-a.natAbs) o_ (by
    by_cases h:b<0
    ·have:¬a<0:=fun c=>d (by simp[h,c]);simp[h];omega
    ·have:a<0:=by
      by_cases c:a<0
      ·exact c
      ·exact(d (by simp[h,c])).elim
     simp[h];omega)
   exact .inr (.inr ⟨d,o_,c⟩)
theorem D4(a:NI):(eI a=ff a.v/\a.sm=true/\-9223372036854775808<=a.v/\a.v<=9223372036854775807)\/(a.sm=false/\∃d c cs,eI a=.st 121 [.int .i64 d,.seq (c::cs)]):=by
 by_cases h:a.sm=true
 ·left;exact⟨by rw[jt,if_pos h],h,NI.pQ h⟩
 ·right;refine⟨by simpa using h,?_⟩;have e:=NI.zI h;have b:aA wB a.v.natAbs≠[]:=fun h=>by
   have:=cq bm a.v.natAbs;rw[h,hU,kW]at this;omega
  obtain⟨c,cs,hc⟩:=hO b;rw[jt,if_neg h,kY,eN,hc];exact⟨_,_,_,rfl⟩
theorem wU(a b:NI)(B:okW a.v)(D:okW b.v):aB prog 260 [eI a,eI b] (eI (a.add b)):=by
 have o:=nY (eI a) a.v (mz a);have q:=nY (eI b) b.v (mz b);have U:=nV B;have V:=nV D;have t:=IE a.v.natAbs b.v.natAbs o_ o_;have C:=VI a.v.natAbs b.v.natAbs o_ o_;have y:=TQ B D;have uL:=D4 a;have G:=D4 b
 by_cases u:(a.sm=true/\b.sm=true)/\-9223372036854775808<=a.v+b.v/\a.v+b.v<=9223372036854775807
 ·obtain⟨⟨g,n⟩,d,l⟩:=u;rw[show eI a=ff a.v by rw[jt,if_pos g],show eI b=ff b.v by rw[jt,if_pos n],show a.add b=.of (a.v+b.v)by rw[NI.add,g,n];rfl,ui d l];generalize a.v=a at*;generalize b.v=b at*;refine aJ nf (i_ func260) mix (by simp[f260]) ?_;have w:=aQ (a+b) d l;have e:(decide (a<a+b)==decide (0<b))=true:=by
   have:a<a+b↔0<b:=o_
   simp[this]
  simp[f260,ff,w,dC,cU,e]
 have F:eI (a.add b)=eI (.mk' (a.v+b.v)):=by
  by_cases h:-9223372036854775808<a.v+b.v/\a.v+b.v<9223372036854775808
  ·rw[oJ h.1 h.2,jt,if_pos (NI.Aa h.1 h.2)];rfl
  ·by_cases l:(a.sm&&b.sm)=true
   ·have H:a.sm=true/\b.sm=true:=by simpa using l
    have I:¬(-9223372036854775808<=a.v+b.v/\a.v+b.v<=9223372036854775807):=fun h=>u ⟨H,h⟩;rw[Ql o_,jt,if_neg,NI.sf];intro g;have:=NI.pQ g;rw[NI.sf]at this;omega
   ·rw[NI.add,NI.mk'];rw[show(a.sm&&b.sm)=false by simpa using l]
 rw[F];clear F;obtain⟨M,N,J⟩:=vX a;obtain⟨O,P,K⟩:=vX b;obtain⟨Y,Z,L⟩:=vX (.mk' (a.v+b.v));rw[L]at y⊢;rw[J]at o uL⊢;rw[K]at q G⊢;generalize a.v=f at*;generalize b.v=bv at*;refine aJ nf (i_ func260) mix (by simp[f260]) ?_;simp[f260,-bu];rw[bu];simp[-bu];refine join (fun s=>aP s.env 2=.ptr 0 []/\aP s.env 3=.ptr 1 []/\aP s.env 4=.ptr 2 []/\s.heap=[.box false (.p (.st 121 [M,N])),.box false (.p (.st 121 [O,P])),.box false (.p (.st 121 [.int .i64 0,.aO]))]) ?_ ?_
 ·clear y t C o q;rcases uL with⟨d,m,l,g⟩|⟨m,Q,c,cs,d⟩
  ·simp only[ff,PV.st.injEq,j5,and_true,true_and]at d;obtain⟨rfl,rfl⟩:=d;rcases G with⟨n,A,S,T⟩|⟨A,Q,c,cs,n⟩
   ·simp only[ff,PV.st.injEq,j5,and_true,true_and]at n;obtain⟨rfl,rfl⟩:=n;have I:¬(-9223372036854775808<=f+bv/\f+bv<=9223372036854775807):=fun h=>u ⟨⟨m,A⟩,h⟩;have w:=WJ (z:=f+bv) o_ o_;have e:¬(f<eb.wrap (f+bv)↔0<bv):=by
     rw[w]
     by_cases W:0<bv
     ·rw[if_neg o_,if_pos o_];omega
     ·rw[if_pos o_];omega
    simp[dC,cU,e]
   ·simp only[PV.st.injEq,j5,and_true,true_and]at n;obtain⟨rfl,rfl⟩:=n;simp[dC,cU]
  ·simp only[PV.st.injEq,j5,and_true,true_and]at d;obtain⟨rfl,rfl⟩:=d;simp[dC,cU]
 rintro⟨R,X⟩ ⟨i,j,k,E⟩;dsimp only at i j k E;subst E;simp[i,j,k];refine c1 o ?_;simp[i,j,k,aa,aL,bG];refine c1 q ?_;rcases y with⟨d,g⟩|⟨d,l,g⟩|⟨d,l,g⟩
 ·have m:(f<0↔bv<0):=by simpa using d
  rw[d]at g;simp[i,j,k,m,aa,aL,bG];refine c2 C ?_;simp;refine c2 g ?_;simp[i,j,k,aa,aL,bG]
 ·have m:¬(f<0↔bv<0):=by simpa using d
  have r:0<=fQ f.natAbs bv.natAbs:=by
   have h:=mt pN.1 (show¬f.natAbs<bv.natAbs by omega);omega
  have x:=JH f.natAbs bv.natAbs l o_;simp[i,j,k,m,aa,aL,bG];refine c2 t ?_;simp[r];refine c2 x ?_;simp[i,j,k,aa,aL,bG];refine c2 g ?_;simp[i,j,k,aa,aL,bG]
 ·have m:¬(f<0↔bv<0):=by simpa using d
  have r:¬0<=fQ f.natAbs bv.natAbs:=by have:=pN.2 l;omega
  have x:=JH bv.natAbs f.natAbs o_ o_;simp[i,j,k,m,aa,aL,bG];refine c2 t ?_;simp[r];refine c2 x ?_;simp[i,j,k,aa,aL,bG];refine c2 g ?_;simp[i,j,k,aa,aL,bG]
@[simp] theorem aOU(a:NI):aL (eI a)=.agg 121:=by
 obtain⟨x,y,h⟩:=vX a;rw[h];rfl
theorem RG(a:NI):∃z:Int,z=if a.sm=true then a.v else if a.v<0 then -1 else 1:=⟨_,rfl⟩
noncomputable def sI(a:NI):Int:=ck (RG a)
theorem zJ(a:NI):sI a=if a.sm=true then a.v else if a.v<0 then -1 else 1:=ce (RG a)
theorem RZ(a:NI):∃p:PV,p=if a.sm=true then .aO else eN a.v.natAbs:=⟨_,rfl⟩
noncomputable def wI(a:NI):PV:=ck (RZ a)
theorem DT(a:NI):wI a=if a.sm=true then .aO else eN a.v.natAbs:=ce (RZ a)
@[simp] theorem axu(a:NI):bY (eI a)=[.int .i64 (sI a),wI a]:=by
 by_cases h:a.sm=true
 ·rw[jt,zJ,DT,if_pos h,if_pos h,if_pos h];rfl
 ·rw[jt,zJ,DT,if_neg h,if_neg h,if_neg h];rfl
theorem RH(a:NI):sI a<0↔a.v<0:=by
 rw[zJ];split
 ·exact Iff.rfl
 ·split<;>omega
theorem mv{a:NI}(h:a.sm=true):wI a=.aO:=by rw[DT,if_pos h]
theorem oD{a:NI}(h:a.sm=false):∃c cs,wI a=.seq (c::cs):=by
 rcases D4 a with⟨_,b,_⟩|⟨_,e,c,cs,d⟩
 ·rw[h]at b;exact absurd b (by decide)
 ·refine⟨c,cs,?_⟩;have:=axu a;rw[d]at this;simp[bY]at this;exact this.2.symm
theorem ni{a:NI}(h:a.sm=true):sI a=a.v:=by rw[zJ,if_pos h]
theorem En(a b:NI)(d:okW a.v)(c:okW b.v):aB prog 280 [eI a,eI b] (eI (a.sub b)):=by
 refine aJ nf (i_ func280) mix (by simp[f280]) ?_;have e:okW b.neg.v:=by simpa[okW]using c
 simp[f280];refine e1 (uf b c) ?_;simp;refine e2 (wU a b.neg d e) ?_;simp[aa];exact Wk.refl _
theorem PX(a:NI)(c:okW a.v):aB prog 330 [eI a] (eI a.abs):=by
 refine aJ nf (i_ func330) mix (by simp[f330]) ?_
 by_cases h:a.v<0
 ·have b:=(RH a).2 h;have e:a.abs=a.neg:=by rw[NI.abs,if_pos h];rfl
  simp[f330,aa,b];refine c1 (uf a c) ?_;simp[aa,e]
 ·have b:=mt (RH a).1 h;have e:a.abs=a:=by rw[NI.abs,if_neg h]
  simp[f330,aa,b,e]
def ku(x y:Int):Int:=if x<y then -1 else if x=y then 0 else 1
theorem PY(a b:NI)(l:okW a.v)(m:okW b.v):aB prog 220 [eI a,eI b] (.int .i64 (ku a.v b.v)):=by
 refine aJ nf (i_ func220) mix (by simp[f220]) ?_;have o:(a.sm=true/\b.sm=true)\/¬(a.sm=true/\b.sm=true):=cv _;rcases o with⟨d,k⟩|d
 ·have w1:=mv d;have f:=mv k;have i:=ni d;have j:=ni k;rcases g6 a.v b.v with h|h|h
  ·have e:ku a.v b.v= -1:=by rw[ku,if_pos h]
   simp[f220,aa,w1,f,i,j,h,e,dC,cU]
  ·have e:ku b.v b.v=0:=by rw[ku,if_neg o_,if_pos rfl]
   have d:¬a.v<b.v:=o_
   simp[f220,aa,w1,f,i,j,h,e,dC,cU]
  ·have e:ku a.v b.v=1:=by rw[ku,if_neg o_,if_neg o_]
   have d:¬a.v<b.v:=o_
   simp[f220,aa,w1,f,i,j,h,d,e,dC,cU]
 ·have e:(if(a.sub b).v<0 then(-1:Int)else if(a.sub b).v=0 then 0 else 1)=ku a.v b.v:=by
   rw[NI.RM,ku];rcases g6 a.v b.v with h|h|h
   ·rw[if_pos o_,if_pos h]
   ·rw[if_neg o_,if_pos o_,if_neg o_,if_pos h]
   ·rw[if_neg o_,if_neg o_,if_neg o_,if_neg o_]
  have g:=tY (a.sub b);rw[e]at g;rcases hs:a.sm with _|_
  ·obtain⟨c,cs,w1⟩:=oD hs;simp[f220,aa,w1,dC,cU];refine c2 (En a b l m) ?_;simp;refine c1 g ?_;simp
  ·have w1:=mv hs;obtain⟨c,cs,f⟩:=oD (a:=b) (by cases n:b.sm with|false=>rfl|true=>exact(d ⟨hs,n⟩).elim);simp[f220,aa,w1,f,dC,cU];refine c2 (En a b l m) ?_;simp;refine c1 g ?_;simp
theorem U7{a b L M:Nat}(e:(aA wB a).length<=L)(f:(aA wB b).length<=M):(aA wB (a*b)).length<=L+M:=by
 refine dN bm _ _ ?_;have c:=j9 (cq bm a) (kb (show 0<wB by decide) e);have d:=j9 (cq bm b) (kb (show 0<wB by decide) f);rw[kK];exact lb c d
theorem Ak(a b:NI)(G:(aA wB a.v.natAbs).length+(aA wB b.v.natAbs).length<=900000):aB prog 219 [eI a,eI b] (eI (a.mul b)):=by
 have E:=nY (eI a) a.v (mz a);have hq:=nY (eI b) b.v (mz b);have D:=VG a.v.natAbs b.v.natAbs o_;have I:=U7 (kC (aA wB a.v.natAbs).length) (kC (aA wB b.v.natAbs).length);have w:=wy (decide (a.v<0)!=decide (b.v<0)) (a.v.natAbs*b.v.natAbs) o_;have e:(if(decide (a.v<0)!=decide (b.v<0))=true then -((a.v.natAbs*b.v.natAbs:Nat):Int)else(a.v.natAbs*b.v.natAbs:Nat))=a.v*b.v:=by
  rw[<-gB];rcases ha a.v 0 with i|i
  ·rcases ha b.v 0 with d|d
   ·have:=Int.mul_nonneg_of_nonpos_of_nonpos (hb i) (hb d);simp[i,d];omega
   ·have:=Int.mul_nonpos_of_nonpos_of_nonneg (hb i) d;have n:¬b.v<0:=by omega
    simp[i,n];omega
  ·have n:¬a.v<0:=by omega
   rcases ha b.v 0 with d|d
   ·have:=Int.mul_nonpos_of_nonneg_of_nonpos i (hb d);simp[n,d];omega
   ·have:=Int.mul_nonneg i d;have B:¬b.v<0:=by omega
    simp[n,B];omega
 rw[e]at w;rw[show a.mul b=.mk' (a.v*b.v)from rfl];refine aJ nf (i_ func219) mix (by simp[f219]) ?_;simp[f219,-bu];rw[bu];simp[-bu];refine join (fun s=>aP s.env 2=.ptr 0 []/\aP s.env 3=.ptr 1 []/\aP s.env 4=.ptr 2 []/\s.heap=[.box false (.p (eI a)),.box false (.p (eI b)),.box false (.p (.st 121 [.int .i64 0,.aO]))]) ?_ ?_
 ·rcases hs:a.sm with _|_
  ·obtain⟨c,cs,w1⟩:=oD hs;simp[aa,w1,dC,cU]
  ·have w1:=mv hs;rcases o:b.sm with _|_
   ·obtain⟨c,cs,j⟩:=oD o;simp[aa,w1,j,dC,cU]
   ·have j:=mv o;have f:=ni hs;have g:=ni o;have y:=NI.pQ hs;have z:=NI.pQ o;have z1:=Eb a.v y.1 y.2;have z2:=Eb b.v z.1 z.2;have M:=zk a.v.natAbs b.v.natAbs o_ o_;obtain⟨H,t⟩:∃H,H=a.v.natAbs*b.v.natAbs/18446744073709551616:=⟨_,rfl⟩
    obtain⟨L,q⟩:∃L,L=a.v.natAbs*b.v.natAbs% 18446744073709551616:=⟨_,rfl⟩
    rw[<-t,<-q]at M;have C:a.v.natAbs*b.v.natAbs=H*18446744073709551616+L:=o_
    clear t q
    by_cases c1:H=0/\L<=9223372036854775807
    ·obtain⟨rfl,q⟩:=c1;have u:(L:Int)<=9223372036854775807:=by omega
     have r:eb.wrap (L:Int)=L:=aQ _ o_ o_;have A:eb.wrap (-(L:Int))= -L:=aQ _ o_ o_;rw[C]at e;simp only[m1,l3]at e;rw[oJ (by rw[<-e];split<;>omega) (by rw[<-e];split<;>omega),ff]
     by_cases c2:a.v<0↔b.v<0
     ·rw[if_neg (by simp[c2])]at e;rw[<-e];simp[aa,w1,j,f,g,dC,cU];refine e1 z1 ?_;simp[f,g];refine e1 z2 ?_;simp;refine e2 M ?_;simp[u,c2,aa,w1,j,f,g,r]
     ·rw[if_pos (by simp[c2])]at e;rw[<-e];simp[aa,w1,j,f,g,dC,cU];refine e1 z1 ?_;simp[f,g];refine e1 z2 ?_;simp;refine e2 M ?_;simp[u,c2,aa,w1,j,f,g,r,A]
    ·simp[aa,w1,j,f,g,dC,cU];refine e1 z1 ?_;simp[f,g];refine e1 z2 ?_;simp;refine e2 M ?_
     by_cases c2:H=0
     ·have c3:¬(L:Int)<=9223372036854775807:=fun h=>c1 ⟨c2,o_⟩;simp[c2,c3]
     ·have c3:¬(H:Int)=0:=by omega
      simp[c2,c3]
 ·rintro⟨F,J⟩ ⟨k,l,m,x⟩;dsimp only at k l m x;subst x;simp[k,l,m];refine c1 E ?_;simp[k,l,m];refine c1 hq ?_;simp[k,l,m];refine c2 D ?_;simp;refine c2 w ?_;simp[k,l,m,aa]
  done
theorem nr{a b:NI}(h:a.v=b.v)(d:a.v= -9223372036854775808->a.m=b.m):eI a=eI b:=by
 by_cases c:a.v= -9223372036854775808
 ·have:=d c;cases a;cases b;dsimp only at h this;subst h this;rfl
 ·have e:a.sm=b.sm:=by
   simp only[NI.sm,h];rw[h]at c;simp[c]
  rw[jt,jt,e,h]
theorem Y2{a b:Int}(c:0<b):(a.tdiv b=a/b/\a.tmod b=a% b/\¬a.tmod b<0)\/(a.tdiv b-1=a/b/\a.tmod b+b=a% b/\a.tmod b<0/\a/b<0):=by
 have f:=Int.tmod_add_mul_tdiv a b;have g:=hz a c;have i:=ht a c
 by_cases h:a.tmod b<0
 ·right;have e:=(g0 (a:=a) (r:=a.tmod b+b) (q:=a.tdiv b-1) c).2 ⟨by rw[hG];omega,o_,o_⟩;have j:a<0:=by
   rcases ha a 0 with d|d
   ·exact d
   ·have:=Int.tmod_nonneg b d;omega
  have d:a/b<0:=hr c o_;omega
 ·left;have e:=(g0 (a:=a) (r:=a.tmod b) (q:=a.tdiv b) c).2 ⟨o_,o_,o_⟩;omega
theorem avK{a b:Int}(c:0<b):((if a<0 then -((a.natAbs% b.natAbs:Nat):Int)else(a.natAbs% b.natAbs:Nat))<0/\a/b=(if a<0 then -((a.natAbs/b.natAbs:Nat):Int)else(a.natAbs/b.natAbs:Nat))-1/\a% b=(if a<0 then -((a.natAbs% b.natAbs:Nat):Int)else(a.natAbs% b.natAbs:Nat))+b)\/
 (¬(if a<0 then -((a.natAbs% b.natAbs:Nat):Int)else(a.natAbs% b.natAbs:Nat))<0/\a/b=(if a<0 then -((a.natAbs/b.natAbs:Nat):Int)else(a.natAbs/b.natAbs:Nat))/\a% b=(if a<0 then -((a.natAbs% b.natAbs:Nat):Int)else(a.natAbs% b.natAbs:Nat))):=by
 have e:((b.natAbs:Nat):Int)=b:=o_
 have f:=la a.natAbs b.natAbs;have g:=ko a.natAbs (show 0<b.natAbs by omega);have i:((a.natAbs% b.natAbs:Nat):Int)+b*(a.natAbs/b.natAbs:Nat)=(a.natAbs:Nat):=by
  rw[<-e,<-g5,<-hB,e,f]
 generalize a.natAbs% b.natAbs=r at*;generalize a.natAbs/b.natAbs=q at*
 by_cases h:a<0
 ·simp only[if_pos h]
  by_cases j:r=0
  ·right;have d:=(g0 (a:=a) (r:=0) (q:=-(q:Int)) c).2 ⟨by rw[hJ];omega,o_,o_⟩;omega
  ·left;have d:=(g0 (a:=a) (r:=-(r:Int)+b) (q:=-(q:Int)-1) c).2 ⟨by rw[hG,hJ];omega,o_,o_⟩;omega
 ·simp only[if_neg h];right;have d:=(g0 (a:=a) (r:=(r:Int)) (q:=(q:Int)) c).2 ⟨o_,o_,o_⟩;omega
theorem LC(a b:NI)(i:0<b.v)(I:okW a.v)(w:okW b.v):aB prog 331 [eI a,eI b] (.aE [eI (a.div b),eI (a.mod b)]):=by
 have P:=nY (eI a) a.v (mz a);have hq:=nY (eI b) b.v (mz b);have ab:=nV I;have ac:=nV w;have K:=CX a.v.natAbs b.v.natAbs o_ o_ o_;refine aJ nf (i_ func331) mix (by simp[f331]) ?_;simp[f331,-bu];rw[bu];simp[-bu];refine join (fun s=>aP s.env 2=.ptr 0 []/\aP s.env 3=.ptr 1 []/\aP s.env 4=.ptr 2 []/\aP s.env 5=.ptr 3 []/\s.heap=[.box false (.p (eI a)),.box false (.p (eI b)),.box false (.p (.st 121 [.int .i64 0,.aO])),.box false (.p (.st 121 [.int .i64 0,.aO]))]) ?_ ?_
 ·rcases hs:a.sm with _|_
  ·obtain⟨c,cs,w1⟩:=oD hs;simp[aa,w1,dC,cU]
  ·have w1:=mv hs;rcases m:b.sm with _|_
   ·obtain⟨c,cs,l⟩:=oD m;simp[aa,w1,l,dC,cU]
   ·have l:=mv m;have q:=ni hs;have r:=ni m;have ah:=NI.pQ hs;have ai:=NI.pQ m
    by_cases o:a.v= -9223372036854775808
    ·simp[aa,w1,l,q,r,o,dC,cU]
    ·have n:¬b.v=0:=by omega
     have b1:-9223372036854775808<a.v/b.v:=by
      have:=Int.le_ediv_of_mul_le (a:=-9223372036854775807) (b:=a.v) i o_;omega
     have B:a.v/b.v<9223372036854775808:=hr i o_;have C:=g9 a.v i;have D:=hg a.v n;have F:eI (a.div b)=ff (a.v/b.v):=by rw[jt,if_pos (NI.Aa b1 B)];rfl
     have f2:eI (a.mod b)=ff (a.v% b.v):=oJ o_ o_;rw[F,f2];have af:=hz a.v i;have ae:=ht a.v i;rcases Y2 (a:=a.v) i with⟨d1,d2,d3⟩|⟨d1,d2,d3,d4⟩
     ·have q1:eb.wrap (a.v.tdiv b.v)=a.v/b.v:=by rw[d1];exact aQ _ o_ o_
      simp[aa,w1,l,q,r,o,n,dC,cU,ff,d3,q1];exact d2.symm
     ·have q1:eb.wrap (eb.wrap (a.v.tdiv b.v)-1)=a.v/b.v:=by rw[aQ (a.v.tdiv b.v) o_ o_,d1];exact aQ _ o_ o_
      have V:eb.wrap (a.v.tmod b.v+b.v)=a.v% b.v:=by rw[d2];exact aQ _ o_ o_
      simp[aa,w1,l,q,r,o,n,dC,cU,ff,d3,q1,V]
 ·rintro⟨W,ad⟩ ⟨d,e,f,g,x⟩;dsimp only at d e f g x;subst x;have M:(aA wB (a.v.natAbs/b.v.natAbs)).length<=900000:=by
   have:=dN bm _ _ (kk (l1 a.v.natAbs b.v.natAbs) (cq bm a.v.natAbs));omega
  have N:(aA wB (a.v.natAbs% b.v.natAbs)).length<=900000:=by
   have:=dN bm _ _ (kk (oz a.v.natAbs b.v.natAbs) (cq bm a.v.natAbs));omega
  have z:=wy (decide (a.v<0)) (a.v.natAbs/b.v.natAbs) o_;have A:=wy (decide (a.v<0)) (a.v.natAbs% b.v.natAbs) o_;have L:=avK (a:=a.v) i;simp only[decide_eq_true_eq]at z A;have ag:=ko a.v.natAbs (show 0<b.v.natAbs by omega);generalize a.v.natAbs/b.v.natAbs=k at*;generalize a.v.natAbs% b.v.natAbs=j at*;have Z:-b.v<(if a.v<0 then -(j:Int)else(j:Int)):=by split<;>omega
  have H:a.v<0->(if a.v<0 then -(j:Int)else(j:Int))<=0:=fun h=>by rw[if_pos h];omega
  have T:okW (if a.v<0 then -(k:Int)else(k:Int)):=by rw[okW];split<;>simpa using M
  have U:okW (if a.v<0 then -(j:Int)else(j:Int)):=by rw[okW];split<;>simpa using N
  have S:(if a.v<0 then -(k:Int)else(k:Int))= -9223372036854775808->a.v<0:=by split<;>omega
  generalize (if a.v<0 then -(k:Int)else(k:Int))=Q at*;generalize (if a.v<0 then -(j:Int)else(j:Int))=R at*;have u:=tY (.mk' R);simp only[NI.iN]at u;have C:=g9 a.v i;have D:=hg a.v (show b.v≠0 by omega);simp[d,e,f,g];refine c1 P ?_;simp[d,e,f,g];refine c1 hq ?_;simp[d,e,f,g];refine c2 K ?_;simp;refine c2 z ?_;simp;refine c2 A ?_;simp[d,e,f,g,aa];refine c1 u ?_;rcases L with⟨d1,d2,d3⟩|⟨d1,d2,d3⟩
  ·have y:=En (.mk' Q) (.of 1) T (by rw[okW];decide);have J:=wU (.mk' R) b U w;rw[ui (by decide) (by decide)]at y;have g1:eI (a.div b)=eI ((NI.mk' Q).sub (.of 1)):=by
    refine nr (by rw[NI.RM];exact d2) (fun h=>?_);have E:Q= -9223372036854775807:=by have:a.v/b.v= -9223372036854775808:=h;omega
    have O:¬a.v% b.v=0:=o_
    subst E;show decide (a.v% b.v≠0)=_;simp[O];rfl
   have g2:eI (a.mod b)=eI ((NI.mk' R).add b):=nr (by rw[NI.sf];exact d3) (fun h=>by have:a.v% b.v= -9223372036854775808:=h;omega);rw[g1,g2];simp[d,e,f,g,aa,d1];refine e1 (sv 1) ?_;simp[d,e,f,g,aa];refine e2 y ?_;simp[d,e,f,g,aa];refine e2 J ?_;simp[d,e,f,g,aa];exact⟨rfl,rfl⟩
  ·have g1:eI (a.div b)=eI (.mk' Q):=by
    refine nr d2 (fun h=>?_);have X:a.v/b.v= -9223372036854775808:=h;have Y:=H (S o_);have G:a.v% b.v=0:=o_
    show decide (a.v% b.v≠0)=false;simp[G]
   have g2:eI (a.mod b)=eI (.mk' R):=nr d3 (fun h=>by have:a.v% b.v= -9223372036854775808:=h;omega);rw[g1,g2]
   by_cases t:R=0
   ·simp[d,e,f,g,aa,t]
   ·simp[d,e,f,g,aa,d1,t]
theorem rp{a b:Int}(h:okW b)(c:a.natAbs<=b.natAbs):okW a:=by
 have:=dN bm _ _ (kk c (cq bm b.natAbs));have:=nV h;rw[okW];omega
theorem P2(a b:NI)(e:0<b.v)(d:okW a.v)(f:okW b.v):aB prog 297 [eI a,eI b] (eI (a.div b)):=by
 have c:=tY b;rw[if_neg o_,if_neg o_]at c;refine aJ nf (i_ func297) mix (by simp[f297]) ?_;simp[f297];refine c1 c ?_;simp;refine c2 (LC a b e d f) ?_;simp[aa]
 done
theorem NI.zm(a:NI):a.abs.v.natAbs=a.v.natAbs:=by
 rw[NI.abs];split
 ·rw[NI.iN,ho]
 ·rfl
theorem NI.PR(a:NI):0<=a.abs.v:=by
 rw[NI.abs];split
 ·rw[NI.iN];omega
 ·omega
def eL(a b:Int):Int:=(m3 a.natAbs b.natAbs:Nat)
theorem PZ(a b:NI)(j:okW a.v)(k:okW b.v):aB prog 296 [eI a,eI b] (eI (.mk' (eL a.v b.v))):=by
 refine aJ nf (i_ func296) mix (by simp[f296]) ?_;simp[f296];refine e1 (PX a j) ?_;simp;refine e1 (PX b k) ?_;simp[aa];refine⟨⟨rfl,rfl⟩,?_⟩;have n:eL a.abs.v b.abs.v=eL a.v b.v:=by rw[eL,eL,NI.zm,NI.zm]
 refine lp (α:=NI×NI) (fun x=>⟨[(4,.ptr 2 []),(3,.ptr 1 []),(2,.ptr 0 [])],[.box false (.p (eI x.1)),.box false (.p (eI x.2)),.box false (.p (.st 121 [.int .i64 0,.aO]))]⟩)
  (fun x=>0<=x.1.v/\0<=x.2.v/\okW x.1.v/\okW x.2.v/\eL x.1.v x.2.v=eL a.v b.v) (fun x=>x.2.v.toNat) (a.abs,b.abs) ⟨NI.PR a,NI.PR b,rp j (n7 (NI.zm a)),rp k (n7 (NI.zm b)),n⟩ ?_
 rintro⟨x,y⟩ ⟨l,g,i,c,f⟩;dsimp only at l g i c f;have d:=tY y
 by_cases e:y.v=0
 ·rw[if_neg o_,if_pos e]at d;have hx:eI (.mk' (eL a.v b.v))=eI x:=by
   refine nr ?_ (fun h=>?_)
   ·rw[NI.iN,<-f,e,eL];simp;omega
   ·rw[NI.iN,eL]at h;omega
  rw[hx];simp;refine c1 d ?_;simp[aa]
 ·rw[if_neg o_,if_neg e]at d;have q:=g9 x.v (show 0<y.v by omega);have o:=hg x.v e;have m:(x.v% y.v).natAbs=x.v.natAbs% y.v.natAbs:=by
   have e1:(x.v.natAbs:Int)=x.v:=o_
   have e2:(y.v.natAbs:Int)=y.v:=o_
   have e3:((x.v.natAbs% y.v.natAbs:Nat):Int)=x.v% y.v:=by rw[Int.natCast_emod,e1,e2]
   omega
  simp;refine c1 d ?_;simp[aa];refine c2 (LC x y o_ i c) ?_;simp[aa];refine⟨rfl,?_⟩;refine rd (y,x.mod y) ⟨g,o,c,rp c (by show(x.v% y.v).natAbs<=_;omega),?_⟩ (by show(x.v% y.v).toNat<y.v.toNat;omega);show eL y.v (x.v% y.v)=_;rw[<-f,eL,eL,m,oa y.v.natAbs,<-Nat.gcd_rec,oa]
theorem aHt{o x k A:Nat}(hx:1<=x)(d:1<=o)(h:o*x^k=A)(hk:1<=k):o*x<=A/\(2<=k->x*x<=A):=by
 have a:x<=x^k:=by
  calc x=x^1:=(l4 x).symm
   _<=x^k:=kb hx hk
 refine⟨by rw[<-h];exact kp _ a,fun b=>?_⟩;have c:x*x<=x^k:=by
  calc x*x=x^2:=by rw[ox]
   _<=x^k:=kb hx b
 rw[<-h];exact l5 c (n8 _ d)
theorem ZD(a:NI)(n A:Nat)(E:1<=a.v)(q:A=a.v.natAbs^n)(J:(aA wB A).length<=400000)(F:(aA wB a.v.natAbs).length<=400000)(K:n<=1000000):aB prog 294 [eI a,.int .i64 n] (eI (.mk' A)):=by
 refine aJ nf (i_ func294) mix (by simp[f294]) ?_;simp[f294];refine c1 (sv 1) ?_;rw[show ff 1=eI (.of 1)from(ui (by decide) (by decide)).symm];simp[aa];refine lp (α:=Nat×NI×NI) (fun s=>⟨[(1,.p (.int .i64 s.1)),(5,.ptr 2 []),(4,.ptr 1 []),(2,.ptr 0 [])],[.box false (.p (eI s.2.1)),.box false (.p (.st 121 [.int .i64 0,.aO])),.box false (.p (eI s.2.2))]⟩)
  (fun s=>s.1<=n/\1<=s.2.1.v/\1<=s.2.2.v/\(0<s.1->s.2.2.v.natAbs*s.2.1.v.natAbs^s.1=A)/\(s.1=0->s.2.2.v.natAbs=A)/\(aA wB s.2.1.v.natAbs).length<=400000) (fun s=>s.1) (n,a,.of 1) ⟨kC _,E,(by decide:(1:Int)<=1),fun _=>by rw[q];show(1:Int).natAbs*_=_;simp,fun h=>by have h:n=0:=h;rw[q,h,kW];rfl,F⟩ ?_
 rintro⟨k,x,o⟩ ⟨C,c,i,b,l,m⟩;dsimp only at C c i b l m
 by_cases k0:k=0
 ·subst k0;have e:eI (.mk' A)=eI o:=by
   refine nr ?_ (fun h=>?_)
   ·rw[NI.iN,<-l rfl];omega
   ·rw[NI.iN]at h;omega
  rw[e];simp[aa]
 have b:=b o_;have r:=aHt (o:=o.v.natAbs) (x:=x.v.natAbs) o_ o_ b o_;have d:eb.wrap (k% 2^eb.bits&&&1% 2^eb.bits:Nat)=(k% 2:Nat):=by
  rw[show(2^eb.bits:Nat)=18446744073709551616 from rfl,j7 (show k<18446744073709551616 by omega),show 1% 18446744073709551616=2^1-1 from rfl,nn];exact aQ _ o_ o_
 have hs:(k:Int).fdiv (2^min 1 eb.bits)=(k/2:Nat):=by
  rw[show((2:Int)^min 1 eb.bits)=2 from rfl,hp _ (by decide)];omega
 have j:0<k:=o_
 have L:(aA wB o.v.natAbs).length<=400000:=by
  have D:o.v.natAbs<=A:=l5 (n4 _ (show 0<x.v.natAbs by omega)) r.1;have:=dN bm _ _ (kk D (cq bm A));omega
 have z:2<=k->(aA wB (x.v*x.v).natAbs).length<=400000:=fun h=>by
  have:=dN bm _ _ (kk (r.2 h) (cq bm A));rw[gB];omega
 have y:(1:Int)<=o.v*x.v:=by
  have:=hD i c (by decide) o_;omega
 have B:(1:Int)<=x.v*x.v:=by
  have:=hD c c (by decide) o_;omega
 have u:=Ak o x o_;have w:=Ak x x o_;have g:x.v.natAbs^k=(x.v*x.v).natAbs^(k/2)*x.v.natAbs^(k% 2):=by
  rw[gB,<-ox,<-np,<-kK,kt]
 by_cases H:k% 2=1
 ·rw[H,l4]at g;have t:((k% 2:Nat):Int)=1:=by omega
  rw[t]at d
  by_cases k1:1<k
  ·have f:(1:Int)<k:=by omega
   simp[j,d];refine c2 u ?_;simp[aa,f];refine c2 w ?_;simp[aa,hs];refine rd (k/2,x.mul x,o.mul x) ⟨o_,B,y,fun _=>?_,fun h=>by dsimp only at h;omega,z k1⟩ (by dsimp only;omega);rw[g]at b;show(o.v*x.v).natAbs*(x.v*x.v).natAbs^(k/2)=A;rw[<-b,gB o.v,j6 ((x.v*x.v).natAbs^(k/2)),kw]
  ·have f:¬(1:Int)<k:=by omega
   have G:k=1:=o_
   simp[j,d];refine c2 u ?_;simp[aa,f,hs];refine rd (k/2,x,o.mul x) ⟨o_,c,y,fun h=>by dsimp only at h;omega,fun _=>?_,m⟩ (by dsimp only;omega);subst G;rw[l4]at b;show(o.v*x.v).natAbs=A;rw[<-b,gB]
 ·have I:k% 2=0:=by omega
  rw[I,kW,m9]at g;have t:¬((k% 2:Nat):Int)=1:=o_
  rw[show((k% 2:Nat):Int)=0 by omega]at d;have f:(1:Int)<k:=o_
  simp[j,d,f];refine c2 w ?_;simp[aa,hs];refine rd (k/2,x.mul x,o) ⟨o_,B,i,fun _=>?_,fun h=>by dsimp only at h;omega,z o_⟩ (by dsimp only;omega);show o.v.natAbs*(x.v*x.v).natAbs^(k/2)=A;rw[<-g,b]
theorem ZS(x:Nat)(hx:x<18446744073709551616):aB prog 324 [.int .u64 x] (.int .i64 (ed x:Nat)):=by
 refine l9 (kJ func324 k_) fun w ad d _ _ c=>?_;obtain⟨a,rfl,b⟩:=yY c;simp only[aF]at b;subst b;refine(bits_Len64 x w o_ o_).mono ?_;rintro e w' ⟨rfl,rfl⟩;refine⟨_,rfl,⟨kC _,fun _ _=>rfl,rfl,rfl⟩,fun w ad=>?_⟩;simp only[aF];rfl
def oK(n:Nat):Nat:=if n=0 then 0 else 64*((aA wB n).length-1)+ed (ae wB n ((aA wB n).length-1))
theorem th{n:Nat}:aA wB n=[]↔n=0:=by
 constructor
 ·intro h;have:=cq bm n;rw[h,hU,kW]at this;omega
 ·rintro rfl;exact lO
theorem LI(n:Nat):n<2^oK n:=by
 by_cases b:n=0
 ·subst b;exact kh (by decide)
 ·rw[oK,if_neg b];have e:=cq bm n;have j:0<(aA wB n).length:=by
   rcases lc (aA wB n).length with h|h
   ·exact(b (th.1 (hX.1 h))).elim
   ·exact h
  obtain⟨m,i⟩:∃m,(aA wB n).length=m+1:=⟨(aA wB n).length-1,o_⟩
  rw[i]at e⊢;rw[li];have d:n/wB^m<wB:=by
   rw[j8 (kh (by decide)),j6,<-kc];exact e
  have f:ae wB n m=n/wB^m:=by rw[ae,j7 d]
  have g:0<n/wB^m:=by
   rcases lc (n/wB^m)with h|h
   ·have c:n<wB^m:=by
     rcases kN n (wB^m)with a|a
     ·exact a
     ·have:=nb a (kh (show 0<wB by decide));omega
    have:=dN bm m n c;omega
   ·exact h
  have c:=yy (n/wB^m) (n/wB^m) (kC _) g d;rw[f,kK,np];show n<wB^m*_;have a:n<(n/wB^m+1)*wB^m:=by
   rw[<-j8 (kh (by decide))];omega
  rw[j6]at a;exact j9 a (kp _ c.2.2)
theorem Zt(a:NI)(l:okW a.v):aB prog 289 [eI a] (.int .i64 (oK a.v.natAbs:Nat)):=by
 have b:=nY (eI a) a.v (mz a);refine aJ nf (i_ func289) mix (by simp[f289]) ?_;have o:=nV l;have q:∀i(h:i<(aA wB a.v.natAbs).length),(aA wB a.v.natAbs)[i]=ae wB a.v.natAbs i:=fun i h=>eD bm h;have f:=cz (B:=wB) bm a.v.natAbs ((aA wB a.v.natAbs).length-1);have j:=ZS _ f;have z:=LI a.v.natAbs;have s:=th (n:=a.v.natAbs)
 by_cases e:a.v.natAbs=0
 ·rw[e]at b⊢;simp only[eN,lO]at b;simp[f289];refine c1 b ?_;simp[oK]
 ·have k:=mt s.1 e;rw[oK,if_neg e];have p:ed (ae wB a.v.natAbs ((aA wB a.v.natAbs).length-1))<=64:=by
   rcases lc (ae wB a.v.natAbs ((aA wB a.v.natAbs).length-1))with h|h
   ·rw[h];decide
   ·exact PW h f
  simp only[eN]at b;generalize aA wB a.v.natAbs=x at*;obtain⟨m,d⟩:∃m,x.length=m+1:=⟨x.length-1,by cases x with|nil=>exact(k rfl).elim|cons c cs=>simp⟩
  rw[d,li]at j p f;rw[d,li];rw[d]at o;have hx:=q m o_;have t:x[m]?=some (ae wB a.v.natAbs m):=by rw[hL o_,hx]
  have w1:eb.wrap (m:Int)=m:=aQ _ o_ o_;have u:eb.wrap (64*(m:Int))=64*m:=aQ _ o_ o_;have w:eb.wrap (64*(m:Int)+(ed (ae wB a.v.natAbs m):Nat))=(64*m+ed (ae wB a.v.natAbs m):Nat):=by rw[aQ _ o_ o_];push_cast;rfl
  generalize ed (ae wB a.v.natAbs m)=g at*;have y:eb.wrap (64*(m:Int)+g)=64*m+g:=by rw[w];push_cast;rfl
  simp[f289];refine c1 b ?_;have r:¬((m:Int)+1=0):=o_
  simp[k,d,w1,u,t,hx,r];refine c1 j ?_;simp[y]
noncomputable def eF(a:NF):PV:=.st 123 [eI a.num,eI a.den]
@[simp] theorem aOS(a:NF):aL (eF a)=.agg 123:=rfl
@[simp] theorem aNi(a:NF):bY (eF a)=[eI a.num,eI a.den]:=rfl
@[simp] theorem aPm(n:Int):aL (ff n)=.agg 121:=rfl
@[simp] theorem aMA:prog.cellsOf 121=2:=k_
@[simp] theorem aMB:prog.cellsOf 123=4:=k_
theorem MH:ff 1=eI (.mk' 1):=(oJ (by decide) (by decide)).symm
def kB:Nat:=100000
theorem qt:kB<=3*kB:=n8 _ (by decide)
theorem yO{n k:Nat}(h:n<2^k):(aA wB n).length<=k/64+1:=by
 refine dN bm _ _ (j9 h ?_);rw[show wB=2^64 from rfl,<-np];exact kb (by decide) o_
theorem iC{z:Int}{k:Nat}(h:z.natAbs<2^k)(hk:k<=3*kB):okW z:=by
 have:=yO h;have a:kB=100000:=rfl;rw[okW];omega
def NF.make(n d:NI):NF:=⟨oP n.v d.v,n.m&&decide (d.v=1)⟩
theorem CC(a:NF):aB prog 242 [eF a] (.bool a.fD):=by
 refine aJ nf (i_ func242) mix (by simp[f242]) ?_;have e:a.den.v=a.q.den:=rfl;have g:=a.q.den_pos;rcases hs:a.den.sm with _|_
 ·obtain⟨c,cs,w1⟩:=oD hs;have f:=NI.zI (a:=a.den) (by rw[hs];decide);have b:a.fD=false:=by rw[NF.fD,decide_eq_false_iff_not];omega
  simp[f242,aa,w1,dC,cU,b]
 ·have w1:=mv hs;have d:=ni hs;rw[e]at d;have b:a.fD=decide ((a.q.den:Int)=1):=by rw[NF.fD,decide_eq_decide];omega
  simp[f242,aa,w1,d,dC,cU,b];rfl
theorem DE(a:NI):aB prog 230 [eI a] (eF (.whole a)):=by
 refine aJ nf (i_ func230) mix (by simp[f230]) ?_;simp[f230];refine e1 (sv 1) ?_;have b:(NF.whole a).num=a:=by cases a;rfl
 have c:(NF.whole a).den=.mk' 1:=rfl;simp[aa,eF,b,c,MH]
theorem kj(n:Int)(h:-9223372036854775808<=n)(b:n<=9223372036854775807):aB prog 130 [.int .i64 n] (eF (.int n)):=by
 have a:=DE (.of n);rw[ui h b]at a;refine aJ nf (i_ func130) mix (by simp[f130]) ?_;simp[f130];refine c1 (sv n) ?_;simp;refine c1 a ?_;simp[aa];exact Wk.refl _
theorem DY(q:Rat):(if q<0 then(-1:Int)else if q=0 then 0 else 1)=if q.num<0 then -1 else if q.num=0 then 0 else 1:=by
 have a:q<0↔q.num<0:=by rw[<-Rat.not_le,<-Rat.num_nonneg];omega
 have b:q=0↔q.num=0:=oS.symm;simp only[a,b]
theorem ud(a:NF):aB prog 188 [eF a] (.int .i64 (if a.q<0 then -1 else if a.q=0 then 0 else 1)):=by
 have b:=tY a.num;refine aJ nf (i_ func188) mix (by simp[f188]) ?_;simp[f188,aa];refine c1 b ?_;simp;exact DY a.q
theorem DJ(a:NF)(h:bL kB a.q):aB prog 150 [eF a] (eF a.neg):=by
 have d:=uf a.num (iC h.1 qt);refine aJ nf (i_ func150) mix (by simp[f150]) ?_;simp[f150,aa];refine e1 d ?_;have b:a.neg.num=a.num.neg:=by show(⟨(-a.q).num,false⟩:NI)=⟨-a.q.num,false⟩;rw[o2]
 have c:a.neg.den=a.den:=by show(⟨((-a.q).den:Int),false⟩:NI)=⟨a.q.den,false⟩;rw[o3]
 simp[aa,eF,b,c]
theorem VT{n d:NI}(j:0<d.v):(NI.mk' (eL n.v d.v)).v≠0/\0<eL n.v d.v/\(¬d.v=1->eI (n.div (.mk' (eL n.v d.v)))=eI (NF.make n d).num)/\eI (d.div (.mk' (eL n.v d.v)))=eI (NF.make n d).den:=by
 obtain⟨dn,e⟩:∃dn:Nat,d.v=dn:=⟨d.v.toNat,o_⟩
 have f:dn≠0:=o_
 obtain⟨e1,e2⟩:=ma (n:=n.v) f;have c:eL n.v d.v=(m3 n.v.natAbs dn:Nat):=by rw[eL,e];rfl
 have k:0<m3 n.v.natAbs dn:=Nat.gcd_pos_of_pos_right _ o_;have i:(m3 n.v.natAbs dn:Int)∣n.v:=hv.2 (oo _ _);refine⟨by rw[NI.iN,c];omega,by rw[c];omega,fun g=>?_,?_⟩
 ·refine nr ?_ (fun _=>?_)
  ·show n.v/eL n.v d.v=(oP n.v d.v).num;rw[c,e,e1]
  ·show decide (n.v% eL n.v d.v≠0)=(n.m&&decide (d.v=1))
   rw[c,Int.emod_eq_zero_of_dvd i];simp[g]
 ·refine nr ?_ (fun h=>?_)
  ·show d.v/eL n.v d.v=((oP n.v d.v).den:Int)
   rw[c,e,e2];exact(Int.natCast_ediv _ _).symm
  ·have:d.v/eL n.v d.v= -9223372036854775808:=h;have:=g7 (a:=d.v) (b:=eL n.v d.v) o_ (by rw[c];omega);omega
theorem Yj{n d:NI}(a:d.v<0):NF.make n.neg d.neg=NF.make n d:=by
 rw[NF.make,NF.make];have e1:oP n.neg.v d.neg.v=oP n.v d.v:=Rat.neg_divInt_neg _ _;have e2:(n.neg.m&&decide (d.neg.v=1))=(n.m&&decide (d.v=1)):=by
  rw[show n.neg.m=false from rfl,cc,decide_eq_false o_,b4]
 rw[e1,e2]
theorem Js(n:Int):(oP n 1).num=n/\(oP n 1).den=1:=by
 obtain⟨e1,e2⟩:=ma (n:=n) (show 1≠0 by decide);rw[oe]at e1 e2;refine⟨?_,?_⟩
 ·exact e1.trans (hE n)
 ·exact e2
theorem Ef(n d:NI)(w:d.v≠0)(o:okW n.v)(l:okW d.v):aB prog 239 [eI n,eI d] (eF (.make n d)):=by
 have i:=tY d;refine aJ nf (i_ func239) mix (by simp[f239]) ?_;simp[f239,-bu];rw[bu];simp[-bu];refine join (fun s=>∃a d':NI,0<d'.v/\okW a.v/\okW d'.v/\NF.make a d'=NF.make n d/\aP s.env 2=.ptr 0 []/\aP s.env 3=.ptr 1 []/\aP s.env 4=.ptr 2 []/\s.heap=[.box false (.p (eI a)),.box false (.p (eI d')),.box false (.p (.st 123 [.st 121 [.int .i64 0,.aO],.st 121 [.int .i64 0,.aO]]))]) ?_ ?_
 ·by_cases k:d.v<0
  ·rw[if_pos k]at i;simp;refine c1 i ?_;simp;refine e1 (uf n o) ?_;simp;refine e1 (uf d l) ?_;simp[aa];exact⟨⟨rfl,rfl⟩,n.neg,d.neg,by rw[NI.ER];omega,rp o (by rw[NI.ER];omega),rp l (by rw[NI.ER];omega),Yj k,rfl,rfl⟩
  ·rw[if_neg k,if_neg w]at i;simp;refine c1 i ?_;simp;exact⟨n,d,o_,o,l,rfl,rfl,rfl⟩
 ·rintro⟨B,C⟩ ⟨a,d',y1,y2,y3,y4,b,e,f,r⟩;dsimp only at b e f r;subst r;rw[<-y4];clear y4 i;have q:=PZ a d' y2 y3;obtain⟨g1,g2,g3,g4⟩:=VT (n:=a) y1;have og:okW (eL a.v d'.v):=by
   refine rp y3 ?_;rw[eL];exact l5 (n7 (gE _)) (Nat.gcd_le_right _ o_)
  have t:=P2 a (.mk' (eL a.v d'.v)) g2 y2 og;have u:=P2 d' (.mk' (eL a.v d'.v)) g2 y3 og
  by_cases hs:d'.v=1
  ·have g:d'.sm=true:=NI.Aa o_ o_;have w1:=mv g;have j:=ni g;rw[hs]at j;have y:eF (.make a d')=.st 123 [eI a,eI d']:=by
    rw[eF];have z:(NF.make a d').num=a:=by
     show(⟨(oP a.v d'.v).num,a.m&&decide (d'.v=1)⟩:NI)=a;rw[hs,(Js _).1];simp
    have A:eI (NF.make a d').den=eI d':=by
     refine nr ?_ (fun h=>?_)
     ·show((oP a.v d'.v).den:Int)=d'.v;rw[hs,(Js _).2];rfl
     ·have:((oP a.v d'.v).den:Int)= -9223372036854775808:=h;omega
    rw[z,A]
   rw[y];simp[b,e,f,aa,w1,j,dC,cU]
   done
  ·rw[eF,<-g3 hs,<-g4];have x:(wI d'=.aO/\¬sI d'=1)\/∃c cs,wI d'=.seq (c::cs):=by
    rcases g:d'.sm with _|_
    ·exact .inr (oD g)
    ·exact .inl ⟨mv g,by rw[ni g];exact hs⟩
   rcases x with⟨w1,j⟩|⟨c,cs,w1⟩
   ·simp[b,e,f,aa,w1,j,dC,cU];refine c2 q ?_;simp[b,e,f,aa];refine e2 t ?_;simp[b,e,f,aa];refine e2 u ?_;simp[b,e,f,aa]
    done
   ·simp[b,e,f,aa,w1,dC,cU];refine c2 q ?_;simp[b,e,f,aa];refine e2 t ?_;simp[b,e,f,aa];refine e2 u ?_;simp[b,e,f,aa]
    done
theorem lN(a:NF):a.num.v=a.q.num:=rfl
theorem jP(a:NF):a.den.v=a.q.den:=rfl
theorem kH(a:NF):a.den.v.natAbs=a.q.den:=by rw[jP,gE]
theorem rZ{x y:NI}{k l:Nat}(hx:x.v.natAbs<2^k)(a:y.v.natAbs<2^l)(h:k+l<=4*kB):aB prog 219 [eI x,eI y] (eI (x.mul y)):=by
 have b:=yO hx;have c:=yO a;have d:kB=100000:=rfl;exact Ak x y o_
theorem pq{x y:Int}{k l:Nat}(hx:x.natAbs<2^k)(a:y.natAbs<2^l):(x*y).natAbs<2^(k+l):=by
 rw[gB,kK];exact lb hx a
theorem Dj{n d:NI}{q:Rat}(m:Bool)(hq:oP n.v d.v=q)(a:(n.m&&decide (d.v=1))=m):NF.make n d=⟨q,m⟩:=by rw[NF.make,hq,a]
theorem Yh(a b:NF):NF.make (a.num.mul b.num) (a.den.mul b.den)=a.mul b:=by
 refine Dj _ ?_ rfl;rw[NI.mu,NI.mu,lN,lN,jP,jP,o4,oQ];rfl
theorem jQ(a b:NF)(c:bL kB a.q)(d:bL kB b.q):aB prog 195 [eF a,eF b] (eF (a.mul b)):=by
 have f:=rZ (x:=a.num) (y:=b.num) c.1 d.1 o_;have g:=rZ (x:=a.den) (y:=b.den) (by rw[kH];exact c.2) (by rw[kH];exact d.2) o_;have e:=Ef (a.num.mul b.num) (a.den.mul b.den) (by rw[NI.mu,jP,jP];have:=a.q.den_nz;have:=b.q.den_nz;exact hC o_ o_) (iC (pq c.1 d.1) o_) (iC (pq (x:=a.den.v) (y:=b.den.v) (by rw[kH];exact c.2) (by rw[kH];exact d.2)) o_);rw[Yh]at e;refine aJ nf (i_ func195) mix (by simp[f195]) ?_;simp[f195,aa];refine e2 f ?_;simp[aa];refine e2 g ?_;simp[aa];refine e2 e ?_;simp[aa]
theorem Yt(a:NF)(h:a.q≠0):NF.make a.den a.num=a.inv:=by
 refine Dj _ ?_ rfl;rw[lN,jP];show oP a.q.den a.q.num=a.q⁻¹;rw[o5]
theorem DK(a:NF)(c:bL kB a.q)(b:a.q≠0):aB prog 149 [eF a] (eF a.inv):=by
 have d:=Ef a.den a.num (by rw[lN];exact mt oS.1 b) (iC (by rw[kH];exact c.2) qt) (iC c.1 qt);rw[Yt a b]at d;refine aJ nf (i_ func149) mix (by simp[f149]) ?_;simp[f149,aa];refine c2 d ?_;simp[aa]
theorem PO(a b:NF)(g:bL kB a.q)(c:bL kB b.q)(f:b.q≠0):aB prog 131 [eF a,eF b] (eF (a.div b)):=by
 have h:=DK b c f;have d:=jQ a b.inv g (BZ c);have e:a.mul b.inv=a.div b:=by
  rw[NF.mul,NF.div,NF.inv,pa]
 rw[e]at d;refine aJ nf (i_ func131) mix (by simp[f131]) ?_;simp[f131,aa];refine e1 h ?_;simp[aa];refine e2 d ?_;simp[aa]
theorem Y0(a b:NF)(h:¬(a.fD=true/\b.fD=true)):NF.make ((a.num.mul b.den).add (b.num.mul a.den)) (a.den.mul b.den)=a.add b:=by
 have g:(a.fD&&b.fD)=false:=by simpa using h
 refine Dj _ ?_ ?_
 ·rw[NI.sf,NI.mu,NI.mu,NI.mu,lN,lN,jP,jP,o1];rfl
 ·rw[g,cc];have:¬(a.den.mul b.den).v=1:=by
   intro c;rw[NI.mu,jP,jP]at c;have d:a.q.den*b.q.den=1:=by exact_mod_cast c
   have e:=Nat.eq_one_of_mul_eq_one_right d;have f:=Nat.eq_one_of_mul_eq_one_left d;exact h ⟨by rw[NF.fD];simp[e,f],by rw[NF.fD];simp[e,f]⟩
  rw[decide_eq_false this,b4]
theorem MJ{q:Rat}(h:q.den=1):(q.num:Rat)=q:=by
 apply Rat.ext
 ·rw[Rat.num_intCast]
 ·rw[Rat.den_intCast,h]
theorem su(a b:NF)(i:bL kB a.q)(j:bL kB b.q):aB prog 193 [eF a,eF b] (eF (a.add b)):=by
 have w1:=CC a;have l:=CC b;refine aJ nf (i_ func193) mix (by simp[f193]) ?_
 by_cases hw:a.fD=true/\b.fD=true
 ·rw[hw.1]at w1;rw[hw.2]at l;have k:=wU a.num b.num (iC i.1 qt) (iC j.1 qt);have f:=DE (a.num.add b.num);have c:a.q.den=1:=by simpa[NF.fD]using hw.1
  have d:b.q.den=1:=by simpa[NF.fD]using hw.2
  have e:NF.whole (a.num.add b.num)=a.add b:=by
   rw[NF.whole,NF.add];have e1:(((a.num.add b.num).v:Int):Rat)=a.q+b.q:=by
    rw[NI.sf,lN,lN,Rat.intCast_add,MJ c,MJ d]
   have e2:(a.num.add b.num).m=(a.fD&&b.fD&&(a.num.sm&&b.num.sm)):=by rw[hw.1,hw.2];rfl
   rw[e1,e2]
  rw[e]at f;simp[f193,aa];refine c1 w1 ?_;simp[aa];refine c1 l ?_;simp[aa];refine c2 k ?_;simp[aa];refine c1 f ?_;simp[aa]
 ·have g:a.den.v.natAbs<2^kB:=by rw[kH];exact i.2
  have h:b.den.v.natAbs<2^kB:=by rw[kH];exact j.2
  have k:=rZ (x:=a.num) (y:=b.den) i.1 h o_;have f:=rZ (x:=b.num) (y:=a.den) j.1 g o_;have b1:(a.num.mul b.den).v.natAbs<2^(kB+kB):=pq i.1 h;have r:(b.num.mul a.den).v.natAbs<2^(kB+kB):=pq j.1 g;have o:=wU _ _ (iC b1 o_) (iC r o_);have p:=rZ (x:=a.den) (y:=b.den) g h o_;have s:((a.num.mul b.den).add (b.num.mul a.den)).v.natAbs<2^(kB+kB+1):=by
   rw[NI.sf,kc];exact kk (hA _ _) o_
  have t:kB=100000:=rfl;have n:=Ef ((a.num.mul b.den).add (b.num.mul a.den)) (a.den.mul b.den) (by rw[NI.mu,jP,jP];have:=a.q.den_nz;have:=b.q.den_nz;exact hC o_ o_) (iC s o_) (iC (pq (x:=a.den.v) (y:=b.den.v) g h) o_);rw[Y0 a b hw]at n;have hc:a.fD=false\/(a.fD=true/\b.fD=false):=by
   rcases c:a.fD with _|_
   ·exact .inl rfl
   ·exact .inr ⟨rfl,by rcases d:b.fD with _|_;rfl;exact(hw ⟨c,d⟩).elim⟩
  rcases hc with c|⟨c,d⟩
  ·rw[c]at w1;simp[f193,aa];refine c1 w1 ?_;simp[aa];refine e2 k ?_;simp[aa];refine e2 f ?_;simp[aa];refine e2 o ?_;simp[aa];refine e2 p ?_;simp[aa];refine e2 n ?_;simp[aa]
  ·rw[c]at w1;rw[d]at l;simp[f193,aa];refine c1 w1 ?_;simp[aa];refine c1 l ?_;simp[aa];refine e2 k ?_;simp[aa];refine e2 f ?_;simp[aa];refine e2 o ?_;simp[aa];refine e2 p ?_;simp[aa];refine e2 n ?_;simp[aa]
theorem qc(a b:NF)(d:bL kB a.q)(c:bL kB b.q):aB prog 194 [eF a,eF b] (eF (a.sub b)):=by
 have e:=DJ b c;have f:=su a b.neg d (yV c);refine aJ nf (i_ func194) mix (by simp[f194]) ?_;simp[f194,aa];refine e1 e ?_;simp[aa];refine e2 f ?_;simp[aa];exact Wk.refl _
def dO(x y:Rat):Int:=if x<y then -1 else if x=y then 0 else 1
theorem aGZ(a b:Rat):ku (a.num*b.den) (b.num*a.den)=dO a b:=by
 have c:a<b↔a.num*b.den<b.num*a.den:=pd _ _;have f:a=b↔a.num*b.den=b.num*a.den:=by
  constructor
  ·rintro rfl;rfl
  ·intro h
   by_cases d:a<b
   ·rw[c]at d;omega
   ·by_cases e:b<a
    ·have g:=(pd b a).1 e;omega
    ·exact Rat.le_antisymm (pb.1 e) (pb.1 d)
 simp only[ku,dO,c,f]
theorem nv(a b:NF)(c:bL kB a.q)(d:bL kB b.q):aB prog 120 [eF a,eF b] (.int .i64 (dO a.q b.q)):=by
 have e:a.den.v.natAbs<2^kB:=by rw[kH];exact c.2
 have f:b.den.v.natAbs<2^kB:=by rw[kH];exact d.2
 have i:=rZ (x:=a.num) (y:=b.den) c.1 f o_;have j:=rZ (x:=b.num) (y:=a.den) d.1 e o_;have b1:(a.num.mul b.den).v.natAbs<2^(kB+kB):=pq c.1 f;have h:(b.num.mul a.den).v.natAbs<2^(kB+kB):=pq d.1 e;have g:=PY _ _ (iC b1 o_) (iC h o_);rw[NI.mu,NI.mu,lN,lN,jP,jP,aGZ]at g;refine aJ nf (i_ func120) mix (by simp[f120]) ?_;simp[f120,aa];refine e2 i ?_;simp[aa];refine e2 j ?_;simp[aa];refine e2 g ?_;simp[aa]
def low:Nat->Nat->List Nat
 |0,_=>[]
 |i+1,n=>(48+n/10^i% 10)::low i n
def nd(n:Nat):Nat:=if h:n=0 then 0 else nd (n/10)+1
 decreasing_by omega
theorem oL:∀(i n:Nat),i<nd n↔10^i<=n
 |0,n=>by
  rw[nd];split
  ·subst n;simp
  ·simp;omega
 |i+1,n=>by
  rw[nd];split
  ·rename_i h;subst h;have:=kh (n:=i+1) (show 0<10 by omega);constructor
   ·intro h;omega
   ·intro h;omega
  ·have:=oL i (n/10);rw[ll o_,<-kc]at this;rw[<-this];omega
theorem rA(b n:Nat):∀a,low (a+b) n=low a (n/10^b)++low b n
 |0=>by simp[low]
 |a+1=>by
  rw[show a+1+b=(a+b)+1 by omega,low,low,rA b n a,kd,<-kK,lq b a];rfl
theorem Dk(n k:Nat):∀b,b<=k->low b (n% 10^k)=low b n
 |0,_=>rfl
 |b+1,h=>by
  have e:k=b+(k-b-1+1):=o_
  have a:n% 10^k/10^b=n/10^b% 10^(k-b-1+1):=by
   conv=>lhs;rw[e,kK]
   rw[ms]
  rw[low,low,Dk n k b o_,a,Nat.mod_mod_of_dvd _ (Nat.pow_dvd_pow 10 (show 1<=k-b-1+1 by omega)|>fun h=>by simpa using h)]
theorem aGt{n m:Nat}(h:∀i,i<nd n↔i<m):nd n=m:=by
 have a:=h m;have b:=h (nd n);omega
theorem D0{n k:Nat}(h:10^k<=n):nd n=nd (n/10^k)+k:=by
 refine aGt fun i=>?_;rw[oL]
 by_cases hi:i<k
 ·have:=kb (show 0<10 by omega) (ow hi);constructor
  ·intro _;omega
  ·intro _;omega
 ·obtain⟨j,rfl⟩:∃j,i=j+k:=⟨i-k,o_⟩
  rw[kK,<-ll (kh o_),<-oL];omega
theorem sd{n k:Nat}(h:n<10^k):nd n<=k:=by
 rcases kN k (nd n)with a|a
 ·rw[oL]at a;omega
 ·exact a
theorem zT{n:Nat}(h:0<n):0<nd n:=by rw[oL,kW];exact h
theorem Yk{M:Nat}(h:10^9<=M):low (nd M) M=low (nd (M/10^9)) (M/10^9)++low 9 (M% 10^9):=by
 rw[D0 h,rA,Dk _ _ _ (kC 9)]
theorem rz(n:Nat):∀i,(low i n).length=i
 |0=>rfl
 |i+1=>by simp[low,rz n i]
def bk(n:Nat):List Nat:=low (max 1 (nd n)) n
def bO(z:Int):List Nat:=if z<0 then 45::bk z.natAbs else bk z.natAbs
def bE(q:Rat):List Nat:=if q.den=1 then bO q.num else bO q.num++47::bk q.den
def bd(s:List Nat):Nat:=s.foldl (fun n c=>n*10+(c-48)) 0
def ct(c:Nat):Bool:=decide (48<=c)&&decide (c<=57)
theorem yA(s:List Nat)(c:Nat):bd (s++[c])=bd s*10+(c-48):=by simp[bd]
theorem tF(i n:Nat):low (i+1) n=low i (n/10)++[48+n% 10]:=by
 have:=rA 1 n i;rw[this];simp[low]
theorem Rd:∀(i n:Nat),(low i n).all ct=true
 |0,n=>rfl
 |i+1,n=>by
  rw[low,hW,Rd i n];have:=ko (n/10^i) (show 0<10 by omega);simp[ct];omega
theorem Ld:∀(i n:Nat),bd (low i n)=n% 10^i
 |0,n=>by simp[low,bd,mo]
 |i+1,n=>by
  rw[tF,yA,Ld i,kc,j6 (10^i),ns];omega
theorem C1(n:Nat):n<10^nd n:=by
 rcases kN n (10^nd n)with h|h
 ·exact h
 ·have:=(oL (nd n) n).2 h;omega
theorem yR(n:Nat):bd (bk n)=n:=by
 rw[bk,Ld];refine j7 (j9 (C1 n) (kb o_ o_))
theorem rq(n:Nat):(bk n).length=max 1 (nd n):=rz _ _
theorem rP(n:Nat):(bk n).all ct=true:=Rd _ _
theorem qY:bk 0=[48]:=by
 have:nd 0=0:=by rw[nd,dif_pos rfl]
 rw[bk,this];rfl
def dI(s:List Nat):Bool:=!s.isEmpty&&s.all ct&&(decide (s.head?≠some 48)||decide (s=[48]))
theorem jK:∀(k:Nat)(s:List Nat),s.length=k->s.all ct=true->bd s<10^k
 |0,s,h,_=>by
            have:s=[]:=hX.1 h
            subst this;simp[bd]
 |n+1,s,h,a=>by
  have b:s≠[]:=by intro e;subst e;simp at h
  obtain⟨t,c,rfl⟩:∃t c,s=t++[c]:=⟨s.dropLast,s.getLast b,(h6 b).symm⟩
  simp only[jF,hW,j4,b5,b2]at a;have d:=jK n t (by simpa using h) a.1;have hc:=a.2;simp only[ct,b2,decide_eq_true_eq]at hc;rw[yA,kc];omega
theorem Mc:∀(k:Nat)(s:List Nat),s.length=k->s.all ct=true->low k (bd s)=s
 |0,s,h,_=>by
            have:s=[]:=hX.1 h
            subst this;rfl
 |n+1,s,h,a=>by
  have b:s≠[]:=by intro e;subst e;simp at h
  obtain⟨t,c,rfl⟩:∃t c,s=t++[c]:=⟨s.dropLast,s.getLast b,(h6 b).symm⟩
  simp only[jF,hW,j4,b5,b2]at a;have d:=Mc n t (by simpa using h) a.1;have hc:=a.2;simp only[ct,b2,decide_eq_true_eq]at hc;rw[tF,yA];have e1:(bd t*10+(c-48))/10=bd t:=o_
  have e2:(bd t*10+(c-48))% 10=c-48:=o_
  rw[e1,e2,d];congr 2;omega
theorem T9(c:Nat)(s:List Nat)(h:49<=c):10^s.length<=bd (c::s):=by
 have key:∀(s:List Nat)(a:Nat),a*10^s.length<=s.foldl (fun n c=>n*10+(c-48)) a:=by
  intro s
  induction s with
  |nil=>intro a;simp
  |cons x r b=>
   intro a;rw[js,hZ];refine l5 ?_ (b _);rw[kc,j6 (10^r.length),<-kw];exact km _ o_
 have:=key s (c-48);rw[bd,js,m1,l3];refine l5 ?_ this;have:1*10^s.length<=(c-48)*10^s.length:=km _ o_;omega
theorem v7{s:List Nat}(h:dI s=true):bk (bd s)=s:=by
 simp only[dI,b2,b3,decide_eq_true_eq,cb]at h;obtain⟨⟨f,a⟩,b⟩:=h;rcases b with b|rfl
 ·cases s with
  |nil=>simp at f
  |cons c r=>
   have hc:ct c=true:=by simpa using(hW.symm.trans a|>fun h=>by simpa using h:ct c=true/\r.all ct=true).1
   simp only[ct,b2,decide_eq_true_eq]at hc;have i:49<=c:=by
    have:c≠48:=fun e=>b (by rw[e];rfl);omega
   have g:=jK _ _ rfl a;have j:=T9 c r i;have k:nd (bd (c::r))=r.length+1:=by
    have a1:=(oL r.length _).2 j;have d:=sd g;rw[hZ]at d;omega
   rw[bk,k,show max 1 (r.length+1)=r.length+1 by omega];exact Mc _ _ rfl a
 ·have:bd [48]=0:=rfl;rw[this,qY]
def cg(c:Nat):List Nat->List Nat×List Nat×Bool
 |[]=>([],[],false)
 |x::r=>if x=c then([],r,true)else(x::(cg c r).1,(cg c r).2.1,(cg c r).2.2)
theorem CT(c:Nat):∀(a b:List Nat),c∉a->cg c (a++c::b)=(a,b,true)
 |[],b,_=>by simp[cg]
 |x::a,b,h=>by
  simp only[j2,not_or]at h;rw[hT,cg,if_neg (fun e=>h.1 e.symm),CT c a b h.2]
theorem CB(c:Nat):∀(a:List Nat),c∉a->cg c a=(a,[],false)
 |[],_=>rfl
 |x::a,h=>by
  simp only[j2,not_or]at h;rw[cg,if_neg (fun e=>h.1 e.symm),CB c a h.2]
theorem pM(c:Nat):∀(s:List Nat),((cg c s).2.2=true/\s=(cg c s).1++c::(cg c s).2.1)\/((cg c s).2.2=false/\(cg c s).1=s/\(cg c s).2.1=[])
 |[]=>by simp[cg]
 |x::s=>by
  rw[cg]
  by_cases h:x=c
  ·subst h;simp
  ·rw[if_neg h];rcases pM c s with⟨a,b⟩|⟨a,b,d⟩
   ·left;exact⟨a,by dsimp only;rw[hT,<-b]⟩
   ·right;exact⟨a,by dsimp only;rw[b],d⟩
def b8(s:List Nat):Bool:=decide (s.head?=some 45)
def dd(s:List Nat):List Nat:=if b8 s=true then s.tail else s
def bH(s:List Nat):List Nat:=(cg 47 (dd s)).1
def bQ(s:List Nat):List Nat:=(cg 47 (dd s)).2.1
def eA(s:List Nat):Bool:=(cg 47 (dd s)).2.2
def nq(s:List Nat):Bool:=dI (bH s)&&!(b8 s&&decide (bH s=[48]))&&(!eA s||(dI (bQ s)&&decide (bQ s≠[48])&&decide (bQ s≠[49])))
def b9(s:List Nat):Int:=
 if nq s=false then 1
 else if 600<(bH s).length\/600<(bQ s).length then 4
 else if eA s=true/\m3 (bd (bH s)) (bd (bQ s))≠1 then 1 else 0
def aS(s:List Nat):Rat:=oP (if b8 s=true then -(bd (bH s):Int)else bd (bH s)) (if eA s=true then bd (bQ s)else 1:Nat)
theorem Be{s:List Nat}(h:s.all ct=true){c:Nat}(hc:ct c=false):c∉s:=by
 intro a;rw[i6]at h;rw[h c a]at hc;cases hc
theorem ke{s:List Nat}(h:dI s=true):s.all ct=true:=by
 simp only[dI,b2]at h;exact h.1.2
theorem vi(n:Nat):bO (n:Int)=bk n:=by
 rw[bO,if_neg o_];rfl
theorem aIG{n:Nat}(h:0<n):bO (-(n:Int))=45::bk n:=by
 rw[bO,if_pos o_];congr 1;rw[ho];rfl
theorem yS{s:List Nat}(h:dI s=true)(a:s≠[48]):0<bd s:=by
 rcases lc (bd s)with e|e
 ·have:=v7 h;rw[e,qY]at this;exact(a this.symm).elim
 ·exact e
theorem ka{s:List Nat}(h:b9 s=0):bE (aS s)=s/\(aS s).num=(if b8 s=true then -(bd (bH s):Int)else bd (bH s))/\(aS s).den=(if eA s=true then bd (bQ s)else 1:Nat):=by
 unfold b9 at h
 split at h
 ·cases h
 rename_i b
 split at h
 ·cases h
 split at h
 ·cases h
 rename_i f;have b:nq s=true:=by simpa using b
 simp only[nq,b2,cb,Bool.and_eq_false_iff,decide_eq_false_iff_not,b3,decide_eq_true_eq]at b;obtain⟨⟨a1,a2⟩,a3⟩:=b;have hs:s=(if b8 s=true then[45]else[])++dd s:=by
  rw[dd]
  by_cases a:b8 s=true
  ·rw[if_pos a,if_pos a];simp only[b8,decide_eq_true_eq]at a;cases s with
   |nil=>simp at a
   |cons c r=>simp at a;subst a;rfl
  ·rw[if_neg a,if_neg a];rfl
 have g:(if eA s=true then bd (bQ s)else 1:Nat)≠0:=by
  split
  ·rename_i hf;rcases a3 with a3|a3
   ·rw[hf]at a3;cases a3
   ·have:=yS a3.1.1 a3.1.2;omega
  ·omega
 have i:m3 (if b8 s=true then -(bd (bH s):Int)else bd (bH s)).natAbs (if eA s=true then bd (bQ s)else 1:Nat)=1:=by
  have e:(if b8 s=true then -(bd (bH s):Int)else bd (bH s)).natAbs=bd (bH s):=by split<;>omega
  rw[e]
  by_cases hf:eA s=true
  ·rw[if_pos hf];exact Decidable.not_not.1 fun e=>f ⟨hf,e⟩
  ·rw[if_neg hf,oe]
 obtain⟨e1,e2⟩:=ma (n:=if b8 s=true then -(bd (bH s):Int)else bd (bH s)) g;rw[i]at e1 e2;simp only[l2]at e2;have e1:(aS s).num=(if b8 s=true then -(bd (bH s):Int)else bd (bH s)):=by rw[aS,e1];exact hE _
 have e2:(aS s).den=(if eA s=true then bd (bQ s)else 1:Nat):=e2;refine⟨?_,e1,e2⟩;have hI:bO (aS s).num=(if b8 s=true then[45]else[])++bH s:=by
  rw[e1]
  by_cases a:b8 s=true
  ·rw[if_pos a,if_pos a,aIG,v7 a1];·rfl
   refine yS a1 ?_;rcases a2 with a2|a2
   ·rw[a]at a2;cases a2
   ·exact a2
  ·rw[if_neg a,if_neg a,vi,v7 a1];rfl
 rw[bE,hI,e2]
 by_cases hf:eA s=true
 ·have d:dI (bQ s)=true/\bQ s≠[48]/\bQ s≠[49]:=by
   rcases a3 with a3|a3
   ·rw[hf]at a3;cases a3
   ·exact⟨a3.1.1,a3.1.2,a3.2⟩
  have j:bd (bQ s)≠1:=by
   intro e;have:=v7 d.1;rw[e]at this;have b:nd 1=1:=by rw[nd,dif_neg o_,nd,dif_pos o_]
   have:bk 1=[49]:=by rw[bk,b];rfl
   exact d.2.2 (by rw[<-this];assumption|>Eq.symm)
  rw[if_pos hf,if_neg j,v7 d.1]
  conv=>rhs;rw[hs]
  rw[List.append_assoc];congr 1;rcases pM 47 (dd s)with⟨g1,g2⟩|⟨g1,_⟩
  ·exact g2.symm
  ·rw[eA,g1]at hf;cases hf
 ·rw[if_neg hf,if_pos rfl]
  conv=>rhs;rw[hs]
  congr 1;rcases pM 47 (dd s)with⟨g1,g2⟩|⟨g1,g2,_⟩
  ·exact(hf g1).elim
  ·exact g2
theorem yB(z:Int)(r:List Nat):b8 (bO z++r)=decide (z<0)/\dd (bO z++r)=bk z.natAbs++r:=by
 by_cases h:z<0
 ·have:bO z=45::bk z.natAbs:=by rw[bO,if_pos h]
  rw[this];simp[b8,dd,h]
 ·have e:bO z=bk z.natAbs:=by rw[bO,if_neg h]
  have a:=rP z.natAbs;have b:=rq z.natAbs;rw[e];have d:b8 (bk z.natAbs++r)=false:=by
   cases f:bk z.natAbs with
   |nil=>rw[f]at b;simp at b;omega
   |cons c t=>
    rw[f]at a;simp only[hW,b2]at a;have hc:=a.1;simp only[ct,b2,decide_eq_true_eq]at hc;have:¬(some c=some 45):=by intro e;injection e with e;omega
    simp only[b8,hT,jp,this,decide_false]
  exact⟨by rw[d];simp[h],by rw[dd,d];simp⟩
theorem vB(q:Rat):b8 (bE q)=decide (q.num<0)/\bH (bE q)=bk q.num.natAbs/\eA (bE q)=decide (q.den≠1)/\bQ (bE q)=if q.den=1 then[]else bk q.den:=by
 have d:47∉bk q.num.natAbs:=Be (rP _) rfl
 by_cases h:q.den=1
 ·have e:bE q=bO q.num++[]:=by rw[bE,if_pos h,hP]
  obtain⟨c,b⟩:=yB q.num [];rw[hP,hP]at b;have a:=CB 47 _ d;rw[<-b]at a;rw[e];refine⟨c,?_,?_,?_⟩
  ·rw[hP,bH,a,b]
  ·rw[hP,eA,a,h];rfl
  ·rw[hP,bQ,a,if_pos h]
 ·have e:bE q=bO q.num++47::bk q.den:=by rw[bE,if_neg h]
  obtain⟨c,b⟩:=yB q.num (47::bk q.den);have a:=CT 47 _ (bk q.den) d;rw[<-b]at a;rw[e];refine⟨c,?_,?_,?_⟩
  ·rw[bH,a]
  ·rw[eA,a];simp[h]
  ·rw[bQ,a,if_neg h]
theorem Lf(q:Rat):aS (bE q)=q:=by
 obtain⟨a,b,c,d⟩:=vB q;have e1:(if b8 (bE q)=true then -(bd (bH (bE q)):Int)else bd (bH (bE q)))=q.num:=by
  rw[a,b,yR]
  by_cases h:q.num<0
  ·simp[h];omega
  ·simp[h];omega
 have e2:(if eA (bE q)=true then bd (bQ (bE q))else 1:Nat)=q.den:=by
  rw[c,d]
  by_cases h:q.den=1
  ·simp[h]
  ·simp[h,yR]
 rw[aS,e1,e2,Rat.num_divInt_den]
theorem aII{a b:Rat}(h:bE a=bE b):a=b:=by rw[<-Lf a,h,Lf]
theorem aIH:bk 1=[49]:=by
 have a:nd 1=1:=by rw[nd,dif_neg o_,nd,dif_pos o_]
 rw[bk,a];rfl
theorem vh{n k:Nat}(h:n<10^k)(hk:1<=k):(bk n).length<=k:=by
 rw[rq];have:=sd h;omega
theorem NZ{n k:Nat}(h:(bk n).length<=k):n<10^k:=by
 rw[rq]at h;exact j9 (C1 n) (kb o_ o_)
theorem Dg(z:Int):(bO z).length<=(bk z.natAbs).length+1:=by
 rw[bO];split<;>simp
theorem aIJ(q:Rat):(bE q).length<=(bk q.num.natAbs).length+(bk q.den).length+2:=by
 have:=Dg q.num;rw[bE];split<;>simp<;>omega
theorem Vp(k:Nat):2^(3*k)<=10^k:=by
 rw[np];exact Nat.pow_le_pow_left o_ k
theorem JO{n k:Nat}(h:n<2^(3*k))(hk:1<=k):(bk n).length<=k:=vh (j9 h (Vp k)) hk
theorem El{n k K:Nat}(h:n<2^K)(a:K<=3*k)(hk:1<=k):(bk n).length<=k:=JO (j9 h (kb (by decide) a)) hk
def mD:Nat:=600
theorem Gi{s:List Nat}(h:b9 s=0):(aS s).num.natAbs<10^mD/\(aS s).den<10^mD:=by
 obtain⟨i,c,d⟩:=ka h;unfold b9 at h
 split at h
 ·cases h
 rename_i a
 split at h
 ·cases h
 rename_i j;have a:nq s=true:=by simpa using a
 simp only[nq,b2,b3,decide_eq_true_eq]at a;obtain⟨⟨a1,_⟩,a3⟩:=a;have b1:=jK _ _ rfl (ke a1);have f:10^(bH s).length<=10^mD:=kb o_ (by rw[mD];omega);refine⟨?_,?_⟩
 ·rw[c];have e:(if b8 s=true then -(bd (bH s):Int)else bd (bH s)).natAbs=bd (bH s):=by split<;>omega
  rw[e];exact j9 b1 f
 ·rw[d]
  by_cases hf:eA s=true
  ·rw[if_pos hf];rcases a3 with a3|a3
   ·rw[hf]at a3;cases a3
   ·have b:=jK _ _ rfl (ke a3.1.1);have g:10^(bQ s).length<=10^mD:=kb o_ (by rw[mD];omega);exact j9 b g
  ·rw[if_neg hf];exact Nat.one_lt_pow (by decide) o_
open Go
def er(l:List UInt8):List Nat:=l.map (·.toNat)
theorem Vx(l:List UInt8):(er l).map pm=l:=by
 induction l with
 |nil=>rfl
 |cons a r b=>simp only[er,hN]at b⊢;rw[b];simp
def oU(c:Nat):List Nat->Nat->Int
 |[],_=>-1
 |x::r,i=>bif nk x c then(i:Int)else oU c r (i+1)
theorem Mm(c:UInt8):∀(l:List UInt8)(i:Nat),oU c.toNat (er l) i=if ej l c= -1 then -1 else ej l c+i
 |[],i=>by simp[oU,er,ej]
 |x::r,i=>by
  have b:=Mm c r (i+1);simp only[er]at b;simp only[er,hN,oU,ej]
  by_cases hx:x=c
  ·subst hx;simp
  ·have e:nk x.toNat c.toNat=false:=by
    cases d:nk x.toNat c.toNat
    ·rfl
    ·exact(hx (pi.1 (m6 d))).elim
   have f:=Lib.indexByte_ge r c;simp only[e,cond_false,b,beq_iff_eq,hx,if_false]
   by_cases a:ej r c= -1
   ·simp[a]
   ·rw[if_neg a,if_neg a];rw[if_neg o_];omega
theorem Mn(c:Nat):∀(s:List Nat)(k:Nat),((cg c s).2.2=false/\oU c s k= -1/\cg c s=(s,[],false))\/
 ∃i,i<s.length/\oU c s k=((k+i:Nat):Int)/\cg c s=(s.take i,s.drop (i+1),true)
 |[],k=>by simp[cg,oU]
 |x::r,k=>by
  rw[cg,oU]
  by_cases h:x=c
  ·subst h;right;refine⟨0,s_,?_,?_⟩
   ·simp
   ·simp
  ·have d:nk x c=false:=by
    cases d:nk x c
    ·rfl
    ·exact(h (m6 d)).elim
   rw[d,if_neg h,cond_false];rcases Mn c r (k+1)with⟨e,a,b⟩|⟨i,e,a,b⟩
   ·left;exact⟨e,a,by rw[b]⟩
   ·right;refine⟨i+1,by simp;omega,?_,?_⟩
    ·rw[a];congr 1;omega
    ·rw[b];simp
theorem D5(n:Nat):er (ee n)=bk n:=by
 induction n using n0 with
 |ind n a=>
  rw[ee]
  by_cases h:n<10
  ·rw[dif_pos h,bk];have c:nd n<=1:=sd o_;rw[show max 1 (nd n)=1 by omega];rw[show(1:Nat)=0+1 from rfl,tF,low,i7,j7 h];simp[er,pp];omega
  ·rw[dif_neg h];have b:=a (n/10) o_;have e:nd n=nd (n/10)+1:=by
    have:=D0 (n:=n) (k:=1) o_;rw[l4]at this;exact this
   have d:0<nd (n/10):=zT o_;rw[bk,e,show max 1 (nd (n/10)+1)=max 1 (nd (n/10))+1 by omega,tF];have:er (ee (n/10)++[pm (48+n% 10)])=er (ee (n/10))++[48+n% 10]:=by
    simp[er,pp];omega
   rw[this,b,bk]
theorem aFK(z:Int):er (fb z)=bO z:=by
 rw[fb,bO]
 by_cases h:z<0
 ·rw[if_pos h,if_pos h];show 45::er _=_;rw[D5]
 ·rw[if_neg h,if_neg h,D5];congr 1;omega
def sJ(s:List Nat):Nat->List Nat
 |0=>[]
 |n+1=>s++sJ s n
theorem Lv(s:List UInt8):∀n,sJ (er s) n=er (e8 s n)
 |0=>by simp[sJ,e8,er]
 |n+1=>by
  have a:=Lv s n;simp only[er]at a;simp[sJ,e8,er,a]
theorem CL(c:Nat):∀n,sJ [c] n=hQ n c
 |0=>rfl
 |n+1=>by rw[sJ,CL c n];rfl
theorem Cj(l:List UInt8):ew l [45]=b8 (er l):=by
 cases l with
 |nil=>rfl
 |cons c r=>
  rw[ew,b8];simp only[er,hN,List.isPrefixOf,jp,b5,Option.some.injEq]
  by_cases h:c=45
  ·subst h;rfl
  ·have a:¬c.toNat=45:=fun e=>h (pi.1 e);have b:((45:UInt8)==c)=false:=by simpa using fun e=>h e.symm
   rw[b];simp[a]
theorem Jg(l:List UInt8):er (eq l [45])=dd (er l):=by
 rw[eq,Cj,dd];cases h:b8 (er l)
 ·simp
 ·cases l with
  |nil=>simp[er,b8]at h
  |cons c r=>simp[er]
def lM(s:List Nat):List Nat:=s.dropWhile ct
def jb(s:List Nat):List Nat:=(s.reverse.dropWhile ct).reverse
theorem xW{p:Nat->Bool}:∀{s:List Nat},s.dropWhile p=[]↔s.all p=true
 |[]=>by simp
 |x::r=>by
  rw[List.dropWhile_cons];cases h:p x
  ·simp[h]
  ·simp[h,xW]
theorem V7(s:List Nat):lM (jb s)=[]↔s.all ct=true:=by
 rw[lM,xW,jb];constructor
 ·intro h
  by_cases a:s.reverse.dropWhile ct=[]
  ·rw[xW,h5]at a;exact a
  ·have b:=List.head_dropWhile_not ct a;rw[h5,i6]at h;rw[h _ (List.head_mem a)]at b;cases b
 ·intro h;have:s.reverse.dropWhile ct=[]:=by rw[xW,h5];exact h
  rw[this];rfl
end Go.aq
namespace Go.Proofs
open Go.Shelf
def Tryz.Vk:gw:=⟨fun|103=>319|210=>345|206=>327|n=>n,fun|9=>9|4=>4|24=>374|3=>3|n=>n,fun|n=>n⟩
theorem Tryz.aGd:gj prog Vk:={
 mixed:=k_
 f103:=func319.trans (congrArg some k_)
 f206:=func327.trans (congrArg some k_)
 f210:=func345.trans (congrArg some k_)
 t3:=underlying3
 a3:=isAgg3
 z3:=sizeOf3
 v3:=zeroValue3
 t4:=underlying4
 a4:=isAgg4
 z4:=sizeOf4
 v4:=zeroValue4
 t9:=underlying9
 a9:=isAgg9
 z9:=sizeOf9
 v9:=zeroValue9
 t24:=underlying374
 a24:=isAgg374
 z24:=sizeOf374
 v24:=zeroValue374}
open Go.RowKit in
theorem Tryz.strings_CutPrefix(s p:ByteArray)(w:cx):
 cy prog 319 #[.string s,.string p] w fun e w'=>e=.returned (.tuple #[.string ⟨(eq s.data.toList p.data.toList).toArray⟩,.bool (ew s.data.toList p.data.toList)])/\w'=w:=Any.strings_CutPrefix aGd s p w
def Tryz.Vf:gw:=⟨fun|283=>357|n=>n,fun|3=>3|9=>9|4=>4|n=>n,fun|n=>n⟩
theorem Tryz.aGj:fv prog Vf:={
 mixed:=k_
 f283:=func357.trans (congrArg some k_)
 t3:=underlying3
 a3:=isAgg3
 z3:=sizeOf3
 v3:=zeroValue3
 t4:=underlying4
 a4:=isAgg4
 z4:=sizeOf4
 v4:=zeroValue4
 t9:=underlying9
 a9:=isAgg9
 z9:=sizeOf9
 v9:=zeroValue9}
open Go.Lib in
theorem Tryz.internal_strconv_small(i:Nat)(h:i<100)(w:cx):
 cy prog 357 #[.int .i64 i] w fun e w'=>e=.returned (.string ⟨(ee i).toArray⟩)/\w'=w:=Any.internal_strconv_small aGj i h w
def Tryz.UC:gw:=⟨fun|284=>358|129=>324|317=>376|318=>377|n=>n,fun|53=>329|3=>3|212=>422|0=>0|4=>4|46=>371|5=>5|9=>9|n=>n,fun|17=>5|n=>n⟩
theorem Tryz.Yn:Go.Proofs.LaysM.n284 prog UC:={
 mixed:=k_
 f129:=func324.trans (congrArg some k_)
 f284:=func358.trans (congrArg some k_)
 f317:=func376.trans (congrArg some k_)
 f318:=func377.trans (congrArg some k_)
 t0:=underlying0
 a0:=isAgg0
 z0:=sizeOf0
 v0:=zeroValue0
 t3:=underlying3
 a3:=isAgg3
 z3:=sizeOf3
 v3:=zeroValue3
 t4:=underlying4
 a4:=isAgg4
 z4:=sizeOf4
 v4:=zeroValue4
 t5:=underlying5
 a5:=isAgg5
 z5:=sizeOf5
 v5:=zeroValue5
 t9:=underlying9
 a9:=isAgg9
 z9:=sizeOf9
 v9:=zeroValue9
 t46:=underlying371
 a46:=isAgg371
 z46:=sizeOf371
 v46:=zeroValue371
 t53:=underlying329
 a53:=isAgg329
 z53:=sizeOf329
 v53:=zeroValue329
 t212:=underlying422
 a212:=isAgg422
 z212:=sizeOf422
 v212:=zeroValue422
 g17:=k_
 i0:=k_
 i3:=k_
 i4:=k_
 i5:=k_
 i9:=k_
 i46:=k_
 i53:=k_
 i212:=k_
 m17:=k_}
open Go.Lib in
theorem Tryz.internal_strconv_numDigits(u:Nat)(h1:1<=u)(h2:u<18446744073709551616)(w:cx)(htab:e7 prog w "internal/strconv.uint64pow10" .u64 e6):
 cy prog 358 #[.int .u64 u] w fun e w'=>e=.returned (.int .i64 (ei u))/\w'=w:=Any.internal_strconv_numDigits Yn u h1 h2 w htab
def Tryz.Ve:gw:=⟨fun|285=>359|n=>n,fun|37=>357|53=>329|3=>3|4=>4|51=>402|9=>9|5=>5|0=>0|n=>n,fun|n=>n⟩
theorem Tryz.aGk:fp prog Ve:={
 mixed:=k_
 f285:=func359.trans (congrArg some k_)
 t0:=underlying0
 a0:=isAgg0
 z0:=sizeOf0
 v0:=zeroValue0
 t3:=underlying3
 a3:=isAgg3
 z3:=sizeOf3
 v3:=zeroValue3
 t4:=underlying4
 a4:=isAgg4
 z4:=sizeOf4
 v4:=zeroValue4
 t5:=underlying5
 a5:=isAgg5
 z5:=sizeOf5
 v5:=zeroValue5
 t9:=underlying9
 a9:=isAgg9
 z9:=sizeOf9
 v9:=zeroValue9
 t37:=underlying357
 a37:=isAgg357
 z37:=sizeOf357
 v37:=zeroValue357
 t51:=underlying402
 a51:=isAgg402
 z51:=sizeOf402
 v51:=zeroValue402
 t53:=underlying329
 a53:=isAgg329
 z53:=sizeOf329
 v53:=zeroValue329}
open Go.RowKit Go.Sort Go.Lib in
theorem Tryz.internal_strconv_formatBase10(an off cap:Nat)(u:Nat)(d:Array UInt8)(w:cx)(hH:Holds (fun(b:UInt8)=>gy .u8 (b.toNat:Int)) w an off d)(hu:u<10^d.size)(hu64:u<18446744073709551616)(hsz:d.size<4611686018427387904):
 cy prog 359 #[.slice (some ⟨an,off,none⟩) d.size cap,.int .u64 u] w fun e w'=>
  e=.returned (.tuple #[])/\∃(n v':Nat)(dk:Array UInt8),w'=(putRow (fun(b:UInt8)=>gy .u8 (b.toNat:Int)) w an off dk).drewN n/\FmtInv d.size u 0 v' dk:=Any.internal_strconv_formatBase10 aGk an off cap u d w hH hu hu64 hsz
def Tryz.Uo:gw:=⟨fun|171=>298|243=>332|246=>356|283=>357|284=>358|285=>359|286=>360|129=>324|317=>376|318=>377|319=>378|320=>379|337=>387|338=>388|n=>n,fun|3=>3|9=>9|2=>2|4=>4|171=>398|0=>0|53=>329|37=>357|5=>5|173=>400|212=>422|51=>402|20=>20|213=>423|46=>371|232=>436|233=>437|n=>n,fun|17=>5|18=>6|19=>7|n=>n⟩
theorem Tryz.Yo:Go.Proofs.LaysM.n171 prog Uo:={
 mixed:=k_
 f129:=func324.trans (congrArg some k_)
 f171:=func298.trans (congrArg some k_)
 f243:=func332.trans (congrArg some k_)
 f246:=func356.trans (congrArg some k_)
 f283:=func357.trans (congrArg some k_)
 f284:=func358.trans (congrArg some k_)
 f285:=func359.trans (congrArg some k_)
 f286:=func360.trans (congrArg some k_)
 f317:=func376.trans (congrArg some k_)
 f318:=func377.trans (congrArg some k_)
 f319:=func378.trans (congrArg some k_)
 f320:=func379.trans (congrArg some k_)
 f337:=func387.trans (congrArg some k_)
 f338:=func388.trans (congrArg some k_)
 t0:=underlying0
 a0:=isAgg0
 z0:=sizeOf0
 v0:=zeroValue0
 t2:=underlying2
 a2:=isAgg2
 z2:=sizeOf2
 v2:=zeroValue2
 t3:=underlying3
 a3:=isAgg3
 z3:=sizeOf3
 v3:=zeroValue3
 t4:=underlying4
 a4:=isAgg4
 z4:=sizeOf4
 v4:=zeroValue4
 t5:=underlying5
 a5:=isAgg5
 z5:=sizeOf5
 v5:=zeroValue5
 t9:=underlying9
 a9:=isAgg9
 z9:=sizeOf9
 v9:=zeroValue9
 t20:=underlying20
 a20:=isAgg20
 z20:=sizeOf20
 v20:=zeroValue20
 t37:=underlying357
 a37:=isAgg357
 z37:=sizeOf357
 v37:=zeroValue357
 t46:=underlying371
 a46:=isAgg371
 z46:=sizeOf371
 v46:=zeroValue371
 t51:=underlying402
 a51:=isAgg402
 z51:=sizeOf402
 v51:=zeroValue402
 t53:=underlying329
 a53:=isAgg329
 z53:=sizeOf329
 v53:=zeroValue329
 t171:=underlying398
 a171:=isAgg398
 z171:=sizeOf398
 v171:=zeroValue398
 t173:=underlying400
 a173:=isAgg400
 z173:=sizeOf400
 v173:=zeroValue400
 t212:=underlying422
 a212:=isAgg422
 z212:=sizeOf422
 v212:=zeroValue422
 t213:=underlying423
 a213:=isAgg423
 z213:=sizeOf423
 t232:=underlying436
 a232:=isAgg436
 z232:=sizeOf436
 v232:=zeroValue436
 t233:=underlying437
 a233:=isAgg437
 z233:=sizeOf437
 v233:=zeroValue437
 g17:=k_
 g18:=k_
 g19:=k_
 i0:=k_
 i2:=k_
 i3:=k_
 i4:=k_
 i5:=k_
 i9:=k_
 i20:=k_
 i37:=k_
 i46:=k_
 i51:=k_
 i53:=k_
 i171:=k_
 i173:=k_
 i212:=k_
 i232:=k_
 i233:=k_
 m17:=k_
 m18:=k_
 m19:=k_}
open Go.RowKit Go.Sort Go.Lib in
theorem Tryz.strconv_Itoa(n:Int)(h0: -9223372036854775808<=n)(h1:n<=9223372036854775807)(w:cx)(htab:e7 prog w "internal/strconv.uint64pow10" .u64 e6):
 cy prog 298 #[.int .i64 n] w fun e w'=>e=.returned (.string ⟨(fb n).toArray⟩)/\∃k os,w'=grow (w.drewN k) os:=Any.strconv_Itoa Yo n h0 h1 w htab
def Tryz.Up:gw:=⟨fun|172=>293|244=>328|245=>329|247=>351|279=>352|280=>353|281=>354|282=>355|287=>373|316=>374|171=>298|205=>375|321=>385|322=>386|243=>332|246=>356|283=>357|284=>358|285=>359|286=>360|129=>324|317=>376|318=>377|319=>378|320=>379|337=>387|338=>388|n=>n,fun|9=>9|3=>3|75=>346|76=>347|4=>4|5=>5|167=>391|37=>357|0=>0|85=>392|2=>2|168=>394|53=>329|175=>415|46=>371|210=>419|127=>387|145=>433|143=>431|21=>21|171=>398|173=>400|212=>422|51=>402|20=>20|213=>423|232=>436|233=>437|80=>304|n=>n,fun|15=>3|16=>4|17=>5|18=>6|19=>7|n=>n⟩
theorem Tryz.Yp:Go.Proofs.LaysC.n172 prog Up:={
 mixed:=k_
 f129:=func324.trans (congrArg some k_)
 f171:=func298.trans (congrArg some k_)
 f172:=func293.trans (congrArg some k_)
 f205:=func375.trans (congrArg some k_)
 f243:=func332.trans (congrArg some k_)
 f244:=func328.trans (congrArg some k_)
 f245:=func329.trans (congrArg some k_)
 f246:=func356.trans (congrArg some k_)
 f247:=func351.trans (congrArg some k_)
 f279:=func352.trans (congrArg some k_)
 f280:=func353.trans (congrArg some k_)
 f281:=func354.trans (congrArg some k_)
 f282:=func355.trans (congrArg some k_)
 f283:=func357.trans (congrArg some k_)
 f284:=func358.trans (congrArg some k_)
 f285:=func359.trans (congrArg some k_)
 f286:=func360.trans (congrArg some k_)
 f287:=func373.trans (congrArg some k_)
 f316:=func374.trans (congrArg some k_)
 f317:=func376.trans (congrArg some k_)
 f318:=func377.trans (congrArg some k_)
 f319:=func378.trans (congrArg some k_)
 f320:=func379.trans (congrArg some k_)
 f321:=func385.trans (congrArg some k_)
 f322:=func386.trans (congrArg some k_)
 f337:=func387.trans (congrArg some k_)
 f338:=func388.trans (congrArg some k_)
 t0:=underlying0
 a0:=isAgg0
 z0:=sizeOf0
 v0:=zeroValue0
 t2:=underlying2
 a2:=isAgg2
 z2:=sizeOf2
 v2:=zeroValue2
 t3:=underlying3
 a3:=isAgg3
 z3:=sizeOf3
 v3:=zeroValue3
 t4:=underlying4
 a4:=isAgg4
 z4:=sizeOf4
 v4:=zeroValue4
 t5:=underlying5
 a5:=isAgg5
 z5:=sizeOf5
 v5:=zeroValue5
 t9:=underlying9
 a9:=isAgg9
 z9:=sizeOf9
 v9:=zeroValue9
 t20:=underlying20
 a20:=isAgg20
 z20:=sizeOf20
 v20:=zeroValue20
 t21:=underlying21
 a21:=isAgg21
 z21:=sizeOf21
 v21:=zeroValue21
 t37:=underlying357
 a37:=isAgg357
 z37:=sizeOf357
 v37:=zeroValue357
 t46:=underlying371
 a46:=isAgg371
 z46:=sizeOf371
 v46:=zeroValue371
 t51:=underlying402
 a51:=isAgg402
 z51:=sizeOf402
 v51:=zeroValue402
 t53:=underlying329
 a53:=isAgg329
 z53:=sizeOf329
 v53:=zeroValue329
 t75:=underlying346
 a75:=isAgg346
 z75:=sizeOf346
 v75:=zeroValue346
 t76:=underlying347
 a76:=isAgg347
 z76:=sizeOf347
 v76:=zeroValue347
 t85:=underlying392
 a85:=isAgg392
 z85:=sizeOf392
 v85:=zeroValue392
 t127:=underlying387
 a127:=isAgg387
 z127:=sizeOf387
 v127:=zeroValue387
 t143:=underlying431
 a143:=isAgg431
 z143:=sizeOf431
 v143:=zeroValue431
 t145:=underlying433
 a145:=isAgg433
 z145:=sizeOf433
 v145:=zeroValue433
 t167:=underlying391
 a167:=isAgg391
 z167:=sizeOf391
 v167:=zeroValue391
 t168:=underlying394
 a168:=isAgg394
 z168:=sizeOf394
 v168:=zeroValue394
 t171:=underlying398
 a171:=isAgg398
 z171:=sizeOf398
 v171:=zeroValue398
 t173:=underlying400
 a173:=isAgg400
 z173:=sizeOf400
 v173:=zeroValue400
 t175:=underlying415
 a175:=isAgg415
 z175:=sizeOf415
 v175:=zeroValue415
 t210:=underlying419
 a210:=isAgg419
 z210:=sizeOf419
 v210:=zeroValue419
 t212:=underlying422
 a212:=isAgg422
 z212:=sizeOf422
 v212:=zeroValue422
 t213:=underlying423
 a213:=isAgg423
 z213:=sizeOf423
 t232:=underlying436
 a232:=isAgg436
 z232:=sizeOf436
 v232:=zeroValue436
 t233:=underlying437
 a233:=isAgg437
 z233:=sizeOf437
 v233:=zeroValue437
 g15:=k_
 g16:=k_
 g17:=k_
 g18:=k_
 g19:=k_
 t80:=underlying304
 a80:=isAgg304
 z80:=sizeOf304
 v80:=zeroValue304
 i0:=k_
 i2:=k_
 i3:=k_
 i4:=k_
 i5:=k_
 i9:=k_
 i20:=k_
 i21:=k_
 i37:=k_
 i46:=k_
 i51:=k_
 i53:=k_
 i75:=k_
 i76:=k_
 i80:=k_
 i85:=k_
 i127:=k_
 i143:=k_
 i145:=k_
 i167:=k_
 i168:=k_
 i171:=k_
 i173:=k_
 i175:=k_
 i210:=k_
 i212:=k_
 i232:=k_
 i233:=k_
 m15:=k_
 m16:=k_
 m17:=k_
 m18:=k_
 m19:=k_
 c0:=k_
 c2:=k_
 c3:=k_
 c4:=k_
 c5:=k_
 c9:=k_
 c20:=k_
 c21:=k_
 c37:=k_
 c46:=k_
 c51:=k_
 c53:=k_
 c75:=k_
 c76:=k_
 c80:=k_
 c85:=k_
 c127:=k_
 c143:=k_
 c145:=k_
 c167:=k_
 c168:=k_
 c171:=k_
 c173:=k_
 c175:=k_
 c210:=k_
 c212:=k_
 c213:=k_
 c232:=k_
 c233:=k_}
open Go.RowKit in
theorem Tryz.strconv_Atoi_ok(s:ByteArray)(hmax:s.size<=9223372036854775806)(v:Int)(h:fd s.data.toList= .ok v)(w:cx):
 cy prog 293 #[.string s] w fun e w'=>e=.returned (.tuple #[.int .i64 v,.nilIface])/\(w'=w\/∃t,w'=Lib.bytesWorld w 5 t):=Any.strconv_Atoi_ok Yp s hmax v h w
def Tryz.Vh:gw:=⟨fun|219=>326|217=>347|225=>348|224=>349|267=>350|266=>371|314=>372|n=>n,fun|9=>9|3=>3|4=>4|5=>5|46=>371|146=>403|51=>402|n=>n,fun|1=>0|n=>n⟩
theorem Tryz.aGh:gc prog Vh:={
 mixed:=k_
 f217:=func347.trans (congrArg some k_)
 f219:=func326.trans (congrArg some k_)
 f224:=func349.trans (congrArg some k_)
 f225:=func348.trans (congrArg some k_)
 f266:=func371.trans (congrArg some k_)
 f267:=func350.trans (congrArg some k_)
 f314:=func372.trans (congrArg some k_)
 t3:=underlying3
 a3:=isAgg3
 z3:=sizeOf3
 v3:=zeroValue3
 t4:=underlying4
 a4:=isAgg4
 z4:=sizeOf4
 v4:=zeroValue4
 t5:=underlying5
 a5:=isAgg5
 z5:=sizeOf5
 v5:=zeroValue5
 t9:=underlying9
 a9:=isAgg9
 z9:=sizeOf9
 v9:=zeroValue9
 t46:=underlying371
 a46:=isAgg371
 z46:=sizeOf371
 v46:=zeroValue371
 t51:=underlying402
 a51:=isAgg402
 z51:=sizeOf402
 v51:=zeroValue402
 t146:=underlying403
 a146:=isAgg403
 z146:=sizeOf403
 v146:=zeroValue403
 g1:=k_}
open Go.RowKit Go.Lib in
theorem Tryz.stringslite_Index_one(s:ByteArray)(c:UInt8)(w:cx):
 cy prog 326 #[.string s,.string ⟨#[c]⟩] w fun e w'=>e=.returned (.int .i64 (ej s.data.toList c))/\w'=w:=Any.stringslite_Index_one aGh s c w
def Tryz.VY:gw:=⟨fun|99=>292|206=>327|n=>n,fun|9=>9|4=>4|3=>3|n=>n,fun|n=>n⟩
theorem Tryz.aGl:fm prog VY:={
 mixed:=k_
 f99:=func292.trans (congrArg some k_)
 f206:=func327.trans (congrArg some k_)
 t3:=underlying3
 a3:=isAgg3
 z3:=sizeOf3
 v3:=zeroValue3
 t4:=underlying4
 a4:=isAgg4
 z4:=sizeOf4
 v4:=zeroValue4
 t9:=underlying9
 a9:=isAgg9
 z9:=sizeOf9
 v9:=zeroValue9}
open Go.RowKit Go.Lib in
theorem Tryz.strings_HasPrefix(s p:ByteArray)(w:cx):
 cy prog 292 #[.string s,.string p] w fun e w'=>e=.returned (.bool (ew s.data.toList p.data.toList))/\w'=w:=Any.strings_HasPrefix aGl s p w
def Tryz.Vl:gw:=⟨fun|101=>290|208=>325|206=>327|n=>n,fun|9=>9|4=>4|3=>3|n=>n,fun|n=>n⟩
theorem Tryz.aGc:gm prog Vl:={
 mixed:=k_
 f101:=func290.trans (congrArg some k_)
 f206:=func327.trans (congrArg some k_)
 f208:=func325.trans (congrArg some k_)
 t3:=underlying3
 a3:=isAgg3
 z3:=sizeOf3
 v3:=zeroValue3
 t4:=underlying4
 a4:=isAgg4
 z4:=sizeOf4
 v4:=zeroValue4
 t9:=underlying9
 a9:=isAgg9
 z9:=sizeOf9
 v9:=zeroValue9}
open Go.RowKit Go.Lib in
theorem Tryz.strings_TrimPrefix(s p:ByteArray)(w:cx):
 cy prog 290 #[.string s,.string p] w fun e w'=>e=.returned (.string ⟨(eq s.data.toList p.data.toList).toArray⟩)/\w'=w:=Any.strings_TrimPrefix aGc s p w
def Tryz.I0:gw:=⟨fun|105=>301|212=>338|99=>292|165=>339|166=>302|170=>340|169=>303|263=>361|264=>275|206=>327|240=>341|241=>362|276=>363|277=>380|n=>n,fun|9=>9|3=>3|4=>4|20=>20|0=>0|46=>371|109=>384|5=>5|72=>359|76=>347|51=>402|146=>403|53=>329|148=>330|70=>356|37=>357|75=>346|127=>387|164=>405|80=>304|n=>n,fun|n=>n⟩
theorem Tryz.aGe:gi prog I0:={
 mixed:=k_
 f99:=func292.trans (congrArg some k_)
 f105:=func301.trans (congrArg some k_)
 f165:=func339.trans (congrArg some k_)
 f166:=func302.trans (congrArg some k_)
 f169:=func303.trans (congrArg some k_)
 f170:=func340.trans (congrArg some k_)
 f206:=func327.trans (congrArg some k_)
 f212:=func338.trans (congrArg some k_)
 f240:=func341.trans (congrArg some k_)
 f241:=func362.trans (congrArg some k_)
 f263:=func361.trans (congrArg some k_)
 f264:=func275.trans (congrArg some k_)
 f276:=func363.trans (congrArg some k_)
 f277:=func380.trans (congrArg some k_)
 t0:=underlying0
 a0:=isAgg0
 z0:=sizeOf0
 v0:=zeroValue0
 t3:=underlying3
 a3:=isAgg3
 z3:=sizeOf3
 v3:=zeroValue3
 t4:=underlying4
 a4:=isAgg4
 z4:=sizeOf4
 v4:=zeroValue4
 t5:=underlying5
 a5:=isAgg5
 z5:=sizeOf5
 v5:=zeroValue5
 t9:=underlying9
 a9:=isAgg9
 z9:=sizeOf9
 v9:=zeroValue9
 t20:=underlying20
 a20:=isAgg20
 z20:=sizeOf20
 v20:=zeroValue20
 t37:=underlying357
 a37:=isAgg357
 z37:=sizeOf357
 v37:=zeroValue357
 t46:=underlying371
 a46:=isAgg371
 z46:=sizeOf371
 v46:=zeroValue371
 t51:=underlying402
 a51:=isAgg402
 z51:=sizeOf402
 v51:=zeroValue402
 t53:=underlying329
 a53:=isAgg329
 z53:=sizeOf329
 v53:=zeroValue329
 t70:=underlying356
 a70:=isAgg356
 z70:=sizeOf356
 v70:=zeroValue356
 t72:=underlying359
 a72:=isAgg359
 z72:=sizeOf359
 v72:=zeroValue359
 t75:=underlying346
 a75:=isAgg346
 z75:=sizeOf346
 v75:=zeroValue346
 t76:=underlying347
 a76:=isAgg347
 z76:=sizeOf347
 v76:=zeroValue347
 t109:=underlying384
 a109:=isAgg384
 z109:=sizeOf384
 v109:=zeroValue384
 t127:=underlying387
 a127:=isAgg387
 z127:=sizeOf387
 v127:=zeroValue387
 t146:=underlying403
 a146:=isAgg403
 z146:=sizeOf403
 v146:=zeroValue403
 t148:=underlying330
 a148:=isAgg330
 z148:=sizeOf330
 v148:=zeroValue330
 t164:=underlying405
 a164:=isAgg405
 z164:=sizeOf405
 v164:=zeroValue405}
theorem Tryz.TU:Builder.Extra prog I0:={
 sizeBuilder:=k_
 liesBuilder:=k_
 t5:=underlying5
 a5:=isAgg5
 z5:=sizeOf5
 v5:=zeroValue5
 infoByte:=k_
 cellsByte:=k_
 sizeByte:=k_
 neB5:=by decide}
open Go.RowKit Go.Lib in
theorem Tryz.strings_Repeat(s:ByteArray)(c:Nat)(w:cx)(hc:c<=9223372036854775807)(hlen:s.size*c<=140737488355328):
 cy prog 301 #[.string s,.int .i64 c] w fun e w'=>e=.returned (.string ⟨(e8 s.data.toList c).toArray⟩)/\Below w.heap.size w w':=Any.strings_Repeat aGe TU s c w hc hlen
end Go.Proofs
namespace Go.Proofs
open Go.Shelf Go.RowKit Go.Sort Go.Lib
set_option maxHeartbeats 6400000 in
set_option maxRecDepth 100000 in
theorem Tryz.TS(u:Nat)(hu64:u<18446744073709551616)(w:cx)
 (htab:e7 prog w "internal/strconv.uint64pow10" .u64 e6):
 cy prog 337 #[.int .u64 u,.int .i64 10] w fun e w'=>e=.returned (.string ⟨(ee u).toArray⟩)/\∃k os,w'=grow (w.drewN k) os:=by
 have e357:∀args w,(callFunc 357 args).run prog w=.ok (.enter 357 args) w:=enters_of func357 k_ rfl;have e358:∀args w,(callFunc 358 args).run prog w=.ok (.enter 358 args) w:=enters_of func358 k_ rfl;have e359:∀args w,(callFunc 359 args).run prog w=.ok (.enter 359 args) w:=enters_of func359 k_ rfl
 by_cases hs:u<100
 ·go_enter func337,ntmps337
  go_wp2_with (go_at_fn 357;refine(internal_strconv_small u hs _).mono ?_;rintro e w' ⟨rfl,rfl⟩)
  go_ret
  exact⟨rfl,0,#[],by simp[World.drewN_zero]⟩
 ·have hu1:1<=u:=by omega
  have hnd20:ei u<=20:=by have:=Lib.numDigits_eq u hu1 hu64;split at this<;>omega
  have hb3:ei u<=24:=o_
  have hal:prog.arrayLen 398=24:=k_
  have hsl1:∀W,(Instr.sliceAt 398 (.pointer (some ⟨w.heap.size,0,none⟩)) none (some (.int .i64 (ei u:Int))) none).run prog W=.ok (.slice (some ⟨w.heap.size,0,none⟩) (ei u) 24) W:=fun W=>by
   rw[run_sliceAt_array_h W 398 ⟨w.heap.size,0,none⟩ k_ .i64 (ei u:Int) o_ (by rw[hal];omega)]
   go_simp
  have hH0:=Lib.holds_zero0 w 398 (ei u) hb3;have hfmt:=internal_strconv_formatBase10 w.heap.size 0 24 u (Array.replicate (ei u) 0) (w.alloc (.cells en 398)) hH0 (by rw[bV];exact Lib.lt_pow_nDigits u) hu64 (by rw[bV];omega);rw[bV]at hfmt;have HH0:=Lib.hid hH0;clear hH0 hal
  go_enter func337,ntmps337
  go_wp2_with (first
   |(go_at_fn 358;refine(internal_strconv_numDigits u hu1 hu64 _ (Lib.tabIs_alloc htab _)).mono ?_;rintro e w' ⟨rfl,rfl⟩))
  go_at_fn 359
  refine hfmt.mono ?_;rintro e w' ⟨rfl,k,v',dk,rfl,hF⟩;have hcv:(convert 357 9 (.slice (some ⟨w.heap.size,0,none⟩) (ei u) 24)).run prog ((putRow (fun(b:UInt8)=>gy .u8 (b.toNat:Int)) (w.alloc (.cells en 398)) w.heap.size 0 dk).drewN k)=.ok (.string ⟨(ee u).toArray⟩) ((putRow (fun(b:UInt8)=>gy .u8 (b.toNat:Int)) (w.alloc (.cells en 398)) w.heap.size 0 dk).drewN k):=by
   have h:=run_convert_bytes_back (P:=prog) ((putRow (fun(b:UInt8)=>gy .u8 (b.toNat:Int)) (w.alloc (.cells en 398)) w.heap.size 0 dk).drewN k) 357 9 5 ⟨w.heap.size,0,none⟩ 24 (ee u) k_ k_ k_ (fun j hj=>by
    rw[Lib.row_is_numeral hF j hj,Lib.add_plain,World.cell?_drewN];exact cell?_putRow (fun(b:UInt8)=>gy .u8 (b.toNat:Int)) _ w.heap.size 0 _ dk HH0.out (by rw[hF.size,bV]) j (by rw[hF.size];rw[e9]at hj;exact hj))
   rw[e9]at h;exact h
  go_wp2
  go_ret
  obtain⟨os,eo⟩:=Lib.fin_at w (.cells en 398) dk k 0;exact⟨rfl,k,os,eo⟩
end Go.Proofs
namespace Go.aq
open Go.Proofs
theorem yZ{P:c6}{w:cx}{ad:Nat->Prop}(l:List UInt8):aF P w ad (.str (er l)) (.string ⟨l.toArray⟩):=by
 simp only[aF];exact⟨_,rfl,by simp[er]⟩
theorem rG{P:c6}{w:cx}{ad:Nat->Prop}{s:List Nat}{v:dg}(h:aF P w ad (.str s) v):∃bs:ByteArray,v=.string bs/\s=er bs.data.toList:=by
 simp only[aF]at h;obtain⟨bs,rfl,rfl⟩:=h;exact⟨bs,rfl,rfl⟩
theorem L4{w:cx}{ad:Nat->Prop}{c:Nat}{v:dg}(h:aF prog w ad (.str [c]) v):∃b:UInt8,v=.string ⟨#[b]⟩/\c=b.toNat:=by
 obtain⟨bs,rfl,f⟩:=rG h;clear h;have h:=f;clear f
 match e:bs.data.toList with
 |[]=>rw[e]at h;simp[er]at h
 |[b]=>
  rw[e]at h;simp[er]at h;refine⟨b,?_,h⟩;congr 1;cases bs with
  |mk d=>simp at e⊢;exact Array.ext' (by simpa using e)
 |a::b::r=>rw[e]at h;simp[er]at h
theorem D6{w:cx}{ad:Nat->Prop}{v:dg}(h:aF prog w ad (.str [45]) v):v=.string ⟨#[45]⟩:=by
 obtain⟨b,rfl,a⟩:=L4 h;have:b=45:=pi.1 a.symm;rw[this]
theorem ZQ(s:List Nat)(c:Nat):aB prog 326 [.str s,.str [c]] (.int .i64 (oU c s 0)):=by
 refine l9 (kJ func326 k_) fun w ad g _ _ f=>?_;obtain⟨x,y,rfl,a,d⟩:=qW f;obtain⟨b,rfl,rfl⟩:=L4 d;obtain⟨bs,rfl,rfl⟩:=rG a;refine(stringslite_Index_one bs b w).mono ?_;rintro e w' ⟨rfl,rfl⟩;refine⟨_,rfl,⟨kC _,fun _ _=>rfl,rfl,rfl⟩,fun w ad=>?_⟩;have e1:=Mm b bs.data.toList 0;simp only[aF]at e1⊢;rw[e1]
 by_cases h:ej bs.data.toList b= -1<;>simp[h]
theorem ZK(s:List Nat)(c:Nat)(h:s.length<=1048576):aB prog 291 [.str s,.str [c]] (.aE [.str (cg c s).1,.str (cg c s).2.1,.bool (cg c s).2.2]):=by
 refine aJ nf (i_ func291) mix (by simp[f291]) ?_;simp[f291];refine c2 (ZQ s c) ?_;rcases Mn c s 0 with⟨_,a,b⟩|⟨i,d,a,b⟩
 ·simp[a,b]
 ·rw[l3]at a;have w:=b6 (i:=i) o_;have e1:((i:Int)+1).toNat=i+1:=by omega
  simp[a,b,w,e1];omega
theorem P3(s:List Nat)(c:Nat)(h:s.length<=1048576):aB prog 233 [.str s,.str [c]] (.aE [.str (cg c s).1,.str (cg c s).2.1,.bool (cg c s).2.2]):=by
 refine aJ nf (i_ func233) mix (by simp[f233]) ?_;simp[f233];refine c2 (ZK s c h) ?_;simp
theorem Zj(s:List Nat):aB prog 292 [.str s,.str [45]] (.bool (b8 s)):=by
 refine l9 (kJ func292 k_) fun w ad d _ _ c=>?_;obtain⟨x,y,rfl,a,b⟩:=qW c;obtain rfl:=D6 b;obtain⟨bs,rfl,rfl⟩:=rG a;refine(strings_HasPrefix bs _ w).mono ?_;rintro e w' ⟨rfl,rfl⟩;exact⟨_,rfl,⟨kC _,fun _ _=>rfl,rfl,rfl⟩,fun w ad=>by rw[<-Cj];simp only[aF]⟩
theorem KK(s:List Nat):aB prog 290 [.str s,.str [45]] (.str (dd s)):=by
 refine l9 (kJ func290 k_) fun w ad d _ _ c=>?_;obtain⟨x,y,rfl,a,b⟩:=qW c;obtain rfl:=D6 b;obtain⟨bs,rfl,rfl⟩:=rG a;refine(strings_TrimPrefix bs _ w).mono ?_;rintro e w' ⟨rfl,rfl⟩;exact⟨_,rfl,⟨kC _,fun _ _=>rfl,rfl,rfl⟩,fun w ad=>by rw[<-Jg];exact yZ _⟩
theorem YT(s:List Nat):aB prog 319 [.str s,.str [45]] (.aE [.str (dd s),.bool (b8 s)]):=by
 refine l9 (kJ func319 k_) fun w ad d _ _ c=>?_;obtain⟨x,y,rfl,a,b⟩:=qW c;obtain rfl:=D6 b;obtain⟨bs,rfl,rfl⟩:=rG a;refine(strings_CutPrefix bs _ w).mono ?_;rintro e w' ⟨rfl,rfl⟩;refine⟨_,rfl,⟨kC _,fun _ _=>rfl,rfl,rfl⟩,fun w ad=>?_⟩;rw[<-Jg,<-Cj];simp only[aF,br];refine⟨[_,_],⟨_,_,rfl,?_,_,_,rfl,rfl,rfl⟩,rfl⟩;exact⟨_,rfl,by simp[er]⟩
theorem N1{w:cx}{ad:Nat->Prop}(b:mZ prog w ad):e7 prog w "internal/strconv.uint64pow10" .u64 e6:=by
 obtain⟨_,T,a⟩:=b.raw 5 _ rfl;have c:prog.globalNamed "internal/strconv.uint64pow10" =some 5:=k_
 simp only[e7,World.var?,c,Option.bind_some,a];rfl
theorem ZR(n:Int)(b:-9223372036854775808<=n)(c:n<=9223372036854775807):aB prog 298 [.int .i64 n] (.str (bO n)):=by
 refine l9 (kJ func298 k_) fun w ad g _ f d=>?_;obtain⟨x,rfl,a⟩:=yY d;simp only[aF]at a;subst a;refine(strconv_Itoa n b c w (N1 f)).mono ?_;rintro e w' ⟨rfl,k,os,rfl⟩;refine⟨_,rfl,⟨?_,fun k hk=>?_,rfl,rfl⟩,fun w ad=>?_⟩
 ·simp[gx,World.drewN]
 ·simp only[gx];exact bW hk
 ·rw[<-aFK];exact yZ _
theorem ZN(u:Nat)(f:u<18446744073709551616):aB prog 337 [.int .u64 u,.int .i64 10] (.str (bk u)):=by
 refine l9 (kJ func337 k_) fun w ad g _ d c=>?_;obtain⟨x,y,rfl,a,b⟩:=qW c;simp only[aF]at a b;subst a b;refine(TS u f w (N1 d)).mono ?_;rintro e w' ⟨rfl,k,os,rfl⟩;refine⟨_,rfl,⟨?_,fun k hk=>?_,rfl,rfl⟩,fun w ad=>?_⟩
 ·simp[gx,World.drewN]
 ·simp only[gx];exact bW hk
 ·rw[<-D5];exact yZ _
theorem P5(u:Nat)(a:u<18446744073709551616):aB prog 300 [.int .u64 u,.int .i64 10] (.str (bk u)):=by
 refine aJ nf (i_ func300) mix (by simp[f300]) ?_;simp[f300];refine c2 (ZN u a) ?_;simp
theorem P6(s:List Nat)(c:Nat)(hc:c<=9223372036854775807)(g:s.length*c<=140737488355328):aB prog 301 [.str s,.int .i64 c] (.str (sJ s c)):=by
 refine l9 (kJ func301 k_) fun w ad h _ i f=>?_;obtain⟨x,y,rfl,d,b⟩:=qW f;obtain⟨bs,rfl,rfl⟩:=rG d;simp only[aF]at b;subst b;refine(strings_Repeat bs c w hc (by simpa[er]using g)).mono ?_;rintro e w' ⟨rfl,a⟩;exact⟨_,rfl,⟨a.size,a.block,a.os,a.output⟩,fun w ad=>by
  rw[Lv];exact yZ _⟩
theorem ZJ(s:List Nat)(v:Int)(h:fd (s.map pm)=.ok v)(d:s.length<=9223372036854775806):aB prog 293 [.str s] (.aE [.int .i64 v,.gI]):=by
 refine l9 (kJ func293 k_) fun w ad g _ i c=>?_;obtain⟨x,rfl,b⟩:=yY c;obtain⟨bs,rfl,rfl⟩:=rG b;rw[Vx]at h;refine(strconv_Atoi_ok bs (by simpa[er]using d) v h w).mono ?_;rintro e w' ⟨rfl,f⟩;refine⟨_,rfl,?_,fun w ad=>by simp[aF,br]⟩;rcases f with rfl|⟨t,rfl⟩
 ·exact⟨kC _,fun _ _=>rfl,rfl,rfl⟩
 ·have a:=Lib.bytesWorld_below w 5 t;exact⟨a.size,a.block,a.os,a.output⟩
def tB:Nat:=1000000000000000000
theorem DO:tB=10^18:=by decide
theorem Mb:∀i,low i 0=hQ i 48
 |0=>rfl
 |i+1=>by rw[tF,Nat.zero_div,Mb i,List.replicate_succ']
theorem Ru{r:Nat}(h:r<tB):hQ (18-(bk r).length) 48++bk r=low 18 r:=by
 rw[rq,bk];have c:nd r<=18:=sd (by rw[<-DO];exact h);obtain⟨k,hk⟩:∃k,k=max 1 (nd r):=⟨_,rfl⟩
 have d:k<=18:=o_
 have b:r<10^k:=j9 (C1 r) (kb (by decide) o_);rw[<-hk];have:=rA (18-k) r (a:=k);have e:low 18 r=low (18-k) (r/10^k)++low k r:=by
  have:=rA k r (18-k);rw[show 18-k+k=18 by omega]at this;exact this
 rw[e,kv b,Mb]
theorem Du{r:Nat}(h:r<tB):(bk r).length<=18:=by
 rw[rq];have a:nd r<=18:=sd (by rw[<-DO];exact h);omega
theorem XK{m:Nat}(h:tB<=m):bk m=bk (m/tB)++low 18 (m% tB):=by
 rw[DO]at h⊢;have e:=D0 (n:=m) (k:=18) h;have a:0<nd (m/10^18):=zT (nb h (kh (by decide)));rw[bk,bk,show max 1 (nd m)=max 1 (nd (m/10^18))+18 by omega,rA,Dk m 18 18 (kC _)]
def jW(m:Nat)(a:List (List Nat)):List Nat:=(if m=0 then[]else bk m)++a.reverse.flatten
def eH(m:Nat):List Nat:=if m/tB=0 then bk m else low 18 (m% tB)
theorem Li{m:Nat}(h:m≠0)(c:List (List Nat)):jW (m/tB) (c++[eH m])=jW m c:=by
 rw[jW,jW,if_neg h,eH,List.reverse_append]
 by_cases a:m/tB=0
 ·rw[if_pos a,if_pos a];simp
 ·rw[if_neg a,if_neg a];have:tB<=m:=by
   rcases kN m tB with b|b
   ·exact(a (kv b)).elim
   ·exact b
  rw[XK this];simp
theorem XM(a:List (List Nat)):jW 0 a=a.reverse.flatten:=by rw[jW,if_pos rfl];rfl
theorem zg(n:Nat):0<(bk n).length:=by rw[rq];omega
theorem Kj(m:Nat):eH m≠[]:=by
 intro h;have:(eH m).length=0:=by rw[h];rfl
 rw[eH]at this
 split at this
 ·have:=zg m;omega
 ·rw[rz]at this;omega
theorem Kk(m:Nat):(eH m).length<=18:=by
 rw[eH]
 split
 ·rename_i h;have b:m<tB:=by
   rcases kN m tB with a|a
   ·exact a
   ·have:=nb a (show 0<tB by decide);omega
  exact Du b
 ·rw[rz];exact kC _
theorem Mk{c:Nat}(h:ct c=true):c<256:=by
 simp only[ct,b2,decide_eq_true_eq]at h;omega
end Go.aq
namespace Go.Proofs
open Go.aq
theorem Tryz.BK:prog.underlying 356=some (.pointer 359):=k_
theorem Tryz.HU:prog.underlying 405=some .unsafePointer:=k_
theorem Tryz.H7:(prog.info? 359).map (·.size)=some 2:=k_
theorem Tryz.aGn:liesAt prog prog.depth 359 (2/prog.cellsOf 359) 0 359 1=true:=k_
set_option maxHeartbeats 1000000 in
set_option maxRecDepth 100000 in
theorem Tryz.T0(b:Nat)(w:cx)(h0:w.cell? ⟨b,0,none⟩=some (.pointer (some ⟨b,0,none⟩))):
 cy prog 341 #[.pointer (some ⟨b,0,none⟩)] w fun e w'=>e=.returned (.tuple #[])/\w'=w:=by
 obtain⟨j,hj,_⟩:=Option.map_eq_some_iff.1 H7
 go_enter func341,ntmps341
 go_wp2
 rw[Lib.run_neq_ptr_same w _ BK hj]
 go_wp2
 go_end0
 exact⟨rfl,rfl⟩
set_option maxHeartbeats 1000000 in
set_option maxRecDepth 100000 in
theorem Tryz.T3(b:Nat)(w:cx)(h0:w.cell? ⟨b,0,none⟩=some (.pointer none))(hsh:w.shape? b=some (359,2))(hfz:w.frozen? ⟨b,0,none⟩=false):
 cy prog 341 #[.pointer (some ⟨b,0,none⟩)] w fun e w'=>e=.returned (.tuple #[])/\w'=w.setCell ⟨b,0,none⟩ (.pointer (some ⟨b,0,none⟩)):=by
 obtain⟨j,hj,hjs⟩:=Option.map_eq_some_iff.1 H7
 go_enter func341,ntmps341
 go_wp2
 rw[Lib.run_to_unsafe w ⟨b,0,none⟩ BK HU hj (by rw[hjs];decide) hsh (Nat.zero_lt_succ 1)];simp only[gt];rw[fl]
 go_wp2
 rw[da func363 k_ k_ k_ (e:=Extern.AbiNoEscape.same) k_];rw[Lib.run_noEscape];simp only[gt];rw[fl]
 go_wp2
 rw[Lib.run_from_unsafe w ⟨b,0,none⟩ HU BK hj hsh aGn];simp only[gt];rw[fl]
 go_wp2
 go_end0
 exact⟨rfl,rfl⟩
end Go.Proofs
